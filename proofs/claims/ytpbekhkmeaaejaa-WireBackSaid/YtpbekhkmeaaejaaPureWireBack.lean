/- Fields that were encoded one after the other are read back with the narrowest limits, and nothing is left: the plain statement. -/
import Derived.Test.YtpbekhkmeaaejaaPAllx0
import Derived.Test.YtpbekhkmeaaejaaPAllx5
import Derived.Test.YtpbekhkmeaaejaaPAllx21d
import Derived.Test.YtpbekhkmeaaejaaPAllx21d
import Derived.Test.YtpbekhkmeaaejaaPAllx21d
import Derived.Test.YtpbekhkmeaaejaaExact
namespace Go.Proofs.Ytpbekhkmeaaejaa.Pure
open Go.RowKit Go.Proofs.Ytpbekhkmeaaejaa.PAll Go.Proofs.YtpbekhkmeaaejaaW.PrintWords Go.Proofs.YtpbekhkmeaaejaaW.PrintLast Go.Proofs.YtpbekhkmeaaejaaW.PrintMore Go.Proofs.Ytpbekhkmeaaejaa.Model
theorem rdt (l : List S45) (i : Nat) (hi : i < l.length) : rd_T45 l (i : Int) ∈ l := by rw [rd45 l i hi]; exact List.getElem_mem hi
def val (y : S45) : Val := ⟨y.f1, y.f2, y.f3.data.toList, y.f4⟩
theorem str_val (y : S45) : str (val y).t = y.f3 := str_data _
def Wide (y : S45) : Prop := 0 ≤ y.f0 ∧ (0 ≤ y.f1 ∧ y.f1.toNat < 2 ^ 64) ∧ I64 y.f2 ∧ ∀ x ∈ y.f4, I64 x
theorem fit_of {y : S45} (h : Wide y) (hs : (val y).t.length ≤ 3000 ∧ y.f4.length ≤ 300) : Fit y.f0 (val y) := ⟨h.1, h.2.1.1, h.2.1.2, h.2.2.1, hs.1, hs.2, h.2.2.2⟩
def enc (l : List S45) : List UInt8 := l.flatMap fun y => wr y.f0 (val y)
theorem enc_cons (y : S45) (l : List S45) : enc (y :: l) = wr y.f0 (val y) ++ enc l := rfl

theorem back_loop (l : List S45) (hl : l.length ≤ 40) (hf : ∀ y ∈ l, Fit y.f0 (val y)) (s : List UInt8) (hs : s.length ≤ 124000) : ∀ (d i a : Nat), i + d = l.length → a ≤ s.length → s.drop a = enc (l.drop i) →
    Ev (fun k => sawmilllaw05_WireBack.l1 k l (i : Int) (str s) (a : Int) 0) true
  | 0, i, a, hd, ha, he => by
    refine Ev.step (f := fun k => some true) (fun k => ?_) (Ev.now _)
    have hlen : s.length = a := by
      rw [show l.drop i = [] from List.drop_of_length_le (by omega)] at he
      have h2 := congrArg List.length he
      rw [List.length_drop] at h2
      have h3 : (enc ([] : List S45)).length = 0 := rfl
      rw [h3] at h2
      omega
    simp only [sawmilllaw05_WireBack.l1]
    rw [if_neg (by omega), end_f s (by omega) a ha 0]
    simp only [Option.bind_some, if_true, if_neg (show ¬ a < s.length by omega), left_f s (by omega) a ha 0]
    rw [if_pos (by omega)]
    rfl
  | d + 1, i, a, hd, ha, he => by
    have hi : i < l.length := by omega
    have hF := hf _ (rdt l i hi)
    have hdrop : l.drop i = rd_T45 l (i : Int) :: l.drop (i + 1) := by rw [rd45 l i hi]; exact List.drop_eq_getElem_cons hi
    have hround : Ev (fun k => sawmilllaw05_WireBack.l1 (k + 1) l (i : Int) (str s) (a : Int) 0) true := by
      simp only [sawmilllaw05_WireBack.l1, if_pos (show (i : Int) < (l.length : Int) by omega), if_pos (show (0 : Int) ≤ (i : Int) by omega)]
      generalize (rd_T45 l (i : Int)) = y at hF hdrop ⊢
      rw [hdrop, enc_cons] at he
      have hwl : a + (wr y.f0 (val y)).length ≤ s.length := by
        have := congrArg List.length he
        simp at this
        omega
      have hnext := back_loop l hl hf s hs d (i + 1) (a + (wr y.f0 (val y)).length) (by omega) hwl (by rw [← List.drop_drop, he, List.drop_left])
      have hx := exact_ev y.f0 (val y) hF
      rw [str_val] at hx
      refine Ev.bind hx ?_
      have hr := read_ev s (by omega) a ha y.f0 (limLo y.f0 (val y)) (limHi y.f0 (val y)) (limMost y.f0 (val y)) (limMost_i64 y.f0 _ hF)
      rw [he, back_read y.f0 (val y) hF] at hr
      refine Ev.bind hr ?_
      rw [w64 (x := (i : Int) + 1) (by omega) (by omega)]
      simp only [after, tellV, wire_Reader_Err.f, Option.bind_some, if_true]
      by_cases k0 : y.f0 = 0
      · simp only [if_pos k0, back]
        simp only [if_pos (show (val y).n = y.f1 from rfl)]
        exact hnext
      · by_cases k1 : y.f0 = 1
        · simp only [if_neg k0, if_pos k1, back]
          simp only [if_pos (show (val y).i = y.f2 from rfl)]
          exact hnext
        · by_cases k2 : y.f0 = 2
          · simp only [if_neg k0, if_neg k1, if_pos k2, back, str_val]
            exact hnext
          · simp only [if_neg k0, if_neg k1, if_neg k2, back]
            refine Ev.bind (same_refl y.f4 (by have := hF.l; simp only [val] at this; omega)) ?_
            simp only [if_true]
            exact hnext
    exact Ev.step (fun k => rfl) hround

theorem build_loop (l : List S45) (hl : l.length ≤ 40) (hw : ∀ y ∈ l, Wide y) : ∀ (d i : Nat), i + d = l.length → (∀ y ∈ l.take i, Fit y.f0 (val y)) → (enc (l.take i)).length ≤ 3100 * i →
    Ev (fun k => sawmilllaw05_WireBack.l0 k l (str (enc (l.take i))) (i : Int)) true
  | 0, i, hd, hf, hlen => by
    have ht : l.take i = l := List.take_of_length_le (by omega)
    rw [ht] at hf hlen ⊢
    refine Ev.step (f := fun k => sawmilllaw05_WireBack.l1 k l 0 (str (enc l)) 0 0) (fun k => ?_) ?_
    · simp only [sawmilllaw05_WireBack.l0]
      rw [if_neg (by omega)]
      rfl
    · exact back_loop l hl hf (enc l) (by omega) l.length 0 0 (by omega) (by omega) (by simp)
  | d + 1, i, hd, hf, hlen => by
    have hi : i < l.length := by omega
    have hW := hw _ (rdt l i hi)
    have htake : l.take (i + 1) = l.take i ++ [rd_T45 l (i : Int)] := by rw [rd45 l i hi]; exact (List.take_append_getElem hi).symm
    have hround : Ev (fun k => sawmilllaw05_WireBack.l0 (k + 1) l (str (enc (l.take i))) (i : Int)) true := by
      simp only [sawmilllaw05_WireBack.l0, if_pos (show (i : Int) < (l.length : Int) by omega), if_pos (show (0 : Int) ≤ (i : Int) by omega)]
      generalize (rd_T45 l (i : Int)) = y at hW htake ⊢
      have hsm := small_f y.f0 y.f1 y.f2 (val y).t y.f4
      rw [str_val] at hsm
      simp only [hsm, Option.bind_some, decide_eq_true_eq]
      by_cases hs : (val y).t.length ≤ 3000 ∧ y.f4.length ≤ 300
      · simp only [if_pos hs]
        have hF := fit_of hW hs
        have hwe := write_fit y.f0 (val y) hF
        rw [str_val] at hwe
        refine Ev.bind hwe ?_
        obtain ⟨_, p1⟩ := wr_len y.f0 (val y) hF
        have henc : enc (l.take (i + 1)) = enc (l.take i) ++ wr y.f0 (val y) := by rw [htake]; simp [enc]
        simp only [str_size, str_append, if_pos (show (enc (l.take i)).length + (wr y.f0 (val y)).length ≤ 9223372036854775807 by omega)]
        rw [w64 (x := (i : Int) + 1) (by omega) (by omega), ← henc]
        refine build_loop l hl hw d (i + 1) (by omega) ?_ ?_
        · intro z hz
          rw [htake] at hz
          rcases List.mem_append.1 hz with hz | hz
          · exact hf z hz
          · have : z = y := by simpa using hz
            subst this
            exact hF
        · rw [henc]
          simp only [List.length_append]
          omega
      · simp only [if_neg hs, awake_ev, Option.bind_some]
        exact Ev.now _
    exact Ev.step (fun k => rfl) hround

theorem WireBack : ∀ (l0 : List (S45)), (l0.length * 64 ≤ 140737488351232 ∧ ∀ y ∈ l0, ((Lit.int .u8 y.f0).wf = true ∧ (Lit.int .u64 y.f1).wf = true ∧ (Lit.int .i64 y.f2).wf = true ∧ y.f3.size ≤ 140737488351232 ∧ (y.f4.length * 8 ≤ 140737488351232 ∧ ∀ y' ∈ y.f4, (Lit.int .i64 y').wf = true))) → ∃ k, sawmilllaw05_WireBack.f k l0 = some true := by
  intro l h
  refine Ev.rounds (r := true) ?_
  unfold sawmilllaw05_WireBack.f
  by_cases c : (l.length : Int) > 40
  · simp only [if_pos c, awake_ev, Option.bind_some]; exact Ev.now _
  · simp only [if_neg c]
    have hw : ∀ y ∈ l, Wide y := by
      intro y hy
      obtain ⟨g0, g1, g2, g3, g4, g5⟩ := h.2 y hy
      obtain ⟨n, hn1, hn2⟩ := wf_u64 g1
      exact ⟨(wf_u8 g0).1, ⟨by omega, by rw [hn1]; simpa using hn2⟩, wf_i64 g2, fun x hx => wf_i64 (g5 x hx)⟩
    have := build_loop l (by omega) hw l.length 0 (by omega) (by simp) (by simp [enc])
    exact this

end Go.Proofs.Ytpbekhkmeaaejaa.Pure
