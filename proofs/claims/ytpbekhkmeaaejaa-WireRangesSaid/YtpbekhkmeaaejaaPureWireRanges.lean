/- Int accepts exactly the numbers from low to high, Text the strings of at most most bytes: the plain statement. -/
import Derived.Test.YtpbekhkmeaaejaaPAllx0
import Derived.Test.YtpbekhkmeaaejaaPAllx3
import Derived.Test.YtpbekhkmeaaejaaPAllx5
import Derived.Test.YtpbekhkmeaaejaaPAllx6
import Derived.Test.YtpbekhkmeaaejaaPAllx11
import Derived.Test.YtpbekhkmeaaejaaWf
namespace Go.Proofs.Ytpbekhkmeaaejaa.Pure
open Go.RowKit Go.Proofs.Ytpbekhkmeaaejaa.PAll Go.Proofs.YtpbekhkmeaaejaaW.PrintWords Go.Proofs.YtpbekhkmeaaejaaW.PrintLast Go.Proofs.Ytpbekhkmeaaejaa.Model
theorem mI_out (n lo hi : Int) (h : I64 n) (h1 : ¬ (lo ≤ n ∧ n ≤ hi)) : mI (encI n) lo hi = .err 9 := by
  unfold mI encI
  have := mU_enc _ (zz_lt h.1 h.2) []
  rw [List.append_nil] at this
  rw [this]
  simp only [unzz_zz]
  rw [if_pos (by omega)]
theorem mT_long (t : List UInt8) (most : Int) (ht : t.length < 2 ^ 64) (h : most < (t.length : Int)) : mT (encT t) most = .err 4 := by
  unfold mT encT
  rw [mU_enc _ ht]
  simp only
  rw [if_pos (by omega)]
theorem ranges_j1 (s : List UInt8) (hs : s.length ≤ 3000) (o0 o1 o2 most : Int) (hm : I64 most) : Ev (fun k => sawmilllaw05_WireRanges.j1 k (str s) o0 o1 o2 most) true := by
  have hn : s.length < 2 ^ 64 := by rw [two64]; omega
  have hlen := encN_len10 hn
  have hl : (encT s).length ≤ 8796093022208 := by simp [encT]; omega
  refine Ev.step (f := fun k => (wire_Text.f k (str s)).bind fun t221 => ((wire_Reader_Text.f k t221 0 0 most).bind fun bt226 => ((wire_Reader_End.f bt226.2.1 bt226.2.2.1 bt226.2.2.2).bind fun bt230 => (if ((str s).size : Int) ≤ most then (if bt226.1.toList = (str s).toList then (if bt230.1 = 0 then (some true) else (some false)) else (some false)) else (if bt226.1.toList = ([] : List UInt8) then (if bt230.1 = 4 then (some true) else (some false)) else (some false)))))) (fun k => ?_) ?_
  · simp only [sawmilllaw05_WireRanges.j1, awake_ev, Option.bind_some, wire_NewReader.f]
  · refine Ev.bind (text_ev s (by omega)) (Ev.bind (Text_ev (encT s) hl 0 (by omega) most hm) ?_)
    rw [List.drop_zero]
    by_cases h : (s.length : Int) ≤ most
    · have := mT_enc s most hn h []
      rw [List.append_nil] at this
      rw [this]
      simp only [tell, Nat.zero_add]
      simp only [end_f (encT s) hl (encT s).length (by omega), Option.bind_some, if_true, if_neg (Nat.lt_irrefl _), str_size, if_pos h]
      exact Ev.now _
    · rw [mT_long s most hn (by omega)]
      simp only [tell]
      have := end_f (encT s) hl 0 (by omega) 4
      simp only [this, Option.bind_some, str_size, if_neg h, str_toList, if_true, if_neg (show ¬ (4 : Int) = 0 by decide)]
      exact Ev.now _

theorem WireRanges : ∀ (a0 : Int) (a1 : ByteArray) (x2 : S32), (Lit.int .i64 a0).wf = true → a1.size ≤ 140737488351232 → ((Lit.int .u8 x2.f0).wf = true ∧ (Lit.int .i64 x2.f1).wf = true ∧ (Lit.int .i64 x2.f2).wf = true ∧ (Lit.int .i64 x2.f3).wf = true) → ∃ k, sawmilllaw05_WireRanges.f k a0 a1 x2.f0 x2.f1 x2.f2 x2.f3 = some true := by
  intro a0 a1 x2 h0 h1 h2
  obtain ⟨s, rfl⟩ : ∃ s, a1 = str s := ⟨_, (str_data a1).symm⟩
  refine Ev.rounds (r := true) ?_
  unfold sawmilllaw05_WireRanges.f
  by_cases c : ((str s).size : Int) > 3000
  · simp only [if_pos c, awake_ev, Option.bind_some]; exact Ev.now _
  · simp only [if_neg c]
    rw [str_size] at c
    have hi := wf_i64 h0
    have hm := wf_i64 h2.2.2.2
    have hlen := encN_len10 (zz_lt hi.1 hi.2)
    have hpos := encN_pos (zz a0)
    have hl : (encI a0).length ≤ 8796093022208 := by simp [encI]; omega
    have hj1 := ranges_j1 s (by omega) x2.f0 x2.f1 x2.f2 x2.f3 hm
    refine Ev.bind (int_ev a0 hi) ?_
    simp only [wire_NewReader.f, Option.bind_some]
    refine Ev.bind (Int_ev (encI a0) hl 0 (by omega) x2.f1 x2.f2) ?_
    rw [List.drop_zero]
    by_cases h : x2.f1 ≤ a0 ∧ a0 ≤ x2.f2
    · have := mI_enc a0 x2.f1 x2.f2 hi h.1 h.2 []
      rw [List.append_nil] at this
      rw [this]
      simp only [tell, Nat.zero_add]
      simp only [end_f (encI a0) hl (encI a0).length (by omega), Option.bind_some, if_true, if_neg (Nat.lt_irrefl _), if_pos (show a0 ≥ x2.f1 from h.1), h.2, decide_true]
      refine Ev.step (f := fun k => sawmilllaw05_WireRanges.j1 k (str s) x2.f0 x2.f1 x2.f2 x2.f3) (fun k => ?_) hj1
      simp only [sawmilllaw05_WireRanges.j0, if_true]
    · rw [mI_out a0 x2.f1 x2.f2 hi h]
      simp only [tell]
      have he := end_f (encI a0) hl 0 (by omega) 9
      simp only [if_neg (show ¬ (9 : Int) = 0 by decide)] at he
      simp only [he, Option.bind_some]
      have fin : Ev (fun k => sawmilllaw05_WireRanges.j0 k a0 (str s) 0 9 false x2.f0 x2.f1 x2.f2 x2.f3 (str (encI a0)) ((0 : Nat) : Int) 9) true := by
        refine Ev.step (f := fun k => sawmilllaw05_WireRanges.j1 k (str s) x2.f0 x2.f1 x2.f2 x2.f3) (fun k => ?_) hj1
        have hl0 := left_f (encI a0) hl 0 (by omega) 9
        simp only [sawmilllaw05_WireRanges.j0, Bool.false_eq_true, if_false, if_true, hl0, Option.bind_some]
        rw [if_neg (by simp only [encI]; omega)]
      by_cases h3 : a0 ≥ x2.f1
      · have h4 : ¬ a0 ≤ x2.f2 := fun h4 => h ⟨h3, h4⟩
        simp only [if_pos h3, h4, decide_false]
        exact fin
      · simp only [if_neg h3]
        exact fin

end Go.Proofs.Ytpbekhkmeaaejaa.Pure
