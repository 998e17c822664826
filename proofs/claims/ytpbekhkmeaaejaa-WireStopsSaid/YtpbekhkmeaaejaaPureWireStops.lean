/- After an error every read returns the zero value, and neither the error nor the bytes left change: the plain statement. -/
import Derived.Test.YtpbekhkmeaaejaaPAllx0
import Derived.Test.YtpbekhkmeaaejaaPAllx3
import Derived.Test.YtpbekhkmeaaejaaPAllx5
import Derived.Test.YtpbekhkmeaaejaaPAllx12
import Derived.Test.YtpbekhkmeaaejaaPAllx23
import Derived.Test.YtpbekhkmeaaejaaPAllx24
import Derived.Test.YtpbekhkmeaaejaaWf
namespace Go.Proofs.Ytpbekhkmeaaejaa.Pure
open Go.RowKit Go.Proofs.Ytpbekhkmeaaejaa.PAll Go.Proofs.YtpbekhkmeaaejaaW.PrintWords Go.Proofs.YtpbekhkmeaaejaaW.PrintLast Go.Proofs.Ytpbekhkmeaaejaa.Model
theorem zero_v (kind : Int) : sawmilllaw05_zero.f kind 0 0 (str []) [] = some true := by
  unfold sawmilllaw05_zero.f
  simp [str_toList]
theorem stops_loop (s : List UInt8) (hs : s.length ≤ 8796093022208) (l : List S32) (hl : l.length ≤ 60) (hw : ∀ y ∈ l, I64 y.f3) : ∀ (d i a : Nat) (e : Int), i + d = l.length → a ≤ s.length → Ev (fun k => sawmilllaw05_WireStops.l0 k l (i : Int) (str s) (a : Int) e) true
  | 0, i, a, e, hd, ha => by
    refine Ev.step (f := fun k => some true) (fun k => ?_) (Ev.now _)
    simp only [sawmilllaw05_WireStops.l0]
    rw [if_neg (by omega)]
    rfl
  | d + 1, i, a, e, hd, ha => by
    have hi : i < l.length := by omega
    have hm := hw _ (rd32 l i hi)
    refine Ev.step (f := fun k => (sawmilllaw05_read.f k (str s) (a : Int) e (rd_T32 l i).f0 (rd_T32 l i).f1 (rd_T32 l i).f2 (rd_T32 l i).f3).bind fun t =>
      if t.2.2.2.2.2.2.2 = 0 then sawmilllaw05_WireStops.j2 k l i e t.2.2.2.2.2.2.2 false t.2.2.2.2.2.1 t.2.2.2.2.2.2.1 t.2.2.2.2.2.2.2
      else (sawmilllaw05_zero.f t.1 t.2.1 t.2.2.1 t.2.2.2.1 t.2.2.2.2.1).bind fun z => if z = true then ((wire_Reader_Left.f t.2.2.2.2.2.1 t.2.2.2.2.2.2.1 t.2.2.2.2.2.2.2).bind fun b => if b.1 = ((s.length - a : Nat) : Int) then ((wire_Reader_End.f b.2.1 b.2.2.1 b.2.2.2).bind fun b2 => sawmilllaw05_WireStops.j2 k l i e t.2.2.2.2.2.2.2 (b2.1 != t.2.2.2.2.2.2.2) b2.2.1 b2.2.2.1 b2.2.2.2) else sawmilllaw05_WireStops.j2 k l i e t.2.2.2.2.2.2.2 true b.2.1 b.2.2.1 b.2.2.2) else sawmilllaw05_WireStops.j2 k l i e t.2.2.2.2.2.2.2 true t.2.2.2.2.2.1 t.2.2.2.2.2.2.1 t.2.2.2.2.2.2.2) (fun k => ?_) ?_
    · simp only [sawmilllaw05_WireStops.l0]
      rw [if_pos (by omega), left_f s hs a ha e]
      simp only [Option.bind_some, wire_Reader_Err.f, if_pos (show (0 : Int) ≤ (i : Int) by omega)]
    · have next (a' : Nat) (e' : Int) (h' : a' ≤ s.length) (he : e = 0 ∨ e' = e) : Ev (fun k => sawmilllaw05_WireStops.j2 k l (i : Int) e e' false (str s) (a' : Int) e') true := by
        refine Ev.step (f := fun k => sawmilllaw05_WireStops.l0 k l ((i + 1 : Nat) : Int) (str s) (a' : Int) e') (fun k => ?_) (stops_loop s hs l hl hw d (i + 1) a' e' (by omega) h')
        simp only [sawmilllaw05_WireStops.j2, Bool.false_eq_true, if_false]
        rw [w64 (by omega) (by omega)]
        by_cases h0 : e = 0
        · rw [if_pos h0]; rfl
        · rcases he with he | he
          · exact absurd he h0
          · rw [if_neg h0, if_pos he]; rfl
      have errd (kind : Int) (a' : Nat) (e' : Int) (he : ¬ e' = 0) (h' : a' = a) (ho : e = 0 ∨ e' = e) : Ev (fun k => (sawmilllaw05_zero.f kind 0 0 (str []) []).bind fun z => if z = true then ((wire_Reader_Left.f (str s) (a' : Int) e').bind fun b => if b.1 = ((s.length - a : Nat) : Int) then ((wire_Reader_End.f b.2.1 b.2.2.1 b.2.2.2).bind fun b2 => sawmilllaw05_WireStops.j2 k l i e e' (b2.1 != e') b2.2.1 b2.2.2.1 b2.2.2.2) else sawmilllaw05_WireStops.j2 k l i e e' true b.2.1 b.2.2.1 b.2.2.2) else sawmilllaw05_WireStops.j2 k l i e e' true (str s) (a' : Int) e') true := by
        subst h'
        simp only [zero_v, Option.bind_some, if_true, left_f s hs a' ha e', wire_Reader_End.f, wire_Reader_Err.f, eq_false he, if_false]
        simp only [bne_self_eq_false]
        exact next a' e' ha ho
      by_cases he : e = 0
      · subst he
        refine Ev.bind (read_ev s hs a ha _ _ _ _ hm) ?_
        have hle := after_le ha (rd_T32 l i).f0 (rd_T32 l i).f1 (rd_T32 l i).f2 (rd_T32 l i).f3
        cases hr : mRead (s.drop a) (rd_T32 l i).f0 (rd_T32 l i).f1 (rd_T32 l i).f2 (rd_T32 l i).f3 with
        | err x =>
          rw [hr] at hle
          simp only [after, tellV]
          by_cases hx : x = 0
          · simp only [hx, if_true]
            exact next a 0 ha (.inl rfl)
          · simp only [eq_false hx, if_false]
            exact errd _ a x hx rfl (.inl rfl)
        | ok v sz =>
          rw [hr] at hle
          simp only [after, tellV, if_true]
          exact next (a + sz) 0 hle (.inl rfl)
      · refine Ev.bind (read_after (str s) a e he _ _ _ _) ?_
        simp only [eq_false he, if_false]
        exact errd _ a e he rfl (.inr rfl)

theorem WireStops : ∀ (a0 : ByteArray) (l1 : List (S32)), a0.size ≤ 140737488351232 → (l1.length * 32 ≤ 140737488351232 ∧ ∀ y ∈ l1, ((Lit.int .u8 y.f0).wf = true ∧ (Lit.int .i64 y.f1).wf = true ∧ (Lit.int .i64 y.f2).wf = true ∧ (Lit.int .i64 y.f3).wf = true)) → ∃ k, sawmilllaw05_WireStops.f k a0 l1 = some true := by
  intro a0 l1 h0 h1
  obtain ⟨s, rfl⟩ : ∃ s, a0 = str s := ⟨_, (str_data a0).symm⟩
  refine Ev.rounds (r := true) ?_
  unfold sawmilllaw05_WireStops.f
  have hend : Ev (fun k => sawmilllaw05_WireStops.j0 k (str s) l1 true) true := by
    refine Ev.step (f := fun k => some true) (fun k => ?_) (Ev.now _)
    simp only [sawmilllaw05_WireStops.j0, if_true, awake_ev, Option.bind_some]
  by_cases c : ((str s).size : Int) > 3000
  · simp only [if_pos c]; exact hend
  · simp only [if_neg c]
    rw [str_size] at c
    by_cases c2 : (l1.length : Int) > 60
    · simp only [c2, decide_true]; exact hend
    · simp only [c2, decide_false]
      refine Ev.step (f := fun k => sawmilllaw05_WireStops.l0 k l1 0 (str s) 0 0) (fun k => ?_) ?_
      · simp only [sawmilllaw05_WireStops.j0, Bool.false_eq_true, if_false, wire_NewReader.f, Option.bind_some]
      · exact stops_loop s (by omega) l1 (by omega) (fun y hy => wf_i64 (h1.2 y hy).2.2.2) l1.length 0 0 0 (by omega) (by omega)

end Go.Proofs.Ytpbekhkmeaaejaa.Pure
