/- The bytes that a read consumes are the encoding of what it returns: the plain statement. -/
import Derived.Test.YtpbekhkmeaaejaaPAllx0
import Derived.Test.YtpbekhkmeaaejaaPAllx3
import Derived.Test.YtpbekhkmeaaejaaPAllx5
import Derived.Test.YtpbekhkmeaaejaaPAllx7
import Derived.Test.YtpbekhkmeaaejaaPAllx22
import Derived.Test.YtpbekhkmeaaejaaWf
namespace Go.Proofs.Ytpbekhkmeaaejaa.Pure
open Go.RowKit Go.Proofs.Ytpbekhkmeaaejaa.PAll Go.Proofs.YtpbekhkmeaaejaaW.PrintWords Go.Proofs.YtpbekhkmeaaejaaW.PrintLast Go.Proofs.Ytpbekhkmeaaejaa.Model
theorem one_loop (s : List UInt8) (hs : s.length ≤ 3000) (l : List S32) (hl : l.length ≤ 60) (hw : ∀ y ∈ l, I64 y.f3) : ∀ (d i a : Nat), i + d = l.length → a ≤ s.length → Ev (fun k => sawmilllaw05_WireOne.l0 k (str s) l (a : Int) (i : Int) (str s) (a : Int) 0) true
  | 0, i, a, hd, ha => by
    refine Ev.step (f := fun k => some true) (fun k => ?_) (Ev.now _)
    simp only [sawmilllaw05_WireOne.l0]
    rw [if_neg (by omega)]
    simp only [left_f s (by omega) a ha 0, Option.bind_some, str_size]
    rw [w64 (by omega) (by omega), if_pos (by omega)]
    rfl
  | d + 1, i, a, hd, ha => by
    have hi : i < l.length := by omega
    have hm := hw _ (rd32 l i hi)
    have hround : Ev (fun k => sawmilllaw05_WireOne.l0 (k + 1) (str s) l (a : Int) (i : Int) (str s) (a : Int) 0) true := by
      simp only [sawmilllaw05_WireOne.l0, if_pos (show (i : Int) < (l.length : Int) by omega), if_pos (show (0 : Int) ≤ (i : Int) by omega)]
      refine Ev.bind (read_ev s (by omega) a ha _ _ _ _ hm) ?_
      generalize (rd_T32 l (i : Int)) = o at hm ⊢
      have brk (e : Int) (he : ¬ e = 0) : Ev (fun _ => (wire_Reader_Left.f (str s) (a : Int) e).bind fun bt499 => if bt499.1 = (wrap64 (((str s).size : Int) - (a : Int))) then ((sawmilllaw05_awake.f).bind fun t503 => (some t503)) else (some false)) true := by
        simp only [left_f s (by omega) a ha e, Option.bind_some, str_size]
        rw [w64 (by omega) (by omega), if_pos (by omega)]
        exact Ev.now _
      cases hr : mRead (s.drop a) o.f0 o.f1 o.f2 o.f3 with
      | err e =>
        simp only [after, tellV, wire_Reader_Err.f, Option.bind_some]
        by_cases he : e = 0
        · exact absurd he (mRead_err hr)
        · simp only [eq_false he, if_false]
          exact brk e he
      | ok v sz =>
        obtain ⟨p1, p2, p3⟩ := mRead_ok hr
        obtain ⟨f1, f2, f3, f4, f5⟩ := mRead_fits hr
        have hdl : (s.drop a).length = s.length - a := by simp
        have hle : a + sz ≤ s.length := by omega
        simp only [after, tellV, wire_Reader_Err.f, Option.bind_some, if_true, left_f s (by omega) (a + sz) hle 0, str_size]
        have ew : wrap64 ((s.length : Int) - ((s.length - (a + sz) : Nat) : Int)) = ((a + sz : Nat) : Int) := by rw [w64 (by omega) (by omega)]; omega
        simp only [ew, if_neg (show ¬ ((a + sz : Nat) : Int) ≤ (a : Int) by omega), if_neg (show ¬ ((a + sz : Nat) : Int) > (s.length : Int) by omega)]
        refine Ev.bind (write_ev o.f0 v f1 f2 (by omega) (by omega) f5) ?_
        simp only [if_pos (show (0 : Int) ≤ (a : Int) by omega), if_pos (show (a : Int) ≤ ((a + sz : Nat) : Int) by omega), if_pos (show ((a + sz : Nat) : Int) ≤ (s.length : Int) by omega)]
        have ex : (str s).extract ((a : Int)).toNat (((a + sz : Nat) : Int)).toNat = str (wr o.f0 v) := by
          rw [str_extract, ← p3]
          have e1 : ((a + sz : Nat) : Int).toNat - (a : Int).toNat = sz := by omega
          rw [e1]; rfl
        rw [w64 (x := (i : Int) + 1) (by omega) (by omega)]
        simp only [ex, if_true]
        exact one_loop s hs l hl hw d (i + 1) (a + sz) (by omega) hle
    exact Ev.step (fun k => rfl) hround

theorem WireOne : ∀ (a0 : ByteArray) (l1 : List (S32)), a0.size ≤ 140737488351232 → (l1.length * 32 ≤ 140737488351232 ∧ ∀ y ∈ l1, ((Lit.int .u8 y.f0).wf = true ∧ (Lit.int .i64 y.f1).wf = true ∧ (Lit.int .i64 y.f2).wf = true ∧ (Lit.int .i64 y.f3).wf = true)) → ∃ k, sawmilllaw05_WireOne.f k a0 l1 = some true := by
  intro a0 l1 h0 h1
  obtain ⟨s, rfl⟩ : ∃ s, a0 = str s := ⟨_, (str_data a0).symm⟩
  refine Ev.rounds (r := true) ?_
  unfold sawmilllaw05_WireOne.f
  have hend : Ev (fun k => sawmilllaw05_WireOne.j0 k (str s) l1 true) true := by
    refine Ev.step (f := fun k => some true) (fun k => ?_) (Ev.now _)
    simp only [sawmilllaw05_WireOne.j0, if_true, awake_ev, Option.bind_some]
  by_cases c : ((str s).size : Int) > 3000
  · simp only [if_pos c]; exact hend
  · simp only [if_neg c]
    rw [str_size] at c
    by_cases c2 : (l1.length : Int) > 60
    · simp only [c2, decide_true]; exact hend
    · simp only [c2, decide_false]
      refine Ev.step (f := fun k => sawmilllaw05_WireOne.l0 k (str s) l1 0 0 (str s) 0 0) (fun k => ?_) ?_
      · simp only [sawmilllaw05_WireOne.j0, Bool.false_eq_true, if_false, wire_NewReader.f, Option.bind_some]
      · exact one_loop s (by omega) l1 (by omega) (fun y hy => wf_i64 (h1.2 y hy).2.2.2) l1.length 0 0 (by omega) (by omega)

end Go.Proofs.Ytpbekhkmeaaejaa.Pure
