/- At the x that Reach returns the value is high enough, and at none before it. -/
import Derived.Test.YtfgeppldckagaaaPAllx0
import Derived.Test.YtfgeppldckagaaaPAllx6
import Derived.Test.YtfgeppldckagaaaPAllx12
import Derived.Test.YtfgeppldckagaaaPAllx13
import Derived.Test.YtfgeppldckagaaaPAllx15
import Derived.Test.YtfgeppldckagaaaPAllx26
import Derived.Test.YtfgeppldckagaaaAwake
import Derived.Test.YtfgeppldckagaaaAtv
namespace Go.Proofs.Ytfgeppldckagaaa.Pure
open Go.RowKit Go.Proofs.Ytfgeppldckagaaa.PAll Go.Proofs.YtfgeppldckagaaaW.PrintWords Go.Proofs.YtfgeppldckagaaaW.PrintLast
theorem aw_ev : Ev (fun k => (sawmilllaw08_awake.f k).bind fun t => some t) true := Ev.bind awake_ev (Ev.now _)
theorem first_loop {l : List S36} (y x : Int) (hl : l.length ≤ 100) (ok : Bool) (first : Int) (hok : ok = true ↔ ∃ i, i < l.length ∧ y ≤ (Pt l i).f1) (R : Bool) (hend : Ev (fun k => sawmilllaw08_CurveFirst.l0 k l y x first ok ok (l.length : Int)) R) : ∀ (d i : Nat) (b : Bool), i + d = l.length → (b = true ↔ ∃ j, j < i ∧ y ≤ (Pt l j).f1) → Ev (fun k => sawmilllaw08_CurveFirst.l0 k l y x first ok b (i : Int)) R
  | 0, i, b, hd, hb => by
    have e : i = l.length := by omega
    subst e
    have : b = ok := by rw [Bool.eq_iff_iff, hb, hok]
    rw [this]; exact hend
  | d + 1, i, b, hd, hb => by
    have ew : wrap64 ((i : Int) + 1) = ((i + 1 : Nat) : Int) := by rw [c64 (by omega) (by omega)]; rfl
    have hp : rd_T36 l (i : Int) = Pt l i := rfl
    have q1 : (i : Int) < (l.length : Int) := by omega
    have q2 : (0 : Int) ≤ (i : Int) := by omega
    cases b with
    | true =>
      refine Ev.step (fun k => ?_) (first_loop y x hl ok first hok R hend d (i + 1) true (by omega) ⟨fun _ => ?_, fun _ => rfl⟩)
      · simp only [sawmilllaw08_CurveFirst.l0, if_pos q1, if_true, ew]
      · obtain ⟨j, h1, h2⟩ := hb.1 rfl; exact ⟨j, by omega, h2⟩
    | false =>
      refine Ev.step (fun k => ?_) (first_loop y x hl ok first hok R hend d (i + 1) (decide ((Pt l i).f1 ≥ y)) (by omega) ⟨fun h => ⟨i, by omega, of_decide_eq_true h⟩, fun ⟨j, h1, h2⟩ => ?_⟩)
      · simp only [sawmilllaw08_CurveFirst.l0, if_pos q1, if_pos q2, Bool.false_eq_true, if_false, hp, ew]
      · by_cases e : j = i
        · rw [e] at h2; exact decide_eq_true h2
        · exact absurd (hb.2 ⟨j, by omega, h2⟩) (by simp)
theorem CurveFirst : ∀ (l0 : List (S36)) (a1 : Int) (a2 : Int), (l0.length * 16 ≤ 140737488351232 ∧ ∀ y ∈ l0, ((Lit.int .i64 y.f0).wf = true ∧ (Lit.int .i64 y.f1).wf = true)) → (Lit.int .i64 a1).wf = true → (Lit.int .i64 a2).wf = true → ∃ k, sawmilllaw08_CurveFirst.f k l0 a1 a2 = some true := by
  intro l y x _ _ _
  refine Ev.rounds (r := true) ?_
  unfold sawmilllaw08_CurveFirst.f sawmilllaw08_small.f
  simp only [Option.bind_some]
  have hend : Ev (fun k => sawmilllaw08_CurveFirst.j0 k l y x true) true := Ev.step (fun k => rfl) (by simp only [sawmilllaw08_CurveFirst.j0, if_true]; exact aw_ev)
  by_cases c : (l.length : Int) ≤ 100
  · simp only [decide_eq_true_eq, if_pos c]
    obtain ⟨v, e1, e2, e3⟩ := chk_ev l
    refine Ev.bind e2 ?_
    by_cases h0 : v = 0
    · have ho := e3.1 h0
      have hpos := ho.pos
      have h16 := ho.len
      subst h0
      refine Ev.step (f := fun k => (curve_Reach.f k l y).bind fun bt => sawmilllaw08_CurveFirst.l0 k l y x bt.1 bt.2 false 0) (fun k => rfl) ?_
      refine Ev.bind (reach_ev l y e1) ?_
      simp only [if_true]
      have hat : ∀ x, Ev (fun k => curve_At.f k l x) (atv l x) := fun x => at_ev l x e1
      have q1 : ¬ ((l.length : Int) < (l.length : Int)) := by omega
      have q3 : (0 : Int) < (l.length : Int) := by omega
      have ew2 : wrap64 ((l.length : Int) - 1) = ((l.length - 1 : Nat) : Int) := by rw [c64 (by omega) (by omega)]; omega
      have q4 : (0 : Int) ≤ ((l.length - 1 : Nat) : Int) := by omega
      have q5 : ((l.length - 1 : Nat) : Int) < (l.length : Int) := by omega
      have hp0 : rd_T36 l 0 = Pt l 0 := rfl
      have hpl : rd_T36 l ((l.length - 1 : Nat) : Int) = Pt l (l.length - 1) := rfl
      rcases reach_spec ho y with ⟨hr, hall, hlt⟩ | ⟨first, hr, hex, hf⟩
      · rw [hr]
        refine first_loop y x (by omega) false 0 ⟨fun h => by simp at h, fun ⟨i, h1, h2⟩ => absurd (hall i h1) (by omega)⟩ true ?_ l.length 0 false (by omega) ⟨fun h => by simp at h, fun ⟨i, h1, _⟩ => absurd h1 (Nat.not_lt_zero _)⟩
        refine Ev.step (fun k => rfl) ?_
        simp only [sawmilllaw08_CurveFirst.l0, if_neg q1, bne_self_eq_false, Bool.false_eq_true, if_false, if_true]
        refine Ev.bind (hat x) ?_
        simp only [if_pos (hlt x)]
        exact aw_ev
      · rw [hr]
        have g1 := hf.ge
        have g2 := hf.le
        have g3 := hf.high
        refine first_loop y x (by omega) true first ⟨fun _ => hex, fun _ => rfl⟩ true ?_ l.length 0 false (by omega) ⟨fun h => by simp at h, fun ⟨i, h1, _⟩ => absurd h1 (Nat.not_lt_zero _)⟩
        refine Ev.step (fun k => rfl) ?_
        simp only [sawmilllaw08_CurveFirst.l0, if_neg q1, bne_self_eq_false, Bool.false_eq_true, if_false, if_true, if_pos q3, hp0, if_neg (show ¬ first < (Pt l 0).f0 by omega), ew2, if_pos q4, if_pos q5, hpl, if_neg (show ¬ first > (Pt l (l.length - 1)).f0 by omega)]
        refine Ev.bind (hat first) ?_
        rw [show decide (atv l first < y) = false from decide_eq_false (by omega)]
        refine Ev.step (fun k => rfl) ?_
        simp only [sawmilllaw08_CurveFirst.j2, Bool.false_eq_true, if_false, if_pos q3, hp0]
        have h3 : Ev (fun k => sawmilllaw08_CurveFirst.j3 k l y x first false) true := by
          refine Ev.step (fun k => rfl) ?_
          simp only [sawmilllaw08_CurveFirst.j3, Bool.false_eq_true, if_false, if_pos q3, hp0]
          by_cases d0 : x < (Pt l 0).f0
          · simp only [if_pos d0]; exact aw_ev
          · by_cases d1 : x ≥ first
            · simp only [if_neg d0, if_pos d1]; exact aw_ev
            · simp only [if_neg d0, if_neg d1]
              refine Ev.bind (hat x) ?_
              simp only [if_pos (hf.low x (by omega) (by omega))]
              exact aw_ev
        have hfr := Pt_inR ho 0 hpos
        have hfl := Pt_inR ho (l.length - 1) (by omega)
        unfold InR at hfr hfl
        by_cases d0 : first > (Pt l 0).f0
        · simp only [if_pos d0]
          rw [c64 (by omega) (by omega)]
          refine Ev.bind (hat (first - 1)) ?_
          have := hf.low (first - 1) (by omega) (by omega)
          rw [show decide (atv l (first - 1) ≥ y) = false from decide_eq_false (by omega)]
          exact h3
        · simp only [if_neg d0]; exact h3
    · rw [show (v != 0) = true from bne_iff_ne.mpr h0]; exact hend
  · simp only [decide_eq_true_eq, if_neg c]
    exact hend
end Go.Proofs.Ytfgeppldckagaaa.Pure
