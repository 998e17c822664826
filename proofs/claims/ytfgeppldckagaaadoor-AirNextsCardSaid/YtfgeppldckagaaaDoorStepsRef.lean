/- The reference's Next is the same function. -/
import Derived.Test.YtfgeppldckagaaaDoorPAllx7
import Derived.Test.YtfgeppldckagaaaDoorPAllx21
import Derived.Test.YtfgeppldckagaaaDoorPAllx22
import Derived.Test.YtfgeppldckagaaaDoorSteps
namespace Go.Proofs.YtfgeppldckagaaaDoor.Pure
open Go.RowKit Go.Proofs.YtfgeppldckagaaaDoor.PAll Go.Proofs.YtfgeppldckagaaaDoorW.PrintWords Go.Proofs.YtfgeppldckagaaaDoorW.PrintLast Go.Proofs.YtfgeppldckagaaaDoorW.PrintMore
theorem has_loop (l : List Int) (hl : l.length ≤ 1000) (q : Int) : ∀ d i : Nat, i + d = l.length → Ev (fun k => sawmillref35_has.l0 k l q (i : Int)) (decide (q ∈ l.drop i))
  | 0, i, hd => by
    refine Ev.step (f := fun _ => _) (fun k => ?_) (Ev.now _)
    simp only [sawmillref35_has.l0]
    rw [if_neg (by omega), List.drop_eq_nil_of_le (by omega)]
    simp
  | d + 1, i, hd => by
    have ew : wrap64 ((i : Int) + 1) = ((i + 1 : Nat) : Int) := by rw [c64 (by omega) (by omega)]; rfl
    have q1 : (i : Int) < (l.length : Int) := by omega
    have q2 : (0 : Int) ≤ (i : Int) := by omega
    have hc := rd_cons l i (by omega)
    by_cases c1 : rd l (i : Int) = q
    · refine Ev.step (f := fun _ => some true) (fun k => ?_) (by rw [hc, c1]; simpa using Ev.now true)
      simp only [sawmillref35_has.l0, if_pos q1, if_pos q2, if_pos c1]
    · refine Ev.step (f := fun k => sawmillref35_has.l0 k l q ((i + 1 : Nat) : Int)) (fun k => ?_) ?_
      · simp only [sawmillref35_has.l0, if_pos q1, if_pos q2, if_neg c1, ew]
      · have h := has_loop l hl q d (i + 1) (by omega)
        rw [hc]
        have e : decide (q ∈ rd l (i : Int) :: l.drop (i + 1)) = decide (q ∈ l.drop (i + 1)) := by simp [Ne.symm c1]
        rw [e]; exact h
theorem has_ev (l : List Int) (hl : l.length ≤ 1000) (q : Int) : Ev (fun k => sawmillref35_has.f k l q) (decide (q ∈ l)) := has_loop l hl q l.length 0 (by omega)
theorem toward_f (a b m : Int) (ha : 0 ≤ a) (ha2 : a ≤ 1200) (hm : 0 ≤ m) (hm2 : m ≤ 1200) : sawmillref35_toward.f a b m = some (toto a b m) := by
  unfold sawmillref35_toward.f toto
  rw [c64 (by omega) (by omega), c64 (by omega) (by omega), mn_min, mx_max]
theorem refj_ev (l : List Int) (hl : l.length ≤ 1000) (m a b g1 g2 : Int) (ha : 0 ≤ a) (ha2 : a ≤ 1200) (hb : 0 ≤ b) (hb2 : b ≤ 1200) (hm : 0 ≤ m) (hm2 : m ≤ 1200) : Ev (fun k => sawmillref35_Next.j0 k l m a b g1 g2) (toto a g1 m, toto b (vent l g2) m) := by
  refine Ev.step (f := fun k => (sawmillref35_has.f k l 3).bind fun t324 => (if t324 = true then ((sawmillref35_Outside.f).bind fun bt325 => ((sawmillref35_toward.f a g1 m).bind fun t327 => ((sawmillref35_toward.f b bt325.2 m).bind fun t328 => (some (t327, t328))))) else ((sawmillref35_toward.f a g1 m).bind fun t329 => ((sawmillref35_toward.f b g2 m).bind fun t330 => (some (t329, t330)))))) (fun k => by simp only [sawmillref35_Next.j0]) ?_
  refine Ev.bind (has_ev l hl 3) ?_
  by_cases h : 3 ∈ l
  · simp only [h, decide_true, if_true]
    have e : vent l g2 = 100 := if_pos h
    rw [e]
    refine Ev.congr (f := fun _ => some (toto a g1 m, toto b 100 m)) (fun k => ?_) (Ev.now _)
    show ((sawmillref35_toward.f a g1 m).bind fun t327 => ((sawmillref35_toward.f b 100 m).bind fun t328 => (some (t327, t328)))) = _
    rw [toward_f a g1 m ha ha2 hm hm2, toward_f b 100 m hb hb2 hm hm2]
    rfl
  · simp only [h, decide_false, Bool.false_eq_true, if_false]
    have e : vent l g2 = g2 := if_neg h
    rw [e]
    refine Ev.congr (f := fun _ => some (toto a g1 m, toto b g2 m)) (fun k => ?_) (Ev.now _)
    rw [toward_f a g1 m ha ha2 hm hm2, toward_f b g2 m hb hb2 hm hm2]
    rfl
theorem refnext_ev (a0 a1 b0 b1 r : Int) (l : List Int) (hl : l.length ≤ 1000) : Ev (fun k => sawmillref35_Next.f k a0 a1 b0 b1 r l) (nx a0 a1 b0 b1 r l) := by
  have x0 := cl_bd a0 1200 (by decide)
  have x1 := cl_bd a1 400 (by decide)
  have x2 := cl_bd r 1200 (by decide)
  have er : mx 0 (mn r 1200) = cl r 1200 := by rw [mn_min, mx_max]; rfl
  unfold sawmillref35_Next.f
  refine Ev.bind (a := (cl a0 1200, cl a1 400)) (by rw [refclamped_f]; exact Ev.now _) ?_
  refine Ev.bind (a := (cl b0 1200, cl b1 400)) (by rw [refclamped_f]; exact Ev.now _) ?_
  refine Ev.bind (has_ev l hl 1) ?_
  rw [er]
  by_cases h : 1 ∈ l
  · simp only [h, decide_true, if_true]
    refine Ev.bind (a := (200, 100)) (Ev.now _) ?_
    have e : nx a0 a1 b0 b1 r l = (toto (cl a0 1200) 200 (cl r 1200), toto (cl a1 400) (vent l (cl b1 400)) (cl r 1200)) := by unfold nx heat; rw [if_pos h]
    rw [e]
    exact refj_ev l hl _ _ _ _ _ x0.1 x0.2 x1.1 (by omega) x2.1 x2.2
  · simp only [h, decide_false, Bool.false_eq_true, if_false]
    have e : nx a0 a1 b0 b1 r l = (toto (cl a0 1200) (cl b0 1200) (cl r 1200), toto (cl a1 400) (vent l (cl b1 400)) (cl r 1200)) := by unfold nx heat; rw [if_neg h]
    rw [e]
    exact refj_ev l hl _ _ _ _ _ x0.1 x0.2 x1.1 (by omega) x2.1 x2.2
end Go.Proofs.YtfgeppldckagaaaDoor.Pure
