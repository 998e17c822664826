/- Next returns what the reference returns. -/
import Derived.Test.YtfgeppldckagaaaDoorPAllx0
import Derived.Test.YtfgeppldckagaaaDoorPAllx23
import Derived.Test.YtfgeppldckagaaaDoorAwake
import Derived.Test.YtfgeppldckagaaaDoorStepsRef
namespace Go.Proofs.YtfgeppldckagaaaDoor.Pure
open Go.RowKit Go.Proofs.YtfgeppldckagaaaDoor.PAll Go.Proofs.YtfgeppldckagaaaDoorW.PrintWords Go.Proofs.YtfgeppldckagaaaDoorW.PrintLast Go.Proofs.YtfgeppldckagaaaDoorW.PrintMore
theorem AirNexts : ∀ (x0 : S36), (((Lit.int .i64 x0.f0.f0).wf = true ∧ (Lit.int .i64 x0.f0.f1).wf = true) ∧ ((Lit.int .i64 x0.f1.f0).wf = true ∧ (Lit.int .i64 x0.f1.f1).wf = true) ∧ (Lit.int .i64 x0.f2).wf = true ∧ (x0.f3.length * 8 ≤ 140737488351232 ∧ ∀ y ∈ x0.f3, (Lit.int .i64 y).wf = true)) → ∃ k, sawmilllaw35_AirNexts.f k x0.f0.f0 x0.f0.f1 x0.f1.f0 x0.f1.f1 x0.f2 x0.f3 = some true := by
  intro x _
  refine Ev.rounds (r := true) ?_
  obtain ⟨⟨a0, a1⟩, ⟨b0, b1⟩, r, l⟩ := x
  show Ev (fun k => sawmilllaw35_AirNexts.f k a0 a1 b0 b1 r l) true
  unfold sawmilllaw35_AirNexts.f
  by_cases h : (l.length : Int) > 100
  · simp only [if_pos h]
    exact aw_ev
  · simp only [if_neg h]
    refine Ev.bind (next_ev a0 a1 b0 b1 r l (by omega)) (Ev.bind (refnext_ev a0 a1 b0 b1 r l (by omega)) ?_)
    simp only [beq_self_eq_true, Bool.and_self, if_true]
    exact aw_ev
end Go.Proofs.YtfgeppldckagaaaDoor.Pure
