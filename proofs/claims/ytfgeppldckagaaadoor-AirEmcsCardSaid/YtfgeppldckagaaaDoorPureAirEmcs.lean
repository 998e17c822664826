/- Check and Emc return what the reference returns. -/
import Derived.Test.YtfgeppldckagaaaDoorPAllx0
import Derived.Test.YtfgeppldckagaaaDoorPAllx20
import Derived.Test.YtfgeppldckagaaaDoorAwake
import Derived.Test.YtfgeppldckagaaaDoorSteps
import Derived.Test.YtfgeppldckagaaaDoorEmcRef
namespace Go.Proofs.YtfgeppldckagaaaDoor.Pure
open Go.RowKit Go.Proofs.YtfgeppldckagaaaDoor.PAll Go.Proofs.YtfgeppldckagaaaDoorW.PrintWords Go.Proofs.YtfgeppldckagaaaDoorW.PrintLast Go.Proofs.YtfgeppldckagaaaDoorW.PrintMore
theorem AirEmcs : ∀ (x0 : S30), ((Lit.int .i64 x0.f0).wf = true ∧ (Lit.int .i64 x0.f1).wf = true) → ∃ k, sawmilllaw35_AirEmcs.f k x0.f0 x0.f1 = some true := by
  intro x _
  refine Ev.rounds (r := true) ?_
  obtain ⟨t, d⟩ := x
  show Ev (fun k => sawmilllaw35_AirEmcs.f k t d) true
  unfold sawmilllaw35_AirEmcs.f
  refine Ev.bind (a := if Valid t d then 0 else 9) (by rw [check_f]; exact Ev.now _) (Ev.bind (a := if Valid t d then 0 else 9) (by rw [refcheck_f]; exact Ev.now _) ?_)
  simp only [if_true]
  refine Ev.bind (emc_ev t d) (Ev.bind (refemc_ev t d) ?_)
  simp only [if_true]
  exact aw_ev
end Go.Proofs.YtfgeppldckagaaaDoor.Pure
