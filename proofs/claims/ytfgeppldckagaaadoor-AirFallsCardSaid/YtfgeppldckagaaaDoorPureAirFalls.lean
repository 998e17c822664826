/- The equilibrium does not rise with the temperature or the depression, and lies within the table's values. -/
import Derived.Test.YtfgeppldckagaaaDoorPAllx0
import Derived.Test.YtfgeppldckagaaaDoorPAllx24
import Derived.Test.YtfgeppldckagaaaDoorAwake
import Derived.Test.YtfgeppldckagaaaDoorEmc
namespace Go.Proofs.YtfgeppldckagaaaDoor.Pure
open Go.RowKit Go.Proofs.YtfgeppldckagaaaDoor.PAll Go.Proofs.YtfgeppldckagaaaDoorW.PrintWords Go.Proofs.YtfgeppldckagaaaDoorW.PrintLast Go.Proofs.YtfgeppldckagaaaDoorW.PrintMore
theorem mn_min (a b : Int) : mn a b = min a b := by unfold mn; split <;> omega
theorem mx_max (a b : Int) : mx a b = max a b := by unfold mx; split <;> omega
theorem AirFalls : ∀ (x0 : S30) (x1 : S30), ((Lit.int .i64 x0.f0).wf = true ∧ (Lit.int .i64 x0.f1).wf = true) → ((Lit.int .i64 x1.f0).wf = true ∧ (Lit.int .i64 x1.f1).wf = true) → ∃ k, sawmilllaw35_AirFalls.f k x0.f0 x0.f1 x1.f0 x1.f1 = some true := by
  intro x y _ _
  refine Ev.rounds (r := true) ?_
  obtain ⟨a0, a1⟩ := x
  obtain ⟨b0, b1⟩ := y
  show Ev (fun k => sawmilllaw35_AirFalls.f k a0 a1 b0 b1) true
  unfold sawmilllaw35_AirFalls.f
  simp only [mn_min, mx_max]
  have t : min a0 b0 ≤ max a0 b0 := by omega
  have d : min a1 b1 ≤ max a1 b1 := by omega
  generalize min a0 b0 = t0 at *
  generalize max a0 b0 = t1 at *
  generalize min a1 b1 = d0 at *
  generalize max a1 b1 = d1 at *
  refine Ev.bind (a := (t0, d0)) (Ev.now _) (Ev.bind (a := (t1, d1)) (Ev.now _) ?_)
  refine Ev.bind (emc_ev t0 d0) (Ev.bind (emc_ev t1 d1) ?_)
  have h1 := emc_falls_t t0 t1 d1 t
  have h2 := emc_falls_d t1 d0 d1 d
  have h3 := emc_falls_d t0 d0 d1 d
  simp only [if_pos (show emc t1 d1 ≤ emc t0 d0 by omega)]
  refine Ev.bind (a := (t0, d1)) (Ev.now _) (Ev.bind (emc_ev t0 d1) ?_)
  simp only [if_pos h1]
  refine Ev.bind (a := (t1, d0)) (Ev.now _) (Ev.bind (emc_ev t1 d0) ?_)
  simp only [if_pos h2, if_pos (show emc t1 d1 ≥ 220 from (emc_bd t1 d1).1), if_pos (emc_bd t0 d0).2]
  exact aw_ev
end Go.Proofs.YtfgeppldckagaaaDoor.Pure
