/- Reach returns what the reference returns. -/
import Derived.Test.YtfgeppldckagaaaPAllx0
import Derived.Test.YtfgeppldckagaaaPAllx13
import Derived.Test.YtfgeppldckagaaaPAllx15
import Derived.Test.YtfgeppldckagaaaPAllx21
import Derived.Test.YtfgeppldckagaaaAwake
namespace Go.Proofs.Ytfgeppldckagaaa.Pure
open Go.RowKit Go.Proofs.Ytfgeppldckagaaa.PAll Go.Proofs.YtfgeppldckagaaaW.PrintWords Go.Proofs.YtfgeppldckagaaaW.PrintLast
theorem CurveReaches : ∀ (l0 : List (S36)) (a1 : Int), (l0.length * 16 ≤ 140737488351232 ∧ ∀ y ∈ l0, ((Lit.int .i64 y.f0).wf = true ∧ (Lit.int .i64 y.f1).wf = true)) → (Lit.int .i64 a1).wf = true → ∃ k, sawmilllaw08_CurveReaches.f k l0 a1 = some true := by
  intro l0 a1 _ _
  refine Ev.rounds (r := true) ?_
  unfold sawmilllaw08_CurveReaches.f
  unfold sawmilllaw08_small.f
  simp only [Option.bind_some]
  have hw : Ev (fun k => (sawmilllaw08_awake.f k).bind fun t => some t) true := Ev.bind awake_ev (Ev.now _)
  by_cases c : (l0.length : Int) ≤ 100
  · simp only [decide_eq_true_eq, if_pos c]
    obtain ⟨v, e1, e2, e3⟩ := chk_ev l0
    refine Ev.bind (reach_ev l0 a1 e1) (Ev.bind (refreach_ev l0 a1 e2 e3) ?_)
    simp only [beq_self_eq_true, if_true]
    exact hw
  · simp only [decide_eq_true_eq, if_neg c]
    exact hw
end Go.Proofs.Ytfgeppldckagaaa.Pure
