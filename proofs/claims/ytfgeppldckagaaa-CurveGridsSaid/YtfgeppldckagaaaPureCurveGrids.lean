/- CheckGrid and Value return what the reference returns. -/
import Derived.Test.YtfgeppldckagaaaPAllx0
import Derived.Test.YtfgeppldckagaaaPAllx13
import Derived.Test.YtfgeppldckagaaaPAllx24
import Derived.Test.YtfgeppldckagaaaAwake
import Derived.Test.YtfgeppldckagaaaGval
namespace Go.Proofs.Ytfgeppldckagaaa.Pure
open Go.RowKit Go.Proofs.Ytfgeppldckagaaa.PAll Go.Proofs.YtfgeppldckagaaaW.PrintWords Go.Proofs.YtfgeppldckagaaaW.PrintLast
theorem aw_ev : Ev (fun k => (sawmilllaw08_awake.f k).bind fun t => some t) true := Ev.bind awake_ev (Ev.now _)
theorem CurveGrids : ∀ (x0 : S25) (a1 : Int) (a2 : Int), ((x0.f0.length * 8 ≤ 140737488351232 ∧ ∀ y ∈ x0.f0, (Lit.int .i64 y).wf = true) ∧ (x0.f1.length * 8 ≤ 140737488351232 ∧ ∀ y ∈ x0.f1, (Lit.int .i64 y).wf = true) ∧ (x0.f2.length * 24 ≤ 140737488351232 ∧ ∀ y ∈ x0.f2, (y.length * 8 ≤ 140737488351232 ∧ ∀ y' ∈ y, (Lit.int .i64 y').wf = true))) → (Lit.int .i64 a1).wf = true → (Lit.int .i64 a2).wf = true → ∃ k, sawmilllaw08_CurveGrids.f k x0.f0 x0.f1 x0.f2 a1 a2 = some true := by
  intro g x y _ _ _
  refine Ev.rounds (r := true) ?_
  obtain ⟨X, Y, V⟩ := g
  show Ev (fun k => sawmilllaw08_CurveGrids.f k X Y V x y) true
  unfold sawmilllaw08_CurveGrids.f
  obtain ⟨b, hb⟩ := few_ev X Y V
  refine Ev.bind hb ?_
  cases b with
  | false => simp only [Bool.false_eq_true, if_false]; exact aw_ev
  | true =>
    simp only [if_true]
    obtain ⟨v, e1, e2, e3⟩ := grid_ev X Y V
    refine Ev.bind e1 (Ev.bind e2 ?_)
    simp only [if_true]
    refine Ev.bind (value_ev x y e1 e3) (Ev.bind (refvalue_ev x y e2 e3) ?_)
    simp only [if_true]
    exact aw_ev
end Go.Proofs.Ytfgeppldckagaaa.Pure
