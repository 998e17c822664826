/- Uint and Int return the specified bytes: the plain statement. -/
import Derived.Test.YtpbekhkmeaaejaaPAllx8
import Derived.Test.YtpbekhkmeaaejaaWf
namespace Go.Proofs.Ytpbekhkmeaaejaa.Pure
open Go.RowKit Go.Proofs.Ytpbekhkmeaaejaa.PAll Go.Proofs.YtpbekhkmeaaejaaW.PrintWords Go.Proofs.YtpbekhkmeaaejaaW.PrintLast Go.Proofs.Ytpbekhkmeaaejaa.Model

theorem WireNumbers : ∀ (a0 : Int) (a1 : Int), (Lit.int .u64 a0).wf = true → (Lit.int .i64 a1).wf = true → ∃ k, sawmilllaw05_WireNumbers.f k a0 a1 = some true := by
  intro a0 a1 h0 h1
  obtain ⟨n, rfl, hn⟩ := wf_u64 h0
  have hi := wf_i64 h1
  refine Ev.rounds (r := true) ?_
  unfold sawmilllaw05_WireNumbers.f
  refine Ev.bind (uint_ev n hn) (Ev.bind (ref_uint_ev n hn) ?_)
  simp only [if_true]
  refine Ev.bind (int_ev a1 hi) (Ev.bind (ref_int_ev a1 hi) ?_)
  simp only [if_true, awake_ev, Option.bind_some]
  exact Ev.now _

end Go.Proofs.Ytpbekhkmeaaejaa.Pure
