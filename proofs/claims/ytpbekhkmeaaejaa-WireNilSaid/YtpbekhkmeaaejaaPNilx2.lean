-- Written by a changed copy of the kit's print program, run in this session (NOTES.md tells the change). Not trusted: Lean checks it.
import Derived.Test.YtpbekhkmeaaejaaPNilx0
namespace Go.Proofs.Ytpbekhkmeaaejaa.PNil
open Go.RowKit Go.Proofs.YtpbekhkmeaaejaaW.PrintWords Go.Proofs.YtpbekhkmeaaejaaW.PrintLast Go.Proofs.YtpbekhkmeaaejaaW.PrintMore
attribute [local go_sem] max2_int min2_int max_two min_two max_three min_three max_four min_four   -- for this text's walks alone
set_option linter.unusedVariables false
set_option linter.unusedSimpArgs false

/-! ### given sawmilllaw05_awake: function 16 -/
def sawmilllaw05_awake.f : Option (Bool) := some true
theorem sawmilllaw05_awake.calls (r : Bool) (w : World) (h : sawmilllaw05_awake.f = some r) :
    Calls Try.prog 16 #[] w fun e w' => e = .returned (.bool r) ∧ Below w.heap.size w w' := Go.Proofs.Ytpbekhkmeaaejaa.PAll.sawmilllaw05_awake.calls r w h

end Go.Proofs.Ytpbekhkmeaaejaa.PNil
