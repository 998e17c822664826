/- The examples of the chapter. -/
import Derived.Test.YtfgeppldckagaaaPAllx13
import Derived.Test.YtfgeppldckagaaaFuns
namespace Go.Proofs.Ytfgeppldckagaaa.Pure
open Go.RowKit Go.Proofs.Ytfgeppldckagaaa.PAll Go.Proofs.YtfgeppldckagaaaW.PrintWords Go.Proofs.YtfgeppldckagaaaW.PrintLast
theorem awake_ev : Ev (fun k => sawmilllaw08_awake.f k) true := Ev.of sawmilllaw08_awake.mono (k := 40) (by decide +kernel)
end Go.Proofs.Ytfgeppldckagaaa.Pure
