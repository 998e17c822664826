/- The examples of the chapter. -/
import Derived.Test.YtfgeppldckagaaaDoorPAllx11
namespace Go.Proofs.YtfgeppldckagaaaDoor.Pure
open Go.RowKit Go.Proofs.YtfgeppldckagaaaDoor.PAll Go.Proofs.YtfgeppldckagaaaDoorW.PrintWords Go.Proofs.YtfgeppldckagaaaDoorW.PrintLast
theorem awake_ev : Ev (fun k => sawmilllaw35_awake.f k) true := Ev.of sawmilllaw35_awake.mono (k := 60) (by decide +kernel)
theorem aw_ev : Ev (fun k => (sawmilllaw35_awake.f k).bind fun t => some t) true := Ev.bind awake_ev (Ev.now _)
end Go.Proofs.YtfgeppldckagaaaDoor.Pure
