/-
  NARROWER THAN 'FOR EVERY INPUT', by the rows' own cells (each row's printed sentence says how): AirTable: laid · AirEmcs: laid · AirNexts: laid · AirFalls: laid · AirGoes: laid · AirReaches: laid.
  DERIVED. THE GIVEN ROWS OF THIS SEAT. 6 by the template 'for every input the law returns true; each argument reads behind the call as it read before'; 0 by the template 'total and deterministic' (their statements: YtfgeppldckagaaaDoorTotals.lean).
  GIVEN WITH THE SEED: the statements are not yours to turn. If you find one false, say at which input.
  Laid BY PROGRAM, IN A SANDBOX (cutbox-rows.mjs): the forced cells as the released guide's own fill.sh prints them over the translation 4b54c6440a418651… (all of the seat's roots in one cut). By AI agents, Wed Nov 11 2026. No macro, syntax, notation, axiom, sorry.
-/
import Derived.Test.YtfgeppldckagaaaDoorChecked
import GoSem.Claim
import GoSem.ClaimJoined
import GoSem.ClaimMapViews
import Derived.JoinedTies
import Derived.KernelRfl
namespace Go.Proofs.YtfgeppldckagaaaDoor
/- THE CELL 'sum', in the pinned program and in every row, IS THE sha256 OF THE DUMP (.gsa) THAT YtfgeppldckagaaaDoorProg.lean LOADS. Nothing in Lean hashes anything: it is a label: what it is worth is what the hold of that sum in a sandbox is worth. -/
noncomputable def Tryd.pinned : Pinned := { name := "ytfgeppldckagaaadoor", sum := "4b54c6440a41865186eadbfbc4b40c3c479050a097dd0ec25aec8d0694294bdc", checked := Tryd.checked }
namespace Rows
def none {H : Type} : Left H := { results := [], args := [] }

/- WHAT THE LISTED PACKAGE-LEVEL VARIABLES READ AS WHEN THE CALL BEGINS. Each datum BY PROGRAM (the guide's laid-datum.mjs) off the statement by which the dump's own 'gosem.cut.vars' lays the variable. In a bare row this is a premise. The card (YtfgeppldckagaaaDoorCards.lean) ties it to the program's text. -/
def laid_sawmill_air_temps {H : Type} : DataW H := .agg [.lit (.int .i64 200), .lit (.int .i64 400), .lit (.int .i64 600), .lit (.int .i64 800), .lit (.int .i64 1000), .lit (.int .i64 1200)]
def laid_sawmill_air_depresses {H : Type} : DataW H := .agg [.lit (.int .i64 0), .lit (.int .i64 20), .lit (.int .i64 50), .lit (.int .i64 100), .lit (.int .i64 200), .lit (.int .i64 300), .lit (.int .i64 400)]
def laid_sawmill_air_contents {H : Type} : DataW H := .agg [.agg [.lit (.int .i64 2800), .lit (.int .i64 2200), .lit (.int .i64 1750), .lit (.int .i64 1250), .lit (.int .i64 750), .lit (.int .i64 480), .lit (.int .i64 390)], .agg [.lit (.int .i64 2700), .lit (.int .i64 2100), .lit (.int .i64 1650), .lit (.int .i64 1150), .lit (.int .i64 680), .lit (.int .i64 440), .lit (.int .i64 350)], .agg [.lit (.int .i64 2600), .lit (.int .i64 2000), .lit (.int .i64 1550), .lit (.int .i64 1060), .lit (.int .i64 610), .lit (.int .i64 400), .lit (.int .i64 310)], .agg [.lit (.int .i64 2500), .lit (.int .i64 1900), .lit (.int .i64 1450), .lit (.int .i64 980), .lit (.int .i64 550), .lit (.int .i64 360), .lit (.int .i64 280)], .agg [.lit (.int .i64 2400), .lit (.int .i64 1800), .lit (.int .i64 1360), .lit (.int .i64 900), .lit (.int .i64 500), .lit (.int .i64 330), .lit (.int .i64 250)], .agg [.lit (.int .i64 2300), .lit (.int .i64 1700), .lit (.int .i64 1270), .lit (.int .i64 830), .lit (.int .i64 450), .lit (.int .i64 300), .lit (.int .i64 220)]]

/-- 'sawmilllaw35.AirTable': WHATEVER THE INPUT: true; the input reads as it did. -/
def airTableSpec : ChangeSpec := { name := "airTable", fn := fun _ => fun
  | [] => { results := [.lit (.bool true)], args := [] }
  | _ => none }
def airTableRow : OpenClaim := { program := "ytfgeppldckagaaadoor", sum := "4b54c6440a41865186eadbfbc4b40c3c479050a097dd0ec25aec8d0694294bdc", func := "sawmill/sawmilllaw35.AirTable", spec := "airTable", unfollowed := true, recurses := true, named := ["sawmill/air.temps", "sawmill/air.depresses", "sawmill/air.contents"], apart := false, laid := [("sawmill/air.temps", laid_sawmill_air_temps), ("sawmill/air.depresses", laid_sawmill_air_depresses), ("sawmill/air.contents", laid_sawmill_air_contents)] }
def AirTableSaid : Prop := airTableRow.holds Tryd.pinned (OpenSpec.ofChange airTableSpec)

/-- ITS FALSE NEIGHBOUR: 'it returns false'. Refute it at one input. -/
def airTableWrong : ChangeSpec := { name := "airTable", fn := fun _ => fun
  | [] => { results := [.lit (.bool false)], args := [] }
  | _ => none }
def AirTableWrongFalsely : Prop := airTableRow.holds Tryd.pinned (OpenSpec.ofChange airTableWrong)

/-- 'sawmilllaw35.AirEmcs': WHATEVER THE INPUT: true; the input reads as it did. -/
def airEmcsSpec : ChangeSpec := { name := "airEmcs", fn := fun _ => fun
  | [d] => { results := [.lit (.bool true)], args := [d] }
  | _ => none }
def airEmcsRow : OpenClaim := { program := "ytfgeppldckagaaadoor", sum := "4b54c6440a41865186eadbfbc4b40c3c479050a097dd0ec25aec8d0694294bdc", func := "sawmill/sawmilllaw35.AirEmcs", spec := "airEmcs", unfollowed := true, recurses := true, named := ["sawmill/air.temps", "sawmill/air.depresses", "sawmill/air.contents"], apart := false, laid := [("sawmill/air.temps", laid_sawmill_air_temps), ("sawmill/air.depresses", laid_sawmill_air_depresses), ("sawmill/air.contents", laid_sawmill_air_contents)] }
def AirEmcsSaid : Prop := airEmcsRow.holds Tryd.pinned (OpenSpec.ofChange airEmcsSpec)

/-- ITS FALSE NEIGHBOUR: 'it returns false'. Refute it at one input. -/
def airEmcsWrong : ChangeSpec := { name := "airEmcs", fn := fun _ => fun
  | [d] => { results := [.lit (.bool false)], args := [d] }
  | _ => none }
def AirEmcsWrongFalsely : Prop := airEmcsRow.holds Tryd.pinned (OpenSpec.ofChange airEmcsWrong)

/-- 'sawmilllaw35.AirNexts': WHATEVER THE INPUT: true; the input reads as it did. -/
def airNextsSpec : ChangeSpec := { name := "airNexts", fn := fun _ => fun
  | [d] => { results := [.lit (.bool true)], args := [d] }
  | _ => none }
def airNextsRow : OpenClaim := { program := "ytfgeppldckagaaadoor", sum := "4b54c6440a41865186eadbfbc4b40c3c479050a097dd0ec25aec8d0694294bdc", func := "sawmill/sawmilllaw35.AirNexts", spec := "airNexts", unfollowed := true, recurses := true, named := ["sawmill/air.temps", "sawmill/air.depresses", "sawmill/air.contents"], apart := false, laid := [("sawmill/air.temps", laid_sawmill_air_temps), ("sawmill/air.depresses", laid_sawmill_air_depresses), ("sawmill/air.contents", laid_sawmill_air_contents)] }
def AirNextsSaid : Prop := airNextsRow.holds Tryd.pinned (OpenSpec.ofChange airNextsSpec)

/-- ITS FALSE NEIGHBOUR: 'it returns false'. Refute it at one input. -/
def airNextsWrong : ChangeSpec := { name := "airNexts", fn := fun _ => fun
  | [d] => { results := [.lit (.bool false)], args := [d] }
  | _ => none }
def AirNextsWrongFalsely : Prop := airNextsRow.holds Tryd.pinned (OpenSpec.ofChange airNextsWrong)

/-- 'sawmilllaw35.AirFalls': WHATEVER THE INPUT: true; the input reads as it did. -/
def airFallsSpec : ChangeSpec := { name := "airFalls", fn := fun _ => fun
  | [d1, d2] => { results := [.lit (.bool true)], args := [d1, d2] }
  | _ => none }
def airFallsRow : OpenClaim := { program := "ytfgeppldckagaaadoor", sum := "4b54c6440a41865186eadbfbc4b40c3c479050a097dd0ec25aec8d0694294bdc", func := "sawmill/sawmilllaw35.AirFalls", spec := "airFalls", unfollowed := true, recurses := true, named := ["sawmill/air.temps", "sawmill/air.depresses", "sawmill/air.contents"], apart := false, laid := [("sawmill/air.temps", laid_sawmill_air_temps), ("sawmill/air.depresses", laid_sawmill_air_depresses), ("sawmill/air.contents", laid_sawmill_air_contents)] }
def AirFallsSaid : Prop := airFallsRow.holds Tryd.pinned (OpenSpec.ofChange airFallsSpec)

/-- ITS FALSE NEIGHBOUR: 'it returns false'. Refute it at one input. -/
def airFallsWrong : ChangeSpec := { name := "airFalls", fn := fun _ => fun
  | [d1, d2] => { results := [.lit (.bool false)], args := [d1, d2] }
  | _ => none }
def AirFallsWrongFalsely : Prop := airFallsRow.holds Tryd.pinned (OpenSpec.ofChange airFallsWrong)

/-- 'sawmilllaw35.AirGoes': WHATEVER THE INPUT: true; the input reads as it did. -/
def airGoesSpec : ChangeSpec := { name := "airGoes", fn := fun _ => fun
  | [d] => { results := [.lit (.bool true)], args := [d] }
  | _ => none }
def airGoesRow : OpenClaim := { program := "ytfgeppldckagaaadoor", sum := "4b54c6440a41865186eadbfbc4b40c3c479050a097dd0ec25aec8d0694294bdc", func := "sawmill/sawmilllaw35.AirGoes", spec := "airGoes", unfollowed := true, recurses := true, named := ["sawmill/air.temps", "sawmill/air.depresses", "sawmill/air.contents"], apart := false, laid := [("sawmill/air.temps", laid_sawmill_air_temps), ("sawmill/air.depresses", laid_sawmill_air_depresses), ("sawmill/air.contents", laid_sawmill_air_contents)] }
def AirGoesSaid : Prop := airGoesRow.holds Tryd.pinned (OpenSpec.ofChange airGoesSpec)

/-- ITS FALSE NEIGHBOUR: 'it returns false'. Refute it at one input. -/
def airGoesWrong : ChangeSpec := { name := "airGoes", fn := fun _ => fun
  | [d] => { results := [.lit (.bool false)], args := [d] }
  | _ => none }
def AirGoesWrongFalsely : Prop := airGoesRow.holds Tryd.pinned (OpenSpec.ofChange airGoesWrong)

/-- 'sawmilllaw35.AirReaches': WHATEVER THE INPUT: true; the input reads as it did. -/
def airReachesSpec : ChangeSpec := { name := "airReaches", fn := fun _ => fun
  | [d1, d2, d3] => { results := [.lit (.bool true)], args := [d1, d2, d3] }
  | _ => none }
def airReachesRow : OpenClaim := { program := "ytfgeppldckagaaadoor", sum := "4b54c6440a41865186eadbfbc4b40c3c479050a097dd0ec25aec8d0694294bdc", func := "sawmill/sawmilllaw35.AirReaches", spec := "airReaches", unfollowed := true, recurses := true, named := ["sawmill/air.temps", "sawmill/air.depresses", "sawmill/air.contents"], apart := false, laid := [("sawmill/air.temps", laid_sawmill_air_temps), ("sawmill/air.depresses", laid_sawmill_air_depresses), ("sawmill/air.contents", laid_sawmill_air_contents)] }
def AirReachesSaid : Prop := airReachesRow.holds Tryd.pinned (OpenSpec.ofChange airReachesSpec)

/-- ITS FALSE NEIGHBOUR: 'it returns false'. Refute it at one input. -/
def airReachesWrong : ChangeSpec := { name := "airReaches", fn := fun _ => fun
  | [d1, d2, d3] => { results := [.lit (.bool false)], args := [d1, d2, d3] }
  | _ => none }
def AirReachesWrongFalsely : Prop := airReachesRow.holds Tryd.pinned (OpenSpec.ofChange airReachesWrong)

/- THE SECOND FORM. 'bulk': how many values and letters a reading holds, each counted each time it is reached (what is shared counts as often as it is met; a slice's spare places count too). A statement '..UptoSaid' is the law's where the arguments, and the package variables that the reading takes, are together of bulk at most 1048576: NARROWER than '..Said'. Prove '..Said' where nothing that the law and all that it calls make is longer than what came in: it says more and counts as full. Else prove '..UptoSaid'. A law counts once. -/
mutual
def uptoBulk {H : Type} : DataW H → Nat
  | .lit (.string bytes) => bytes.length + 1
  | .lit _ => 1
  | .nil => 1
  | .ptr d => uptoBulk d + 1
  | .slice elems spare => uptoBulkAll elems + uptoBulkAll spare + 1
  | .agg parts => uptoBulkAll parts + 1
  | .iface _ d => uptoBulk d + 1
  | .map entries => uptoBulkEntries entries + 1
  | .held _ => 1
def uptoBulkAll {H : Type} : List (DataW H) → Nat
  | [] => 0
  | d :: r => uptoBulk d + uptoBulkAll r
def uptoBulkEntries {H : Type} : List (Lit × DataW H) → Nat
  | [] => 0
  | x :: r => uptoBulkEntry x + uptoBulkEntries r
def uptoBulkEntry {H : Type} : Lit × DataW H → Nat
  | (.string bytes, d) => bytes.length + uptoBulk d + 1
  | (_, d) => uptoBulk d + 1
 end
def uptoSmall : (H : Type) → List (DataW H) → Bool := fun _ ds => decide (uptoBulkAll ds ≤ 1048576)
def OpenSpec.upto (s : _root_.Go.ChangeSpec) : _root_.Go.OpenSpec := { _root_.Go.OpenSpec.ofChange s with cond := some uptoSmall }

/-- 'sawmilllaw35.AirTable', WHERE WHAT IT READS IS OF BULK AT MOST 1048576: true; the input reads as it did. -/
def airTableUptoRow : OpenClaim := { program := "ytfgeppldckagaaadoor", sum := "4b54c6440a41865186eadbfbc4b40c3c479050a097dd0ec25aec8d0694294bdc", func := "sawmill/sawmilllaw35.AirTable", spec := "airTable", unfollowed := true, recurses := true, named := ["sawmill/air.temps", "sawmill/air.depresses", "sawmill/air.contents"], apart := false, laid := [("sawmill/air.temps", laid_sawmill_air_temps), ("sawmill/air.depresses", laid_sawmill_air_depresses), ("sawmill/air.contents", laid_sawmill_air_contents)], narrowed := true }
def AirTableUptoSaid : Prop := airTableUptoRow.holds Tryd.pinned (OpenSpec.upto airTableSpec)

/-- 'sawmilllaw35.AirEmcs', WHERE WHAT IT READS IS OF BULK AT MOST 1048576: true; the input reads as it did. -/
def airEmcsUptoRow : OpenClaim := { program := "ytfgeppldckagaaadoor", sum := "4b54c6440a41865186eadbfbc4b40c3c479050a097dd0ec25aec8d0694294bdc", func := "sawmill/sawmilllaw35.AirEmcs", spec := "airEmcs", unfollowed := true, recurses := true, named := ["sawmill/air.temps", "sawmill/air.depresses", "sawmill/air.contents"], apart := false, laid := [("sawmill/air.temps", laid_sawmill_air_temps), ("sawmill/air.depresses", laid_sawmill_air_depresses), ("sawmill/air.contents", laid_sawmill_air_contents)], narrowed := true }
def AirEmcsUptoSaid : Prop := airEmcsUptoRow.holds Tryd.pinned (OpenSpec.upto airEmcsSpec)

/-- 'sawmilllaw35.AirNexts', WHERE WHAT IT READS IS OF BULK AT MOST 1048576: true; the input reads as it did. -/
def airNextsUptoRow : OpenClaim := { program := "ytfgeppldckagaaadoor", sum := "4b54c6440a41865186eadbfbc4b40c3c479050a097dd0ec25aec8d0694294bdc", func := "sawmill/sawmilllaw35.AirNexts", spec := "airNexts", unfollowed := true, recurses := true, named := ["sawmill/air.temps", "sawmill/air.depresses", "sawmill/air.contents"], apart := false, laid := [("sawmill/air.temps", laid_sawmill_air_temps), ("sawmill/air.depresses", laid_sawmill_air_depresses), ("sawmill/air.contents", laid_sawmill_air_contents)], narrowed := true }
def AirNextsUptoSaid : Prop := airNextsUptoRow.holds Tryd.pinned (OpenSpec.upto airNextsSpec)

/-- 'sawmilllaw35.AirFalls', WHERE WHAT IT READS IS OF BULK AT MOST 1048576: true; the input reads as it did. -/
def airFallsUptoRow : OpenClaim := { program := "ytfgeppldckagaaadoor", sum := "4b54c6440a41865186eadbfbc4b40c3c479050a097dd0ec25aec8d0694294bdc", func := "sawmill/sawmilllaw35.AirFalls", spec := "airFalls", unfollowed := true, recurses := true, named := ["sawmill/air.temps", "sawmill/air.depresses", "sawmill/air.contents"], apart := false, laid := [("sawmill/air.temps", laid_sawmill_air_temps), ("sawmill/air.depresses", laid_sawmill_air_depresses), ("sawmill/air.contents", laid_sawmill_air_contents)], narrowed := true }
def AirFallsUptoSaid : Prop := airFallsUptoRow.holds Tryd.pinned (OpenSpec.upto airFallsSpec)

/-- 'sawmilllaw35.AirGoes', WHERE WHAT IT READS IS OF BULK AT MOST 1048576: true; the input reads as it did. -/
def airGoesUptoRow : OpenClaim := { program := "ytfgeppldckagaaadoor", sum := "4b54c6440a41865186eadbfbc4b40c3c479050a097dd0ec25aec8d0694294bdc", func := "sawmill/sawmilllaw35.AirGoes", spec := "airGoes", unfollowed := true, recurses := true, named := ["sawmill/air.temps", "sawmill/air.depresses", "sawmill/air.contents"], apart := false, laid := [("sawmill/air.temps", laid_sawmill_air_temps), ("sawmill/air.depresses", laid_sawmill_air_depresses), ("sawmill/air.contents", laid_sawmill_air_contents)], narrowed := true }
def AirGoesUptoSaid : Prop := airGoesUptoRow.holds Tryd.pinned (OpenSpec.upto airGoesSpec)

/-- 'sawmilllaw35.AirReaches', WHERE WHAT IT READS IS OF BULK AT MOST 1048576: true; the input reads as it did. -/
def airReachesUptoRow : OpenClaim := { program := "ytfgeppldckagaaadoor", sum := "4b54c6440a41865186eadbfbc4b40c3c479050a097dd0ec25aec8d0694294bdc", func := "sawmill/sawmilllaw35.AirReaches", spec := "airReaches", unfollowed := true, recurses := true, named := ["sawmill/air.temps", "sawmill/air.depresses", "sawmill/air.contents"], apart := false, laid := [("sawmill/air.temps", laid_sawmill_air_temps), ("sawmill/air.depresses", laid_sawmill_air_depresses), ("sawmill/air.contents", laid_sawmill_air_contents)], narrowed := true }
def AirReachesUptoSaid : Prop := airReachesUptoRow.holds Tryd.pinned (OpenSpec.upto airReachesSpec)

end Rows
end Go.Proofs.YtfgeppldckagaaaDoor
