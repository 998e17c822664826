/-
  DERIVED. GIVEN WITH THE SEED: THE CARDS: each row of YtfgeppldckagaaaDoorRows.lean that lists a variable, with what it lists TIED to the program's text (the seventh form; the later family's looks); each row that meets fmt, with fmt's text TOLD by the authors' own Lean function (tested against real Go, not proved from fmt's source: count such statements apart). THE CARD IS WHAT COUNTS. Prove the row's statement (the work); the ties are given (YtfgeppldckagaaaDoorTie.lean); close each card by the builder's one call (the guide's Derived/Test/ToyasCard.lean, 'card_holds'). Laid BY PROGRAM, IN A SANDBOX (cutbox-door.mjs). By AI agents, Wed Nov 11 2026. No macro, syntax, notation, axiom, sorry.
-/
import Derived.Test.YtfgeppldckagaaaDoorRows
import GoSem.ClaimSeven
namespace Go.Proofs.YtfgeppldckagaaaDoor
namespace Rows

/-- THE TIED CARD OF 'sawmilllaw35.AirTable'. -/
def airTableCard : Claim7 := { stood := { row := airTableRow, standIns := [], harness := (true, "129ee37cfff457d4748477379eb14968bbd88d0c333292d827b1612cd8dbdad4"), looks := false }, kinds := [], alts := [], laidByText := true, laidKinds := [.data, .data, .data], laidTests := true, laidLooks := .later }
def AirTableCardSaid : Prop := Claim7.holds Tryd.pinned (.plain (OpenSpec.ofChange airTableSpec)) airTableCard

/-- THE TIED CARD OF 'sawmilllaw35.AirEmcs'. -/
def airEmcsCard : Claim7 := { stood := { row := airEmcsRow, standIns := [], harness := (true, "129ee37cfff457d4748477379eb14968bbd88d0c333292d827b1612cd8dbdad4"), looks := false }, kinds := [], alts := [], laidByText := true, laidKinds := [.data, .data, .data], laidTests := true, laidLooks := .later }
def AirEmcsCardSaid : Prop := Claim7.holds Tryd.pinned (.plain (OpenSpec.ofChange airEmcsSpec)) airEmcsCard

/-- THE TIED CARD OF 'sawmilllaw35.AirNexts'. -/
def airNextsCard : Claim7 := { stood := { row := airNextsRow, standIns := [], harness := (true, "129ee37cfff457d4748477379eb14968bbd88d0c333292d827b1612cd8dbdad4"), looks := false }, kinds := [], alts := [], laidByText := true, laidKinds := [.data, .data, .data], laidTests := true, laidLooks := .later }
def AirNextsCardSaid : Prop := Claim7.holds Tryd.pinned (.plain (OpenSpec.ofChange airNextsSpec)) airNextsCard

/-- THE TIED CARD OF 'sawmilllaw35.AirFalls'. -/
def airFallsCard : Claim7 := { stood := { row := airFallsRow, standIns := [], harness := (true, "129ee37cfff457d4748477379eb14968bbd88d0c333292d827b1612cd8dbdad4"), looks := false }, kinds := [], alts := [], laidByText := true, laidKinds := [.data, .data, .data], laidTests := true, laidLooks := .later }
def AirFallsCardSaid : Prop := Claim7.holds Tryd.pinned (.plain (OpenSpec.ofChange airFallsSpec)) airFallsCard

/-- THE TIED CARD OF 'sawmilllaw35.AirGoes'. -/
def airGoesCard : Claim7 := { stood := { row := airGoesRow, standIns := [], harness := (true, "129ee37cfff457d4748477379eb14968bbd88d0c333292d827b1612cd8dbdad4"), looks := false }, kinds := [], alts := [], laidByText := true, laidKinds := [.data, .data, .data], laidTests := true, laidLooks := .later }
def AirGoesCardSaid : Prop := Claim7.holds Tryd.pinned (.plain (OpenSpec.ofChange airGoesSpec)) airGoesCard

/-- THE TIED CARD OF 'sawmilllaw35.AirReaches'. -/
def airReachesCard : Claim7 := { stood := { row := airReachesRow, standIns := [], harness := (true, "129ee37cfff457d4748477379eb14968bbd88d0c333292d827b1612cd8dbdad4"), looks := false }, kinds := [], alts := [], laidByText := true, laidKinds := [.data, .data, .data], laidTests := true, laidLooks := .later }
def AirReachesCardSaid : Prop := Claim7.holds Tryd.pinned (.plain (OpenSpec.ofChange airReachesSpec)) airReachesCard

/-- THE SECOND FORM's CARD OF 'sawmilllaw35.AirTable'. -/
def airTableUptoCard : Claim7 := { stood := { row := airTableUptoRow, standIns := [], harness := (true, "129ee37cfff457d4748477379eb14968bbd88d0c333292d827b1612cd8dbdad4"), looks := false }, kinds := [], alts := [], laidByText := true, laidKinds := [.data, .data, .data], laidTests := true, laidLooks := .later }
def AirTableUptoCardSaid : Prop := Claim7.holds Tryd.pinned (.plain (OpenSpec.upto airTableSpec)) airTableUptoCard

/-- THE SECOND FORM's CARD OF 'sawmilllaw35.AirEmcs'. -/
def airEmcsUptoCard : Claim7 := { stood := { row := airEmcsUptoRow, standIns := [], harness := (true, "129ee37cfff457d4748477379eb14968bbd88d0c333292d827b1612cd8dbdad4"), looks := false }, kinds := [], alts := [], laidByText := true, laidKinds := [.data, .data, .data], laidTests := true, laidLooks := .later }
def AirEmcsUptoCardSaid : Prop := Claim7.holds Tryd.pinned (.plain (OpenSpec.upto airEmcsSpec)) airEmcsUptoCard

/-- THE SECOND FORM's CARD OF 'sawmilllaw35.AirNexts'. -/
def airNextsUptoCard : Claim7 := { stood := { row := airNextsUptoRow, standIns := [], harness := (true, "129ee37cfff457d4748477379eb14968bbd88d0c333292d827b1612cd8dbdad4"), looks := false }, kinds := [], alts := [], laidByText := true, laidKinds := [.data, .data, .data], laidTests := true, laidLooks := .later }
def AirNextsUptoCardSaid : Prop := Claim7.holds Tryd.pinned (.plain (OpenSpec.upto airNextsSpec)) airNextsUptoCard

/-- THE SECOND FORM's CARD OF 'sawmilllaw35.AirFalls'. -/
def airFallsUptoCard : Claim7 := { stood := { row := airFallsUptoRow, standIns := [], harness := (true, "129ee37cfff457d4748477379eb14968bbd88d0c333292d827b1612cd8dbdad4"), looks := false }, kinds := [], alts := [], laidByText := true, laidKinds := [.data, .data, .data], laidTests := true, laidLooks := .later }
def AirFallsUptoCardSaid : Prop := Claim7.holds Tryd.pinned (.plain (OpenSpec.upto airFallsSpec)) airFallsUptoCard

/-- THE SECOND FORM's CARD OF 'sawmilllaw35.AirGoes'. -/
def airGoesUptoCard : Claim7 := { stood := { row := airGoesUptoRow, standIns := [], harness := (true, "129ee37cfff457d4748477379eb14968bbd88d0c333292d827b1612cd8dbdad4"), looks := false }, kinds := [], alts := [], laidByText := true, laidKinds := [.data, .data, .data], laidTests := true, laidLooks := .later }
def AirGoesUptoCardSaid : Prop := Claim7.holds Tryd.pinned (.plain (OpenSpec.upto airGoesSpec)) airGoesUptoCard

/-- THE SECOND FORM's CARD OF 'sawmilllaw35.AirReaches'. -/
def airReachesUptoCard : Claim7 := { stood := { row := airReachesUptoRow, standIns := [], harness := (true, "129ee37cfff457d4748477379eb14968bbd88d0c333292d827b1612cd8dbdad4"), looks := false }, kinds := [], alts := [], laidByText := true, laidKinds := [.data, .data, .data], laidTests := true, laidLooks := .later }
def AirReachesUptoCardSaid : Prop := Claim7.holds Tryd.pinned (.plain (OpenSpec.upto airReachesSpec)) airReachesUptoCard
end Rows
end Go.Proofs.YtfgeppldckagaaaDoor
