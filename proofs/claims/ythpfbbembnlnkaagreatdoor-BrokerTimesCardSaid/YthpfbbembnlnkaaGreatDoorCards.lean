/-
  DERIVED. GIVEN WITH THE SEED: THE CARDS: each row of YthpfbbembnlnkaaGreatDoorRows.lean that lists a variable, with what it lists TIED to the program's text (the seventh form; the later family's looks); each row that meets fmt, with fmt's text TOLD by the authors' own Lean function (tested against real Go, not proved from fmt's source: count such statements apart). THE CARD IS WHAT COUNTS. Prove the row's statement (the work); the ties are given (YthpfbbembnlnkaaGreatDoorTie.lean); close each card by the builder's one call (the guide's Derived/Test/ToyasCard.lean, 'card_holds'). Laid BY PROGRAM, IN A SANDBOX (cutbox-door.mjs). By AI agents, Wed Nov 11 2026. No macro, syntax, notation, axiom, sorry.
-/
import Derived.Test.YthpfbbembnlnkaaGreatDoorRows
import GoSem.ClaimSeven
namespace Go.Proofs.YthpfbbembnlnkaaGreatDoor
namespace Rows

/-- THE TIED CARD OF 'tidingslaw24.BrokerTimes'. -/
def brokerTimesCard : Claim7 := { stood := { row := brokerTimesRow, standIns := [], harness := (true, "664f86685b3320d09751a95bb2277c5c77f935acf0a4146a794ed64c447388fa"), looks := true }, kinds := [], alts := [], laidByText := true, laidKinds := [.data, .sentinel, .pinned], laidTests := true, laidLooks := .later }
def BrokerTimesCardSaid : Prop := Claim7.holds Tryz.pinned (.plain (OpenSpec.ofChange brokerTimesSpec)) brokerTimesCard

/-- THE SECOND FORM's CARD OF 'tidingslaw24.BrokerTimes'. -/
def brokerTimesUptoCard : Claim7 := { stood := { row := brokerTimesUptoRow, standIns := [], harness := (true, "664f86685b3320d09751a95bb2277c5c77f935acf0a4146a794ed64c447388fa"), looks := true }, kinds := [], alts := [], laidByText := true, laidKinds := [.data, .sentinel, .pinned], laidTests := true, laidLooks := .later }
def BrokerTimesUptoCardSaid : Prop := Claim7.holds Tryz.pinned (.plain (OpenSpec.upto brokerTimesSpec)) brokerTimesUptoCard
end Rows
end Go.Proofs.YthpfbbembnlnkaaGreatDoor
