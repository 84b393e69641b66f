/-
  DERIVED. GIVEN WITH THE SEED: THE CARDS: each row of YtdkkkpakmpfkeaaGreatDoorRows.lean that lists a variable, with what it lists TIED to the program's text (the seventh form; the later family's looks); each row that meets fmt, with fmt's text TOLD by the authors' own Lean function (tested against real Go, not proved from fmt's source: count such statements apart). THE CARD IS WHAT COUNTS. Prove the row's statement (the work); the ties are given (YtdkkkpakmpfkeaaGreatDoorTie.lean); close each card by the builder's one call (the guide's Derived/Test/ToyasCard.lean, 'card_holds'). Laid BY PROGRAM, IN A SANDBOX (cutbox-door.mjs). By AI agents, Wed Nov 11 2026. No macro, syntax, notation, axiom, sorry.
-/
import Derived.Test.YtdkkkpakmpfkeaaGreatDoorRows
import GoSem.ClaimSeven
namespace Go.Proofs.YtdkkkpakmpfkeaaGreatDoor
namespace Rows

/-- THE TIED CARD OF 'tidingslaw24.BrokerEchoes'. -/
def brokerEchoesCard : Claim7 := { stood := { row := brokerEchoesRow, standIns := [], harness := (true, "c2f43c326da4842fc9eef2150cd184596dd3809fb3e707d687506dc950af792c"), looks := true }, kinds := [], alts := [], laidByText := true, laidKinds := [.data, .sentinel, .pinned], laidTests := true, laidLooks := .later }
def BrokerEchoesCardSaid : Prop := Claim7.holds Tryz.pinned (.plain (OpenSpec.ofChange brokerEchoesSpec)) brokerEchoesCard

/-- THE SECOND FORM's CARD OF 'tidingslaw24.BrokerEchoes'. -/
def brokerEchoesUptoCard : Claim7 := { stood := { row := brokerEchoesUptoRow, standIns := [], harness := (true, "c2f43c326da4842fc9eef2150cd184596dd3809fb3e707d687506dc950af792c"), looks := true }, kinds := [], alts := [], laidByText := true, laidKinds := [.data, .sentinel, .pinned], laidTests := true, laidLooks := .later }
def BrokerEchoesUptoCardSaid : Prop := Claim7.holds Tryz.pinned (.plain (OpenSpec.upto brokerEchoesSpec)) brokerEchoesUptoCard
end Rows
end Go.Proofs.YtdkkkpakmpfkeaaGreatDoor
