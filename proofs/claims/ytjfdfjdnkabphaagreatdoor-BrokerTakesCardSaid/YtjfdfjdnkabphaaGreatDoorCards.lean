/-
  DERIVED. GIVEN WITH THE SEED: THE CARDS: each row of YtjfdfjdnkabphaaGreatDoorRows.lean that lists a variable, with what it lists TIED to the program's text (the seventh form; the later family's looks); each row that meets fmt, with fmt's text TOLD by the authors' own Lean function (tested against real Go, not proved from fmt's source: count such statements apart). THE CARD IS WHAT COUNTS. Prove the row's statement (the work); the ties are given (YtjfdfjdnkabphaaGreatDoorTie.lean); close each card by the builder's one call (the guide's Derived/Test/ToyasCard.lean, 'card_holds'). Laid BY PROGRAM, IN A SANDBOX (cutbox-door.mjs). By AI agents, Wed Nov 11 2026. No macro, syntax, notation, axiom, sorry.
-/
import Derived.Test.YtjfdfjdnkabphaaGreatDoorRows
import GoSem.ClaimSeven
namespace Go.Proofs.YtjfdfjdnkabphaaGreatDoor
namespace Rows

/-- THE TIED CARD OF 'tidingslaw24.BrokerTakes'. -/
def brokerTakesCard : Claim7 := { stood := { row := brokerTakesRow, standIns := [], harness := (true, "78b7a1eacc852f899b47b528ebb250416c4ba275d6a3b7b1211d065f6d9ad1f2"), looks := true }, kinds := [], alts := [], laidByText := true, laidKinds := [.data, .sentinel, .pinned], laidTests := true, laidLooks := .later }
def BrokerTakesCardSaid : Prop := Claim7.holds Tryz.pinned (.plain (OpenSpec.ofChange brokerTakesSpec)) brokerTakesCard

/-- THE SECOND FORM's CARD OF 'tidingslaw24.BrokerTakes'. -/
def brokerTakesUptoCard : Claim7 := { stood := { row := brokerTakesUptoRow, standIns := [], harness := (true, "78b7a1eacc852f899b47b528ebb250416c4ba275d6a3b7b1211d065f6d9ad1f2"), looks := true }, kinds := [], alts := [], laidByText := true, laidKinds := [.data, .sentinel, .pinned], laidTests := true, laidLooks := .later }
def BrokerTakesUptoCardSaid : Prop := Claim7.holds Tryz.pinned (.plain (OpenSpec.upto brokerTakesSpec)) brokerTakesUptoCard
end Rows
end Go.Proofs.YtjfdfjdnkabphaaGreatDoor
