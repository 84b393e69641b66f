/-
  DERIVED. GIVEN WITH THE SEED: THE CARDS: each row of YtglaococfplhpaaGreatDoorRows.lean that lists a variable, with what it lists TIED to the program's text (the seventh form; the later family's looks); each row that meets fmt, with fmt's text TOLD by the authors' own Lean function (tested against real Go, not proved from fmt's source: count such statements apart). THE CARD IS WHAT COUNTS. Prove the row's statement (the work); the ties are given (YtglaococfplhpaaGreatDoorTie.lean); close each card by the builder's one call (the guide's Derived/Test/ToyasCard.lean, 'card_holds'). Laid BY PROGRAM, IN A SANDBOX (cutbox-door.mjs). By AI agents, Wed Nov 11 2026. No macro, syntax, notation, axiom, sorry.
-/
import Derived.Test.YtglaococfplhpaaGreatDoorRows
import GoSem.ClaimSeven
namespace Go.Proofs.YtglaococfplhpaaGreatDoor
namespace Rows

/-- THE TIED CARD OF 'tidingslaw24.BrokerSmall'. -/
def brokerSmallCard : Claim7 := { stood := { row := brokerSmallRow, standIns := [], harness := (true, "4688c814e21d2d664815999af182fe324c422f3af0f31321bfd152c494565392"), looks := true }, kinds := [], alts := [], laidByText := true, laidKinds := [.data, .sentinel, .pinned], laidTests := true, laidLooks := .later }
def BrokerSmallCardSaid : Prop := Claim7.holds Tryz.pinned (.plain (OpenSpec.ofChange brokerSmallSpec)) brokerSmallCard

/-- THE SECOND FORM's CARD OF 'tidingslaw24.BrokerSmall'. -/
def brokerSmallUptoCard : Claim7 := { stood := { row := brokerSmallUptoRow, standIns := [], harness := (true, "4688c814e21d2d664815999af182fe324c422f3af0f31321bfd152c494565392"), looks := true }, kinds := [], alts := [], laidByText := true, laidKinds := [.data, .sentinel, .pinned], laidTests := true, laidLooks := .later }
def BrokerSmallUptoCardSaid : Prop := Claim7.holds Tryz.pinned (.plain (OpenSpec.upto brokerSmallSpec)) brokerSmallUptoCard
end Rows
end Go.Proofs.YtglaococfplhpaaGreatDoor
