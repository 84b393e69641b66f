/-
  DERIVED. GIVEN WITH THE SEED: THE CARDS: each row of YtilghajadoibgaaGreatDoorRows.lean that lists a variable, with what it lists TIED to the program's text (the seventh form; the later family's looks); each row that meets fmt, with fmt's text TOLD by the authors' own Lean function (tested against real Go, not proved from fmt's source: count such statements apart). THE CARD IS WHAT COUNTS. Prove the row's statement (the work); the ties are given (YtilghajadoibgaaGreatDoorTie.lean); close each card by the builder's one call (the guide's Derived/Test/ToyasCard.lean, 'card_holds'). Laid BY PROGRAM, IN A SANDBOX (cutbox-door.mjs). By AI agents, Wed Nov 11 2026. No macro, syntax, notation, axiom, sorry.
-/
import Derived.Test.YtilghajadoibgaaGreatDoorRows
import GoSem.ClaimSeven
namespace Go.Proofs.YtilghajadoibgaaGreatDoor
namespace Rows

/-- THE TIED CARD OF 'tidingslaw24.BrokerAgain'. -/
def brokerAgainCard : Claim7 := { stood := { row := brokerAgainRow, standIns := [], harness := (true, "37159576fc8d002cd0e6805314a1e41930ba820eb8c1b555a63fb2b5aeee10e7"), looks := true }, kinds := [], alts := [], laidByText := true, laidKinds := [.data, .sentinel, .pinned], laidTests := true, laidLooks := .later }
def BrokerAgainCardSaid : Prop := Claim7.holds Tryz.pinned (.plain (OpenSpec.ofChange brokerAgainSpec)) brokerAgainCard

/-- THE SECOND FORM's CARD OF 'tidingslaw24.BrokerAgain'. -/
def brokerAgainUptoCard : Claim7 := { stood := { row := brokerAgainUptoRow, standIns := [], harness := (true, "37159576fc8d002cd0e6805314a1e41930ba820eb8c1b555a63fb2b5aeee10e7"), looks := true }, kinds := [], alts := [], laidByText := true, laidKinds := [.data, .sentinel, .pinned], laidTests := true, laidLooks := .later }
def BrokerAgainUptoCardSaid : Prop := Claim7.holds Tryz.pinned (.plain (OpenSpec.upto brokerAgainSpec)) brokerAgainUptoCard
end Rows
end Go.Proofs.YtilghajadoibgaaGreatDoor
