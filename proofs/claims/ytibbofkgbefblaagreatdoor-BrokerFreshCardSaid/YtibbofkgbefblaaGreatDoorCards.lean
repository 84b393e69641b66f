/-
  DERIVED. GIVEN WITH THE SEED: THE CARDS: each row of YtibbofkgbefblaaGreatDoorRows.lean that lists a variable, with what it lists TIED to the program's text (the seventh form; the later family's looks); each row that meets fmt, with fmt's text TOLD by the authors' own Lean function (tested against real Go, not proved from fmt's source: count such statements apart). THE CARD IS WHAT COUNTS. Prove the row's statement (the work); the ties are given (YtibbofkgbefblaaGreatDoorTie.lean); close each card by the builder's one call (the guide's Derived/Test/ToyasCard.lean, 'card_holds'). Laid BY PROGRAM, IN A SANDBOX (cutbox-door.mjs). By AI agents, Wed Nov 11 2026. No macro, syntax, notation, axiom, sorry.
-/
import Derived.Test.YtibbofkgbefblaaGreatDoorRows
import GoSem.ClaimSeven
namespace Go.Proofs.YtibbofkgbefblaaGreatDoor
namespace Rows

/-- THE TIED CARD OF 'tidingslaw24.BrokerFresh'. -/
def brokerFreshCard : Claim7 := { stood := { row := brokerFreshRow, standIns := [], harness := (true, "efb24fab67e7be20277ee216dcb885f22c13e9591a84b8695db7912be970521d"), looks := true }, kinds := [], alts := [], laidByText := true, laidKinds := [.data, .sentinel, .pinned], laidTests := true, laidLooks := .later }
def BrokerFreshCardSaid : Prop := Claim7.holds Tryz.pinned (.plain (OpenSpec.ofChange brokerFreshSpec)) brokerFreshCard

/-- THE SECOND FORM's CARD OF 'tidingslaw24.BrokerFresh'. -/
def brokerFreshUptoCard : Claim7 := { stood := { row := brokerFreshUptoRow, standIns := [], harness := (true, "efb24fab67e7be20277ee216dcb885f22c13e9591a84b8695db7912be970521d"), looks := true }, kinds := [], alts := [], laidByText := true, laidKinds := [.data, .sentinel, .pinned], laidTests := true, laidLooks := .later }
def BrokerFreshUptoCardSaid : Prop := Claim7.holds Tryz.pinned (.plain (OpenSpec.upto brokerFreshSpec)) brokerFreshUptoCard
end Rows
end Go.Proofs.YtibbofkgbefblaaGreatDoor
