/-
  DERIVED. GIVEN WITH THE SEED: THE CARDS: each row of YtaimebepiomgcaaGreatDoorRows.lean that lists a variable, with what it lists TIED to the program's text (the seventh form; the later family's looks); each row that meets fmt, with fmt's text TOLD by the authors' own Lean function (tested against real Go, not proved from fmt's source: count such statements apart). THE CARD IS WHAT COUNTS. Prove the row's statement (the work); the ties are given (YtaimebepiomgcaaGreatDoorTie.lean); close each card by the builder's one call (the guide's Derived/Test/ToyasCard.lean, 'card_holds'). Laid BY PROGRAM, IN A SANDBOX (cutbox-door.mjs). By AI agents, Wed Nov 11 2026. No macro, syntax, notation, axiom, sorry.
-/
import Derived.Test.YtaimebepiomgcaaGreatDoorRows
import GoSem.ClaimSeven
namespace Go.Proofs.YtaimebepiomgcaaGreatDoor
namespace Rows

/-- THE TIED CARD OF 'tidingslaw24.BrokerAliases'. -/
def brokerAliasesCard : Claim7 := { stood := { row := brokerAliasesRow, standIns := [], harness := (true, "a545ae0ec4b916e873c83088d15915fc5668ec010fd08fdbc2a1c6b773ca51c3"), looks := true }, kinds := [], alts := [], laidByText := true, laidKinds := [.data, .sentinel, .pinned], laidTests := true, laidLooks := .later }
def BrokerAliasesCardSaid : Prop := Claim7.holds Tryz.pinned (.plain (OpenSpec.ofChange brokerAliasesSpec)) brokerAliasesCard

/-- THE SECOND FORM's CARD OF 'tidingslaw24.BrokerAliases'. -/
def brokerAliasesUptoCard : Claim7 := { stood := { row := brokerAliasesUptoRow, standIns := [], harness := (true, "a545ae0ec4b916e873c83088d15915fc5668ec010fd08fdbc2a1c6b773ca51c3"), looks := true }, kinds := [], alts := [], laidByText := true, laidKinds := [.data, .sentinel, .pinned], laidTests := true, laidLooks := .later }
def BrokerAliasesUptoCardSaid : Prop := Claim7.holds Tryz.pinned (.plain (OpenSpec.upto brokerAliasesSpec)) brokerAliasesUptoCard
end Rows
end Go.Proofs.YtaimebepiomgcaaGreatDoor
