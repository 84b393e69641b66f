/-
  DERIVED. GIVEN WITH THE SEED: THE CARDS: each row of YtfcgainglngmmaaGreatDoorRows.lean that lists a variable, with what it lists TIED to the program's text (the seventh form; the later family's looks); each row that meets fmt, with fmt's text TOLD by the authors' own Lean function (tested against real Go, not proved from fmt's source: count such statements apart). THE CARD IS WHAT COUNTS. Prove the row's statement (the work); the ties are given (YtfcgainglngmmaaGreatDoorTie.lean); close each card by the builder's one call (the guide's Derived/Test/ToyasCard.lean, 'card_holds'). Laid BY PROGRAM, IN A SANDBOX (cutbox-door.mjs). By AI agents, Wed Nov 11 2026. No macro, syntax, notation, axiom, sorry.
-/
import Derived.Test.YtfcgainglngmmaaGreatDoorRows
import GoSem.ClaimSeven
namespace Go.Proofs.YtfcgainglngmmaaGreatDoor
namespace Rows

/-- THE TIED CARD OF 'tidingslaw24.BrokerWills'. -/
def brokerWillsCard : Claim7 := { stood := { row := brokerWillsRow, standIns := [], harness := (true, "db814ebe7eebebddd02197359e1e28bf73e4cd3d8e570d868b088bed876fe796"), looks := true }, kinds := [], alts := [], laidByText := true, laidKinds := [.data, .sentinel, .pinned], laidTests := true, laidLooks := .later }
def BrokerWillsCardSaid : Prop := Claim7.holds Tryz.pinned (.plain (OpenSpec.ofChange brokerWillsSpec)) brokerWillsCard

/-- THE TIED CARD OF 'tidingslaw24.BrokerLasts'. -/
def brokerLastsCard : Claim7 := { stood := { row := brokerLastsRow, standIns := [], harness := (true, "db814ebe7eebebddd02197359e1e28bf73e4cd3d8e570d868b088bed876fe796"), looks := true }, kinds := [], alts := [], laidByText := true, laidKinds := [.data, .sentinel, .pinned], laidTests := true, laidLooks := .later }
def BrokerLastsCardSaid : Prop := Claim7.holds Tryz.pinned (.plain (OpenSpec.ofChange brokerLastsSpec)) brokerLastsCard

/-- THE SECOND FORM's CARD OF 'tidingslaw24.BrokerWills'. -/
def brokerWillsUptoCard : Claim7 := { stood := { row := brokerWillsUptoRow, standIns := [], harness := (true, "db814ebe7eebebddd02197359e1e28bf73e4cd3d8e570d868b088bed876fe796"), looks := true }, kinds := [], alts := [], laidByText := true, laidKinds := [.data, .sentinel, .pinned], laidTests := true, laidLooks := .later }
def BrokerWillsUptoCardSaid : Prop := Claim7.holds Tryz.pinned (.plain (OpenSpec.upto brokerWillsSpec)) brokerWillsUptoCard

/-- THE SECOND FORM's CARD OF 'tidingslaw24.BrokerLasts'. -/
def brokerLastsUptoCard : Claim7 := { stood := { row := brokerLastsUptoRow, standIns := [], harness := (true, "db814ebe7eebebddd02197359e1e28bf73e4cd3d8e570d868b088bed876fe796"), looks := true }, kinds := [], alts := [], laidByText := true, laidKinds := [.data, .sentinel, .pinned], laidTests := true, laidLooks := .later }
def BrokerLastsUptoCardSaid : Prop := Claim7.holds Tryz.pinned (.plain (OpenSpec.upto brokerLastsSpec)) brokerLastsUptoCard
end Rows
end Go.Proofs.YtfcgainglngmmaaGreatDoor
