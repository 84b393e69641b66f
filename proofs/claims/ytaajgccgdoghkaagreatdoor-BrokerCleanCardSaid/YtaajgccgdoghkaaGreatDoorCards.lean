/-
  DERIVED. GIVEN WITH THE SEED: THE CARDS: each row of YtaajgccgdoghkaaGreatDoorRows.lean that lists a variable, with what it lists TIED to the program's text (the seventh form; the later family's looks); each row that meets fmt, with fmt's text TOLD by the authors' own Lean function (tested against real Go, not proved from fmt's source: count such statements apart). THE CARD IS WHAT COUNTS. Prove the row's statement (the work); the ties are given (YtaajgccgdoghkaaGreatDoorTie.lean); close each card by the builder's one call (the guide's Derived/Test/ToyasCard.lean, 'card_holds'). Laid BY PROGRAM, IN A SANDBOX (cutbox-door.mjs). By AI agents, Wed Nov 11 2026. No macro, syntax, notation, axiom, sorry.
-/
import Derived.Test.YtaajgccgdoghkaaGreatDoorRows
import GoSem.ClaimSeven
namespace Go.Proofs.YtaajgccgdoghkaaGreatDoor
namespace Rows

/-- THE TIED CARD OF 'tidingslaw24.BrokerClean'. -/
def brokerCleanCard : Claim7 := { stood := { row := brokerCleanRow, standIns := [], harness := (true, "cca015f608286e0bf2e148fda3a68a87618e0a687f01ef4a0e6c2a8326a8b82c"), looks := true }, kinds := [], alts := [], laidByText := true, laidKinds := [.data, .sentinel, .pinned], laidTests := true, laidLooks := .later }
def BrokerCleanCardSaid : Prop := Claim7.holds Tryz.pinned (.plain (OpenSpec.ofChange brokerCleanSpec)) brokerCleanCard

/-- THE SECOND FORM's CARD OF 'tidingslaw24.BrokerClean'. -/
def brokerCleanUptoCard : Claim7 := { stood := { row := brokerCleanUptoRow, standIns := [], harness := (true, "cca015f608286e0bf2e148fda3a68a87618e0a687f01ef4a0e6c2a8326a8b82c"), looks := true }, kinds := [], alts := [], laidByText := true, laidKinds := [.data, .sentinel, .pinned], laidTests := true, laidLooks := .later }
def BrokerCleanUptoCardSaid : Prop := Claim7.holds Tryz.pinned (.plain (OpenSpec.upto brokerCleanSpec)) brokerCleanUptoCard
end Rows
end Go.Proofs.YtaajgccgdoghkaaGreatDoor
