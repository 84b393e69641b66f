/-
  DERIVED. GIVEN WITH THE SEED: THE CARDS: each row of YtdljkjmcmedklaaGreatDoorRows.lean that lists a variable, with what it lists TIED to the program's text (the seventh form; the later family's looks); each row that meets fmt, with fmt's text TOLD by the authors' own Lean function (tested against real Go, not proved from fmt's source: count such statements apart). THE CARD IS WHAT COUNTS. Prove the row's statement (the work); the ties are given (YtdljkjmcmedklaaGreatDoorTie.lean); close each card by the builder's one call (the guide's Derived/Test/ToyasCard.lean, 'card_holds'). Laid BY PROGRAM, IN A SANDBOX (cutbox-door.mjs). By AI agents, Wed Nov 11 2026. No macro, syntax, notation, axiom, sorry.
-/
import Derived.Test.YtdljkjmcmedklaaGreatDoorRows
import GoSem.ClaimSeven
namespace Go.Proofs.YtdljkjmcmedklaaGreatDoor
namespace Rows

/-- THE TIED CARD OF 'tidingslaw24.BrokerSilent'. -/
def brokerSilentCard : Claim7 := { stood := { row := brokerSilentRow, standIns := [], harness := (true, "1b01e47fd0d47b041f1a9e0c2c70d5a4b0714b89c7d1655b6ca1bb30d3a6b1f0"), looks := true }, kinds := [], alts := [], laidByText := true, laidKinds := [.data, .sentinel, .pinned], laidTests := true, laidLooks := .later }
def BrokerSilentCardSaid : Prop := Claim7.holds Tryz.pinned (.plain (OpenSpec.ofChange brokerSilentSpec)) brokerSilentCard

/-- THE TIED CARD OF 'tidingslaw24.BrokerTooMuch'. -/
def brokerTooMuchCard : Claim7 := { stood := { row := brokerTooMuchRow, standIns := [], harness := (true, "1b01e47fd0d47b041f1a9e0c2c70d5a4b0714b89c7d1655b6ca1bb30d3a6b1f0"), looks := true }, kinds := [], alts := [], laidByText := true, laidKinds := [.data, .sentinel, .pinned], laidTests := true, laidLooks := .later }
def BrokerTooMuchCardSaid : Prop := Claim7.holds Tryz.pinned (.plain (OpenSpec.ofChange brokerTooMuchSpec)) brokerTooMuchCard

/-- THE SECOND FORM's CARD OF 'tidingslaw24.BrokerSilent'. -/
def brokerSilentUptoCard : Claim7 := { stood := { row := brokerSilentUptoRow, standIns := [], harness := (true, "1b01e47fd0d47b041f1a9e0c2c70d5a4b0714b89c7d1655b6ca1bb30d3a6b1f0"), looks := true }, kinds := [], alts := [], laidByText := true, laidKinds := [.data, .sentinel, .pinned], laidTests := true, laidLooks := .later }
def BrokerSilentUptoCardSaid : Prop := Claim7.holds Tryz.pinned (.plain (OpenSpec.upto brokerSilentSpec)) brokerSilentUptoCard

/-- THE SECOND FORM's CARD OF 'tidingslaw24.BrokerTooMuch'. -/
def brokerTooMuchUptoCard : Claim7 := { stood := { row := brokerTooMuchUptoRow, standIns := [], harness := (true, "1b01e47fd0d47b041f1a9e0c2c70d5a4b0714b89c7d1655b6ca1bb30d3a6b1f0"), looks := true }, kinds := [], alts := [], laidByText := true, laidKinds := [.data, .sentinel, .pinned], laidTests := true, laidLooks := .later }
def BrokerTooMuchUptoCardSaid : Prop := Claim7.holds Tryz.pinned (.plain (OpenSpec.upto brokerTooMuchSpec)) brokerTooMuchUptoCard
end Rows
end Go.Proofs.YtdljkjmcmedklaaGreatDoor
