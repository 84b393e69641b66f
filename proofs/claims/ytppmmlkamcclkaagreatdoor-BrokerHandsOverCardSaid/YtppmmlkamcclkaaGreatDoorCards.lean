/-
  DERIVED. GIVEN WITH THE SEED: THE CARDS: each row of YtppmmlkamcclkaaGreatDoorRows.lean that lists a variable, with what it lists TIED to the program's text (the seventh form; the later family's looks); each row that meets fmt, with fmt's text TOLD by the authors' own Lean function (tested against real Go, not proved from fmt's source: count such statements apart). THE CARD IS WHAT COUNTS. Prove the row's statement (the work); the ties are given (YtppmmlkamcclkaaGreatDoorTie.lean); close each card by the builder's one call (the guide's Derived/Test/ToyasCard.lean, 'card_holds'). Laid BY PROGRAM, IN A SANDBOX (cutbox-door.mjs). By AI agents, Wed Nov 11 2026. No macro, syntax, notation, axiom, sorry.
-/
import Derived.Test.YtppmmlkamcclkaaGreatDoorRows
import GoSem.ClaimSeven
namespace Go.Proofs.YtppmmlkamcclkaaGreatDoor
namespace Rows

/-- THE TIED CARD OF 'tidingslaw24.BrokerHandsOver'. -/
def brokerHandsOverCard : Claim7 := { stood := { row := brokerHandsOverRow, standIns := [], harness := (true, "13033594a3e3003146fc845d85d4280fade77aea6a5a560dd6a5ee17a38906b0"), looks := true }, kinds := [], alts := [], laidByText := true, laidKinds := [.data, .sentinel, .pinned], laidTests := true, laidLooks := .later }
def BrokerHandsOverCardSaid : Prop := Claim7.holds Tryz.pinned (.plain (OpenSpec.ofChange brokerHandsOverSpec)) brokerHandsOverCard

/-- THE SECOND FORM's CARD OF 'tidingslaw24.BrokerHandsOver'. -/
def brokerHandsOverUptoCard : Claim7 := { stood := { row := brokerHandsOverUptoRow, standIns := [], harness := (true, "13033594a3e3003146fc845d85d4280fade77aea6a5a560dd6a5ee17a38906b0"), looks := true }, kinds := [], alts := [], laidByText := true, laidKinds := [.data, .sentinel, .pinned], laidTests := true, laidLooks := .later }
def BrokerHandsOverUptoCardSaid : Prop := Claim7.holds Tryz.pinned (.plain (OpenSpec.upto brokerHandsOverSpec)) brokerHandsOverUptoCard
end Rows
end Go.Proofs.YtppmmlkamcclkaaGreatDoor
