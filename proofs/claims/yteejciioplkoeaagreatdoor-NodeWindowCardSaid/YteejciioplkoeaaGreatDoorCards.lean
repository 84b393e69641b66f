/-
  DERIVED. GIVEN WITH THE SEED: THE CARDS: each row of YteejciioplkoeaaGreatDoorRows.lean that lists a variable, with what it lists TIED to the program's text (the seventh form; the later family's looks); each row that meets fmt, with fmt's text TOLD by the authors' own Lean function (tested against real Go, not proved from fmt's source: count such statements apart). THE CARD IS WHAT COUNTS. Prove the row's statement (the work); the ties are given (YteejciioplkoeaaGreatDoorTie.lean); close each card by the builder's one call (the guide's Derived/Test/ToyasCard.lean, 'card_holds'). Laid BY PROGRAM, IN A SANDBOX (cutbox-door.mjs). By AI agents, Wed Nov 11 2026. No macro, syntax, notation, axiom, sorry.
-/
import Derived.Test.YteejciioplkoeaaGreatDoorRows
import GoSem.ClaimSeven
namespace Go.Proofs.YteejciioplkoeaaGreatDoor
namespace Rows

/-- THE TIED CARD OF 'tidingslaw26.NodeWindow'. -/
def nodeWindowCard : Claim7 := { stood := { row := nodeWindowRow, standIns := [], harness := (true, "cfa0693093f5e53ce6aab6faaa6df759d4b1905e55ba3e66b2b07bfa6702cd00"), looks := true }, kinds := [], alts := [], laidByText := true, laidKinds := [.pinned, .data, .sentinel, .data, .data, .data, .sentinel, .sentinel], laidTests := true, laidLooks := .later }
def NodeWindowCardSaid : Prop := Claim7.holds Tryz.pinned (.plain (OpenSpec.ofChange nodeWindowSpec)) nodeWindowCard

/-- THE SECOND FORM's CARD OF 'tidingslaw26.NodeWindow'. -/
def nodeWindowUptoCard : Claim7 := { stood := { row := nodeWindowUptoRow, standIns := [], harness := (true, "cfa0693093f5e53ce6aab6faaa6df759d4b1905e55ba3e66b2b07bfa6702cd00"), looks := true }, kinds := [], alts := [], laidByText := true, laidKinds := [.pinned, .data, .sentinel, .data, .data, .data, .sentinel, .sentinel], laidTests := true, laidLooks := .later }
def NodeWindowUptoCardSaid : Prop := Claim7.holds Tryz.pinned (.plain (OpenSpec.upto nodeWindowSpec)) nodeWindowUptoCard
end Rows
end Go.Proofs.YteejciioplkoeaaGreatDoor
