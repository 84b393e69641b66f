/-
  DERIVED. GIVEN WITH THE SEED: THE CARDS: each row of YtmheccmahfgpoaaGreatDoorRows.lean that lists a variable, with what it lists TIED to the program's text (the seventh form; the later family's looks); each row that meets fmt, with fmt's text TOLD by the authors' own Lean function (tested against real Go, not proved from fmt's source: count such statements apart). THE CARD IS WHAT COUNTS. Prove the row's statement (the work); the ties are given (YtmheccmahfgpoaaGreatDoorTie.lean); close each card by the builder's one call (the guide's Derived/Test/ToyasCard.lean, 'card_holds'). Laid BY PROGRAM, IN A SANDBOX (cutbox-door.mjs). By AI agents, Wed Nov 11 2026. No macro, syntax, notation, axiom, sorry.
-/
import Derived.Test.YtmheccmahfgpoaaGreatDoorRows
import GoSem.ClaimSeven
namespace Go.Proofs.YtmheccmahfgpoaaGreatDoor
namespace Rows

/-- THE TIED CARD OF 'tidingslaw26.NodeBridges'. -/
def nodeBridgesCard : Claim7 := { stood := { row := nodeBridgesRow, standIns := [], harness := (true, "ce51eceec5c8aa00e6c1a48f5db891d5baf79d70c4b3f9c712881124d8dda9b9"), looks := true }, kinds := [], alts := [], laidByText := true, laidKinds := [.pinned, .data, .sentinel, .data, .data, .data, .sentinel, .sentinel], laidTests := true, laidLooks := .later }
def NodeBridgesCardSaid : Prop := Claim7.holds Tryz.pinned (.plain (OpenSpec.ofChange nodeBridgesSpec)) nodeBridgesCard

/-- THE SECOND FORM's CARD OF 'tidingslaw26.NodeBridges'. -/
def nodeBridgesUptoCard : Claim7 := { stood := { row := nodeBridgesUptoRow, standIns := [], harness := (true, "ce51eceec5c8aa00e6c1a48f5db891d5baf79d70c4b3f9c712881124d8dda9b9"), looks := true }, kinds := [], alts := [], laidByText := true, laidKinds := [.pinned, .data, .sentinel, .data, .data, .data, .sentinel, .sentinel], laidTests := true, laidLooks := .later }
def NodeBridgesUptoCardSaid : Prop := Claim7.holds Tryz.pinned (.plain (OpenSpec.upto nodeBridgesSpec)) nodeBridgesUptoCard
end Rows
end Go.Proofs.YtmheccmahfgpoaaGreatDoor
