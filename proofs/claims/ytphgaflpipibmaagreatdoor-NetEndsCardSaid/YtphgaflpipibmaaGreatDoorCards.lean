/-
  DERIVED. GIVEN WITH THE SEED: THE CARDS: each row of YtphgaflpipibmaaGreatDoorRows.lean that lists a variable, with what it lists TIED to the program's text (the seventh form; the later family's looks); each row that meets fmt, with fmt's text TOLD by the authors' own Lean function (tested against real Go, not proved from fmt's source: count such statements apart). THE CARD IS WHAT COUNTS. Prove the row's statement (the work); the ties are given (YtphgaflpipibmaaGreatDoorTie.lean); close each card by the builder's one call (the guide's Derived/Test/ToyasCard.lean, 'card_holds'). Laid BY PROGRAM, IN A SANDBOX (cutbox-door.mjs). By AI agents, Wed Nov 11 2026. No macro, syntax, notation, axiom, sorry.
-/
import Derived.Test.YtphgaflpipibmaaGreatDoorRows
import GoSem.ClaimSeven
namespace Go.Proofs.YtphgaflpipibmaaGreatDoor
namespace Rows

/-- THE TIED CARD OF 'tidingslaw26.NodeEnds'. -/
def nodeEndsCard : Claim7 := { stood := { row := nodeEndsRow, standIns := [], harness := (true, "21455140012ff6bef293ac2e54a29528343d8b3fda932f1a99abe709c1d4f3fc"), looks := true }, kinds := [], alts := [], laidByText := true, laidKinds := [.pinned, .data, .sentinel, .data, .data, .data, .sentinel, .sentinel], laidTests := true, laidLooks := .later }
def NodeEndsCardSaid : Prop := Claim7.holds Tryz.pinned (.plain (OpenSpec.ofChange nodeEndsSpec)) nodeEndsCard

/-- THE TIED CARD OF 'tidingslaw28.NetEnds'. -/
def netEndsCard : Claim7 := { stood := { row := netEndsRow, standIns := [], harness := (true, "21455140012ff6bef293ac2e54a29528343d8b3fda932f1a99abe709c1d4f3fc"), looks := true }, kinds := [], alts := [], laidByText := true, laidKinds := [.pinned, .data, .sentinel, .data, .data, .data, .sentinel, .sentinel], laidTests := true, laidLooks := .later }
def NetEndsCardSaid : Prop := Claim7.holds Tryz.pinned (.plain (OpenSpec.ofChange netEndsSpec)) netEndsCard

/-- THE SECOND FORM's CARD OF 'tidingslaw26.NodeEnds'. -/
def nodeEndsUptoCard : Claim7 := { stood := { row := nodeEndsUptoRow, standIns := [], harness := (true, "21455140012ff6bef293ac2e54a29528343d8b3fda932f1a99abe709c1d4f3fc"), looks := true }, kinds := [], alts := [], laidByText := true, laidKinds := [.pinned, .data, .sentinel, .data, .data, .data, .sentinel, .sentinel], laidTests := true, laidLooks := .later }
def NodeEndsUptoCardSaid : Prop := Claim7.holds Tryz.pinned (.plain (OpenSpec.upto nodeEndsSpec)) nodeEndsUptoCard

/-- THE SECOND FORM's CARD OF 'tidingslaw28.NetEnds'. -/
def netEndsUptoCard : Claim7 := { stood := { row := netEndsUptoRow, standIns := [], harness := (true, "21455140012ff6bef293ac2e54a29528343d8b3fda932f1a99abe709c1d4f3fc"), looks := true }, kinds := [], alts := [], laidByText := true, laidKinds := [.pinned, .data, .sentinel, .data, .data, .data, .sentinel, .sentinel], laidTests := true, laidLooks := .later }
def NetEndsUptoCardSaid : Prop := Claim7.holds Tryz.pinned (.plain (OpenSpec.upto netEndsSpec)) netEndsUptoCard
end Rows
end Go.Proofs.YtphgaflpipibmaaGreatDoor
