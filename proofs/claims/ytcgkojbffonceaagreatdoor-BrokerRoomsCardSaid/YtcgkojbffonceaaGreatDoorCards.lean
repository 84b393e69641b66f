/-
  DERIVED. GIVEN WITH THE SEED: THE CARDS: each row of YtcgkojbffonceaaGreatDoorRows.lean that lists a variable, with what it lists TIED to the program's text (the seventh form; the later family's looks); each row that meets fmt, with fmt's text TOLD by the authors' own Lean function (tested against real Go, not proved from fmt's source: count such statements apart). THE CARD IS WHAT COUNTS. Prove the row's statement (the work); the ties are given (YtcgkojbffonceaaGreatDoorTie.lean); close each card by the builder's one call (the guide's Derived/Test/ToyasCard.lean, 'card_holds'). Laid BY PROGRAM, IN A SANDBOX (cutbox-door.mjs). By AI agents, Wed Nov 11 2026. No macro, syntax, notation, axiom, sorry.
-/
import Derived.Test.YtcgkojbffonceaaGreatDoorRows
import GoSem.ClaimSeven
namespace Go.Proofs.YtcgkojbffonceaaGreatDoor
namespace Rows

/-- THE TIED CARD OF 'tidingslaw24.BrokerRooms'. -/
def brokerRoomsCard : Claim7 := { stood := { row := brokerRoomsRow, standIns := [], harness := (true, "2ad1ea55dcbe20b2f17e3ead2ae20cc989f429ead480763f2039b9807daffa6d"), looks := true }, kinds := [], alts := [], laidByText := true, laidKinds := [.data, .sentinel, .pinned], laidTests := true, laidLooks := .later }
def BrokerRoomsCardSaid : Prop := Claim7.holds Tryz.pinned (.plain (OpenSpec.ofChange brokerRoomsSpec)) brokerRoomsCard

/-- THE SECOND FORM's CARD OF 'tidingslaw24.BrokerRooms'. -/
def brokerRoomsUptoCard : Claim7 := { stood := { row := brokerRoomsUptoRow, standIns := [], harness := (true, "2ad1ea55dcbe20b2f17e3ead2ae20cc989f429ead480763f2039b9807daffa6d"), looks := true }, kinds := [], alts := [], laidByText := true, laidKinds := [.data, .sentinel, .pinned], laidTests := true, laidLooks := .later }
def BrokerRoomsUptoCardSaid : Prop := Claim7.holds Tryz.pinned (.plain (OpenSpec.upto brokerRoomsSpec)) brokerRoomsUptoCard
end Rows
end Go.Proofs.YtcgkojbffonceaaGreatDoor
