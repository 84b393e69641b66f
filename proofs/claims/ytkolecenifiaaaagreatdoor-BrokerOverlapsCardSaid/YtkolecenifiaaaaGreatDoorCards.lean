/-
  DERIVED. GIVEN WITH THE SEED: THE CARDS: each row of YtkolecenifiaaaaGreatDoorRows.lean that lists a variable, with what it lists TIED to the program's text (the seventh form; the later family's looks); each row that meets fmt, with fmt's text TOLD by the authors' own Lean function (tested against real Go, not proved from fmt's source: count such statements apart). THE CARD IS WHAT COUNTS. Prove the row's statement (the work); the ties are given (YtkolecenifiaaaaGreatDoorTie.lean); close each card by the builder's one call (the guide's Derived/Test/ToyasCard.lean, 'card_holds'). Laid BY PROGRAM, IN A SANDBOX (cutbox-door.mjs). By AI agents, Wed Nov 11 2026. No macro, syntax, notation, axiom, sorry.
-/
import Derived.Test.YtkolecenifiaaaaGreatDoorRows
import GoSem.ClaimSeven
namespace Go.Proofs.YtkolecenifiaaaaGreatDoor
namespace Rows

/-- THE TIED CARD OF 'tidingslaw24.BrokerOverlaps'. -/
def brokerOverlapsCard : Claim7 := { stood := { row := brokerOverlapsRow, standIns := [], harness := (true, "7c5288924ee31d3bb6fcdc661ae64f1576b1366ebb694fb59e9ae5c04e2fc96f"), looks := true }, kinds := [], alts := [], laidByText := true, laidKinds := [.data, .sentinel, .pinned], laidTests := true, laidLooks := .later }
def BrokerOverlapsCardSaid : Prop := Claim7.holds Tryz.pinned (.plain (OpenSpec.ofChange brokerOverlapsSpec)) brokerOverlapsCard

/-- THE TIED CARD OF 'tidingslaw24.BrokerNames'. -/
def brokerNamesCard : Claim7 := { stood := { row := brokerNamesRow, standIns := [], harness := (true, "7c5288924ee31d3bb6fcdc661ae64f1576b1366ebb694fb59e9ae5c04e2fc96f"), looks := true }, kinds := [], alts := [], laidByText := true, laidKinds := [.data, .sentinel, .pinned], laidTests := true, laidLooks := .later }
def BrokerNamesCardSaid : Prop := Claim7.holds Tryz.pinned (.plain (OpenSpec.ofChange brokerNamesSpec)) brokerNamesCard

/-- THE SECOND FORM's CARD OF 'tidingslaw24.BrokerOverlaps'. -/
def brokerOverlapsUptoCard : Claim7 := { stood := { row := brokerOverlapsUptoRow, standIns := [], harness := (true, "7c5288924ee31d3bb6fcdc661ae64f1576b1366ebb694fb59e9ae5c04e2fc96f"), looks := true }, kinds := [], alts := [], laidByText := true, laidKinds := [.data, .sentinel, .pinned], laidTests := true, laidLooks := .later }
def BrokerOverlapsUptoCardSaid : Prop := Claim7.holds Tryz.pinned (.plain (OpenSpec.upto brokerOverlapsSpec)) brokerOverlapsUptoCard

/-- THE SECOND FORM's CARD OF 'tidingslaw24.BrokerNames'. -/
def brokerNamesUptoCard : Claim7 := { stood := { row := brokerNamesUptoRow, standIns := [], harness := (true, "7c5288924ee31d3bb6fcdc661ae64f1576b1366ebb694fb59e9ae5c04e2fc96f"), looks := true }, kinds := [], alts := [], laidByText := true, laidKinds := [.data, .sentinel, .pinned], laidTests := true, laidLooks := .later }
def BrokerNamesUptoCardSaid : Prop := Claim7.holds Tryz.pinned (.plain (OpenSpec.upto brokerNamesSpec)) brokerNamesUptoCard
end Rows
end Go.Proofs.YtkolecenifiaaaaGreatDoor
