/-
  DERIVED. GIVEN WITH THE SEED: THE CARDS: each row of YtpaliddghngcmaaGreatDoorRows.lean that lists a variable, with what it lists TIED to the program's text (the seventh form; the later family's looks); each row that meets fmt, with fmt's text TOLD by the authors' own Lean function (tested against real Go, not proved from fmt's source: count such statements apart). THE CARD IS WHAT COUNTS. Prove the row's statement (the work); the ties are given (YtpaliddghngcmaaGreatDoorTie.lean); close each card by the builder's one call (the guide's Derived/Test/ToyasCard.lean, 'card_holds'). Laid BY PROGRAM, IN A SANDBOX (cutbox-door.mjs). By AI agents, Wed Nov 11 2026. No macro, syntax, notation, axiom, sorry.
-/
import Derived.Test.YtpaliddghngcmaaGreatDoorRows
import GoSem.ClaimSeven
namespace Go.Proofs.YtpaliddghngcmaaGreatDoor
namespace Rows

/-- THE TIED CARD OF 'tidingslaw24.BrokerStops'. -/
def brokerStopsCard : Claim7 := { stood := { row := brokerStopsRow, standIns := [], harness := (true, "b8eb24e078fb729478dfee78b415d9d71576e14de70bd71bc626ae030a266798"), looks := true }, kinds := [], alts := [], laidByText := true, laidKinds := [.data, .sentinel, .pinned], laidTests := true, laidLooks := .later }
def BrokerStopsCardSaid : Prop := Claim7.holds Tryz.pinned (.plain (OpenSpec.ofChange brokerStopsSpec)) brokerStopsCard

/-- THE TIED CARD OF 'tidingslaw24.BrokerDeals'. -/
def brokerDealsCard : Claim7 := { stood := { row := brokerDealsRow, standIns := [], harness := (true, "b8eb24e078fb729478dfee78b415d9d71576e14de70bd71bc626ae030a266798"), looks := true }, kinds := [], alts := [], laidByText := true, laidKinds := [.data, .sentinel, .pinned], laidTests := true, laidLooks := .later }
def BrokerDealsCardSaid : Prop := Claim7.holds Tryz.pinned (.plain (OpenSpec.ofChange brokerDealsSpec)) brokerDealsCard

/-- THE SECOND FORM's CARD OF 'tidingslaw24.BrokerStops'. -/
def brokerStopsUptoCard : Claim7 := { stood := { row := brokerStopsUptoRow, standIns := [], harness := (true, "b8eb24e078fb729478dfee78b415d9d71576e14de70bd71bc626ae030a266798"), looks := true }, kinds := [], alts := [], laidByText := true, laidKinds := [.data, .sentinel, .pinned], laidTests := true, laidLooks := .later }
def BrokerStopsUptoCardSaid : Prop := Claim7.holds Tryz.pinned (.plain (OpenSpec.upto brokerStopsSpec)) brokerStopsUptoCard

/-- THE SECOND FORM's CARD OF 'tidingslaw24.BrokerDeals'. -/
def brokerDealsUptoCard : Claim7 := { stood := { row := brokerDealsUptoRow, standIns := [], harness := (true, "b8eb24e078fb729478dfee78b415d9d71576e14de70bd71bc626ae030a266798"), looks := true }, kinds := [], alts := [], laidByText := true, laidKinds := [.data, .sentinel, .pinned], laidTests := true, laidLooks := .later }
def BrokerDealsUptoCardSaid : Prop := Claim7.holds Tryz.pinned (.plain (OpenSpec.upto brokerDealsSpec)) brokerDealsUptoCard
end Rows
end Go.Proofs.YtpaliddghngcmaaGreatDoor
