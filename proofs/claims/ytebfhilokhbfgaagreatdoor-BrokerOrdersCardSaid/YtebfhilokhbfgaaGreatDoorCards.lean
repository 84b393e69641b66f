/-
  DERIVED. GIVEN WITH THE SEED: THE CARDS: each row of YtebfhilokhbfgaaGreatDoorRows.lean that lists a variable, with what it lists TIED to the program's text (the seventh form; the later family's looks); each row that meets fmt, with fmt's text TOLD by the authors' own Lean function (tested against real Go, not proved from fmt's source: count such statements apart). THE CARD IS WHAT COUNTS. Prove the row's statement (the work); the ties are given (YtebfhilokhbfgaaGreatDoorTie.lean); close each card by the builder's one call (the guide's Derived/Test/ToyasCard.lean, 'card_holds'). Laid BY PROGRAM, IN A SANDBOX (cutbox-door.mjs). By AI agents, Wed Nov 11 2026. No macro, syntax, notation, axiom, sorry.
-/
import Derived.Test.YtebfhilokhbfgaaGreatDoorRows
import GoSem.ClaimSeven
namespace Go.Proofs.YtebfhilokhbfgaaGreatDoor
namespace Rows

/-- THE TIED CARD OF 'tidingslaw24.BrokerOrders'. -/
def brokerOrdersCard : Claim7 := { stood := { row := brokerOrdersRow, standIns := [], harness := (true, "4134aa0521b1e7f1e79ef54bd46b8d5631e155db888dbe6840256e1977eb8596"), looks := true }, kinds := [], alts := [], laidByText := true, laidKinds := [.data, .sentinel, .pinned], laidTests := true, laidLooks := .later }
def BrokerOrdersCardSaid : Prop := Claim7.holds Tryz.pinned (.plain (OpenSpec.ofChange brokerOrdersSpec)) brokerOrdersCard

/-- THE SECOND FORM's CARD OF 'tidingslaw24.BrokerOrders'. -/
def brokerOrdersUptoCard : Claim7 := { stood := { row := brokerOrdersUptoRow, standIns := [], harness := (true, "4134aa0521b1e7f1e79ef54bd46b8d5631e155db888dbe6840256e1977eb8596"), looks := true }, kinds := [], alts := [], laidByText := true, laidKinds := [.data, .sentinel, .pinned], laidTests := true, laidLooks := .later }
def BrokerOrdersUptoCardSaid : Prop := Claim7.holds Tryz.pinned (.plain (OpenSpec.upto brokerOrdersSpec)) brokerOrdersUptoCard
end Rows
end Go.Proofs.YtebfhilokhbfgaaGreatDoor
