/-
  DERIVED. GIVEN WITH THE SEED: THE CARDS: each row of YtkcgbbfdnmpjoaaGreatDoorRows.lean that lists a variable, with what it lists TIED to the program's text (the seventh form; the later family's looks); each row that meets fmt, with fmt's text TOLD by the authors' own Lean function (tested against real Go, not proved from fmt's source: count such statements apart). THE CARD IS WHAT COUNTS. Prove the row's statement (the work); the ties are given (YtkcgbbfdnmpjoaaGreatDoorTie.lean); close each card by the builder's one call (the guide's Derived/Test/ToyasCard.lean, 'card_holds'). Laid BY PROGRAM, IN A SANDBOX (cutbox-door.mjs). By AI agents, Wed Nov 11 2026. No macro, syntax, notation, axiom, sorry.
-/
import Derived.Test.YtkcgbbfdnmpjoaaGreatDoorRows
import GoSem.ClaimSeven
namespace Go.Proofs.YtkcgbbfdnmpjoaaGreatDoor
namespace Rows

/-- THE TIED CARD OF 'tidingslaw24.BrokerProves'. -/
def brokerProvesCard : Claim7 := { stood := { row := brokerProvesRow, standIns := [], harness := (true, "25c922627d9c15d05f5939e94b24f9a9f745b9b4fcc658f2e5bef7b48d510d75"), looks := true }, kinds := [], alts := [], laidByText := true, laidKinds := [.data, .sentinel, .pinned], laidTests := true, laidLooks := .later }
def BrokerProvesCardSaid : Prop := Claim7.holds Tryz.pinned (.plain (OpenSpec.ofChange brokerProvesSpec)) brokerProvesCard

/-- THE SECOND FORM's CARD OF 'tidingslaw24.BrokerProves'. -/
def brokerProvesUptoCard : Claim7 := { stood := { row := brokerProvesUptoRow, standIns := [], harness := (true, "25c922627d9c15d05f5939e94b24f9a9f745b9b4fcc658f2e5bef7b48d510d75"), looks := true }, kinds := [], alts := [], laidByText := true, laidKinds := [.data, .sentinel, .pinned], laidTests := true, laidLooks := .later }
def BrokerProvesUptoCardSaid : Prop := Claim7.holds Tryz.pinned (.plain (OpenSpec.upto brokerProvesSpec)) brokerProvesUptoCard
end Rows
end Go.Proofs.YtkcgbbfdnmpjoaaGreatDoor
