/-
  DERIVED. GIVEN WITH THE SEED: THE CARDS: each row of YtgaghdmaddnfmaaGreatDoorRows.lean that lists a variable, with what it lists TIED to the program's text (the seventh form; the later family's looks); each row that meets fmt, with fmt's text TOLD by the authors' own Lean function (tested against real Go, not proved from fmt's source: count such statements apart). THE CARD IS WHAT COUNTS. Prove the row's statement (the work); the ties are given (YtgaghdmaddnfmaaGreatDoorTie.lean); close each card by the builder's one call (the guide's Derived/Test/ToyasCard.lean, 'card_holds'). Laid BY PROGRAM, IN A SANDBOX (cutbox-door.mjs). By AI agents, Wed Nov 11 2026. No macro, syntax, notation, axiom, sorry.
-/
import Derived.Test.YtgaghdmaddnfmaaGreatDoorRows
import GoSem.ClaimSeven
namespace Go.Proofs.YtgaghdmaddnfmaaGreatDoor
namespace Rows

/-- THE TIED CARD OF 'tidingslaw24.BrokerOnce'. -/
def brokerOnceCard : Claim7 := { stood := { row := brokerOnceRow, standIns := [], harness := (true, "d3a0a4e24098ee808f0c13a7bad85dea2cce30c25a3e3068d507eaa5a62389d7"), looks := true }, kinds := [], alts := [], laidByText := true, laidKinds := [.data, .sentinel, .pinned], laidTests := true, laidLooks := .later }
def BrokerOnceCardSaid : Prop := Claim7.holds Tryz.pinned (.plain (OpenSpec.ofChange brokerOnceSpec)) brokerOnceCard

/-- THE SECOND FORM's CARD OF 'tidingslaw24.BrokerOnce'. -/
def brokerOnceUptoCard : Claim7 := { stood := { row := brokerOnceUptoRow, standIns := [], harness := (true, "d3a0a4e24098ee808f0c13a7bad85dea2cce30c25a3e3068d507eaa5a62389d7"), looks := true }, kinds := [], alts := [], laidByText := true, laidKinds := [.data, .sentinel, .pinned], laidTests := true, laidLooks := .later }
def BrokerOnceUptoCardSaid : Prop := Claim7.holds Tryz.pinned (.plain (OpenSpec.upto brokerOnceSpec)) brokerOnceUptoCard
end Rows
end Go.Proofs.YtgaghdmaddnfmaaGreatDoor
