/-
  DERIVED. GIVEN WITH THE SEED: THE CARDS: each row of YtpcoeilcgjaddaaGreatDoorRows.lean that lists a variable, with what it lists TIED to the program's text (the seventh form; the later family's looks); each row that meets fmt, with fmt's text TOLD by the authors' own Lean function (tested against real Go, not proved from fmt's source: count such statements apart). THE CARD IS WHAT COUNTS. Prove the row's statement (the work); the ties are given (YtpcoeilcgjaddaaGreatDoorTie.lean); close each card by the builder's one call (the guide's Derived/Test/ToyasCard.lean, 'card_holds'). Laid BY PROGRAM, IN A SANDBOX (cutbox-door.mjs). By AI agents, Wed Nov 11 2026. No macro, syntax, notation, axiom, sorry.
-/
import Derived.Test.YtpcoeilcgjaddaaGreatDoorRows
import GoSem.ClaimSeven
namespace Go.Proofs.YtpcoeilcgjaddaaGreatDoor
namespace Rows

/-- THE TIED CARD OF 'tidingslaw24.BrokerKeeps'. -/
def brokerKeepsCard : Claim7 := { stood := { row := brokerKeepsRow, standIns := [], harness := (true, "0f1147010c92723713f16c4f1b983550c3d45866ba851325101a31db58ded3ce"), looks := true }, kinds := [], alts := [], laidByText := true, laidKinds := [.data, .sentinel, .pinned], laidTests := true, laidLooks := .later }
def BrokerKeepsCardSaid : Prop := Claim7.holds Tryz.pinned (.plain (OpenSpec.ofChange brokerKeepsSpec)) brokerKeepsCard

/-- THE SECOND FORM's CARD OF 'tidingslaw24.BrokerKeeps'. -/
def brokerKeepsUptoCard : Claim7 := { stood := { row := brokerKeepsUptoRow, standIns := [], harness := (true, "0f1147010c92723713f16c4f1b983550c3d45866ba851325101a31db58ded3ce"), looks := true }, kinds := [], alts := [], laidByText := true, laidKinds := [.data, .sentinel, .pinned], laidTests := true, laidLooks := .later }
def BrokerKeepsUptoCardSaid : Prop := Claim7.holds Tryz.pinned (.plain (OpenSpec.upto brokerKeepsSpec)) brokerKeepsUptoCard
end Rows
end Go.Proofs.YtpcoeilcgjaddaaGreatDoor
