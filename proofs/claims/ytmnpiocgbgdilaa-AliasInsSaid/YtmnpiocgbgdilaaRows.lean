/-
  No cell of these rows narrows 'for every input' (looked for: loops, veiled, ifaces, maps, wideKeys, modest, calm, conditions, laid).
  DERIVED. THE GIVEN ROWS OF THIS SEAT. 3 by the template 'for every input the law returns true; each argument reads behind the call as it read before'; 0 by the template 'total and deterministic' (their statements: YtmnpiocgbgdilaaTotals.lean).
  GIVEN WITH THE SEED: the statements are not yours to turn. If you find one false, say at which input.
  Laid BY PROGRAM, IN A SANDBOX (cutbox-rows.mjs): the forced cells as the released guide's own fill.sh prints them over the translation 41b4918d4ede30ef… (all of the seat's roots in one cut). By AI agents, Wed Nov 11 2026. No macro, syntax, notation, axiom, sorry.
-/
import Derived.Test.YtmnpiocgbgdilaaChecked
import GoSem.Claim
import GoSem.ClaimJoined
import GoSem.ClaimMapViews
import Derived.JoinedTies
import Derived.KernelRfl
namespace Go.Proofs.Ytmnpiocgbgdilaa
/- THE CELL 'sum', in the pinned program and in every row, IS THE sha256 OF THE DUMP (.gsa) THAT YtmnpiocgbgdilaaProg.lean LOADS. Nothing in Lean hashes anything: it is a label: what it is worth is what the hold of that sum in a sandbox is worth. -/
noncomputable def Try.pinned : Pinned := { name := "ytmnpiocgbgdilaa", sum := "41b4918d4ede30ef7a5ea817b502d01960930d1ac7cefc7562432f65987ee4c3", checked := Try.checked }
namespace Rows
def none {H : Type} : Left H := { results := [], args := [] }

/-- 'tidingslaw17.AliasIns': WHATEVER THE INPUT: true; the input reads as it did. -/
def aliasInsSpec : ChangeSpec := { name := "aliasIns", fn := fun _ => fun
  | [d1, d2] => { results := [.lit (.bool true)], args := [d1, d2] }
  | _ => none }
def aliasInsRow : OpenClaim := { program := "ytmnpiocgbgdilaa", sum := "41b4918d4ede30ef7a5ea817b502d01960930d1ac7cefc7562432f65987ee4c3", func := "tidings/tidingslaw17.AliasIns", spec := "aliasIns", apart := false }
def AliasInsSaid : Prop := aliasInsRow.holds Try.pinned (OpenSpec.ofChange aliasInsSpec)

/-- ITS FALSE NEIGHBOUR: 'it returns false'. Refute it at one input. -/
def aliasInsWrong : ChangeSpec := { name := "aliasIns", fn := fun _ => fun
  | [d1, d2] => { results := [.lit (.bool false)], args := [d1, d2] }
  | _ => none }
def AliasInsWrongFalsely : Prop := aliasInsRow.holds Try.pinned (OpenSpec.ofChange aliasInsWrong)

/-- 'tidingslaw17.AliasOuts': WHATEVER THE INPUT: true; the input reads as it did. -/
def aliasOutsSpec : ChangeSpec := { name := "aliasOuts", fn := fun _ => fun
  | [d1, d2] => { results := [.lit (.bool true)], args := [d1, d2] }
  | _ => none }
def aliasOutsRow : OpenClaim := { program := "ytmnpiocgbgdilaa", sum := "41b4918d4ede30ef7a5ea817b502d01960930d1ac7cefc7562432f65987ee4c3", func := "tidings/tidingslaw17.AliasOuts", spec := "aliasOuts", apart := false }
def AliasOutsSaid : Prop := aliasOutsRow.holds Try.pinned (OpenSpec.ofChange aliasOutsSpec)

/-- ITS FALSE NEIGHBOUR: 'it returns false'. Refute it at one input. -/
def aliasOutsWrong : ChangeSpec := { name := "aliasOuts", fn := fun _ => fun
  | [d1, d2] => { results := [.lit (.bool false)], args := [d1, d2] }
  | _ => none }
def AliasOutsWrongFalsely : Prop := aliasOutsRow.holds Try.pinned (OpenSpec.ofChange aliasOutsWrong)

/-- 'tidingslaw17.AliasBoth': WHATEVER THE INPUT: true; the input reads as it did. -/
def aliasBothSpec : ChangeSpec := { name := "aliasBoth", fn := fun _ => fun
  | [d1, d2] => { results := [.lit (.bool true)], args := [d1, d2] }
  | _ => none }
def aliasBothRow : OpenClaim := { program := "ytmnpiocgbgdilaa", sum := "41b4918d4ede30ef7a5ea817b502d01960930d1ac7cefc7562432f65987ee4c3", func := "tidings/tidingslaw17.AliasBoth", spec := "aliasBoth", apart := false }
def AliasBothSaid : Prop := aliasBothRow.holds Try.pinned (OpenSpec.ofChange aliasBothSpec)

/-- ITS FALSE NEIGHBOUR: 'it returns false'. Refute it at one input. -/
def aliasBothWrong : ChangeSpec := { name := "aliasBoth", fn := fun _ => fun
  | [d1, d2] => { results := [.lit (.bool false)], args := [d1, d2] }
  | _ => none }
def AliasBothWrongFalsely : Prop := aliasBothRow.holds Try.pinned (OpenSpec.ofChange aliasBothWrong)

/- THE SECOND FORM. 'bulk': how many values and letters a reading holds, each counted each time it is reached (what is shared counts as often as it is met; a slice's spare places count too). A statement '..UptoSaid' is the law's where the arguments, and the package variables that the reading takes, are together of bulk at most 1048576: NARROWER than '..Said'. Prove '..Said' where nothing that the law and all that it calls make is longer than what came in: it says more and counts as full. Else prove '..UptoSaid'. A law counts once. -/
mutual
def uptoBulk {H : Type} : DataW H → Nat
  | .lit (.string bytes) => bytes.length + 1
  | .lit _ => 1
  | .nil => 1
  | .ptr d => uptoBulk d + 1
  | .slice elems spare => uptoBulkAll elems + uptoBulkAll spare + 1
  | .agg parts => uptoBulkAll parts + 1
  | .iface _ d => uptoBulk d + 1
  | .map entries => uptoBulkEntries entries + 1
  | .held _ => 1
def uptoBulkAll {H : Type} : List (DataW H) → Nat
  | [] => 0
  | d :: r => uptoBulk d + uptoBulkAll r
def uptoBulkEntries {H : Type} : List (Lit × DataW H) → Nat
  | [] => 0
  | x :: r => uptoBulkEntry x + uptoBulkEntries r
def uptoBulkEntry {H : Type} : Lit × DataW H → Nat
  | (.string bytes, d) => bytes.length + uptoBulk d + 1
  | (_, d) => uptoBulk d + 1
 end
def uptoSmall : (H : Type) → List (DataW H) → Bool := fun _ ds => decide (uptoBulkAll ds ≤ 1048576)
def OpenSpec.upto (s : _root_.Go.ChangeSpec) : _root_.Go.OpenSpec := { _root_.Go.OpenSpec.ofChange s with cond := some uptoSmall }

/-- 'tidingslaw17.AliasIns', WHERE WHAT IT READS IS OF BULK AT MOST 1048576: true; the input reads as it did. -/
def aliasInsUptoRow : OpenClaim := { program := "ytmnpiocgbgdilaa", sum := "41b4918d4ede30ef7a5ea817b502d01960930d1ac7cefc7562432f65987ee4c3", func := "tidings/tidingslaw17.AliasIns", spec := "aliasIns", apart := false, narrowed := true }
def AliasInsUptoSaid : Prop := aliasInsUptoRow.holds Try.pinned (OpenSpec.upto aliasInsSpec)

/-- 'tidingslaw17.AliasOuts', WHERE WHAT IT READS IS OF BULK AT MOST 1048576: true; the input reads as it did. -/
def aliasOutsUptoRow : OpenClaim := { program := "ytmnpiocgbgdilaa", sum := "41b4918d4ede30ef7a5ea817b502d01960930d1ac7cefc7562432f65987ee4c3", func := "tidings/tidingslaw17.AliasOuts", spec := "aliasOuts", apart := false, narrowed := true }
def AliasOutsUptoSaid : Prop := aliasOutsUptoRow.holds Try.pinned (OpenSpec.upto aliasOutsSpec)

/-- 'tidingslaw17.AliasBoth', WHERE WHAT IT READS IS OF BULK AT MOST 1048576: true; the input reads as it did. -/
def aliasBothUptoRow : OpenClaim := { program := "ytmnpiocgbgdilaa", sum := "41b4918d4ede30ef7a5ea817b502d01960930d1ac7cefc7562432f65987ee4c3", func := "tidings/tidingslaw17.AliasBoth", spec := "aliasBoth", apart := false, narrowed := true }
def AliasBothUptoSaid : Prop := aliasBothUptoRow.holds Try.pinned (OpenSpec.upto aliasBothSpec)

end Rows
end Go.Proofs.Ytmnpiocgbgdilaa
