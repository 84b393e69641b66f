/-
  BrokerLasts hands back true for every input: by runs of a verified evaluator over the program's code, case by case.
  Conditions: none but those of the given row.
-/
import Derived.Test.YtfcgainglngmmaaGreatDoorRows
import Derived.Test.YtfcgainglngmmaaGreatDoorCards
import Derived.Test.YtfcgainglngmmaaGreatDoorTie
import Derived.Test.YtfcgainglngmmaaGreatDoorFacts
import Derived.Test.YtfcgainglngmmaaGreatDoorRun0
import Derived.Test.YtfcgainglngmmaaGreatDoorRun1
import Derived.WalkKit
import Derived.ProofKit
import Derived.OpenShut
import Derived.LaidMore
import Derived.Lay
import Derived.Stop.Joined
import Derived.SevenTiedAt
namespace Go.Proofs.YtfcgainglngmmaaGreatDoor.brokerLasts
open Go.ChangeShapes Go.WideShapes Go.ChangeAt Go.RowKit
set_option linter.unusedVariables false

section
variable {H : Type} {enc : TypeId × Value → H} {P : Program}
/-- what is left behind a call that has turned nothing that was there -/
theorem post_law {f : Func} {s : ChangeSpec} {apart fresh handsOn : Bool} {W W' : World} {args : Array Value} {v : Value} {ds gs : List (DataW H)} {before pa pv : List MemPlace}
    (hW : DataW.Whole enc P f.params.toList s.vars apart W args.toList ds gs before)
    (hr : ∀ (b : Nat) (sp : Nat → Bool) (hd : Bool), DataW.TrodAll enc P W' b sp hd f.resultTypes.toList (v.resultList f.resultTypes.size) (s.fn H (ds ++ gs)).results [])
    (ha : ∀ sp : Nat → Bool, (∀ p ∈ before, sp p.block = true) → DataW.TrodAll enc P W' 0 sp true f.params.toList args.toList (s.fn H (ds ++ gs)).args pa)
    (hv : ∀ sp : Nat → Bool, (∀ p ∈ before, sp p.block = true) → DataW.TrodVars enc P W' sp s.vars (s.fn H (ds ++ gs)).vars pv)
    (hp : before = pa ++ pv) (hb : Below W.heap.size W W') : s.post enc P f apart fresh handsOn false W args v W' := by
  have old : ∀ p ∈ before, (fun b => decide (b < W.heap.size)) p.block = true := fun p h => decide_eq_true (hW.lt p h)
  exact ⟨ds, gs, before, [], pa, pv, hW, hr _ _ _, ha _ old, hv _ old, World.keptBut_mono (fun p h => ⟨h, .inr (List.mem_append.1 (hp ▸ h))⟩) (hb.frame (· ∈ before)), fun h => by cases h⟩
end

theorem own : ownKnob Tryz.prog.godebug = none := by kernel_rfl

open Go.Ev in
set_option maxRecDepth 100000 in
theorem walk (a0 : Int) (a1 : Int) (a2 : Int) (w0 : (Lit.int .i64 a0).wf = true) (w1 : (Lit.int .i64 a1).wf = true) (w2 : (Lit.int .i64 a2).wf = true) (w : World) :
    Calls Tryz.prog 4 #[.int .i64 a0, .int .i64 a1, .int .i64 a2] w fun e w' => e = .returned (.bool true) ∧ Below w.heap.size w w' := by
  obtain ⟨j0, hj0, hw0⟩ := and_cases a0 31 (by decide)
  obtain ⟨j1, hj1, hw1⟩ := and_cases a1 63 (by decide)
  obtain ⟨j2, hj2, hw2⟩ := and_cases a2 7 (by decide)
  have c2 : j2 = 0 ∨ j2 = 1 ∨ j2 = 2 ∨ j2 = 3 ∨ j2 = 4 ∨ j2 = 5 ∨ j2 = 6 ∨ j2 = 7 := by omega
  rcases c2 with rfl | rfl | rfl | rfl | rfl | rfl | rfl | rfl
  · rcases Int.lt_or_le (-1 * (j0 : Int) + (1 * (j1 : Int) + 0)) (0) with h3 | h3
    · exact shut (σ := fun i => match i with | 0 => (Int.ofNat j0) | 1 => (Int.ofNat j1) | 2 => a0 | 3 => a1 | 4 => a2 | _ => 0) (K := ⟨[(0, 31), (0, 63)], [([(0, -1), (1, 1)], -31, -1)], [rv .and 2 31 (.sym (sv 0)), rv .and 3 63 (.sym (sv 1)), rv .and 4 7 (.nat 0)], fun _ => none⟩) (args := [.sym (sv 2), .sym (sv 3), .sym (sv 4)]) (knownOk ⟨show (0 : Int) ≤ (j0 : Int) ∧ (j0 : Int) ≤ 31 by omega, ⟨show (0 : Int) ≤ (j1 : Int) ∧ (j1 : Int) ≤ 63 by omega, trivial⟩⟩ ⟨show (-31 : Int) ≤ (-1 * (j0 : Int) + (1 * (j1 : Int) + 0)) ∧ (-1 * (j0 : Int) + (1 * (j1 : Int) + 0)) ≤ -1 by omega, trivial⟩ ⟨rv_sym hw0, ⟨rv_sym hw1, ⟨rv_ok hw2, trivial⟩⟩⟩) (relsI (relsI (relsI rels0))) (run0 _) w
    · exact shut (σ := fun i => match i with | 0 => (Int.ofNat j0) | 1 => (Int.ofNat j1) | 2 => a0 | 3 => a1 | 4 => a2 | _ => 0) (K := ⟨[(0, 31), (0, 63)], [([(0, -1), (1, 1)], 0, 63)], [rv .and 2 31 (.sym (sv 0)), rv .and 3 63 (.sym (sv 1)), rv .and 4 7 (.nat 0)], fun _ => none⟩) (args := [.sym (sv 2), .sym (sv 3), .sym (sv 4)]) (knownOk ⟨show (0 : Int) ≤ (j0 : Int) ∧ (j0 : Int) ≤ 31 by omega, ⟨show (0 : Int) ≤ (j1 : Int) ∧ (j1 : Int) ≤ 63 by omega, trivial⟩⟩ ⟨show (0 : Int) ≤ (-1 * (j0 : Int) + (1 * (j1 : Int) + 0)) ∧ (-1 * (j0 : Int) + (1 * (j1 : Int) + 0)) ≤ 63 by omega, trivial⟩ ⟨rv_sym hw0, ⟨rv_sym hw1, ⟨rv_ok hw2, trivial⟩⟩⟩) (relsI (relsI (relsI rels0))) (run1 _) w
  · rcases Int.lt_or_le (-1 * (j0 : Int) + (1 * (j1 : Int) + 0)) (0) with h4 | h4
    · exact shut (σ := fun i => match i with | 0 => (Int.ofNat j0) | 1 => (Int.ofNat j1) | 2 => a0 | 3 => a1 | 4 => a2 | _ => 0) (K := ⟨[(0, 31), (0, 63)], [([(0, -1), (1, 1)], -31, -1)], [rv .and 2 31 (.sym (sv 0)), rv .and 3 63 (.sym (sv 1)), rv .and 4 7 (.nat 1)], fun _ => none⟩) (args := [.sym (sv 2), .sym (sv 3), .sym (sv 4)]) (knownOk ⟨show (0 : Int) ≤ (j0 : Int) ∧ (j0 : Int) ≤ 31 by omega, ⟨show (0 : Int) ≤ (j1 : Int) ∧ (j1 : Int) ≤ 63 by omega, trivial⟩⟩ ⟨show (-31 : Int) ≤ (-1 * (j0 : Int) + (1 * (j1 : Int) + 0)) ∧ (-1 * (j0 : Int) + (1 * (j1 : Int) + 0)) ≤ -1 by omega, trivial⟩ ⟨rv_sym hw0, ⟨rv_sym hw1, ⟨rv_ok hw2, trivial⟩⟩⟩) (relsI (relsI (relsI rels0))) (run2 _) w
    · exact shut (σ := fun i => match i with | 0 => (Int.ofNat j0) | 1 => (Int.ofNat j1) | 2 => a0 | 3 => a1 | 4 => a2 | _ => 0) (K := ⟨[(0, 31), (0, 63)], [([(0, -1), (1, 1)], 0, 63)], [rv .and 2 31 (.sym (sv 0)), rv .and 3 63 (.sym (sv 1)), rv .and 4 7 (.nat 1)], fun _ => none⟩) (args := [.sym (sv 2), .sym (sv 3), .sym (sv 4)]) (knownOk ⟨show (0 : Int) ≤ (j0 : Int) ∧ (j0 : Int) ≤ 31 by omega, ⟨show (0 : Int) ≤ (j1 : Int) ∧ (j1 : Int) ≤ 63 by omega, trivial⟩⟩ ⟨show (0 : Int) ≤ (-1 * (j0 : Int) + (1 * (j1 : Int) + 0)) ∧ (-1 * (j0 : Int) + (1 * (j1 : Int) + 0)) ≤ 63 by omega, trivial⟩ ⟨rv_sym hw0, ⟨rv_sym hw1, ⟨rv_ok hw2, trivial⟩⟩⟩) (relsI (relsI (relsI rels0))) (run3 _) w
  · rcases Int.lt_or_le (-1 * (j0 : Int) + (1 * (j1 : Int) + 0)) (0) with h5 | h5
    · exact shut (σ := fun i => match i with | 0 => (Int.ofNat j0) | 1 => (Int.ofNat j1) | 2 => a0 | 3 => a1 | 4 => a2 | _ => 0) (K := ⟨[(0, 31), (0, 63)], [([(0, -1), (1, 1)], -31, -1)], [rv .and 2 31 (.sym (sv 0)), rv .and 3 63 (.sym (sv 1)), rv .and 4 7 (.nat 2)], fun _ => none⟩) (args := [.sym (sv 2), .sym (sv 3), .sym (sv 4)]) (knownOk ⟨show (0 : Int) ≤ (j0 : Int) ∧ (j0 : Int) ≤ 31 by omega, ⟨show (0 : Int) ≤ (j1 : Int) ∧ (j1 : Int) ≤ 63 by omega, trivial⟩⟩ ⟨show (-31 : Int) ≤ (-1 * (j0 : Int) + (1 * (j1 : Int) + 0)) ∧ (-1 * (j0 : Int) + (1 * (j1 : Int) + 0)) ≤ -1 by omega, trivial⟩ ⟨rv_sym hw0, ⟨rv_sym hw1, ⟨rv_ok hw2, trivial⟩⟩⟩) (relsI (relsI (relsI rels0))) (run4 _) w
    · exact shut (σ := fun i => match i with | 0 => (Int.ofNat j0) | 1 => (Int.ofNat j1) | 2 => a0 | 3 => a1 | 4 => a2 | _ => 0) (K := ⟨[(0, 31), (0, 63)], [([(0, -1), (1, 1)], 0, 63)], [rv .and 2 31 (.sym (sv 0)), rv .and 3 63 (.sym (sv 1)), rv .and 4 7 (.nat 2)], fun _ => none⟩) (args := [.sym (sv 2), .sym (sv 3), .sym (sv 4)]) (knownOk ⟨show (0 : Int) ≤ (j0 : Int) ∧ (j0 : Int) ≤ 31 by omega, ⟨show (0 : Int) ≤ (j1 : Int) ∧ (j1 : Int) ≤ 63 by omega, trivial⟩⟩ ⟨show (0 : Int) ≤ (-1 * (j0 : Int) + (1 * (j1 : Int) + 0)) ∧ (-1 * (j0 : Int) + (1 * (j1 : Int) + 0)) ≤ 63 by omega, trivial⟩ ⟨rv_sym hw0, ⟨rv_sym hw1, ⟨rv_ok hw2, trivial⟩⟩⟩) (relsI (relsI (relsI rels0))) (run5 _) w
  · rcases Int.lt_or_le (-1 * (j0 : Int) + (1 * (j1 : Int) + 0)) (0) with h6 | h6
    · exact shut (σ := fun i => match i with | 0 => (Int.ofNat j0) | 1 => (Int.ofNat j1) | 2 => a0 | 3 => a1 | 4 => a2 | _ => 0) (K := ⟨[(0, 31), (0, 63)], [([(0, -1), (1, 1)], -31, -1)], [rv .and 2 31 (.sym (sv 0)), rv .and 3 63 (.sym (sv 1)), rv .and 4 7 (.nat 3)], fun _ => none⟩) (args := [.sym (sv 2), .sym (sv 3), .sym (sv 4)]) (knownOk ⟨show (0 : Int) ≤ (j0 : Int) ∧ (j0 : Int) ≤ 31 by omega, ⟨show (0 : Int) ≤ (j1 : Int) ∧ (j1 : Int) ≤ 63 by omega, trivial⟩⟩ ⟨show (-31 : Int) ≤ (-1 * (j0 : Int) + (1 * (j1 : Int) + 0)) ∧ (-1 * (j0 : Int) + (1 * (j1 : Int) + 0)) ≤ -1 by omega, trivial⟩ ⟨rv_sym hw0, ⟨rv_sym hw1, ⟨rv_ok hw2, trivial⟩⟩⟩) (relsI (relsI (relsI rels0))) (run6 _) w
    · exact shut (σ := fun i => match i with | 0 => (Int.ofNat j0) | 1 => (Int.ofNat j1) | 2 => a0 | 3 => a1 | 4 => a2 | _ => 0) (K := ⟨[(0, 31), (0, 63)], [([(0, -1), (1, 1)], 0, 63)], [rv .and 2 31 (.sym (sv 0)), rv .and 3 63 (.sym (sv 1)), rv .and 4 7 (.nat 3)], fun _ => none⟩) (args := [.sym (sv 2), .sym (sv 3), .sym (sv 4)]) (knownOk ⟨show (0 : Int) ≤ (j0 : Int) ∧ (j0 : Int) ≤ 31 by omega, ⟨show (0 : Int) ≤ (j1 : Int) ∧ (j1 : Int) ≤ 63 by omega, trivial⟩⟩ ⟨show (0 : Int) ≤ (-1 * (j0 : Int) + (1 * (j1 : Int) + 0)) ∧ (-1 * (j0 : Int) + (1 * (j1 : Int) + 0)) ≤ 63 by omega, trivial⟩ ⟨rv_sym hw0, ⟨rv_sym hw1, ⟨rv_ok hw2, trivial⟩⟩⟩) (relsI (relsI (relsI rels0))) (run7 _) w
  · rcases Int.lt_or_le (-1 * (j0 : Int) + (1 * (j1 : Int) + 0)) (0) with h7 | h7
    · exact shut (σ := fun i => match i with | 0 => (Int.ofNat j0) | 1 => (Int.ofNat j1) | 2 => a0 | 3 => a1 | 4 => a2 | _ => 0) (K := ⟨[(0, 31), (0, 63)], [([(0, -1), (1, 1)], -31, -1)], [rv .and 2 31 (.sym (sv 0)), rv .and 3 63 (.sym (sv 1)), rv .and 4 7 (.nat 4)], fun _ => none⟩) (args := [.sym (sv 2), .sym (sv 3), .sym (sv 4)]) (knownOk ⟨show (0 : Int) ≤ (j0 : Int) ∧ (j0 : Int) ≤ 31 by omega, ⟨show (0 : Int) ≤ (j1 : Int) ∧ (j1 : Int) ≤ 63 by omega, trivial⟩⟩ ⟨show (-31 : Int) ≤ (-1 * (j0 : Int) + (1 * (j1 : Int) + 0)) ∧ (-1 * (j0 : Int) + (1 * (j1 : Int) + 0)) ≤ -1 by omega, trivial⟩ ⟨rv_sym hw0, ⟨rv_sym hw1, ⟨rv_ok hw2, trivial⟩⟩⟩) (relsI (relsI (relsI rels0))) (run8 _) w
    · exact shut (σ := fun i => match i with | 0 => (Int.ofNat j0) | 1 => (Int.ofNat j1) | 2 => a0 | 3 => a1 | 4 => a2 | _ => 0) (K := ⟨[(0, 31), (0, 63)], [([(0, -1), (1, 1)], 0, 63)], [rv .and 2 31 (.sym (sv 0)), rv .and 3 63 (.sym (sv 1)), rv .and 4 7 (.nat 4)], fun _ => none⟩) (args := [.sym (sv 2), .sym (sv 3), .sym (sv 4)]) (knownOk ⟨show (0 : Int) ≤ (j0 : Int) ∧ (j0 : Int) ≤ 31 by omega, ⟨show (0 : Int) ≤ (j1 : Int) ∧ (j1 : Int) ≤ 63 by omega, trivial⟩⟩ ⟨show (0 : Int) ≤ (-1 * (j0 : Int) + (1 * (j1 : Int) + 0)) ∧ (-1 * (j0 : Int) + (1 * (j1 : Int) + 0)) ≤ 63 by omega, trivial⟩ ⟨rv_sym hw0, ⟨rv_sym hw1, ⟨rv_ok hw2, trivial⟩⟩⟩) (relsI (relsI (relsI rels0))) (run9 _) w
  · rcases Int.lt_or_le (-1 * (j0 : Int) + (1 * (j1 : Int) + 0)) (0) with h8 | h8
    · exact shut (σ := fun i => match i with | 0 => (Int.ofNat j0) | 1 => (Int.ofNat j1) | 2 => a0 | 3 => a1 | 4 => a2 | _ => 0) (K := ⟨[(0, 31), (0, 63)], [([(0, -1), (1, 1)], -31, -1)], [rv .and 2 31 (.sym (sv 0)), rv .and 3 63 (.sym (sv 1)), rv .and 4 7 (.nat 5)], fun _ => none⟩) (args := [.sym (sv 2), .sym (sv 3), .sym (sv 4)]) (knownOk ⟨show (0 : Int) ≤ (j0 : Int) ∧ (j0 : Int) ≤ 31 by omega, ⟨show (0 : Int) ≤ (j1 : Int) ∧ (j1 : Int) ≤ 63 by omega, trivial⟩⟩ ⟨show (-31 : Int) ≤ (-1 * (j0 : Int) + (1 * (j1 : Int) + 0)) ∧ (-1 * (j0 : Int) + (1 * (j1 : Int) + 0)) ≤ -1 by omega, trivial⟩ ⟨rv_sym hw0, ⟨rv_sym hw1, ⟨rv_ok hw2, trivial⟩⟩⟩) (relsI (relsI (relsI rels0))) (run10 _) w
    · exact shut (σ := fun i => match i with | 0 => (Int.ofNat j0) | 1 => (Int.ofNat j1) | 2 => a0 | 3 => a1 | 4 => a2 | _ => 0) (K := ⟨[(0, 31), (0, 63)], [([(0, -1), (1, 1)], 0, 63)], [rv .and 2 31 (.sym (sv 0)), rv .and 3 63 (.sym (sv 1)), rv .and 4 7 (.nat 5)], fun _ => none⟩) (args := [.sym (sv 2), .sym (sv 3), .sym (sv 4)]) (knownOk ⟨show (0 : Int) ≤ (j0 : Int) ∧ (j0 : Int) ≤ 31 by omega, ⟨show (0 : Int) ≤ (j1 : Int) ∧ (j1 : Int) ≤ 63 by omega, trivial⟩⟩ ⟨show (0 : Int) ≤ (-1 * (j0 : Int) + (1 * (j1 : Int) + 0)) ∧ (-1 * (j0 : Int) + (1 * (j1 : Int) + 0)) ≤ 63 by omega, trivial⟩ ⟨rv_sym hw0, ⟨rv_sym hw1, ⟨rv_ok hw2, trivial⟩⟩⟩) (relsI (relsI (relsI rels0))) (run11 _) w
  · rcases Int.lt_or_le (-1 * (j0 : Int) + (1 * (j1 : Int) + 0)) (0) with h9 | h9
    · exact shut (σ := fun i => match i with | 0 => (Int.ofNat j0) | 1 => (Int.ofNat j1) | 2 => a0 | 3 => a1 | 4 => a2 | _ => 0) (K := ⟨[(0, 31), (0, 63)], [([(0, -1), (1, 1)], -31, -1)], [rv .and 2 31 (.sym (sv 0)), rv .and 3 63 (.sym (sv 1)), rv .and 4 7 (.nat 6)], fun _ => none⟩) (args := [.sym (sv 2), .sym (sv 3), .sym (sv 4)]) (knownOk ⟨show (0 : Int) ≤ (j0 : Int) ∧ (j0 : Int) ≤ 31 by omega, ⟨show (0 : Int) ≤ (j1 : Int) ∧ (j1 : Int) ≤ 63 by omega, trivial⟩⟩ ⟨show (-31 : Int) ≤ (-1 * (j0 : Int) + (1 * (j1 : Int) + 0)) ∧ (-1 * (j0 : Int) + (1 * (j1 : Int) + 0)) ≤ -1 by omega, trivial⟩ ⟨rv_sym hw0, ⟨rv_sym hw1, ⟨rv_ok hw2, trivial⟩⟩⟩) (relsI (relsI (relsI rels0))) (run12 _) w
    · exact shut (σ := fun i => match i with | 0 => (Int.ofNat j0) | 1 => (Int.ofNat j1) | 2 => a0 | 3 => a1 | 4 => a2 | _ => 0) (K := ⟨[(0, 31), (0, 63)], [([(0, -1), (1, 1)], 0, 63)], [rv .and 2 31 (.sym (sv 0)), rv .and 3 63 (.sym (sv 1)), rv .and 4 7 (.nat 6)], fun _ => none⟩) (args := [.sym (sv 2), .sym (sv 3), .sym (sv 4)]) (knownOk ⟨show (0 : Int) ≤ (j0 : Int) ∧ (j0 : Int) ≤ 31 by omega, ⟨show (0 : Int) ≤ (j1 : Int) ∧ (j1 : Int) ≤ 63 by omega, trivial⟩⟩ ⟨show (0 : Int) ≤ (-1 * (j0 : Int) + (1 * (j1 : Int) + 0)) ∧ (-1 * (j0 : Int) + (1 * (j1 : Int) + 0)) ≤ 63 by omega, trivial⟩ ⟨rv_sym hw0, ⟨rv_sym hw1, ⟨rv_ok hw2, trivial⟩⟩⟩) (relsI (relsI (relsI rels0))) (run13 _) w
  · rcases Int.lt_or_le (-1 * (j0 : Int) + (1 * (j1 : Int) + 0)) (0) with h10 | h10
    · exact shut (σ := fun i => match i with | 0 => (Int.ofNat j0) | 1 => (Int.ofNat j1) | 2 => a0 | 3 => a1 | 4 => a2 | _ => 0) (K := ⟨[(0, 31), (0, 63)], [([(0, -1), (1, 1)], -31, -1)], [rv .and 2 31 (.sym (sv 0)), rv .and 3 63 (.sym (sv 1)), rv .and 4 7 (.nat 7)], fun _ => none⟩) (args := [.sym (sv 2), .sym (sv 3), .sym (sv 4)]) (knownOk ⟨show (0 : Int) ≤ (j0 : Int) ∧ (j0 : Int) ≤ 31 by omega, ⟨show (0 : Int) ≤ (j1 : Int) ∧ (j1 : Int) ≤ 63 by omega, trivial⟩⟩ ⟨show (-31 : Int) ≤ (-1 * (j0 : Int) + (1 * (j1 : Int) + 0)) ∧ (-1 * (j0 : Int) + (1 * (j1 : Int) + 0)) ≤ -1 by omega, trivial⟩ ⟨rv_sym hw0, ⟨rv_sym hw1, ⟨rv_ok hw2, trivial⟩⟩⟩) (relsI (relsI (relsI rels0))) (run14 _) w
    · exact shut (σ := fun i => match i with | 0 => (Int.ofNat j0) | 1 => (Int.ofNat j1) | 2 => a0 | 3 => a1 | 4 => a2 | _ => 0) (K := ⟨[(0, 31), (0, 63)], [([(0, -1), (1, 1)], 0, 63)], [rv .and 2 31 (.sym (sv 0)), rv .and 3 63 (.sym (sv 1)), rv .and 4 7 (.nat 7)], fun _ => none⟩) (args := [.sym (sv 2), .sym (sv 3), .sym (sv 4)]) (knownOk ⟨show (0 : Int) ≤ (j0 : Int) ∧ (j0 : Int) ≤ 31 by omega, ⟨show (0 : Int) ≤ (j1 : Int) ∧ (j1 : Int) ≤ 63 by omega, trivial⟩⟩ ⟨show (0 : Int) ≤ (-1 * (j0 : Int) + (1 * (j1 : Int) + 0)) ∧ (-1 * (j0 : Int) + (1 * (j1 : Int) + 0)) ≤ 63 by omega, trivial⟩ ⟨rv_sym hw0, ⟨rv_sym hw1, ⟨rv_ok hw2, trivial⟩⟩⟩) (relsI (relsI (relsI rels0))) (run15 _) w

set_option maxRecDepth 100000 in
theorem lifted (os : Os) (started : os.Started) (H : Type) (enc : TypeId × Value → H) :
    ReturnsInHanded {} Tryz.checked os 4 .any (fun w args => (Rows.brokerLastsSpec.pre enc Tryz.prog Tryz.f4 Rows.brokerLastsRow.domain false w args ∧ laidMetH Tryz.prog Rows.brokerLastsRow.laid w) ∧ sizedMet enc Tryz.prog Tryz.f4 (OpenSpec.ofChange Rows.brokerLastsSpec) false w args)
      (Rows.brokerLastsSpec.post enc Tryz.prog Tryz.f4 false true false false) := by
  refine returnsInHanded_of_change_and (C := Tryz.checked) (X := fun w _ => laidMetH Tryz.prog Rows.brokerLastsRow.laid w) (fun _ _ _ hh h => h.of_heap hh) own started (by kernel_rfl) Tryz.func4
    (ChangeSpec.witness_shaped (enc := enc) (C := Tryz.checked) (os := os) (X := fun w _ => laidMetH Tryz.prog Rows.brokerLastsRow.laid w) false (World.laidAll Tryz.prog os Rows.brokerLastsRow.laid) #[.int .i64 0, .int .i64 0, .int .i64 0] 8 (World.laidAll_os _ _ _)
      (World.shaped_of_ZipB (by kernel_rfl) (by kernel_rfl)) (by kernel_rfl) (by kernel_rfl) (by kernel_rfl)
      (by rw [MakeChecks.laidMetH_plain _ _ _ (by kernel_rfl)]; exact laidMet_laidAll _ (by kernel_rfl) (by kernel_rfl))) ?_
  intro W base args ds gs before hval0 hW hcnd _ hL _
  have hval : ∀ (j : Nat) t v, Tryz.f4.params[j]? = some t → args[j]? = some v → Value.okWide Tryz.prog W .any base t v := hval0
  have hW' := hW
  obtain ⟨p, q, hA0, hV, rfl, hfz, hnd⟩ := hW
  have hA : DataW.TrodAll enc Tryz.prog W 0 (fun _ => true) true Tryz.f4.params.toList args.toList ds p := hA0
  rw [Tryz.params4] at hA hval
  obtain ⟨v0, vs0, d0, ds0, p0, q0, hargs, rfl, rfl, h0, r0⟩ := trodAll_cons hA
  obtain ⟨v1, vs1, d1, ds1, p1, q1, rfl, rfl, rfl, h1, r1⟩ := trodAll_cons r0
  obtain ⟨v2, vs2, d2, ds2, p2, q2, rfl, rfl, rfl, h2, r2⟩ := trodAll_cons r1
  obtain ⟨rfl, rfl, rfl⟩ := trodAll_nil r2
  obtain rfl : args = #[v0, v1, v2] := by cases args; simp_all
  obtain ⟨rfl, rfl⟩ := trodVars_none hV
  obtain ⟨a0, rfl, rfl, rfl, w0⟩ := open_int Tryz.underlying3 (hval 0 3 v0 rfl rfl) h0
  obtain ⟨a1, rfl, rfl, rfl, w1⟩ := open_int Tryz.underlying3 (hval 1 3 v1 rfl rfl) h1
  obtain ⟨a2, rfl, rfl, rfl, w2⟩ := open_int Tryz.underlying3 (hval 2 3 v2 rfl rfl) h2
  clear hA0 hval0
  simp only [List.append_nil] at hW'
  refine (walk a0 a1 a2 w0 w1 w2 W).mono fun e W' ⟨he, hg⟩ => ?_
  subst he
  exact ⟨_, rfl, post_law (pa := []) (pv := []) hW' (fun _ _ _ => (trodAll_cons_mk (shut_bool Tryz.underlying4 _) trodAll_mk0)) (fun sp _ => (trodAll_cons_mk (shut_int Tryz.underlying3 w0) (trodAll_cons_mk (shut_int Tryz.underlying3 w1) (trodAll_cons_mk (shut_int Tryz.underlying3 w2) trodAll_mk0)))) (fun _ _ => rfl) rfl hg⟩

theorem over : Rows.brokerLastsRow.holds Tryz.pinned (OpenSpec.ofChange Rows.brokerLastsSpec) :=
  OpenClaim.holds_of_wide 4 Tryz.f4 rfl rfl rfl rfl rfl rfl rfl ⟨rfl, rfl, rfl, rfl, rfl⟩ rfl rfl rfl rfl rfl (by kernel_rfl) Tryz.func4 closed
    (of_decide_eq_true (by kernel_rfl)) (by unfold Func.isWrapper; first | (rw [if_pos (by decide +kernel)]; kernel_rfl) | (rw [if_neg (by decide +kernel)]; exact ⟨rfl, rfl⟩))
    (fun os started H enc _ => lifted os started H enc)


theorem card_m : Tryz.pinned.checked.prog.mainIs = some (true, "db814ebe7eebebddd02197359e1e28bf73e4cd3d8e570d868b088bed876fe796".toList) := by kernel_rfl
theorem proved : Rows.BrokerLastsCardSaid :=
  Claim7.holds_tied_plain_at .later [] [.data, .sentinel, .pinned] true (true, "db814ebe7eebebddd02197359e1e28bf73e4cd3d8e570d868b088bed876fe796") true
    over (fun _ h => by cases h) card_w (fun _ h => by cases h) brokerLasts_row_tie rfl ⟨rfl, rfl⟩ card_m rfl
    (fun f fn hf hfn => by
      obtain rfl : f = 4 := Option.some.inj ((show Tryz.prog.funcNamed Rows.brokerLastsRow.func = some 4 by kernel_rfl).symm.trans hf) |>.symm
      obtain rfl : fn = Tryz.f4 := (Option.some.inj (Tryz.func4.symm.trans hfn)).symm
      exact ⟨card_l, fun j t ht => by
          rw [Tryz.params4] at ht
          rcases j with _ | j
          · (have h : t = 3 := by simpa using ht.symm); subst h; exact (show Tryz.prog.wantsStandIn 3 = false by kernel_rfl)
          rcases j with _ | j
          · (have h : t = 3 := by simpa using ht.symm); subst h; exact (show Tryz.prog.wantsStandIn 3 = false by kernel_rfl)
          rcases j with _ | j
          · (have h : t = 3 := by simpa using ht.symm); subst h; exact (show Tryz.prog.wantsStandIn 3 = false by kernel_rfl)
          simp at ht⟩)
    card_g
#print axioms proved
end Go.Proofs.YtfcgainglngmmaaGreatDoor.brokerLasts
