/-
  BrokerRooms hands back true for every input: by runs of a verified evaluator over the program's code, case by case.
  Conditions: none but those of the given row.
-/
import Derived.Test.YtcgkojbffonceaaGreatDoorRows
import Derived.Test.YtcgkojbffonceaaGreatDoorCards
import Derived.Test.YtcgkojbffonceaaGreatDoorTie
import Derived.Test.YtcgkojbffonceaaGreatDoorFacts
import Derived.Test.YtcgkojbffonceaaGreatDoorRun0
import Derived.Test.YtcgkojbffonceaaGreatDoorRun1
import Derived.Test.YtcgkojbffonceaaGreatDoorRun2
import Derived.Test.YtcgkojbffonceaaGreatDoorRun3
import Derived.Test.YtcgkojbffonceaaGreatDoorRun4
import Derived.Test.YtcgkojbffonceaaGreatDoorRun5
import Derived.Test.YtcgkojbffonceaaGreatDoorRun6
import Derived.WalkKit
import Derived.ProofKit
import Derived.OpenShut
import Derived.LaidMore
import Derived.Lay
import Derived.Stop.Joined
import Derived.SevenTiedAt
namespace Go.Proofs.YtcgkojbffonceaaGreatDoor.brokerRooms
open Go.ChangeShapes Go.WideShapes Go.ChangeAt Go.RowKit
set_option linter.unusedVariables false

section
variable {H : Type} {enc : TypeId × Value → H} {P : Program}
/-- what is left behind a call that has turned nothing that was there -/
theorem post_law {f : Func} {s : ChangeSpec} {apart fresh handsOn : Bool} {W W' : World} {args : Array Value} {v : Value} {ds gs : List (DataW H)} {before pa pv : List MemPlace}
    (hW : DataW.Whole enc P f.params.toList s.vars apart W args.toList ds gs before)
    (hr : ∀ (b : Nat) (sp : Nat → Bool) (hd : Bool), DataW.TrodAll enc P W' b sp hd f.resultTypes.toList (v.resultList f.resultTypes.size) (s.fn H (ds ++ gs)).results [])
    (ha : ∀ sp : Nat → Bool, (∀ p ∈ before, sp p.block = true) → DataW.TrodAll enc P W' 0 sp true f.params.toList args.toList (s.fn H (ds ++ gs)).args pa)
    (hv : ∀ sp : Nat → Bool, (∀ p ∈ before, sp p.block = true) → DataW.TrodVars enc P W' sp s.vars (s.fn H (ds ++ gs)).vars pv)
    (hp : before = pa ++ pv) (hb : Below W.heap.size W W') : s.post enc P f apart fresh handsOn false W args v W' := by
  have old : ∀ p ∈ before, (fun b => decide (b < W.heap.size)) p.block = true := fun p h => decide_eq_true (hW.lt p h)
  exact ⟨ds, gs, before, [], pa, pv, hW, hr _ _ _, ha _ old, hv _ old, World.keptBut_mono (fun p h => ⟨h, .inr (List.mem_append.1 (hp ▸ h))⟩) (hb.frame (· ∈ before)), fun h => by cases h⟩
end

theorem own : ownKnob Tryz.prog.godebug = none := by kernel_rfl

open Go.Ev in
set_option maxRecDepth 100000 in
theorem walk (a0 : Int) (a1 : Int) (w0 : (Lit.int .i64 a0).wf = true) (w1 : (Lit.int .i64 a1).wf = true) (w : World) :
    Calls Tryz.prog 3 #[.int .i64 a0, .int .i64 a1] w fun e w' => e = .returned (.bool true) ∧ Below w.heap.size w w' := by
  obtain ⟨j0, hj0, hw0⟩ := rem_cases a0 2
  have c0 : j0 = -2 ∨ j0 = -1 ∨ j0 = 0 ∨ j0 = 1 ∨ j0 = 2 := by omega
  rcases c0 with rfl | rfl | rfl | rfl | rfl
  · obtain ⟨j1, hj1, hw1⟩ := and_cases a1 7 (by decide)
    have c1 : j1 = 0 ∨ j1 = 1 ∨ j1 = 2 ∨ j1 = 3 ∨ j1 = 4 ∨ j1 = 5 ∨ j1 = 6 ∨ j1 = 7 := by omega
    rcases c1 with rfl | rfl | rfl | rfl | rfl | rfl | rfl | rfl
    · exact shut (σ := fun i => match i with | 0 => a0 | 1 => a1 | 2 => 0 | _ => 0) (K := ⟨[], [], [rv .rem 0 3 (.int .i64 (.negSucc 1)), rv .and 1 7 (.nat 0)], fun _ => none⟩) (args := [.sym (sv 0), .sym (sv 1)]) (knownOk trivial trivial ⟨rv_ok hw0, ⟨rv_ok hw1, trivial⟩⟩) (relsI (relsI rels0)) (run0 _) w
    · exact shut (σ := fun i => match i with | 0 => a0 | 1 => a1 | 2 => 0 | _ => 0) (K := ⟨[], [], [rv .rem 0 3 (.int .i64 (.negSucc 1)), rv .and 1 7 (.nat 1)], fun _ => none⟩) (args := [.sym (sv 0), .sym (sv 1)]) (knownOk trivial trivial ⟨rv_ok hw0, ⟨rv_ok hw1, trivial⟩⟩) (relsI (relsI rels0)) (run1 _) w
    · exact shut (σ := fun i => match i with | 0 => a0 | 1 => a1 | 2 => 0 | _ => 0) (K := ⟨[], [], [rv .rem 0 3 (.int .i64 (.negSucc 1)), rv .and 1 7 (.nat 2)], fun _ => none⟩) (args := [.sym (sv 0), .sym (sv 1)]) (knownOk trivial trivial ⟨rv_ok hw0, ⟨rv_ok hw1, trivial⟩⟩) (relsI (relsI rels0)) (run2 _) w
    · exact shut (σ := fun i => match i with | 0 => a0 | 1 => a1 | 2 => 0 | _ => 0) (K := ⟨[], [], [rv .rem 0 3 (.int .i64 (.negSucc 1)), rv .and 1 7 (.nat 3)], fun _ => none⟩) (args := [.sym (sv 0), .sym (sv 1)]) (knownOk trivial trivial ⟨rv_ok hw0, ⟨rv_ok hw1, trivial⟩⟩) (relsI (relsI rels0)) (run3 _) w
    · exact shut (σ := fun i => match i with | 0 => a0 | 1 => a1 | 2 => 0 | _ => 0) (K := ⟨[], [], [rv .rem 0 3 (.int .i64 (.negSucc 1)), rv .and 1 7 (.nat 4)], fun _ => none⟩) (args := [.sym (sv 0), .sym (sv 1)]) (knownOk trivial trivial ⟨rv_ok hw0, ⟨rv_ok hw1, trivial⟩⟩) (relsI (relsI rels0)) (run4 _) w
    · exact shut (σ := fun i => match i with | 0 => a0 | 1 => a1 | 2 => 0 | _ => 0) (K := ⟨[], [], [rv .rem 0 3 (.int .i64 (.negSucc 1)), rv .and 1 7 (.nat 5)], fun _ => none⟩) (args := [.sym (sv 0), .sym (sv 1)]) (knownOk trivial trivial ⟨rv_ok hw0, ⟨rv_ok hw1, trivial⟩⟩) (relsI (relsI rels0)) (run5 _) w
    · exact shut (σ := fun i => match i with | 0 => a0 | 1 => a1 | 2 => 0 | _ => 0) (K := ⟨[], [], [rv .rem 0 3 (.int .i64 (.negSucc 1)), rv .and 1 7 (.nat 6)], fun _ => none⟩) (args := [.sym (sv 0), .sym (sv 1)]) (knownOk trivial trivial ⟨rv_ok hw0, ⟨rv_ok hw1, trivial⟩⟩) (relsI (relsI rels0)) (run6 _) w
    · exact shut (σ := fun i => match i with | 0 => a0 | 1 => a1 | 2 => 0 | _ => 0) (K := ⟨[], [], [rv .rem 0 3 (.int .i64 (.negSucc 1)), rv .and 1 7 (.nat 7)], fun _ => none⟩) (args := [.sym (sv 0), .sym (sv 1)]) (knownOk trivial trivial ⟨rv_ok hw0, ⟨rv_ok hw1, trivial⟩⟩) (relsI (relsI rels0)) (run7 _) w
  · obtain ⟨j2, hj2, hw2⟩ := and_cases a1 7 (by decide)
    have c2 : j2 = 0 ∨ j2 = 1 ∨ j2 = 2 ∨ j2 = 3 ∨ j2 = 4 ∨ j2 = 5 ∨ j2 = 6 ∨ j2 = 7 := by omega
    rcases c2 with rfl | rfl | rfl | rfl | rfl | rfl | rfl | rfl
    · obtain ⟨j3, hw3⟩ := shr_cases a1 3
      obtain ⟨j4, hj4, hw4⟩ := and_cases j3 1 (by decide)
      have c4 : j4 = 0 ∨ j4 = 1 := by omega
      rcases c4 with rfl | rfl
      · exact shut (σ := fun i => match i with | 0 => a0 | 1 => a1 | 2 => j3 | _ => 0) (K := ⟨[], [], [rv .rem 0 3 (.int .i64 (.negSucc 0)), rv .and 1 7 (.nat 0), rv .shr 1 3 (.sym (sv 2)), rv .and 2 1 (.nat 0)], fun _ => none⟩) (args := [.sym (sv 0), .sym (sv 1)]) (knownOk trivial trivial ⟨rv_ok hw0, ⟨rv_ok hw2, ⟨rv_sym hw3, ⟨rv_ok hw4, trivial⟩⟩⟩⟩) (relsI (relsI rels0)) (run8 _) w
      · exact shut (σ := fun i => match i with | 0 => a0 | 1 => a1 | 2 => j3 | _ => 0) (K := ⟨[], [], [rv .rem 0 3 (.int .i64 (.negSucc 0)), rv .and 1 7 (.nat 0), rv .shr 1 3 (.sym (sv 2)), rv .and 2 1 (.nat 1)], fun _ => none⟩) (args := [.sym (sv 0), .sym (sv 1)]) (knownOk trivial trivial ⟨rv_ok hw0, ⟨rv_ok hw2, ⟨rv_sym hw3, ⟨rv_ok hw4, trivial⟩⟩⟩⟩) (relsI (relsI rels0)) (run9 _) w
    · obtain ⟨j5, hw5⟩ := shr_cases a1 3
      obtain ⟨j6, hj6, hw6⟩ := and_cases j5 1 (by decide)
      have c6 : j6 = 0 ∨ j6 = 1 := by omega
      rcases c6 with rfl | rfl
      · exact shut (σ := fun i => match i with | 0 => a0 | 1 => a1 | 2 => j5 | _ => 0) (K := ⟨[], [], [rv .rem 0 3 (.int .i64 (.negSucc 0)), rv .and 1 7 (.nat 1), rv .shr 1 3 (.sym (sv 2)), rv .and 2 1 (.nat 0)], fun _ => none⟩) (args := [.sym (sv 0), .sym (sv 1)]) (knownOk trivial trivial ⟨rv_ok hw0, ⟨rv_ok hw2, ⟨rv_sym hw5, ⟨rv_ok hw6, trivial⟩⟩⟩⟩) (relsI (relsI rels0)) (run10 _) w
      · exact shut (σ := fun i => match i with | 0 => a0 | 1 => a1 | 2 => j5 | _ => 0) (K := ⟨[], [], [rv .rem 0 3 (.int .i64 (.negSucc 0)), rv .and 1 7 (.nat 1), rv .shr 1 3 (.sym (sv 2)), rv .and 2 1 (.nat 1)], fun _ => none⟩) (args := [.sym (sv 0), .sym (sv 1)]) (knownOk trivial trivial ⟨rv_ok hw0, ⟨rv_ok hw2, ⟨rv_sym hw5, ⟨rv_ok hw6, trivial⟩⟩⟩⟩) (relsI (relsI rels0)) (run11 _) w
    · obtain ⟨j7, hw7⟩ := shr_cases a1 3
      obtain ⟨j8, hj8, hw8⟩ := and_cases j7 1 (by decide)
      have c8 : j8 = 0 ∨ j8 = 1 := by omega
      rcases c8 with rfl | rfl
      · exact shut (σ := fun i => match i with | 0 => a0 | 1 => a1 | 2 => j7 | _ => 0) (K := ⟨[], [], [rv .rem 0 3 (.int .i64 (.negSucc 0)), rv .and 1 7 (.nat 2), rv .shr 1 3 (.sym (sv 2)), rv .and 2 1 (.nat 0)], fun _ => none⟩) (args := [.sym (sv 0), .sym (sv 1)]) (knownOk trivial trivial ⟨rv_ok hw0, ⟨rv_ok hw2, ⟨rv_sym hw7, ⟨rv_ok hw8, trivial⟩⟩⟩⟩) (relsI (relsI rels0)) (run12 _) w
      · exact shut (σ := fun i => match i with | 0 => a0 | 1 => a1 | 2 => j7 | _ => 0) (K := ⟨[], [], [rv .rem 0 3 (.int .i64 (.negSucc 0)), rv .and 1 7 (.nat 2), rv .shr 1 3 (.sym (sv 2)), rv .and 2 1 (.nat 1)], fun _ => none⟩) (args := [.sym (sv 0), .sym (sv 1)]) (knownOk trivial trivial ⟨rv_ok hw0, ⟨rv_ok hw2, ⟨rv_sym hw7, ⟨rv_ok hw8, trivial⟩⟩⟩⟩) (relsI (relsI rels0)) (run13 _) w
    · obtain ⟨j9, hw9⟩ := shr_cases a1 3
      obtain ⟨j10, hj10, hw10⟩ := and_cases j9 1 (by decide)
      have c10 : j10 = 0 ∨ j10 = 1 := by omega
      rcases c10 with rfl | rfl
      · exact shut (σ := fun i => match i with | 0 => a0 | 1 => a1 | 2 => j9 | _ => 0) (K := ⟨[], [], [rv .rem 0 3 (.int .i64 (.negSucc 0)), rv .and 1 7 (.nat 3), rv .shr 1 3 (.sym (sv 2)), rv .and 2 1 (.nat 0)], fun _ => none⟩) (args := [.sym (sv 0), .sym (sv 1)]) (knownOk trivial trivial ⟨rv_ok hw0, ⟨rv_ok hw2, ⟨rv_sym hw9, ⟨rv_ok hw10, trivial⟩⟩⟩⟩) (relsI (relsI rels0)) (run14 _) w
      · exact shut (σ := fun i => match i with | 0 => a0 | 1 => a1 | 2 => j9 | _ => 0) (K := ⟨[], [], [rv .rem 0 3 (.int .i64 (.negSucc 0)), rv .and 1 7 (.nat 3), rv .shr 1 3 (.sym (sv 2)), rv .and 2 1 (.nat 1)], fun _ => none⟩) (args := [.sym (sv 0), .sym (sv 1)]) (knownOk trivial trivial ⟨rv_ok hw0, ⟨rv_ok hw2, ⟨rv_sym hw9, ⟨rv_ok hw10, trivial⟩⟩⟩⟩) (relsI (relsI rels0)) (run15 _) w
    · obtain ⟨j11, hw11⟩ := shr_cases a1 3
      obtain ⟨j12, hj12, hw12⟩ := and_cases j11 1 (by decide)
      have c12 : j12 = 0 ∨ j12 = 1 := by omega
      rcases c12 with rfl | rfl
      · exact shut (σ := fun i => match i with | 0 => a0 | 1 => a1 | 2 => j11 | _ => 0) (K := ⟨[], [], [rv .rem 0 3 (.int .i64 (.negSucc 0)), rv .and 1 7 (.nat 4), rv .shr 1 3 (.sym (sv 2)), rv .and 2 1 (.nat 0)], fun _ => none⟩) (args := [.sym (sv 0), .sym (sv 1)]) (knownOk trivial trivial ⟨rv_ok hw0, ⟨rv_ok hw2, ⟨rv_sym hw11, ⟨rv_ok hw12, trivial⟩⟩⟩⟩) (relsI (relsI rels0)) (run16 _) w
      · exact shut (σ := fun i => match i with | 0 => a0 | 1 => a1 | 2 => j11 | _ => 0) (K := ⟨[], [], [rv .rem 0 3 (.int .i64 (.negSucc 0)), rv .and 1 7 (.nat 4), rv .shr 1 3 (.sym (sv 2)), rv .and 2 1 (.nat 1)], fun _ => none⟩) (args := [.sym (sv 0), .sym (sv 1)]) (knownOk trivial trivial ⟨rv_ok hw0, ⟨rv_ok hw2, ⟨rv_sym hw11, ⟨rv_ok hw12, trivial⟩⟩⟩⟩) (relsI (relsI rels0)) (run17 _) w
    · obtain ⟨j13, hw13⟩ := shr_cases a1 3
      obtain ⟨j14, hj14, hw14⟩ := and_cases j13 1 (by decide)
      have c14 : j14 = 0 ∨ j14 = 1 := by omega
      rcases c14 with rfl | rfl
      · exact shut (σ := fun i => match i with | 0 => a0 | 1 => a1 | 2 => j13 | _ => 0) (K := ⟨[], [], [rv .rem 0 3 (.int .i64 (.negSucc 0)), rv .and 1 7 (.nat 5), rv .shr 1 3 (.sym (sv 2)), rv .and 2 1 (.nat 0)], fun _ => none⟩) (args := [.sym (sv 0), .sym (sv 1)]) (knownOk trivial trivial ⟨rv_ok hw0, ⟨rv_ok hw2, ⟨rv_sym hw13, ⟨rv_ok hw14, trivial⟩⟩⟩⟩) (relsI (relsI rels0)) (run18 _) w
      · exact shut (σ := fun i => match i with | 0 => a0 | 1 => a1 | 2 => j13 | _ => 0) (K := ⟨[], [], [rv .rem 0 3 (.int .i64 (.negSucc 0)), rv .and 1 7 (.nat 5), rv .shr 1 3 (.sym (sv 2)), rv .and 2 1 (.nat 1)], fun _ => none⟩) (args := [.sym (sv 0), .sym (sv 1)]) (knownOk trivial trivial ⟨rv_ok hw0, ⟨rv_ok hw2, ⟨rv_sym hw13, ⟨rv_ok hw14, trivial⟩⟩⟩⟩) (relsI (relsI rels0)) (run19 _) w
    · obtain ⟨j15, hw15⟩ := shr_cases a1 3
      obtain ⟨j16, hj16, hw16⟩ := and_cases j15 1 (by decide)
      have c16 : j16 = 0 ∨ j16 = 1 := by omega
      rcases c16 with rfl | rfl
      · exact shut (σ := fun i => match i with | 0 => a0 | 1 => a1 | 2 => j15 | _ => 0) (K := ⟨[], [], [rv .rem 0 3 (.int .i64 (.negSucc 0)), rv .and 1 7 (.nat 6), rv .shr 1 3 (.sym (sv 2)), rv .and 2 1 (.nat 0)], fun _ => none⟩) (args := [.sym (sv 0), .sym (sv 1)]) (knownOk trivial trivial ⟨rv_ok hw0, ⟨rv_ok hw2, ⟨rv_sym hw15, ⟨rv_ok hw16, trivial⟩⟩⟩⟩) (relsI (relsI rels0)) (run20 _) w
      · exact shut (σ := fun i => match i with | 0 => a0 | 1 => a1 | 2 => j15 | _ => 0) (K := ⟨[], [], [rv .rem 0 3 (.int .i64 (.negSucc 0)), rv .and 1 7 (.nat 6), rv .shr 1 3 (.sym (sv 2)), rv .and 2 1 (.nat 1)], fun _ => none⟩) (args := [.sym (sv 0), .sym (sv 1)]) (knownOk trivial trivial ⟨rv_ok hw0, ⟨rv_ok hw2, ⟨rv_sym hw15, ⟨rv_ok hw16, trivial⟩⟩⟩⟩) (relsI (relsI rels0)) (run21 _) w
    · obtain ⟨j17, hw17⟩ := shr_cases a1 3
      obtain ⟨j18, hj18, hw18⟩ := and_cases j17 1 (by decide)
      have c18 : j18 = 0 ∨ j18 = 1 := by omega
      rcases c18 with rfl | rfl
      · exact shut (σ := fun i => match i with | 0 => a0 | 1 => a1 | 2 => j17 | _ => 0) (K := ⟨[], [], [rv .rem 0 3 (.int .i64 (.negSucc 0)), rv .and 1 7 (.nat 7), rv .shr 1 3 (.sym (sv 2)), rv .and 2 1 (.nat 0)], fun _ => none⟩) (args := [.sym (sv 0), .sym (sv 1)]) (knownOk trivial trivial ⟨rv_ok hw0, ⟨rv_ok hw2, ⟨rv_sym hw17, ⟨rv_ok hw18, trivial⟩⟩⟩⟩) (relsI (relsI rels0)) (run22 _) w
      · exact shut (σ := fun i => match i with | 0 => a0 | 1 => a1 | 2 => j17 | _ => 0) (K := ⟨[], [], [rv .rem 0 3 (.int .i64 (.negSucc 0)), rv .and 1 7 (.nat 7), rv .shr 1 3 (.sym (sv 2)), rv .and 2 1 (.nat 1)], fun _ => none⟩) (args := [.sym (sv 0), .sym (sv 1)]) (knownOk trivial trivial ⟨rv_ok hw0, ⟨rv_ok hw2, ⟨rv_sym hw17, ⟨rv_ok hw18, trivial⟩⟩⟩⟩) (relsI (relsI rels0)) (run23 _) w
  · obtain ⟨j19, hj19, hw19⟩ := and_cases a1 7 (by decide)
    have c19 : j19 = 0 ∨ j19 = 1 ∨ j19 = 2 ∨ j19 = 3 ∨ j19 = 4 ∨ j19 = 5 ∨ j19 = 6 ∨ j19 = 7 := by omega
    rcases c19 with rfl | rfl | rfl | rfl | rfl | rfl | rfl | rfl
    · exact shut (σ := fun i => match i with | 0 => a0 | 1 => a1 | 2 => 0 | _ => 0) (K := ⟨[], [], [rv .rem 0 3 (.nat 0), rv .and 1 7 (.nat 0)], fun _ => none⟩) (args := [.sym (sv 0), .sym (sv 1)]) (knownOk trivial trivial ⟨rv_ok hw0, ⟨rv_ok hw19, trivial⟩⟩) (relsI (relsI rels0)) (run24 _) w
    · exact shut (σ := fun i => match i with | 0 => a0 | 1 => a1 | 2 => 0 | _ => 0) (K := ⟨[], [], [rv .rem 0 3 (.nat 0), rv .and 1 7 (.nat 1)], fun _ => none⟩) (args := [.sym (sv 0), .sym (sv 1)]) (knownOk trivial trivial ⟨rv_ok hw0, ⟨rv_ok hw19, trivial⟩⟩) (relsI (relsI rels0)) (run25 _) w
    · exact shut (σ := fun i => match i with | 0 => a0 | 1 => a1 | 2 => 0 | _ => 0) (K := ⟨[], [], [rv .rem 0 3 (.nat 0), rv .and 1 7 (.nat 2)], fun _ => none⟩) (args := [.sym (sv 0), .sym (sv 1)]) (knownOk trivial trivial ⟨rv_ok hw0, ⟨rv_ok hw19, trivial⟩⟩) (relsI (relsI rels0)) (run26 _) w
    · exact shut (σ := fun i => match i with | 0 => a0 | 1 => a1 | 2 => 0 | _ => 0) (K := ⟨[], [], [rv .rem 0 3 (.nat 0), rv .and 1 7 (.nat 3)], fun _ => none⟩) (args := [.sym (sv 0), .sym (sv 1)]) (knownOk trivial trivial ⟨rv_ok hw0, ⟨rv_ok hw19, trivial⟩⟩) (relsI (relsI rels0)) (run27 _) w
    · exact shut (σ := fun i => match i with | 0 => a0 | 1 => a1 | 2 => 0 | _ => 0) (K := ⟨[], [], [rv .rem 0 3 (.nat 0), rv .and 1 7 (.nat 4)], fun _ => none⟩) (args := [.sym (sv 0), .sym (sv 1)]) (knownOk trivial trivial ⟨rv_ok hw0, ⟨rv_ok hw19, trivial⟩⟩) (relsI (relsI rels0)) (run28 _) w
    · exact shut (σ := fun i => match i with | 0 => a0 | 1 => a1 | 2 => 0 | _ => 0) (K := ⟨[], [], [rv .rem 0 3 (.nat 0), rv .and 1 7 (.nat 5)], fun _ => none⟩) (args := [.sym (sv 0), .sym (sv 1)]) (knownOk trivial trivial ⟨rv_ok hw0, ⟨rv_ok hw19, trivial⟩⟩) (relsI (relsI rels0)) (run29 _) w
    · exact shut (σ := fun i => match i with | 0 => a0 | 1 => a1 | 2 => 0 | _ => 0) (K := ⟨[], [], [rv .rem 0 3 (.nat 0), rv .and 1 7 (.nat 6)], fun _ => none⟩) (args := [.sym (sv 0), .sym (sv 1)]) (knownOk trivial trivial ⟨rv_ok hw0, ⟨rv_ok hw19, trivial⟩⟩) (relsI (relsI rels0)) (run30 _) w
    · exact shut (σ := fun i => match i with | 0 => a0 | 1 => a1 | 2 => 0 | _ => 0) (K := ⟨[], [], [rv .rem 0 3 (.nat 0), rv .and 1 7 (.nat 7)], fun _ => none⟩) (args := [.sym (sv 0), .sym (sv 1)]) (knownOk trivial trivial ⟨rv_ok hw0, ⟨rv_ok hw19, trivial⟩⟩) (relsI (relsI rels0)) (run31 _) w
  · obtain ⟨j20, hj20, hw20⟩ := and_cases a1 7 (by decide)
    have c20 : j20 = 0 ∨ j20 = 1 ∨ j20 = 2 ∨ j20 = 3 ∨ j20 = 4 ∨ j20 = 5 ∨ j20 = 6 ∨ j20 = 7 := by omega
    rcases c20 with rfl | rfl | rfl | rfl | rfl | rfl | rfl | rfl
    · exact shut (σ := fun i => match i with | 0 => a0 | 1 => a1 | 2 => 0 | _ => 0) (K := ⟨[], [], [rv .rem 0 3 (.nat 1), rv .and 1 7 (.nat 0)], fun _ => none⟩) (args := [.sym (sv 0), .sym (sv 1)]) (knownOk trivial trivial ⟨rv_ok hw0, ⟨rv_ok hw20, trivial⟩⟩) (relsI (relsI rels0)) (run32 _) w
    · exact shut (σ := fun i => match i with | 0 => a0 | 1 => a1 | 2 => 0 | _ => 0) (K := ⟨[], [], [rv .rem 0 3 (.nat 1), rv .and 1 7 (.nat 1)], fun _ => none⟩) (args := [.sym (sv 0), .sym (sv 1)]) (knownOk trivial trivial ⟨rv_ok hw0, ⟨rv_ok hw20, trivial⟩⟩) (relsI (relsI rels0)) (run33 _) w
    · exact shut (σ := fun i => match i with | 0 => a0 | 1 => a1 | 2 => 0 | _ => 0) (K := ⟨[], [], [rv .rem 0 3 (.nat 1), rv .and 1 7 (.nat 2)], fun _ => none⟩) (args := [.sym (sv 0), .sym (sv 1)]) (knownOk trivial trivial ⟨rv_ok hw0, ⟨rv_ok hw20, trivial⟩⟩) (relsI (relsI rels0)) (run34 _) w
    · exact shut (σ := fun i => match i with | 0 => a0 | 1 => a1 | 2 => 0 | _ => 0) (K := ⟨[], [], [rv .rem 0 3 (.nat 1), rv .and 1 7 (.nat 3)], fun _ => none⟩) (args := [.sym (sv 0), .sym (sv 1)]) (knownOk trivial trivial ⟨rv_ok hw0, ⟨rv_ok hw20, trivial⟩⟩) (relsI (relsI rels0)) (run35 _) w
    · exact shut (σ := fun i => match i with | 0 => a0 | 1 => a1 | 2 => 0 | _ => 0) (K := ⟨[], [], [rv .rem 0 3 (.nat 1), rv .and 1 7 (.nat 4)], fun _ => none⟩) (args := [.sym (sv 0), .sym (sv 1)]) (knownOk trivial trivial ⟨rv_ok hw0, ⟨rv_ok hw20, trivial⟩⟩) (relsI (relsI rels0)) (run36 _) w
    · exact shut (σ := fun i => match i with | 0 => a0 | 1 => a1 | 2 => 0 | _ => 0) (K := ⟨[], [], [rv .rem 0 3 (.nat 1), rv .and 1 7 (.nat 5)], fun _ => none⟩) (args := [.sym (sv 0), .sym (sv 1)]) (knownOk trivial trivial ⟨rv_ok hw0, ⟨rv_ok hw20, trivial⟩⟩) (relsI (relsI rels0)) (run37 _) w
    · exact shut (σ := fun i => match i with | 0 => a0 | 1 => a1 | 2 => 0 | _ => 0) (K := ⟨[], [], [rv .rem 0 3 (.nat 1), rv .and 1 7 (.nat 6)], fun _ => none⟩) (args := [.sym (sv 0), .sym (sv 1)]) (knownOk trivial trivial ⟨rv_ok hw0, ⟨rv_ok hw20, trivial⟩⟩) (relsI (relsI rels0)) (run38 _) w
    · exact shut (σ := fun i => match i with | 0 => a0 | 1 => a1 | 2 => 0 | _ => 0) (K := ⟨[], [], [rv .rem 0 3 (.nat 1), rv .and 1 7 (.nat 7)], fun _ => none⟩) (args := [.sym (sv 0), .sym (sv 1)]) (knownOk trivial trivial ⟨rv_ok hw0, ⟨rv_ok hw20, trivial⟩⟩) (relsI (relsI rels0)) (run39 _) w
  · obtain ⟨j21, hj21, hw21⟩ := and_cases a1 7 (by decide)
    have c21 : j21 = 0 ∨ j21 = 1 ∨ j21 = 2 ∨ j21 = 3 ∨ j21 = 4 ∨ j21 = 5 ∨ j21 = 6 ∨ j21 = 7 := by omega
    rcases c21 with rfl | rfl | rfl | rfl | rfl | rfl | rfl | rfl
    · obtain ⟨j22, hw22⟩ := shr_cases a1 3
      obtain ⟨j23, hj23, hw23⟩ := and_cases j22 1 (by decide)
      have c23 : j23 = 0 ∨ j23 = 1 := by omega
      rcases c23 with rfl | rfl
      · exact shut (σ := fun i => match i with | 0 => a0 | 1 => a1 | 2 => j22 | _ => 0) (K := ⟨[], [], [rv .rem 0 3 (.nat 2), rv .and 1 7 (.nat 0), rv .shr 1 3 (.sym (sv 2)), rv .and 2 1 (.nat 0)], fun _ => none⟩) (args := [.sym (sv 0), .sym (sv 1)]) (knownOk trivial trivial ⟨rv_ok hw0, ⟨rv_ok hw21, ⟨rv_sym hw22, ⟨rv_ok hw23, trivial⟩⟩⟩⟩) (relsI (relsI rels0)) (run40 _) w
      · exact shut (σ := fun i => match i with | 0 => a0 | 1 => a1 | 2 => j22 | _ => 0) (K := ⟨[], [], [rv .rem 0 3 (.nat 2), rv .and 1 7 (.nat 0), rv .shr 1 3 (.sym (sv 2)), rv .and 2 1 (.nat 1)], fun _ => none⟩) (args := [.sym (sv 0), .sym (sv 1)]) (knownOk trivial trivial ⟨rv_ok hw0, ⟨rv_ok hw21, ⟨rv_sym hw22, ⟨rv_ok hw23, trivial⟩⟩⟩⟩) (relsI (relsI rels0)) (run41 _) w
    · obtain ⟨j24, hw24⟩ := shr_cases a1 3
      obtain ⟨j25, hj25, hw25⟩ := and_cases j24 1 (by decide)
      have c25 : j25 = 0 ∨ j25 = 1 := by omega
      rcases c25 with rfl | rfl
      · exact shut (σ := fun i => match i with | 0 => a0 | 1 => a1 | 2 => j24 | _ => 0) (K := ⟨[], [], [rv .rem 0 3 (.nat 2), rv .and 1 7 (.nat 1), rv .shr 1 3 (.sym (sv 2)), rv .and 2 1 (.nat 0)], fun _ => none⟩) (args := [.sym (sv 0), .sym (sv 1)]) (knownOk trivial trivial ⟨rv_ok hw0, ⟨rv_ok hw21, ⟨rv_sym hw24, ⟨rv_ok hw25, trivial⟩⟩⟩⟩) (relsI (relsI rels0)) (run42 _) w
      · exact shut (σ := fun i => match i with | 0 => a0 | 1 => a1 | 2 => j24 | _ => 0) (K := ⟨[], [], [rv .rem 0 3 (.nat 2), rv .and 1 7 (.nat 1), rv .shr 1 3 (.sym (sv 2)), rv .and 2 1 (.nat 1)], fun _ => none⟩) (args := [.sym (sv 0), .sym (sv 1)]) (knownOk trivial trivial ⟨rv_ok hw0, ⟨rv_ok hw21, ⟨rv_sym hw24, ⟨rv_ok hw25, trivial⟩⟩⟩⟩) (relsI (relsI rels0)) (run43 _) w
    · obtain ⟨j26, hw26⟩ := shr_cases a1 3
      obtain ⟨j27, hj27, hw27⟩ := and_cases j26 1 (by decide)
      have c27 : j27 = 0 ∨ j27 = 1 := by omega
      rcases c27 with rfl | rfl
      · exact shut (σ := fun i => match i with | 0 => a0 | 1 => a1 | 2 => j26 | _ => 0) (K := ⟨[], [], [rv .rem 0 3 (.nat 2), rv .and 1 7 (.nat 2), rv .shr 1 3 (.sym (sv 2)), rv .and 2 1 (.nat 0)], fun _ => none⟩) (args := [.sym (sv 0), .sym (sv 1)]) (knownOk trivial trivial ⟨rv_ok hw0, ⟨rv_ok hw21, ⟨rv_sym hw26, ⟨rv_ok hw27, trivial⟩⟩⟩⟩) (relsI (relsI rels0)) (run44 _) w
      · exact shut (σ := fun i => match i with | 0 => a0 | 1 => a1 | 2 => j26 | _ => 0) (K := ⟨[], [], [rv .rem 0 3 (.nat 2), rv .and 1 7 (.nat 2), rv .shr 1 3 (.sym (sv 2)), rv .and 2 1 (.nat 1)], fun _ => none⟩) (args := [.sym (sv 0), .sym (sv 1)]) (knownOk trivial trivial ⟨rv_ok hw0, ⟨rv_ok hw21, ⟨rv_sym hw26, ⟨rv_ok hw27, trivial⟩⟩⟩⟩) (relsI (relsI rels0)) (run45 _) w
    · obtain ⟨j28, hw28⟩ := shr_cases a1 3
      obtain ⟨j29, hj29, hw29⟩ := and_cases j28 1 (by decide)
      have c29 : j29 = 0 ∨ j29 = 1 := by omega
      rcases c29 with rfl | rfl
      · exact shut (σ := fun i => match i with | 0 => a0 | 1 => a1 | 2 => j28 | _ => 0) (K := ⟨[], [], [rv .rem 0 3 (.nat 2), rv .and 1 7 (.nat 3), rv .shr 1 3 (.sym (sv 2)), rv .and 2 1 (.nat 0)], fun _ => none⟩) (args := [.sym (sv 0), .sym (sv 1)]) (knownOk trivial trivial ⟨rv_ok hw0, ⟨rv_ok hw21, ⟨rv_sym hw28, ⟨rv_ok hw29, trivial⟩⟩⟩⟩) (relsI (relsI rels0)) (run46 _) w
      · exact shut (σ := fun i => match i with | 0 => a0 | 1 => a1 | 2 => j28 | _ => 0) (K := ⟨[], [], [rv .rem 0 3 (.nat 2), rv .and 1 7 (.nat 3), rv .shr 1 3 (.sym (sv 2)), rv .and 2 1 (.nat 1)], fun _ => none⟩) (args := [.sym (sv 0), .sym (sv 1)]) (knownOk trivial trivial ⟨rv_ok hw0, ⟨rv_ok hw21, ⟨rv_sym hw28, ⟨rv_ok hw29, trivial⟩⟩⟩⟩) (relsI (relsI rels0)) (run47 _) w
    · obtain ⟨j30, hw30⟩ := shr_cases a1 3
      obtain ⟨j31, hj31, hw31⟩ := and_cases j30 1 (by decide)
      have c31 : j31 = 0 ∨ j31 = 1 := by omega
      rcases c31 with rfl | rfl
      · exact shut (σ := fun i => match i with | 0 => a0 | 1 => a1 | 2 => j30 | _ => 0) (K := ⟨[], [], [rv .rem 0 3 (.nat 2), rv .and 1 7 (.nat 4), rv .shr 1 3 (.sym (sv 2)), rv .and 2 1 (.nat 0)], fun _ => none⟩) (args := [.sym (sv 0), .sym (sv 1)]) (knownOk trivial trivial ⟨rv_ok hw0, ⟨rv_ok hw21, ⟨rv_sym hw30, ⟨rv_ok hw31, trivial⟩⟩⟩⟩) (relsI (relsI rels0)) (run48 _) w
      · exact shut (σ := fun i => match i with | 0 => a0 | 1 => a1 | 2 => j30 | _ => 0) (K := ⟨[], [], [rv .rem 0 3 (.nat 2), rv .and 1 7 (.nat 4), rv .shr 1 3 (.sym (sv 2)), rv .and 2 1 (.nat 1)], fun _ => none⟩) (args := [.sym (sv 0), .sym (sv 1)]) (knownOk trivial trivial ⟨rv_ok hw0, ⟨rv_ok hw21, ⟨rv_sym hw30, ⟨rv_ok hw31, trivial⟩⟩⟩⟩) (relsI (relsI rels0)) (run49 _) w
    · obtain ⟨j32, hw32⟩ := shr_cases a1 3
      obtain ⟨j33, hj33, hw33⟩ := and_cases j32 1 (by decide)
      have c33 : j33 = 0 ∨ j33 = 1 := by omega
      rcases c33 with rfl | rfl
      · exact shut (σ := fun i => match i with | 0 => a0 | 1 => a1 | 2 => j32 | _ => 0) (K := ⟨[], [], [rv .rem 0 3 (.nat 2), rv .and 1 7 (.nat 5), rv .shr 1 3 (.sym (sv 2)), rv .and 2 1 (.nat 0)], fun _ => none⟩) (args := [.sym (sv 0), .sym (sv 1)]) (knownOk trivial trivial ⟨rv_ok hw0, ⟨rv_ok hw21, ⟨rv_sym hw32, ⟨rv_ok hw33, trivial⟩⟩⟩⟩) (relsI (relsI rels0)) (run50 _) w
      · exact shut (σ := fun i => match i with | 0 => a0 | 1 => a1 | 2 => j32 | _ => 0) (K := ⟨[], [], [rv .rem 0 3 (.nat 2), rv .and 1 7 (.nat 5), rv .shr 1 3 (.sym (sv 2)), rv .and 2 1 (.nat 1)], fun _ => none⟩) (args := [.sym (sv 0), .sym (sv 1)]) (knownOk trivial trivial ⟨rv_ok hw0, ⟨rv_ok hw21, ⟨rv_sym hw32, ⟨rv_ok hw33, trivial⟩⟩⟩⟩) (relsI (relsI rels0)) (run51 _) w
    · obtain ⟨j34, hw34⟩ := shr_cases a1 3
      obtain ⟨j35, hj35, hw35⟩ := and_cases j34 1 (by decide)
      have c35 : j35 = 0 ∨ j35 = 1 := by omega
      rcases c35 with rfl | rfl
      · exact shut (σ := fun i => match i with | 0 => a0 | 1 => a1 | 2 => j34 | _ => 0) (K := ⟨[], [], [rv .rem 0 3 (.nat 2), rv .and 1 7 (.nat 6), rv .shr 1 3 (.sym (sv 2)), rv .and 2 1 (.nat 0)], fun _ => none⟩) (args := [.sym (sv 0), .sym (sv 1)]) (knownOk trivial trivial ⟨rv_ok hw0, ⟨rv_ok hw21, ⟨rv_sym hw34, ⟨rv_ok hw35, trivial⟩⟩⟩⟩) (relsI (relsI rels0)) (run52 _) w
      · exact shut (σ := fun i => match i with | 0 => a0 | 1 => a1 | 2 => j34 | _ => 0) (K := ⟨[], [], [rv .rem 0 3 (.nat 2), rv .and 1 7 (.nat 6), rv .shr 1 3 (.sym (sv 2)), rv .and 2 1 (.nat 1)], fun _ => none⟩) (args := [.sym (sv 0), .sym (sv 1)]) (knownOk trivial trivial ⟨rv_ok hw0, ⟨rv_ok hw21, ⟨rv_sym hw34, ⟨rv_ok hw35, trivial⟩⟩⟩⟩) (relsI (relsI rels0)) (run53 _) w
    · obtain ⟨j36, hw36⟩ := shr_cases a1 3
      obtain ⟨j37, hj37, hw37⟩ := and_cases j36 1 (by decide)
      have c37 : j37 = 0 ∨ j37 = 1 := by omega
      rcases c37 with rfl | rfl
      · exact shut (σ := fun i => match i with | 0 => a0 | 1 => a1 | 2 => j36 | _ => 0) (K := ⟨[], [], [rv .rem 0 3 (.nat 2), rv .and 1 7 (.nat 7), rv .shr 1 3 (.sym (sv 2)), rv .and 2 1 (.nat 0)], fun _ => none⟩) (args := [.sym (sv 0), .sym (sv 1)]) (knownOk trivial trivial ⟨rv_ok hw0, ⟨rv_ok hw21, ⟨rv_sym hw36, ⟨rv_ok hw37, trivial⟩⟩⟩⟩) (relsI (relsI rels0)) (run54 _) w
      · exact shut (σ := fun i => match i with | 0 => a0 | 1 => a1 | 2 => j36 | _ => 0) (K := ⟨[], [], [rv .rem 0 3 (.nat 2), rv .and 1 7 (.nat 7), rv .shr 1 3 (.sym (sv 2)), rv .and 2 1 (.nat 1)], fun _ => none⟩) (args := [.sym (sv 0), .sym (sv 1)]) (knownOk trivial trivial ⟨rv_ok hw0, ⟨rv_ok hw21, ⟨rv_sym hw36, ⟨rv_ok hw37, trivial⟩⟩⟩⟩) (relsI (relsI rels0)) (run55 _) w

set_option maxRecDepth 100000 in
theorem lifted (os : Os) (started : os.Started) (H : Type) (enc : TypeId × Value → H) :
    ReturnsInHanded {} Tryz.checked os 3 .any (fun w args => (Rows.brokerRoomsSpec.pre enc Tryz.prog Tryz.f3 Rows.brokerRoomsRow.domain false w args ∧ laidMetH Tryz.prog Rows.brokerRoomsRow.laid w) ∧ sizedMet enc Tryz.prog Tryz.f3 (OpenSpec.ofChange Rows.brokerRoomsSpec) false w args)
      (Rows.brokerRoomsSpec.post enc Tryz.prog Tryz.f3 false true false false) := by
  refine returnsInHanded_of_change_and (C := Tryz.checked) (X := fun w _ => laidMetH Tryz.prog Rows.brokerRoomsRow.laid w) (fun _ _ _ hh h => h.of_heap hh) own started (by kernel_rfl) Tryz.func3
    (ChangeSpec.witness_shaped (enc := enc) (C := Tryz.checked) (os := os) (X := fun w _ => laidMetH Tryz.prog Rows.brokerRoomsRow.laid w) false (World.laidAll Tryz.prog os Rows.brokerRoomsRow.laid) #[.int .i64 0, .int .i64 0] 8 (World.laidAll_os _ _ _)
      (World.shaped_of_ZipB (by kernel_rfl) (by kernel_rfl)) (by kernel_rfl) (by kernel_rfl) (by kernel_rfl)
      (by rw [MakeChecks.laidMetH_plain _ _ _ (by kernel_rfl)]; exact laidMet_laidAll _ (by kernel_rfl) (by kernel_rfl))) ?_
  intro W base args ds gs before hval0 hW hcnd _ hL _
  have hval : ∀ (j : Nat) t v, Tryz.f3.params[j]? = some t → args[j]? = some v → Value.okWide Tryz.prog W .any base t v := hval0
  have hW' := hW
  obtain ⟨p, q, hA0, hV, rfl, hfz, hnd⟩ := hW
  have hA : DataW.TrodAll enc Tryz.prog W 0 (fun _ => true) true Tryz.f3.params.toList args.toList ds p := hA0
  rw [Tryz.params3] at hA hval
  obtain ⟨v0, vs0, d0, ds0, p0, q0, hargs, rfl, rfl, h0, r0⟩ := trodAll_cons hA
  obtain ⟨v1, vs1, d1, ds1, p1, q1, rfl, rfl, rfl, h1, r1⟩ := trodAll_cons r0
  obtain ⟨rfl, rfl, rfl⟩ := trodAll_nil r1
  obtain rfl : args = #[v0, v1] := by cases args; simp_all
  obtain ⟨rfl, rfl⟩ := trodVars_none hV
  obtain ⟨a0, rfl, rfl, rfl, w0⟩ := open_int Tryz.underlying3 (hval 0 3 v0 rfl rfl) h0
  obtain ⟨a1, rfl, rfl, rfl, w1⟩ := open_int Tryz.underlying3 (hval 1 3 v1 rfl rfl) h1
  clear hA0 hval0
  simp only [List.append_nil] at hW'
  refine (walk a0 a1 w0 w1 W).mono fun e W' ⟨he, hg⟩ => ?_
  subst he
  exact ⟨_, rfl, post_law (pa := []) (pv := []) hW' (fun _ _ _ => (trodAll_cons_mk (shut_bool Tryz.underlying4 _) trodAll_mk0)) (fun sp _ => (trodAll_cons_mk (shut_int Tryz.underlying3 w0) (trodAll_cons_mk (shut_int Tryz.underlying3 w1) trodAll_mk0))) (fun _ _ => rfl) rfl hg⟩

theorem over : Rows.brokerRoomsRow.holds Tryz.pinned (OpenSpec.ofChange Rows.brokerRoomsSpec) :=
  OpenClaim.holds_of_wide 3 Tryz.f3 rfl rfl rfl rfl rfl rfl rfl ⟨rfl, rfl, rfl, rfl, rfl⟩ rfl rfl rfl rfl rfl (by kernel_rfl) Tryz.func3 closed
    (of_decide_eq_true (by kernel_rfl)) (by unfold Func.isWrapper; first | (rw [if_pos (by decide +kernel)]; kernel_rfl) | (rw [if_neg (by decide +kernel)]; exact ⟨rfl, rfl⟩))
    (fun os started H enc _ => lifted os started H enc)


theorem card_m : Tryz.pinned.checked.prog.mainIs = some (true, "2ad1ea55dcbe20b2f17e3ead2ae20cc989f429ead480763f2039b9807daffa6d".toList) := by kernel_rfl
theorem proved : Rows.BrokerRoomsCardSaid :=
  Claim7.holds_tied_plain_at .later [] [.data, .sentinel, .pinned] true (true, "2ad1ea55dcbe20b2f17e3ead2ae20cc989f429ead480763f2039b9807daffa6d") true
    over (fun _ h => by cases h) card_w (fun _ h => by cases h) brokerRooms_row_tie rfl ⟨rfl, rfl⟩ card_m rfl
    (fun f fn hf hfn => by
      obtain rfl : f = 3 := Option.some.inj ((show Tryz.prog.funcNamed Rows.brokerRoomsRow.func = some 3 by kernel_rfl).symm.trans hf) |>.symm
      obtain rfl : fn = Tryz.f3 := (Option.some.inj (Tryz.func3.symm.trans hfn)).symm
      exact ⟨card_l, fun j t ht => by
          rw [Tryz.params3] at ht
          rcases j with _ | j
          · (have h : t = 3 := by simpa using ht.symm); subst h; exact (show Tryz.prog.wantsStandIn 3 = false by kernel_rfl)
          rcases j with _ | j
          · (have h : t = 3 := by simpa using ht.symm); subst h; exact (show Tryz.prog.wantsStandIn 3 = false by kernel_rfl)
          simp at ht⟩)
    card_g
#print axioms proved
end Go.Proofs.YtcgkojbffonceaaGreatDoor.brokerRooms
