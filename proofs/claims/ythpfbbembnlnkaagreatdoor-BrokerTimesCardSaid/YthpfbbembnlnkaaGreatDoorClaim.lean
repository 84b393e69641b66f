/-
  BrokerTimes hands back true for every input: by runs of a verified evaluator over the program's code, case by case.
  Conditions: none but those of the given row.
-/
import Derived.Test.YthpfbbembnlnkaaGreatDoorRows
import Derived.Test.YthpfbbembnlnkaaGreatDoorCards
import Derived.Test.YthpfbbembnlnkaaGreatDoorTie
import Derived.Test.YthpfbbembnlnkaaGreatDoorFacts
import Derived.Test.YthpfbbembnlnkaaGreatDoorRun0
import Derived.WalkKit
import Derived.ProofKit
import Derived.OpenShut
import Derived.LaidMore
import Derived.Lay
import Derived.Stop.Joined
import Derived.SevenTiedAt
namespace Go.Proofs.YthpfbbembnlnkaaGreatDoor.brokerTimes
open Go.ChangeShapes Go.WideShapes Go.ChangeAt Go.RowKit
set_option linter.unusedVariables false

section
variable {H : Type} {enc : TypeId × Value → H} {P : Program}
/-- what is left behind a call that has turned nothing that was there -/
theorem post_law {f : Func} {s : ChangeSpec} {apart fresh handsOn : Bool} {W W' : World} {args : Array Value} {v : Value} {ds gs : List (DataW H)} {before pa pv : List MemPlace}
    (hW : DataW.Whole enc P f.params.toList s.vars apart W args.toList ds gs before)
    (hr : ∀ (b : Nat) (sp : Nat → Bool) (hd : Bool), DataW.TrodAll enc P W' b sp hd f.resultTypes.toList (v.resultList f.resultTypes.size) (s.fn H (ds ++ gs)).results [])
    (ha : ∀ sp : Nat → Bool, (∀ p ∈ before, sp p.block = true) → DataW.TrodAll enc P W' 0 sp true f.params.toList args.toList (s.fn H (ds ++ gs)).args pa)
    (hv : ∀ sp : Nat → Bool, (∀ p ∈ before, sp p.block = true) → DataW.TrodVars enc P W' sp s.vars (s.fn H (ds ++ gs)).vars pv)
    (hp : before = pa ++ pv) (hb : Below W.heap.size W W') : s.post enc P f apart fresh handsOn false W args v W' := by
  have old : ∀ p ∈ before, (fun b => decide (b < W.heap.size)) p.block = true := fun p h => decide_eq_true (hW.lt p h)
  exact ⟨ds, gs, before, [], pa, pv, hW, hr _ _ _, ha _ old, hv _ old, World.keptBut_mono (fun p h => ⟨h, .inr (List.mem_append.1 (hp ▸ h))⟩) (hb.frame (· ∈ before)), fun h => by cases h⟩
end

theorem own : ownKnob Tryz.prog.godebug = none := by kernel_rfl

open Go.Ev in
set_option maxRecDepth 100000 in
theorem walk (a0 : Int) (a1 : Int) (a2 : Int) (a3 : Int) (w0 : (Lit.int .i64 a0).wf = true) (w1 : (Lit.int .i64 a1).wf = true) (w2 : (Lit.int .i64 a2).wf = true) (w3 : (Lit.int .i64 a3).wf = true) (w : World) :
    Calls Tryz.prog 3 #[.int .i64 a0, .int .i64 a1, .int .i64 a2, .int .i64 a3] w fun e w' => e = .returned (.bool true) ∧ Below w.heap.size w w' := by
  obtain ⟨j0, hj0, hw0⟩ := and_cases a0 31 (by decide)
  obtain ⟨j1, hj1, hw1⟩ := and_cases a1 63 (by decide)
  obtain ⟨j2, hj2, hw2⟩ := and_cases a2 31 (by decide)
  obtain ⟨j3, hj3, hw3⟩ := and_cases a3 63 (by decide)
  rcases Int.lt_or_le (j1 : Int) (1) with h4 | h4
  · rcases Int.lt_or_le (-1 * (j2 : Int) + (1 * (j3 : Int) + 0)) (0) with h5 | h5
    · exact shut (σ := fun i => match i with | 0 => (Int.ofNat j0) | 1 => (Int.ofNat j1) | 2 => (Int.ofNat j2) | 3 => (Int.ofNat j3) | 4 => a0 | 5 => a1 | 6 => a2 | 7 => a3 | _ => 0) (K := ⟨[(0, 31), (0, 0), (0, 31), (0, 63)], [([(2, -1), (3, 1)], -31, -1)], [rv .and 4 31 (.sym (sv 0)), rv .and 5 63 (.sym (sv 1)), rv .and 6 31 (.sym (sv 2)), rv .and 7 63 (.sym (sv 3))], fun _ => none⟩) (args := [.sym (sv 4), .sym (sv 5), .sym (sv 6), .sym (sv 7)]) (knownOk ⟨show (0 : Int) ≤ (j0 : Int) ∧ (j0 : Int) ≤ 31 by omega, ⟨show (0 : Int) ≤ (j1 : Int) ∧ (j1 : Int) ≤ 0 by omega, ⟨show (0 : Int) ≤ (j2 : Int) ∧ (j2 : Int) ≤ 31 by omega, ⟨show (0 : Int) ≤ (j3 : Int) ∧ (j3 : Int) ≤ 63 by omega, trivial⟩⟩⟩⟩ ⟨show (-31 : Int) ≤ (-1 * (j2 : Int) + (1 * (j3 : Int) + 0)) ∧ (-1 * (j2 : Int) + (1 * (j3 : Int) + 0)) ≤ -1 by omega, trivial⟩ ⟨rv_sym hw0, ⟨rv_sym hw1, ⟨rv_sym hw2, ⟨rv_sym hw3, trivial⟩⟩⟩⟩) (relsI (relsI (relsI (relsI rels0)))) (run0 _) w
    · exact shut (σ := fun i => match i with | 0 => (Int.ofNat j0) | 1 => (Int.ofNat j1) | 2 => (Int.ofNat j2) | 3 => (Int.ofNat j3) | 4 => a0 | 5 => a1 | 6 => a2 | 7 => a3 | _ => 0) (K := ⟨[(0, 31), (0, 0), (0, 31), (0, 63)], [([(2, -1), (3, 1)], 0, 63)], [rv .and 4 31 (.sym (sv 0)), rv .and 5 63 (.sym (sv 1)), rv .and 6 31 (.sym (sv 2)), rv .and 7 63 (.sym (sv 3))], fun _ => none⟩) (args := [.sym (sv 4), .sym (sv 5), .sym (sv 6), .sym (sv 7)]) (knownOk ⟨show (0 : Int) ≤ (j0 : Int) ∧ (j0 : Int) ≤ 31 by omega, ⟨show (0 : Int) ≤ (j1 : Int) ∧ (j1 : Int) ≤ 0 by omega, ⟨show (0 : Int) ≤ (j2 : Int) ∧ (j2 : Int) ≤ 31 by omega, ⟨show (0 : Int) ≤ (j3 : Int) ∧ (j3 : Int) ≤ 63 by omega, trivial⟩⟩⟩⟩ ⟨show (0 : Int) ≤ (-1 * (j2 : Int) + (1 * (j3 : Int) + 0)) ∧ (-1 * (j2 : Int) + (1 * (j3 : Int) + 0)) ≤ 63 by omega, trivial⟩ ⟨rv_sym hw0, ⟨rv_sym hw1, ⟨rv_sym hw2, ⟨rv_sym hw3, trivial⟩⟩⟩⟩) (relsI (relsI (relsI (relsI rels0)))) (run1 _) w
  · rcases Int.lt_or_le (-1 * (j0 : Int) + (1 * (j1 : Int) + 0)) (1) with h6 | h6
    · rcases Int.lt_or_le (-1 * (j2 : Int) + (1 * (j3 : Int) + 0)) (0) with h7 | h7
      · exact shut (σ := fun i => match i with | 0 => (Int.ofNat j0) | 1 => (Int.ofNat j1) | 2 => (Int.ofNat j2) | 3 => (Int.ofNat j3) | 4 => a0 | 5 => a1 | 6 => a2 | 7 => a3 | _ => 0) (K := ⟨[(0, 31), (1, 63), (0, 31), (0, 63)], [([(0, -1), (1, 1)], -30, 0), ([(2, -1), (3, 1)], -31, -1)], [rv .and 4 31 (.sym (sv 0)), rv .and 5 63 (.sym (sv 1)), rv .and 6 31 (.sym (sv 2)), rv .and 7 63 (.sym (sv 3))], fun _ => none⟩) (args := [.sym (sv 4), .sym (sv 5), .sym (sv 6), .sym (sv 7)]) (knownOk ⟨show (0 : Int) ≤ (j0 : Int) ∧ (j0 : Int) ≤ 31 by omega, ⟨show (1 : Int) ≤ (j1 : Int) ∧ (j1 : Int) ≤ 63 by omega, ⟨show (0 : Int) ≤ (j2 : Int) ∧ (j2 : Int) ≤ 31 by omega, ⟨show (0 : Int) ≤ (j3 : Int) ∧ (j3 : Int) ≤ 63 by omega, trivial⟩⟩⟩⟩ ⟨show (-30 : Int) ≤ (-1 * (j0 : Int) + (1 * (j1 : Int) + 0)) ∧ (-1 * (j0 : Int) + (1 * (j1 : Int) + 0)) ≤ 0 by omega, ⟨show (-31 : Int) ≤ (-1 * (j2 : Int) + (1 * (j3 : Int) + 0)) ∧ (-1 * (j2 : Int) + (1 * (j3 : Int) + 0)) ≤ -1 by omega, trivial⟩⟩ ⟨rv_sym hw0, ⟨rv_sym hw1, ⟨rv_sym hw2, ⟨rv_sym hw3, trivial⟩⟩⟩⟩) (relsI (relsI (relsI (relsI rels0)))) (run2 _) w
      · exact shut (σ := fun i => match i with | 0 => (Int.ofNat j0) | 1 => (Int.ofNat j1) | 2 => (Int.ofNat j2) | 3 => (Int.ofNat j3) | 4 => a0 | 5 => a1 | 6 => a2 | 7 => a3 | _ => 0) (K := ⟨[(0, 31), (1, 63), (0, 31), (0, 63)], [([(0, -1), (1, 1)], -30, 0), ([(2, -1), (3, 1)], 0, 63)], [rv .and 4 31 (.sym (sv 0)), rv .and 5 63 (.sym (sv 1)), rv .and 6 31 (.sym (sv 2)), rv .and 7 63 (.sym (sv 3))], fun _ => none⟩) (args := [.sym (sv 4), .sym (sv 5), .sym (sv 6), .sym (sv 7)]) (knownOk ⟨show (0 : Int) ≤ (j0 : Int) ∧ (j0 : Int) ≤ 31 by omega, ⟨show (1 : Int) ≤ (j1 : Int) ∧ (j1 : Int) ≤ 63 by omega, ⟨show (0 : Int) ≤ (j2 : Int) ∧ (j2 : Int) ≤ 31 by omega, ⟨show (0 : Int) ≤ (j3 : Int) ∧ (j3 : Int) ≤ 63 by omega, trivial⟩⟩⟩⟩ ⟨show (-30 : Int) ≤ (-1 * (j0 : Int) + (1 * (j1 : Int) + 0)) ∧ (-1 * (j0 : Int) + (1 * (j1 : Int) + 0)) ≤ 0 by omega, ⟨show (0 : Int) ≤ (-1 * (j2 : Int) + (1 * (j3 : Int) + 0)) ∧ (-1 * (j2 : Int) + (1 * (j3 : Int) + 0)) ≤ 63 by omega, trivial⟩⟩ ⟨rv_sym hw0, ⟨rv_sym hw1, ⟨rv_sym hw2, ⟨rv_sym hw3, trivial⟩⟩⟩⟩) (relsI (relsI (relsI (relsI rels0)))) (run3 _) w
    · rcases Int.lt_or_le (-1 * (j2 : Int) + (1 * (j3 : Int) + 0)) (0) with h8 | h8
      · exact shut (σ := fun i => match i with | 0 => (Int.ofNat j0) | 1 => (Int.ofNat j1) | 2 => (Int.ofNat j2) | 3 => (Int.ofNat j3) | 4 => a0 | 5 => a1 | 6 => a2 | 7 => a3 | _ => 0) (K := ⟨[(0, 31), (1, 63), (0, 31), (0, 63)], [([(0, -1), (1, 1)], 1, 63), ([(2, -1), (3, 1)], -31, -1)], [rv .and 4 31 (.sym (sv 0)), rv .and 5 63 (.sym (sv 1)), rv .and 6 31 (.sym (sv 2)), rv .and 7 63 (.sym (sv 3))], fun _ => none⟩) (args := [.sym (sv 4), .sym (sv 5), .sym (sv 6), .sym (sv 7)]) (knownOk ⟨show (0 : Int) ≤ (j0 : Int) ∧ (j0 : Int) ≤ 31 by omega, ⟨show (1 : Int) ≤ (j1 : Int) ∧ (j1 : Int) ≤ 63 by omega, ⟨show (0 : Int) ≤ (j2 : Int) ∧ (j2 : Int) ≤ 31 by omega, ⟨show (0 : Int) ≤ (j3 : Int) ∧ (j3 : Int) ≤ 63 by omega, trivial⟩⟩⟩⟩ ⟨show (1 : Int) ≤ (-1 * (j0 : Int) + (1 * (j1 : Int) + 0)) ∧ (-1 * (j0 : Int) + (1 * (j1 : Int) + 0)) ≤ 63 by omega, ⟨show (-31 : Int) ≤ (-1 * (j2 : Int) + (1 * (j3 : Int) + 0)) ∧ (-1 * (j2 : Int) + (1 * (j3 : Int) + 0)) ≤ -1 by omega, trivial⟩⟩ ⟨rv_sym hw0, ⟨rv_sym hw1, ⟨rv_sym hw2, ⟨rv_sym hw3, trivial⟩⟩⟩⟩) (relsI (relsI (relsI (relsI rels0)))) (run4 _) w
      · exact shut (σ := fun i => match i with | 0 => (Int.ofNat j0) | 1 => (Int.ofNat j1) | 2 => (Int.ofNat j2) | 3 => (Int.ofNat j3) | 4 => a0 | 5 => a1 | 6 => a2 | 7 => a3 | _ => 0) (K := ⟨[(0, 31), (1, 63), (0, 31), (0, 63)], [([(0, -1), (1, 1)], 1, 63), ([(2, -1), (3, 1)], 0, 63)], [rv .and 4 31 (.sym (sv 0)), rv .and 5 63 (.sym (sv 1)), rv .and 6 31 (.sym (sv 2)), rv .and 7 63 (.sym (sv 3))], fun _ => none⟩) (args := [.sym (sv 4), .sym (sv 5), .sym (sv 6), .sym (sv 7)]) (knownOk ⟨show (0 : Int) ≤ (j0 : Int) ∧ (j0 : Int) ≤ 31 by omega, ⟨show (1 : Int) ≤ (j1 : Int) ∧ (j1 : Int) ≤ 63 by omega, ⟨show (0 : Int) ≤ (j2 : Int) ∧ (j2 : Int) ≤ 31 by omega, ⟨show (0 : Int) ≤ (j3 : Int) ∧ (j3 : Int) ≤ 63 by omega, trivial⟩⟩⟩⟩ ⟨show (1 : Int) ≤ (-1 * (j0 : Int) + (1 * (j1 : Int) + 0)) ∧ (-1 * (j0 : Int) + (1 * (j1 : Int) + 0)) ≤ 63 by omega, ⟨show (0 : Int) ≤ (-1 * (j2 : Int) + (1 * (j3 : Int) + 0)) ∧ (-1 * (j2 : Int) + (1 * (j3 : Int) + 0)) ≤ 63 by omega, trivial⟩⟩ ⟨rv_sym hw0, ⟨rv_sym hw1, ⟨rv_sym hw2, ⟨rv_sym hw3, trivial⟩⟩⟩⟩) (relsI (relsI (relsI (relsI rels0)))) (run5 _) w

set_option maxRecDepth 100000 in
theorem lifted (os : Os) (started : os.Started) (H : Type) (enc : TypeId × Value → H) :
    ReturnsInHanded {} Tryz.checked os 3 .any (fun w args => (Rows.brokerTimesSpec.pre enc Tryz.prog Tryz.f3 Rows.brokerTimesRow.domain false w args ∧ laidMetH Tryz.prog Rows.brokerTimesRow.laid w) ∧ sizedMet enc Tryz.prog Tryz.f3 (OpenSpec.ofChange Rows.brokerTimesSpec) false w args)
      (Rows.brokerTimesSpec.post enc Tryz.prog Tryz.f3 false true false false) := by
  refine returnsInHanded_of_change_and (C := Tryz.checked) (X := fun w _ => laidMetH Tryz.prog Rows.brokerTimesRow.laid w) (fun _ _ _ hh h => h.of_heap hh) own started (by kernel_rfl) Tryz.func3
    (ChangeSpec.witness_shaped (enc := enc) (C := Tryz.checked) (os := os) (X := fun w _ => laidMetH Tryz.prog Rows.brokerTimesRow.laid w) false (World.laidAll Tryz.prog os Rows.brokerTimesRow.laid) #[.int .i64 0, .int .i64 0, .int .i64 0, .int .i64 0] 8 (World.laidAll_os _ _ _)
      (World.shaped_of_ZipB (by kernel_rfl) (by kernel_rfl)) (by kernel_rfl) (by kernel_rfl) (by kernel_rfl)
      (by rw [MakeChecks.laidMetH_plain _ _ _ (by kernel_rfl)]; exact laidMet_laidAll _ (by kernel_rfl) (by kernel_rfl))) ?_
  intro W base args ds gs before hval0 hW hcnd _ hL _
  have hval : ∀ (j : Nat) t v, Tryz.f3.params[j]? = some t → args[j]? = some v → Value.okWide Tryz.prog W .any base t v := hval0
  have hW' := hW
  obtain ⟨p, q, hA0, hV, rfl, hfz, hnd⟩ := hW
  have hA : DataW.TrodAll enc Tryz.prog W 0 (fun _ => true) true Tryz.f3.params.toList args.toList ds p := hA0
  rw [Tryz.params3] at hA hval
  obtain ⟨v0, vs0, d0, ds0, p0, q0, hargs, rfl, rfl, h0, r0⟩ := trodAll_cons hA
  obtain ⟨v1, vs1, d1, ds1, p1, q1, rfl, rfl, rfl, h1, r1⟩ := trodAll_cons r0
  obtain ⟨v2, vs2, d2, ds2, p2, q2, rfl, rfl, rfl, h2, r2⟩ := trodAll_cons r1
  obtain ⟨v3, vs3, d3, ds3, p3, q3, rfl, rfl, rfl, h3, r3⟩ := trodAll_cons r2
  obtain ⟨rfl, rfl, rfl⟩ := trodAll_nil r3
  obtain rfl : args = #[v0, v1, v2, v3] := by cases args; simp_all
  obtain ⟨rfl, rfl⟩ := trodVars_none hV
  obtain ⟨a0, rfl, rfl, rfl, w0⟩ := open_int Tryz.underlying3 (hval 0 3 v0 rfl rfl) h0
  obtain ⟨a1, rfl, rfl, rfl, w1⟩ := open_int Tryz.underlying3 (hval 1 3 v1 rfl rfl) h1
  obtain ⟨a2, rfl, rfl, rfl, w2⟩ := open_int Tryz.underlying3 (hval 2 3 v2 rfl rfl) h2
  obtain ⟨a3, rfl, rfl, rfl, w3⟩ := open_int Tryz.underlying3 (hval 3 3 v3 rfl rfl) h3
  clear hA0 hval0
  simp only [List.append_nil] at hW'
  refine (walk a0 a1 a2 a3 w0 w1 w2 w3 W).mono fun e W' ⟨he, hg⟩ => ?_
  subst he
  exact ⟨_, rfl, post_law (pa := []) (pv := []) hW' (fun _ _ _ => (trodAll_cons_mk (shut_bool Tryz.underlying4 _) trodAll_mk0)) (fun sp _ => (trodAll_cons_mk (shut_int Tryz.underlying3 w0) (trodAll_cons_mk (shut_int Tryz.underlying3 w1) (trodAll_cons_mk (shut_int Tryz.underlying3 w2) (trodAll_cons_mk (shut_int Tryz.underlying3 w3) trodAll_mk0))))) (fun _ _ => rfl) rfl hg⟩

theorem over : Rows.brokerTimesRow.holds Tryz.pinned (OpenSpec.ofChange Rows.brokerTimesSpec) :=
  OpenClaim.holds_of_wide 3 Tryz.f3 rfl rfl rfl rfl rfl rfl rfl ⟨rfl, rfl, rfl, rfl, rfl⟩ rfl rfl rfl rfl rfl (by kernel_rfl) Tryz.func3 closed
    (of_decide_eq_true (by kernel_rfl)) (by unfold Func.isWrapper; first | (rw [if_pos (by decide +kernel)]; kernel_rfl) | (rw [if_neg (by decide +kernel)]; exact ⟨rfl, rfl⟩))
    (fun os started H enc _ => lifted os started H enc)


theorem card_m : Tryz.pinned.checked.prog.mainIs = some (true, "664f86685b3320d09751a95bb2277c5c77f935acf0a4146a794ed64c447388fa".toList) := by kernel_rfl
theorem proved : Rows.BrokerTimesCardSaid :=
  Claim7.holds_tied_plain_at .later [] [.data, .sentinel, .pinned] true (true, "664f86685b3320d09751a95bb2277c5c77f935acf0a4146a794ed64c447388fa") true
    over (fun _ h => by cases h) card_w (fun _ h => by cases h) brokerTimes_row_tie rfl ⟨rfl, rfl⟩ card_m rfl
    (fun f fn hf hfn => by
      obtain rfl : f = 3 := Option.some.inj ((show Tryz.prog.funcNamed Rows.brokerTimesRow.func = some 3 by kernel_rfl).symm.trans hf) |>.symm
      obtain rfl : fn = Tryz.f3 := (Option.some.inj (Tryz.func3.symm.trans hfn)).symm
      exact ⟨card_l, fun j t ht => by
          rw [Tryz.params3] at ht
          rcases j with _ | j
          · (have h : t = 3 := by simpa using ht.symm); subst h; exact (show Tryz.prog.wantsStandIn 3 = false by kernel_rfl)
          rcases j with _ | j
          · (have h : t = 3 := by simpa using ht.symm); subst h; exact (show Tryz.prog.wantsStandIn 3 = false by kernel_rfl)
          rcases j with _ | j
          · (have h : t = 3 := by simpa using ht.symm); subst h; exact (show Tryz.prog.wantsStandIn 3 = false by kernel_rfl)
          rcases j with _ | j
          · (have h : t = 3 := by simpa using ht.symm); subst h; exact (show Tryz.prog.wantsStandIn 3 = false by kernel_rfl)
          simp at ht⟩)
    card_g
#print axioms proved
end Go.Proofs.YthpfbbembnlnkaaGreatDoor.brokerTimes
