/-
  BrokerClean hands back true for every input: by runs of a verified evaluator over the program's code, case by case.
  Conditions: none but those of the given row.
-/
import Derived.Test.YtaajgccgdoghkaaGreatDoorRows
import Derived.Test.YtaajgccgdoghkaaGreatDoorCards
import Derived.Test.YtaajgccgdoghkaaGreatDoorTie
import Derived.Test.YtaajgccgdoghkaaGreatDoorFacts
import Derived.Test.YtaajgccgdoghkaaGreatDoorRun0
import Derived.Test.YtaajgccgdoghkaaGreatDoorRun1
import Derived.WalkKit
import Derived.ProofKit
import Derived.OpenShut
import Derived.LaidMore
import Derived.Lay
import Derived.Stop.Joined
import Derived.SevenTiedAt
namespace Go.Proofs.YtaajgccgdoghkaaGreatDoor.brokerClean
open Go.ChangeShapes Go.WideShapes Go.ChangeAt Go.RowKit
set_option linter.unusedVariables false

section
variable {H : Type} {enc : TypeId × Value → H} {P : Program}
/-- what is left behind a call that has turned nothing that was there -/
theorem post_law {f : Func} {s : ChangeSpec} {apart fresh handsOn : Bool} {W W' : World} {args : Array Value} {v : Value} {ds gs : List (DataW H)} {before pa pv : List MemPlace}
    (hW : DataW.Whole enc P f.params.toList s.vars apart W args.toList ds gs before)
    (hr : ∀ (b : Nat) (sp : Nat → Bool) (hd : Bool), DataW.TrodAll enc P W' b sp hd f.resultTypes.toList (v.resultList f.resultTypes.size) (s.fn H (ds ++ gs)).results [])
    (ha : ∀ sp : Nat → Bool, (∀ p ∈ before, sp p.block = true) → DataW.TrodAll enc P W' 0 sp true f.params.toList args.toList (s.fn H (ds ++ gs)).args pa)
    (hv : ∀ sp : Nat → Bool, (∀ p ∈ before, sp p.block = true) → DataW.TrodVars enc P W' sp s.vars (s.fn H (ds ++ gs)).vars pv)
    (hp : before = pa ++ pv) (hb : Below W.heap.size W W') : s.post enc P f apart fresh handsOn false W args v W' := by
  have old : ∀ p ∈ before, (fun b => decide (b < W.heap.size)) p.block = true := fun p h => decide_eq_true (hW.lt p h)
  exact ⟨ds, gs, before, [], pa, pv, hW, hr _ _ _, ha _ old, hv _ old, World.keptBut_mono (fun p h => ⟨h, .inr (List.mem_append.1 (hp ▸ h))⟩) (hb.frame (· ∈ before)), fun h => by cases h⟩
end

theorem own : ownKnob Tryz.prog.godebug = none := by kernel_rfl

open Go.Ev in
set_option maxRecDepth 100000 in
theorem walk (a0 : Int) (a1 : Bool) (w0 : (Lit.int .i64 a0).wf = true) (w : World) :
    Calls Tryz.prog 3 #[.int .i64 a0, .bool a1] w fun e w' => e = .returned (.bool true) ∧ Below w.heap.size w w' := by
  obtain ⟨j0, hj0, hw0⟩ := and_cases a0 7 (by decide)
  have c0 : j0 = 0 ∨ j0 = 1 ∨ j0 = 2 ∨ j0 = 3 ∨ j0 = 4 ∨ j0 = 5 ∨ j0 = 6 ∨ j0 = 7 := by omega
  rcases c0 with rfl | rfl | rfl | rfl | rfl | rfl | rfl | rfl
  · cases a1
    · exact shut (σ := fun i => match i with | 0 => a0 | _ => 0) (K := ⟨[], [], [rv .and 0 7 (.nat 0)], fun _ => none⟩) (args := [.sym (sv 0), .bool false]) (knownOk trivial trivial ⟨rv_ok hw0, trivial⟩) (relsI (relsB rels0)) (run0 _) w
    · exact shut (σ := fun i => match i with | 0 => a0 | _ => 0) (K := ⟨[], [], [rv .and 0 7 (.nat 0)], fun _ => none⟩) (args := [.sym (sv 0), .bool true]) (knownOk trivial trivial ⟨rv_ok hw0, trivial⟩) (relsI (relsB rels0)) (run1 _) w
  · cases a1
    · exact shut (σ := fun i => match i with | 0 => a0 | _ => 0) (K := ⟨[], [], [rv .and 0 7 (.nat 1)], fun _ => none⟩) (args := [.sym (sv 0), .bool false]) (knownOk trivial trivial ⟨rv_ok hw0, trivial⟩) (relsI (relsB rels0)) (run2 _) w
    · exact shut (σ := fun i => match i with | 0 => a0 | _ => 0) (K := ⟨[], [], [rv .and 0 7 (.nat 1)], fun _ => none⟩) (args := [.sym (sv 0), .bool true]) (knownOk trivial trivial ⟨rv_ok hw0, trivial⟩) (relsI (relsB rels0)) (run3 _) w
  · cases a1
    · exact shut (σ := fun i => match i with | 0 => a0 | _ => 0) (K := ⟨[], [], [rv .and 0 7 (.nat 2)], fun _ => none⟩) (args := [.sym (sv 0), .bool false]) (knownOk trivial trivial ⟨rv_ok hw0, trivial⟩) (relsI (relsB rels0)) (run4 _) w
    · exact shut (σ := fun i => match i with | 0 => a0 | _ => 0) (K := ⟨[], [], [rv .and 0 7 (.nat 2)], fun _ => none⟩) (args := [.sym (sv 0), .bool true]) (knownOk trivial trivial ⟨rv_ok hw0, trivial⟩) (relsI (relsB rels0)) (run5 _) w
  · cases a1
    · exact shut (σ := fun i => match i with | 0 => a0 | _ => 0) (K := ⟨[], [], [rv .and 0 7 (.nat 3)], fun _ => none⟩) (args := [.sym (sv 0), .bool false]) (knownOk trivial trivial ⟨rv_ok hw0, trivial⟩) (relsI (relsB rels0)) (run6 _) w
    · exact shut (σ := fun i => match i with | 0 => a0 | _ => 0) (K := ⟨[], [], [rv .and 0 7 (.nat 3)], fun _ => none⟩) (args := [.sym (sv 0), .bool true]) (knownOk trivial trivial ⟨rv_ok hw0, trivial⟩) (relsI (relsB rels0)) (run7 _) w
  · cases a1
    · exact shut (σ := fun i => match i with | 0 => a0 | _ => 0) (K := ⟨[], [], [rv .and 0 7 (.nat 4)], fun _ => none⟩) (args := [.sym (sv 0), .bool false]) (knownOk trivial trivial ⟨rv_ok hw0, trivial⟩) (relsI (relsB rels0)) (run8 _) w
    · exact shut (σ := fun i => match i with | 0 => a0 | _ => 0) (K := ⟨[], [], [rv .and 0 7 (.nat 4)], fun _ => none⟩) (args := [.sym (sv 0), .bool true]) (knownOk trivial trivial ⟨rv_ok hw0, trivial⟩) (relsI (relsB rels0)) (run9 _) w
  · cases a1
    · exact shut (σ := fun i => match i with | 0 => a0 | _ => 0) (K := ⟨[], [], [rv .and 0 7 (.nat 5)], fun _ => none⟩) (args := [.sym (sv 0), .bool false]) (knownOk trivial trivial ⟨rv_ok hw0, trivial⟩) (relsI (relsB rels0)) (run10 _) w
    · exact shut (σ := fun i => match i with | 0 => a0 | _ => 0) (K := ⟨[], [], [rv .and 0 7 (.nat 5)], fun _ => none⟩) (args := [.sym (sv 0), .bool true]) (knownOk trivial trivial ⟨rv_ok hw0, trivial⟩) (relsI (relsB rels0)) (run11 _) w
  · cases a1
    · exact shut (σ := fun i => match i with | 0 => a0 | _ => 0) (K := ⟨[], [], [rv .and 0 7 (.nat 6)], fun _ => none⟩) (args := [.sym (sv 0), .bool false]) (knownOk trivial trivial ⟨rv_ok hw0, trivial⟩) (relsI (relsB rels0)) (run12 _) w
    · exact shut (σ := fun i => match i with | 0 => a0 | _ => 0) (K := ⟨[], [], [rv .and 0 7 (.nat 6)], fun _ => none⟩) (args := [.sym (sv 0), .bool true]) (knownOk trivial trivial ⟨rv_ok hw0, trivial⟩) (relsI (relsB rels0)) (run13 _) w
  · cases a1
    · exact shut (σ := fun i => match i with | 0 => a0 | _ => 0) (K := ⟨[], [], [rv .and 0 7 (.nat 7)], fun _ => none⟩) (args := [.sym (sv 0), .bool false]) (knownOk trivial trivial ⟨rv_ok hw0, trivial⟩) (relsI (relsB rels0)) (run14 _) w
    · exact shut (σ := fun i => match i with | 0 => a0 | _ => 0) (K := ⟨[], [], [rv .and 0 7 (.nat 7)], fun _ => none⟩) (args := [.sym (sv 0), .bool true]) (knownOk trivial trivial ⟨rv_ok hw0, trivial⟩) (relsI (relsB rels0)) (run15 _) w

set_option maxRecDepth 100000 in
theorem lifted (os : Os) (started : os.Started) (H : Type) (enc : TypeId × Value → H) :
    ReturnsInHanded {} Tryz.checked os 3 .any (fun w args => (Rows.brokerCleanSpec.pre enc Tryz.prog Tryz.f3 Rows.brokerCleanRow.domain false w args ∧ laidMetH Tryz.prog Rows.brokerCleanRow.laid w) ∧ sizedMet enc Tryz.prog Tryz.f3 (OpenSpec.ofChange Rows.brokerCleanSpec) false w args)
      (Rows.brokerCleanSpec.post enc Tryz.prog Tryz.f3 false true false false) := by
  refine returnsInHanded_of_change_and (C := Tryz.checked) (X := fun w _ => laidMetH Tryz.prog Rows.brokerCleanRow.laid w) (fun _ _ _ hh h => h.of_heap hh) own started (by kernel_rfl) Tryz.func3
    (ChangeSpec.witness_shaped (enc := enc) (C := Tryz.checked) (os := os) (X := fun w _ => laidMetH Tryz.prog Rows.brokerCleanRow.laid w) false (World.laidAll Tryz.prog os Rows.brokerCleanRow.laid) #[.int .i64 0, .bool false] 8 (World.laidAll_os _ _ _)
      (World.shaped_of_ZipB (by kernel_rfl) (by kernel_rfl)) (by kernel_rfl) (by kernel_rfl) (by kernel_rfl)
      (by rw [MakeChecks.laidMetH_plain _ _ _ (by kernel_rfl)]; exact laidMet_laidAll _ (by kernel_rfl) (by kernel_rfl))) ?_
  intro W base args ds gs before hval0 hW hcnd _ hL _
  have hval : ∀ (j : Nat) t v, Tryz.f3.params[j]? = some t → args[j]? = some v → Value.okWide Tryz.prog W .any base t v := hval0
  have hW' := hW
  obtain ⟨p, q, hA0, hV, rfl, hfz, hnd⟩ := hW
  have hA : DataW.TrodAll enc Tryz.prog W 0 (fun _ => true) true Tryz.f3.params.toList args.toList ds p := hA0
  rw [Tryz.params3] at hA hval
  obtain ⟨v0, vs0, d0, ds0, p0, q0, hargs, rfl, rfl, h0, r0⟩ := trodAll_cons hA
  obtain ⟨v1, vs1, d1, ds1, p1, q1, rfl, rfl, rfl, h1, r1⟩ := trodAll_cons r0
  obtain ⟨rfl, rfl, rfl⟩ := trodAll_nil r1
  obtain rfl : args = #[v0, v1] := by cases args; simp_all
  obtain ⟨rfl, rfl⟩ := trodVars_none hV
  obtain ⟨a0, rfl, rfl, rfl, w0⟩ := open_int Tryz.underlying3 (hval 0 3 v0 rfl rfl) h0
  obtain ⟨a1, rfl, rfl, rfl⟩ := open_bool Tryz.underlying4 (hval 1 4 v1 rfl rfl) h1
  clear hA0 hval0
  simp only [List.append_nil] at hW'
  refine (walk a0 a1 w0 W).mono fun e W' ⟨he, hg⟩ => ?_
  subst he
  exact ⟨_, rfl, post_law (pa := []) (pv := []) hW' (fun _ _ _ => (trodAll_cons_mk (shut_bool Tryz.underlying4 _) trodAll_mk0)) (fun sp _ => (trodAll_cons_mk (shut_int Tryz.underlying3 w0) (trodAll_cons_mk (shut_bool Tryz.underlying4 _) trodAll_mk0))) (fun _ _ => rfl) rfl hg⟩

theorem over : Rows.brokerCleanRow.holds Tryz.pinned (OpenSpec.ofChange Rows.brokerCleanSpec) :=
  OpenClaim.holds_of_wide 3 Tryz.f3 rfl rfl rfl rfl rfl rfl rfl ⟨rfl, rfl, rfl, rfl, rfl⟩ rfl rfl rfl rfl rfl (by kernel_rfl) Tryz.func3 closed
    (of_decide_eq_true (by kernel_rfl)) (by unfold Func.isWrapper; first | (rw [if_pos (by decide +kernel)]; kernel_rfl) | (rw [if_neg (by decide +kernel)]; exact ⟨rfl, rfl⟩))
    (fun os started H enc _ => lifted os started H enc)


theorem card_m : Tryz.pinned.checked.prog.mainIs = some (true, "cca015f608286e0bf2e148fda3a68a87618e0a687f01ef4a0e6c2a8326a8b82c".toList) := by kernel_rfl
theorem proved : Rows.BrokerCleanCardSaid :=
  Claim7.holds_tied_plain_at .later [] [.data, .sentinel, .pinned] true (true, "cca015f608286e0bf2e148fda3a68a87618e0a687f01ef4a0e6c2a8326a8b82c") true
    over (fun _ h => by cases h) card_w (fun _ h => by cases h) brokerClean_row_tie rfl ⟨rfl, rfl⟩ card_m rfl
    (fun f fn hf hfn => by
      obtain rfl : f = 3 := Option.some.inj ((show Tryz.prog.funcNamed Rows.brokerCleanRow.func = some 3 by kernel_rfl).symm.trans hf) |>.symm
      obtain rfl : fn = Tryz.f3 := (Option.some.inj (Tryz.func3.symm.trans hfn)).symm
      exact ⟨card_l, fun j t ht => by
          rw [Tryz.params3] at ht
          rcases j with _ | j
          · (have h : t = 3 := by simpa using ht.symm); subst h; exact (show Tryz.prog.wantsStandIn 3 = false by kernel_rfl)
          rcases j with _ | j
          · (have h : t = 4 := by simpa using ht.symm); subst h; exact (show Tryz.prog.wantsStandIn 4 = false by kernel_rfl)
          simp at ht⟩)
    card_g
#print axioms proved
end Go.Proofs.YtaajgccgdoghkaaGreatDoor.brokerClean
