/-
  BrokerEchoes hands back true for every input: by runs of a verified evaluator over the program's code, case by case.
  Conditions: none but those of the given row.
-/
import Derived.Test.YtdkkkpakmpfkeaaGreatDoorRows
import Derived.Test.YtdkkkpakmpfkeaaGreatDoorCards
import Derived.Test.YtdkkkpakmpfkeaaGreatDoorTie
import Derived.Test.YtdkkkpakmpfkeaaGreatDoorFacts
import Derived.Test.YtdkkkpakmpfkeaaGreatDoorRun0
import Derived.Test.YtdkkkpakmpfkeaaGreatDoorRun1
import Derived.Test.YtdkkkpakmpfkeaaGreatDoorRun2
import Derived.Test.YtdkkkpakmpfkeaaGreatDoorRun3
import Derived.Test.YtdkkkpakmpfkeaaGreatDoorRun4
import Derived.WalkKit
import Derived.ProofKit
import Derived.OpenShut
import Derived.LaidMore
import Derived.Lay
import Derived.Stop.Joined
import Derived.SevenTiedAt
namespace Go.Proofs.YtdkkkpakmpfkeaaGreatDoor.brokerEchoes
open Go.ChangeShapes Go.WideShapes Go.ChangeAt Go.RowKit
set_option linter.unusedVariables false

section
variable {H : Type} {enc : TypeId × Value → H} {P : Program}
/-- what is left behind a call that has turned nothing that was there -/
theorem post_law {f : Func} {s : ChangeSpec} {apart fresh handsOn : Bool} {W W' : World} {args : Array Value} {v : Value} {ds gs : List (DataW H)} {before pa pv : List MemPlace}
    (hW : DataW.Whole enc P f.params.toList s.vars apart W args.toList ds gs before)
    (hr : ∀ (b : Nat) (sp : Nat → Bool) (hd : Bool), DataW.TrodAll enc P W' b sp hd f.resultTypes.toList (v.resultList f.resultTypes.size) (s.fn H (ds ++ gs)).results [])
    (ha : ∀ sp : Nat → Bool, (∀ p ∈ before, sp p.block = true) → DataW.TrodAll enc P W' 0 sp true f.params.toList args.toList (s.fn H (ds ++ gs)).args pa)
    (hv : ∀ sp : Nat → Bool, (∀ p ∈ before, sp p.block = true) → DataW.TrodVars enc P W' sp s.vars (s.fn H (ds ++ gs)).vars pv)
    (hp : before = pa ++ pv) (hb : Below W.heap.size W W') : s.post enc P f apart fresh handsOn false W args v W' := by
  have old : ∀ p ∈ before, (fun b => decide (b < W.heap.size)) p.block = true := fun p h => decide_eq_true (hW.lt p h)
  exact ⟨ds, gs, before, [], pa, pv, hW, hr _ _ _, ha _ old, hv _ old, World.keptBut_mono (fun p h => ⟨h, .inr (List.mem_append.1 (hp ▸ h))⟩) (hb.frame (· ∈ before)), fun h => by cases h⟩
end

theorem own : ownKnob Tryz.prog.godebug = none := by kernel_rfl

open Go.Ev in
theorem walk (a0 : Bool) (a1 : Bool) (a2 : Bool) (a3 : Int) (w3 : (Lit.int .i64 a3).wf = true) (w : World) :
    Calls Tryz.prog 3 #[.bool a0, .bool a1, .bool a2, .int .i64 a3] w fun e w' => e = .returned (.bool true) ∧ Below w.heap.size w w' := by
  obtain ⟨j3, hj3, hw3⟩ := rem_cases a3 2
  have key : ∀ (v3 : CV) (h3 : mkInt .i64 j3 = v3), allTrue (@ev (tabSym (fun _ => a3) [⟨.rem, 0, 3, v3⟩]) Tryz.prog codeN natW 1000 false 3 [.bool a0, .bool a1, .bool a2, .sym 0] .nil n0) = true →
      Calls Tryz.prog 3 #[.bool a0, .bool a1, .bool a2, .int .i64 a3] w fun e w' => e = .returned (.bool true) ∧ Below w.heap.size w w' := by
    intro v3 h3 hrun
    refine calls_tab (σ := fun _ => a3) (rules := [⟨.rem, 0, 3, v3⟩]) (G := 100) (n := n0) (fun r hr => ?_) mixedN codeN_ok natW_ok Tryz.func3 (by kernel_rfl) (show Tryz.f3.body = some _ from rfl) globN (by decide) ?_ hrun w
    · simp only [List.mem_cons, List.mem_nil_iff, or_false] at hr
      subst hr
      exact ⟨_, hw3, .inl h3.symm⟩
    · letI : Sym := tabSym (fun _ => a3) [⟨.rem, 0, 3, v3⟩]
      exact vrels_cons'.2 ⟨vrel_bool.2 rfl, vrels_cons'.2 ⟨vrel_bool.2 rfl, vrels_cons'.2 ⟨vrel_bool.2 rfl, vrels_cons'.2 ⟨vrel_sym.2 rfl, vrels_nil.2 rfl⟩⟩⟩⟩
  have c3 : j3 = -2 ∨ j3 = -1 ∨ j3 = 0 ∨ j3 = 1 ∨ j3 = 2 := by omega
  cases a0 <;> cases a1 <;> cases a2 <;> rcases c3 with rfl | rfl | rfl | rfl | rfl
  · exact key (.int .i64 (.negSucc 1)) rfl (run0 _)
  · exact key (.int .i64 (.negSucc 0)) rfl (run1 _)
  · exact key (.nat 0) rfl (run2 _)
  · exact key (.nat 1) rfl (run3 _)
  · exact key (.nat 2) rfl (run4 _)
  · exact key (.int .i64 (.negSucc 1)) rfl (run5 _)
  · exact key (.int .i64 (.negSucc 0)) rfl (run6 _)
  · exact key (.nat 0) rfl (run7 _)
  · exact key (.nat 1) rfl (run8 _)
  · exact key (.nat 2) rfl (run9 _)
  · exact key (.int .i64 (.negSucc 1)) rfl (run10 _)
  · exact key (.int .i64 (.negSucc 0)) rfl (run11 _)
  · exact key (.nat 0) rfl (run12 _)
  · exact key (.nat 1) rfl (run13 _)
  · exact key (.nat 2) rfl (run14 _)
  · exact key (.int .i64 (.negSucc 1)) rfl (run15 _)
  · exact key (.int .i64 (.negSucc 0)) rfl (run16 _)
  · exact key (.nat 0) rfl (run17 _)
  · exact key (.nat 1) rfl (run18 _)
  · exact key (.nat 2) rfl (run19 _)
  · exact key (.int .i64 (.negSucc 1)) rfl (run20 _)
  · exact key (.int .i64 (.negSucc 0)) rfl (run21 _)
  · exact key (.nat 0) rfl (run22 _)
  · exact key (.nat 1) rfl (run23 _)
  · exact key (.nat 2) rfl (run24 _)
  · exact key (.int .i64 (.negSucc 1)) rfl (run25 _)
  · exact key (.int .i64 (.negSucc 0)) rfl (run26 _)
  · exact key (.nat 0) rfl (run27 _)
  · exact key (.nat 1) rfl (run28 _)
  · exact key (.nat 2) rfl (run29 _)
  · exact key (.int .i64 (.negSucc 1)) rfl (run30 _)
  · exact key (.int .i64 (.negSucc 0)) rfl (run31 _)
  · exact key (.nat 0) rfl (run32 _)
  · exact key (.nat 1) rfl (run33 _)
  · exact key (.nat 2) rfl (run34 _)
  · exact key (.int .i64 (.negSucc 1)) rfl (run35 _)
  · exact key (.int .i64 (.negSucc 0)) rfl (run36 _)
  · exact key (.nat 0) rfl (run37 _)
  · exact key (.nat 1) rfl (run38 _)
  · exact key (.nat 2) rfl (run39 _)

set_option maxRecDepth 100000 in
theorem lifted (os : Os) (started : os.Started) (H : Type) (enc : TypeId × Value → H) :
    ReturnsInHanded {} Tryz.checked os 3 .any (fun w args => (Rows.brokerEchoesSpec.pre enc Tryz.prog Tryz.f3 Rows.brokerEchoesRow.domain false w args ∧ laidMetH Tryz.prog Rows.brokerEchoesRow.laid w) ∧ sizedMet enc Tryz.prog Tryz.f3 (OpenSpec.ofChange Rows.brokerEchoesSpec) false w args)
      (Rows.brokerEchoesSpec.post enc Tryz.prog Tryz.f3 false true false false) := by
  refine returnsInHanded_of_change_and (C := Tryz.checked) (X := fun w _ => laidMetH Tryz.prog Rows.brokerEchoesRow.laid w) (fun _ _ _ hh h => h.of_heap hh) own started (by kernel_rfl) Tryz.func3
    (ChangeSpec.witness_shaped (enc := enc) (C := Tryz.checked) (os := os) (X := fun w _ => laidMetH Tryz.prog Rows.brokerEchoesRow.laid w) false (World.laidAll Tryz.prog os Rows.brokerEchoesRow.laid) #[.bool false, .bool false, .bool false, .int .i64 0] 8 (World.laidAll_os _ _ _)
      (World.shaped_of_ZipB (by kernel_rfl) (by kernel_rfl)) (by kernel_rfl) (by kernel_rfl) (by kernel_rfl)
      (by rw [MakeChecks.laidMetH_plain _ _ _ (by kernel_rfl)]; exact laidMet_laidAll _ (by kernel_rfl) (by kernel_rfl))) ?_
  intro W base args ds gs before hval0 hW hcnd _ hL _
  have hval : ∀ (j : Nat) t v, Tryz.f3.params[j]? = some t → args[j]? = some v → Value.okWide Tryz.prog W .any base t v := hval0
  have hW' := hW
  obtain ⟨p, q, hA0, hV, rfl, hfz, hnd⟩ := hW
  have hA : DataW.TrodAll enc Tryz.prog W 0 (fun _ => true) true Tryz.f3.params.toList args.toList ds p := hA0
  rw [Tryz.params3] at hA hval
  obtain ⟨v0, vs0, d0, ds0, p0, q0, hargs, rfl, rfl, h0, r0⟩ := trodAll_cons hA
  obtain ⟨v1, vs1, d1, ds1, p1, q1, rfl, rfl, rfl, h1, r1⟩ := trodAll_cons r0
  obtain ⟨v2, vs2, d2, ds2, p2, q2, rfl, rfl, rfl, h2, r2⟩ := trodAll_cons r1
  obtain ⟨v3, vs3, d3, ds3, p3, q3, rfl, rfl, rfl, h3, r3⟩ := trodAll_cons r2
  obtain ⟨rfl, rfl, rfl⟩ := trodAll_nil r3
  obtain rfl : args = #[v0, v1, v2, v3] := by cases args; simp_all
  obtain ⟨rfl, rfl⟩ := trodVars_none hV
  obtain ⟨a0, rfl, rfl, rfl⟩ := open_bool Tryz.underlying4 (hval 0 4 v0 rfl rfl) h0
  obtain ⟨a1, rfl, rfl, rfl⟩ := open_bool Tryz.underlying4 (hval 1 4 v1 rfl rfl) h1
  obtain ⟨a2, rfl, rfl, rfl⟩ := open_bool Tryz.underlying4 (hval 2 4 v2 rfl rfl) h2
  obtain ⟨a3, rfl, rfl, rfl, w3⟩ := open_int Tryz.underlying3 (hval 3 3 v3 rfl rfl) h3
  clear hA0 hval0
  simp only [List.append_nil] at hW'
  refine (walk a0 a1 a2 a3 w3 W).mono fun e W' ⟨he, hg⟩ => ?_
  subst he
  exact ⟨_, rfl, post_law (pa := []) (pv := []) hW' (fun _ _ _ => (trodAll_cons_mk (shut_bool Tryz.underlying4 _) trodAll_mk0)) (fun sp _ => (trodAll_cons_mk (shut_bool Tryz.underlying4 _) (trodAll_cons_mk (shut_bool Tryz.underlying4 _) (trodAll_cons_mk (shut_bool Tryz.underlying4 _) (trodAll_cons_mk (shut_int Tryz.underlying3 w3) trodAll_mk0))))) (fun _ _ => rfl) rfl hg⟩

theorem over : Rows.brokerEchoesRow.holds Tryz.pinned (OpenSpec.ofChange Rows.brokerEchoesSpec) :=
  OpenClaim.holds_of_wide 3 Tryz.f3 rfl rfl rfl rfl rfl rfl rfl ⟨rfl, rfl, rfl, rfl, rfl⟩ rfl rfl rfl rfl rfl (by kernel_rfl) Tryz.func3 closed
    (of_decide_eq_true (by kernel_rfl)) (by unfold Func.isWrapper; first | (rw [if_pos (by decide +kernel)]; kernel_rfl) | (rw [if_neg (by decide +kernel)]; exact ⟨rfl, rfl⟩))
    (fun os started H enc _ => lifted os started H enc)


theorem card_m : Tryz.pinned.checked.prog.mainIs = some (true, "c2f43c326da4842fc9eef2150cd184596dd3809fb3e707d687506dc950af792c".toList) := by kernel_rfl
theorem proved : Rows.BrokerEchoesCardSaid :=
  Claim7.holds_tied_plain_at .later [] [.data, .sentinel, .pinned] true (true, "c2f43c326da4842fc9eef2150cd184596dd3809fb3e707d687506dc950af792c") true
    over (fun _ h => by cases h) card_w (fun _ h => by cases h) brokerEchoes_row_tie rfl ⟨rfl, rfl⟩ card_m rfl
    (fun f fn hf hfn => by
      obtain rfl : f = 3 := Option.some.inj ((show Tryz.prog.funcNamed Rows.brokerEchoesRow.func = some 3 by kernel_rfl).symm.trans hf) |>.symm
      obtain rfl : fn = Tryz.f3 := (Option.some.inj (Tryz.func3.symm.trans hfn)).symm
      exact ⟨card_l, fun j t ht => by
          rw [Tryz.params3] at ht
          rcases j with _ | j
          · (have h : t = 4 := by simpa using ht.symm); subst h; exact (show Tryz.prog.wantsStandIn 4 = false by kernel_rfl)
          rcases j with _ | j
          · (have h : t = 4 := by simpa using ht.symm); subst h; exact (show Tryz.prog.wantsStandIn 4 = false by kernel_rfl)
          rcases j with _ | j
          · (have h : t = 4 := by simpa using ht.symm); subst h; exact (show Tryz.prog.wantsStandIn 4 = false by kernel_rfl)
          rcases j with _ | j
          · (have h : t = 3 := by simpa using ht.symm); subst h; exact (show Tryz.prog.wantsStandIn 3 = false by kernel_rfl)
          simp at ht⟩)
    card_g
#print axioms proved
end Go.Proofs.YtdkkkpakmpfkeaaGreatDoor.brokerEchoes
