/-
  BrokerTakes hands back true for every input: by runs of a verified evaluator over the program's code, case by case.
  Conditions: none but those of the given row.
-/
import Derived.Test.YtjfdfjdnkabphaaGreatDoorRows
import Derived.Test.YtjfdfjdnkabphaaGreatDoorCards
import Derived.Test.YtjfdfjdnkabphaaGreatDoorTie
import Derived.Test.YtjfdfjdnkabphaaGreatDoorFacts
import Derived.Test.YtjfdfjdnkabphaaGreatDoorRun00
import Derived.Test.YtjfdfjdnkabphaaGreatDoorRun01
import Derived.Test.YtjfdfjdnkabphaaGreatDoorRun10
import Derived.Test.YtjfdfjdnkabphaaGreatDoorRun11
import Derived.WalkKit
import Derived.ProofKit
import Derived.OpenShut
import Derived.LaidMore
import Derived.Lay
import Derived.Stop.Joined
import Derived.SevenTiedAt
namespace Go.Proofs.YtjfdfjdnkabphaaGreatDoor.brokerTakes
open Go.ChangeShapes Go.WideShapes Go.ChangeAt Go.RowKit
set_option linter.unusedVariables false

section
variable {H : Type} {enc : TypeId × Value → H} {P : Program}
/-- what is left behind a call that has turned nothing that was there -/
theorem post_law {f : Func} {s : ChangeSpec} {apart fresh handsOn : Bool} {W W' : World} {args : Array Value} {v : Value} {ds gs : List (DataW H)} {before pa pv : List MemPlace}
    (hW : DataW.Whole enc P f.params.toList s.vars apart W args.toList ds gs before)
    (hr : ∀ (b : Nat) (sp : Nat → Bool) (hd : Bool), DataW.TrodAll enc P W' b sp hd f.resultTypes.toList (v.resultList f.resultTypes.size) (s.fn H (ds ++ gs)).results [])
    (ha : ∀ sp : Nat → Bool, (∀ p ∈ before, sp p.block = true) → DataW.TrodAll enc P W' 0 sp true f.params.toList args.toList (s.fn H (ds ++ gs)).args pa)
    (hv : ∀ sp : Nat → Bool, (∀ p ∈ before, sp p.block = true) → DataW.TrodVars enc P W' sp s.vars (s.fn H (ds ++ gs)).vars pv)
    (hp : before = pa ++ pv) (hb : Below W.heap.size W W') : s.post enc P f apart fresh handsOn false W args v W' := by
  have old : ∀ p ∈ before, (fun b => decide (b < W.heap.size)) p.block = true := fun p h => decide_eq_true (hW.lt p h)
  exact ⟨ds, gs, before, [], pa, pv, hW, hr _ _ _, ha _ old, hv _ old, World.keptBut_mono (fun p h => ⟨h, .inr (List.mem_append.1 (hp ▸ h))⟩) (hb.frame (· ∈ before)), fun h => by cases h⟩
end

theorem own : ownKnob Tryz.prog.godebug = none := by kernel_rfl

open Go.Ev in
theorem walk (a0 : Bool) (a1 : Bool) (a2 : Int) (w2 : (Lit.int .i64 a2).wf = true) (w : World) :
    Calls Tryz.prog 3 #[.bool a0, .bool a1, .int .i64 a2] w fun e w' => e = .returned (.bool true) ∧ Below w.heap.size w w' := by
  obtain ⟨j, hj, hw⟩ := and_cases a2 7 (by decide)
  have key : ∀ k : Nat, mkInt .i64 (.ofNat j) = .nat k → allTrue (@ev (tabSym (fun _ => a2) [⟨.and, 0, 7, .nat k⟩]) Tryz.prog codeN natW 1000 false 3 [.bool a0, .bool a1, .sym 0] .nil n0) = true →
      Calls Tryz.prog 3 #[.bool a0, .bool a1, .int .i64 a2] w fun e w' => e = .returned (.bool true) ∧ Below w.heap.size w w' := by
    intro k hk hrun
    refine calls_tab (σ := fun _ => a2) (rules := [⟨.and, 0, 7, .nat k⟩]) (G := 100) (n := n0) (fun r hr => ?_) mixedN codeN_ok natW_ok Tryz.func3 (by kernel_rfl) (show Tryz.f3.body = some _ from rfl) globN (by decide) ?_ hrun w
    · obtain rfl : r = ⟨.and, 0, 7, .nat k⟩ := by simpa using hr
      exact ⟨_, hw, .inl hk.symm⟩
    · letI : Sym := tabSym (fun _ => a2) [⟨.and, 0, 7, .nat k⟩]
      exact vrels_cons'.2 ⟨vrel_bool.2 rfl, vrels_cons'.2 ⟨vrel_bool.2 rfl, vrels_cons'.2 ⟨vrel_sym.2 rfl, vrels_nil.2 rfl⟩⟩⟩
  have h8 : j = 0 ∨ j = 1 ∨ j = 2 ∨ j = 3 ∨ j = 4 ∨ j = 5 ∨ j = 6 ∨ j = 7 := by omega
  cases a0 <;> cases a1 <;> rcases h8 with rfl | rfl | rfl | rfl | rfl | rfl | rfl | rfl
  · exact key 0 rfl (run000 _)
  · exact key 1 rfl (run001 _)
  · exact key 2 rfl (run002 _)
  · exact key 3 rfl (run003 _)
  · exact key 4 rfl (run004 _)
  · exact key 5 rfl (run005 _)
  · exact key 6 rfl (run006 _)
  · exact key 7 rfl (run007 _)
  · exact key 0 rfl (run010 _)
  · exact key 1 rfl (run011 _)
  · exact key 2 rfl (run012 _)
  · exact key 3 rfl (run013 _)
  · exact key 4 rfl (run014 _)
  · exact key 5 rfl (run015 _)
  · exact key 6 rfl (run016 _)
  · exact key 7 rfl (run017 _)
  · exact key 0 rfl (run100 _)
  · exact key 1 rfl (run101 _)
  · exact key 2 rfl (run102 _)
  · exact key 3 rfl (run103 _)
  · exact key 4 rfl (run104 _)
  · exact key 5 rfl (run105 _)
  · exact key 6 rfl (run106 _)
  · exact key 7 rfl (run107 _)
  · exact key 0 rfl (run110 _)
  · exact key 1 rfl (run111 _)
  · exact key 2 rfl (run112 _)
  · exact key 3 rfl (run113 _)
  · exact key 4 rfl (run114 _)
  · exact key 5 rfl (run115 _)
  · exact key 6 rfl (run116 _)
  · exact key 7 rfl (run117 _)

set_option maxRecDepth 100000 in
theorem lifted (os : Os) (started : os.Started) (H : Type) (enc : TypeId × Value → H) :
    ReturnsInHanded {} Tryz.checked os 3 .any (fun w args => (Rows.brokerTakesSpec.pre enc Tryz.prog Tryz.f3 Rows.brokerTakesRow.domain false w args ∧ laidMetH Tryz.prog Rows.brokerTakesRow.laid w) ∧ sizedMet enc Tryz.prog Tryz.f3 (OpenSpec.ofChange Rows.brokerTakesSpec) false w args)
      (Rows.brokerTakesSpec.post enc Tryz.prog Tryz.f3 false true false false) := by
  refine returnsInHanded_of_change_and (C := Tryz.checked) (X := fun w _ => laidMetH Tryz.prog Rows.brokerTakesRow.laid w) (fun _ _ _ hh h => h.of_heap hh) own started (by kernel_rfl) Tryz.func3
    (ChangeSpec.witness_shaped (enc := enc) (C := Tryz.checked) (os := os) (X := fun w _ => laidMetH Tryz.prog Rows.brokerTakesRow.laid w) false (World.laidAll Tryz.prog os Rows.brokerTakesRow.laid) #[.bool false, .bool false, .int .i64 0] 8 (World.laidAll_os _ _ _)
      (World.shaped_of_ZipB (by kernel_rfl) (by kernel_rfl)) (by kernel_rfl) (by kernel_rfl) (by kernel_rfl)
      (by rw [MakeChecks.laidMetH_plain _ _ _ (by kernel_rfl)]; exact laidMet_laidAll _ (by kernel_rfl) (by kernel_rfl))) ?_
  intro W base args ds gs before hval0 hW hcnd _ hL _
  have hval : ∀ (j : Nat) t v, Tryz.f3.params[j]? = some t → args[j]? = some v → Value.okWide Tryz.prog W .any base t v := hval0
  have hW' := hW
  obtain ⟨p, q, hA0, hV, rfl, hfz, hnd⟩ := hW
  have hA : DataW.TrodAll enc Tryz.prog W 0 (fun _ => true) true Tryz.f3.params.toList args.toList ds p := hA0
  rw [Tryz.params3] at hA hval
  obtain ⟨v0, vs0, d0, ds0, p0, q0, hargs, rfl, rfl, h0, r0⟩ := trodAll_cons hA
  obtain ⟨v1, vs1, d1, ds1, p1, q1, rfl, rfl, rfl, h1, r1⟩ := trodAll_cons r0
  obtain ⟨v2, vs2, d2, ds2, p2, q2, rfl, rfl, rfl, h2, r2⟩ := trodAll_cons r1
  obtain ⟨rfl, rfl, rfl⟩ := trodAll_nil r2
  obtain rfl : args = #[v0, v1, v2] := by cases args; simp_all
  obtain ⟨rfl, rfl⟩ := trodVars_none hV
  obtain ⟨a0, rfl, rfl, rfl⟩ := open_bool Tryz.underlying4 (hval 0 4 v0 rfl rfl) h0
  obtain ⟨a1, rfl, rfl, rfl⟩ := open_bool Tryz.underlying4 (hval 1 4 v1 rfl rfl) h1
  obtain ⟨a2, rfl, rfl, rfl, w2⟩ := open_int Tryz.underlying3 (hval 2 3 v2 rfl rfl) h2
  clear hA0 hval0
  simp only [List.append_nil] at hW'
  refine (walk a0 a1 a2 w2 W).mono fun e W' ⟨he, hg⟩ => ?_
  subst he
  exact ⟨_, rfl, post_law (pa := []) (pv := []) hW' (fun _ _ _ => (trodAll_cons_mk (shut_bool Tryz.underlying4 _) trodAll_mk0)) (fun sp _ => (trodAll_cons_mk (shut_bool Tryz.underlying4 _) (trodAll_cons_mk (shut_bool Tryz.underlying4 _) (trodAll_cons_mk (shut_int Tryz.underlying3 w2) trodAll_mk0)))) (fun _ _ => rfl) rfl hg⟩

theorem over : Rows.brokerTakesRow.holds Tryz.pinned (OpenSpec.ofChange Rows.brokerTakesSpec) :=
  OpenClaim.holds_of_wide 3 Tryz.f3 rfl rfl rfl rfl rfl rfl rfl ⟨rfl, rfl, rfl, rfl, rfl⟩ rfl rfl rfl rfl rfl (by kernel_rfl) Tryz.func3 closed
    (of_decide_eq_true (by kernel_rfl)) (by unfold Func.isWrapper; first | (rw [if_pos (by decide +kernel)]; kernel_rfl) | (rw [if_neg (by decide +kernel)]; exact ⟨rfl, rfl⟩))
    (fun os started H enc _ => lifted os started H enc)


theorem card_m : Tryz.pinned.checked.prog.mainIs = some (true, "78b7a1eacc852f899b47b528ebb250416c4ba275d6a3b7b1211d065f6d9ad1f2".toList) := by kernel_rfl
theorem proved : Rows.BrokerTakesCardSaid :=
  Claim7.holds_tied_plain_at .later [] [.data, .sentinel, .pinned] true (true, "78b7a1eacc852f899b47b528ebb250416c4ba275d6a3b7b1211d065f6d9ad1f2") true
    over (fun _ h => by cases h) card_w (fun _ h => by cases h) brokerTakes_row_tie rfl ⟨rfl, rfl⟩ card_m rfl
    (fun f fn hf hfn => by
      obtain rfl : f = 3 := Option.some.inj ((show Tryz.prog.funcNamed Rows.brokerTakesRow.func = some 3 by kernel_rfl).symm.trans hf) |>.symm
      obtain rfl : fn = Tryz.f3 := (Option.some.inj (Tryz.func3.symm.trans hfn)).symm
      exact ⟨card_l, fun j t ht => by
          rw [Tryz.params3] at ht
          rcases j with _ | j
          · (have h : t = 4 := by simpa using ht.symm); subst h; exact (show Tryz.prog.wantsStandIn 4 = false by kernel_rfl)
          rcases j with _ | j
          · (have h : t = 4 := by simpa using ht.symm); subst h; exact (show Tryz.prog.wantsStandIn 4 = false by kernel_rfl)
          rcases j with _ | j
          · (have h : t = 3 := by simpa using ht.symm); subst h; exact (show Tryz.prog.wantsStandIn 3 = false by kernel_rfl)
          simp at ht⟩)
    card_g
#print axioms proved
end Go.Proofs.YtjfdfjdnkabphaaGreatDoor.brokerTakes
