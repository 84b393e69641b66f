/- The functions 'names' of the broker hand back the keys of a map, sorted: so the evaluator may take them whole. -/
import Derived.Test.YtpaliddghngcmaaGreatDoorIter
import Derived.Test.YtpaliddghngcmaaGreatDoorEvSym
namespace Go.Ev
open Go.RowKit Go.Maps Go.Sort Go.Shelf Go.Proofs

set_option maxHeartbeats 1000000 in
theorem names40_some (b nn : Nat) (D0 : DataW Unit) (w : World) (hown : w.ownsMap Tryz.prog 9 R0 b nn D0) (hmax : Maps.size D0 ≤ maxLen) (hbytes : Maps.size D0 * 16 ≤ 140737488355328) :
    Calls Tryz.prog 40 #[.map (some b)] w fun e w' => ∃ (v : Value) (ss : List (List UInt8)), e = .returned v ∧ ss.Perm (strKeys D0) ∧
      w'.ownsRow w.heap.size 9 1 v ss.length ((ss.mergeSort (fun x y => decide (x ≤ y))).map encStr) ∧ (v = .slice none 0 0 ↔ ss = []) ∧ Below w.heap.size w w' := by
  refine (callsIn_wide (n := 6)).1 ?_
  have hfK : Fence.wide.fn 60 := trivial
  have hfS : Fence.wide.fn 59 := trivial
  refine callsIn_of_wp Tryz.func40 rfl trivial ?_ rfl
  simp only [Tryz.ntmps40, List.size_toArray, List.length_cons, List.length_nil, Nat.reduceAdd, Nat.reduceSub, Array.replicate_succ, Array.replicate_zero, List.push_toArray, List.append_toArray, List.nil_append, List.cons_append]
  gi_wp2_with (first
    | (gi_at_call 60; refine (Tryz.maps_Keys_60 _ _).mono ?_; rintro e w' ⟨rfl, rfl⟩)
    | (gi_at_call 59; refine (Tryz.slices_Sorted_keys_59_60 b nn D0 R0 w hown hmax hbytes).mono ?_; rintro e w' ⟨v, ss, rfl, hS, hrow, hnil, hb⟩))
  go_ret
  exact ⟨v, ss, rfl, hS, ownsRow_base_a hrow (by simp), hnil, ((Below.refl _ w).alloc (Nat.le_refl _) _).trans (hb.mono (by simp))⟩

set_option maxHeartbeats 1000000 in
theorem names40_nil (w : World) : Calls Tryz.prog 40 #[.map none] w fun e w' => e = .returned (.slice none 0 0) ∧ Below w.heap.size w w' := by
  refine (callsIn_wide (n := 6)).1 ?_
  have hfK : Fence.wide.fn 60 := trivial
  have hfS : Fence.wide.fn 59 := trivial
  refine callsIn_of_wp Tryz.func40 rfl trivial ?_ rfl
  simp only [Tryz.ntmps40, List.size_toArray, List.length_cons, List.length_nil, Nat.reduceAdd, Nat.reduceSub, Array.replicate_succ, Array.replicate_zero, List.push_toArray, List.append_toArray, List.nil_append, List.cons_append]
  gi_wp2_with (first
    | (gi_at_call 60; refine (Tryz.maps_Keys_60 _ _).mono ?_; rintro e w' ⟨rfl, rfl⟩)
    | (gi_at_call 59; refine (Tryz.slices_Sorted_keys_nil_59_60 w).mono ?_; rintro e w' ⟨v, ss, rfl, hS, hrow, hnil, hb⟩))
  go_ret
  exact ⟨by rw [hnil.2 hS]; rfl, ((Below.refl _ w).alloc (Nat.le_refl _) _).trans (hb.mono (by simp))⟩

theorem names40_ok : NamesFn Tryz.prog 40 9 :=
  ⟨fun args w => run_callFunc_enter Tryz.func40 (by kernel_rfl) (show Tryz.f40.body = some _ from rfl) args w, Tryz.underlying9, names40_some, names40_nil⟩

set_option maxHeartbeats 1000000 in
theorem names75_some (b nn : Nat) (D0 : DataW Unit) (w : World) (hown : w.ownsMap Tryz.prog 9 R0 b nn D0) (hmax : Maps.size D0 ≤ maxLen) (hbytes : Maps.size D0 * 16 ≤ 140737488355328) :
    Calls Tryz.prog 75 #[.map (some b)] w fun e w' => ∃ (v : Value) (ss : List (List UInt8)), e = .returned v ∧ ss.Perm (strKeys D0) ∧
      w'.ownsRow w.heap.size 9 1 v ss.length ((ss.mergeSort (fun x y => decide (x ≤ y))).map encStr) ∧ (v = .slice none 0 0 ↔ ss = []) ∧ Below w.heap.size w w' := by
  refine (callsIn_wide (n := 6)).1 ?_
  have hfK : Fence.wide.fn 104 := trivial
  have hfS : Fence.wide.fn 59 := trivial
  refine callsIn_of_wp Tryz.func75 rfl trivial ?_ rfl
  simp only [Tryz.ntmps75, List.size_toArray, List.length_cons, List.length_nil, Nat.reduceAdd, Nat.reduceSub, Array.replicate_succ, Array.replicate_zero, List.push_toArray, List.append_toArray, List.nil_append, List.cons_append]
  gi_wp2_with (first
    | (gi_at_call 104; refine (Tryz.maps_Keys_104 _ _).mono ?_; rintro e w' ⟨rfl, rfl⟩)
    | (gi_at_call 59; refine (Tryz.slices_Sorted_keys_59_104 b nn D0 R0 w hown hmax hbytes).mono ?_; rintro e w' ⟨v, ss, rfl, hS, hrow, hnil, hb⟩))
  go_ret
  exact ⟨v, ss, rfl, hS, ownsRow_base_a hrow (by simp), hnil, ((Below.refl _ w).alloc (Nat.le_refl _) _).trans (hb.mono (by simp))⟩

set_option maxHeartbeats 1000000 in
theorem names75_nil (w : World) : Calls Tryz.prog 75 #[.map none] w fun e w' => e = .returned (.slice none 0 0) ∧ Below w.heap.size w w' := by
  refine (callsIn_wide (n := 6)).1 ?_
  have hfK : Fence.wide.fn 104 := trivial
  have hfS : Fence.wide.fn 59 := trivial
  refine callsIn_of_wp Tryz.func75 rfl trivial ?_ rfl
  simp only [Tryz.ntmps75, List.size_toArray, List.length_cons, List.length_nil, Nat.reduceAdd, Nat.reduceSub, Array.replicate_succ, Array.replicate_zero, List.push_toArray, List.append_toArray, List.nil_append, List.cons_append]
  gi_wp2_with (first
    | (gi_at_call 104; refine (Tryz.maps_Keys_104 _ _).mono ?_; rintro e w' ⟨rfl, rfl⟩)
    | (gi_at_call 59; refine (Tryz.slices_Sorted_keys_nil_59_104 w).mono ?_; rintro e w' ⟨v, ss, rfl, hS, hrow, hnil, hb⟩))
  go_ret
  exact ⟨by rw [hnil.2 hS]; rfl, ((Below.refl _ w).alloc (Nat.le_refl _) _).trans (hb.mono (by simp))⟩

theorem names75_ok : NamesFn Tryz.prog 75 9 :=
  ⟨fun args w => run_callFunc_enter Tryz.func75 (by kernel_rfl) (show Tryz.f75.body = some _ from rfl) args w, Tryz.underlying9, names75_some, names75_nil⟩

set_option maxHeartbeats 1000000 in
theorem names452_some (b nn : Nat) (D0 : DataW Unit) (w : World) (hown : w.ownsMap Tryz.prog 9 R0 b nn D0) (hmax : Maps.size D0 ≤ maxLen) (hbytes : Maps.size D0 * 16 ≤ 140737488355328) :
    Calls Tryz.prog 452 #[.map (some b)] w fun e w' => ∃ (v : Value) (ss : List (List UInt8)), e = .returned v ∧ ss.Perm (strKeys D0) ∧
      w'.ownsRow w.heap.size 9 1 v ss.length ((ss.mergeSort (fun x y => decide (x ≤ y))).map encStr) ∧ (v = .slice none 0 0 ↔ ss = []) ∧ Below w.heap.size w w' := by
  refine (callsIn_wide (n := 6)).1 ?_
  have hfK : Fence.wide.fn 457 := trivial
  have hfS : Fence.wide.fn 59 := trivial
  refine callsIn_of_wp Tryz.func452 rfl trivial ?_ rfl
  simp only [Tryz.ntmps452, List.size_toArray, List.length_cons, List.length_nil, Nat.reduceAdd, Nat.reduceSub, Array.replicate_succ, Array.replicate_zero, List.push_toArray, List.append_toArray, List.nil_append, List.cons_append]
  gi_wp2_with (first
    | (gi_at_call 457; refine (Tryz.maps_Keys_457 _ _).mono ?_; rintro e w' ⟨rfl, rfl⟩)
    | (gi_at_call 59; refine (Tryz.slices_Sorted_keys_59_457 b nn D0 R0 w hown hmax hbytes).mono ?_; rintro e w' ⟨v, ss, rfl, hS, hrow, hnil, hb⟩))
  go_ret
  exact ⟨v, ss, rfl, hS, ownsRow_base_a hrow (by simp), hnil, ((Below.refl _ w).alloc (Nat.le_refl _) _).trans (hb.mono (by simp))⟩

set_option maxHeartbeats 1000000 in
theorem names452_nil (w : World) : Calls Tryz.prog 452 #[.map none] w fun e w' => e = .returned (.slice none 0 0) ∧ Below w.heap.size w w' := by
  refine (callsIn_wide (n := 6)).1 ?_
  have hfK : Fence.wide.fn 457 := trivial
  have hfS : Fence.wide.fn 59 := trivial
  refine callsIn_of_wp Tryz.func452 rfl trivial ?_ rfl
  simp only [Tryz.ntmps452, List.size_toArray, List.length_cons, List.length_nil, Nat.reduceAdd, Nat.reduceSub, Array.replicate_succ, Array.replicate_zero, List.push_toArray, List.append_toArray, List.nil_append, List.cons_append]
  gi_wp2_with (first
    | (gi_at_call 457; refine (Tryz.maps_Keys_457 _ _).mono ?_; rintro e w' ⟨rfl, rfl⟩)
    | (gi_at_call 59; refine (Tryz.slices_Sorted_keys_nil_59_457 w).mono ?_; rintro e w' ⟨v, ss, rfl, hS, hrow, hnil, hb⟩))
  go_ret
  exact ⟨by rw [hnil.2 hS]; rfl, ((Below.refl _ w).alloc (Nat.le_refl _) _).trans (hb.mono (by simp))⟩

theorem names452_ok : NamesFn Tryz.prog 452 9 :=
  ⟨fun args w => run_callFunc_enter Tryz.func452 (by kernel_rfl) (show Tryz.f452.body = some _ from rfl) args w, Tryz.underlying9, names452_some, names452_nil⟩

noncomputable section
/-- the functions that are taken whole -/
def natN : Nats := fun f => Bool.rec (motive := fun _ => Option NatF) (Bool.rec (motive := fun _ => Option NatF) (Bool.rec (motive := fun _ => Option NatF) (none) (some namesN) (Nat.beq f 452)) (some namesN) (Nat.beq f 75)) (some namesN) (Nat.beq f 40)
theorem natN_ok [Sym] [SymFact Tryz.prog] : NatsOk Tryz.prog natN := by
  refine nats_ok fun f g h => ?_
  unfold natN at h
  cases e40 : Nat.beq f 40 with
  | true =>
    rw [e40] at h
    injection h with h
    have := Nat.eq_of_beq_eq_true e40
    subst this
    exact .inl ⟨h.symm, _, names40_ok⟩
  | false =>
  rw [e40] at h
  simp only at h
  cases e75 : Nat.beq f 75 with
  | true =>
    rw [e75] at h
    injection h with h
    have := Nat.eq_of_beq_eq_true e75
    subst this
    exact .inl ⟨h.symm, _, names75_ok⟩
  | false =>
  rw [e75] at h
  simp only at h
  cases e452 : Nat.beq f 452 with
  | true =>
    rw [e452] at h
    injection h with h
    have := Nat.eq_of_beq_eq_true e452
    subst this
    exact .inl ⟨h.symm, _, names452_ok⟩
  | false =>
  rw [e452] at h
  simp only at h
  cases h
end
end Go.Ev
