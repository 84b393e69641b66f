/- The functions 'names' of the broker hand back the keys of a map, sorted: so the evaluator may take them whole. -/
import Derived.Test.YtilghajadoibgaaGreatDoorIter
import Derived.Test.YtilghajadoibgaaGreatDoorEvSym
namespace Go.Ev
open Go.RowKit Go.Maps Go.Sort Go.Shelf Go.Proofs

set_option maxHeartbeats 1000000 in
theorem names41_some (b nn : Nat) (D0 : DataW Unit) (w : World) (hown : w.ownsMap Tryz.prog 9 R0 b nn D0) (hmax : Maps.size D0 ≤ maxLen) (hbytes : Maps.size D0 * 16 ≤ 140737488355328) :
    Calls Tryz.prog 41 #[.map (some b)] w fun e w' => ∃ (v : Value) (ss : List (List UInt8)), e = .returned v ∧ ss.Perm (strKeys D0) ∧
      w'.ownsRow w.heap.size 9 1 v ss.length ((ss.mergeSort (fun x y => decide (x ≤ y))).map encStr) ∧ (v = .slice none 0 0 ↔ ss = []) ∧ Below w.heap.size w w' := by
  refine (callsIn_wide (n := 6)).1 ?_
  have hfK : Fence.wide.fn 67 := trivial
  have hfS : Fence.wide.fn 66 := trivial
  refine callsIn_of_wp Tryz.func41 rfl trivial ?_ rfl
  simp only [Tryz.ntmps41, List.size_toArray, List.length_cons, List.length_nil, Nat.reduceAdd, Nat.reduceSub, Array.replicate_succ, Array.replicate_zero, List.push_toArray, List.append_toArray, List.nil_append, List.cons_append]
  gi_wp2_with (first
    | (gi_at_call 67; refine (Tryz.maps_Keys_67 _ _).mono ?_; rintro e w' ⟨rfl, rfl⟩)
    | (gi_at_call 66; refine (Tryz.slices_Sorted_keys_66_67 b nn D0 R0 w hown hmax hbytes).mono ?_; rintro e w' ⟨v, ss, rfl, hS, hrow, hnil, hb⟩))
  go_ret
  exact ⟨v, ss, rfl, hS, ownsRow_base_a hrow (by simp), hnil, ((Below.refl _ w).alloc (Nat.le_refl _) _).trans (hb.mono (by simp))⟩

set_option maxHeartbeats 1000000 in
theorem names41_nil (w : World) : Calls Tryz.prog 41 #[.map none] w fun e w' => e = .returned (.slice none 0 0) ∧ Below w.heap.size w w' := by
  refine (callsIn_wide (n := 6)).1 ?_
  have hfK : Fence.wide.fn 67 := trivial
  have hfS : Fence.wide.fn 66 := trivial
  refine callsIn_of_wp Tryz.func41 rfl trivial ?_ rfl
  simp only [Tryz.ntmps41, List.size_toArray, List.length_cons, List.length_nil, Nat.reduceAdd, Nat.reduceSub, Array.replicate_succ, Array.replicate_zero, List.push_toArray, List.append_toArray, List.nil_append, List.cons_append]
  gi_wp2_with (first
    | (gi_at_call 67; refine (Tryz.maps_Keys_67 _ _).mono ?_; rintro e w' ⟨rfl, rfl⟩)
    | (gi_at_call 66; refine (Tryz.slices_Sorted_keys_nil_66_67 w).mono ?_; rintro e w' ⟨v, ss, rfl, hS, hrow, hnil, hb⟩))
  go_ret
  exact ⟨by rw [hnil.2 hS]; rfl, ((Below.refl _ w).alloc (Nat.le_refl _) _).trans (hb.mono (by simp))⟩

theorem names41_ok : NamesFn Tryz.prog 41 9 :=
  ⟨fun args w => run_callFunc_enter Tryz.func41 (by kernel_rfl) (show Tryz.f41.body = some _ from rfl) args w, Tryz.underlying9, names41_some, names41_nil⟩

set_option maxHeartbeats 1000000 in
theorem names73_some (b nn : Nat) (D0 : DataW Unit) (w : World) (hown : w.ownsMap Tryz.prog 9 R0 b nn D0) (hmax : Maps.size D0 ≤ maxLen) (hbytes : Maps.size D0 * 16 ≤ 140737488355328) :
    Calls Tryz.prog 73 #[.map (some b)] w fun e w' => ∃ (v : Value) (ss : List (List UInt8)), e = .returned v ∧ ss.Perm (strKeys D0) ∧
      w'.ownsRow w.heap.size 9 1 v ss.length ((ss.mergeSort (fun x y => decide (x ≤ y))).map encStr) ∧ (v = .slice none 0 0 ↔ ss = []) ∧ Below w.heap.size w w' := by
  refine (callsIn_wide (n := 6)).1 ?_
  have hfK : Fence.wide.fn 102 := trivial
  have hfS : Fence.wide.fn 66 := trivial
  refine callsIn_of_wp Tryz.func73 rfl trivial ?_ rfl
  simp only [Tryz.ntmps73, List.size_toArray, List.length_cons, List.length_nil, Nat.reduceAdd, Nat.reduceSub, Array.replicate_succ, Array.replicate_zero, List.push_toArray, List.append_toArray, List.nil_append, List.cons_append]
  gi_wp2_with (first
    | (gi_at_call 102; refine (Tryz.maps_Keys_102 _ _).mono ?_; rintro e w' ⟨rfl, rfl⟩)
    | (gi_at_call 66; refine (Tryz.slices_Sorted_keys_66_102 b nn D0 R0 w hown hmax hbytes).mono ?_; rintro e w' ⟨v, ss, rfl, hS, hrow, hnil, hb⟩))
  go_ret
  exact ⟨v, ss, rfl, hS, ownsRow_base_a hrow (by simp), hnil, ((Below.refl _ w).alloc (Nat.le_refl _) _).trans (hb.mono (by simp))⟩

set_option maxHeartbeats 1000000 in
theorem names73_nil (w : World) : Calls Tryz.prog 73 #[.map none] w fun e w' => e = .returned (.slice none 0 0) ∧ Below w.heap.size w w' := by
  refine (callsIn_wide (n := 6)).1 ?_
  have hfK : Fence.wide.fn 102 := trivial
  have hfS : Fence.wide.fn 66 := trivial
  refine callsIn_of_wp Tryz.func73 rfl trivial ?_ rfl
  simp only [Tryz.ntmps73, List.size_toArray, List.length_cons, List.length_nil, Nat.reduceAdd, Nat.reduceSub, Array.replicate_succ, Array.replicate_zero, List.push_toArray, List.append_toArray, List.nil_append, List.cons_append]
  gi_wp2_with (first
    | (gi_at_call 102; refine (Tryz.maps_Keys_102 _ _).mono ?_; rintro e w' ⟨rfl, rfl⟩)
    | (gi_at_call 66; refine (Tryz.slices_Sorted_keys_nil_66_102 w).mono ?_; rintro e w' ⟨v, ss, rfl, hS, hrow, hnil, hb⟩))
  go_ret
  exact ⟨by rw [hnil.2 hS]; rfl, ((Below.refl _ w).alloc (Nat.le_refl _) _).trans (hb.mono (by simp))⟩

theorem names73_ok : NamesFn Tryz.prog 73 9 :=
  ⟨fun args w => run_callFunc_enter Tryz.func73 (by kernel_rfl) (show Tryz.f73.body = some _ from rfl) args w, Tryz.underlying9, names73_some, names73_nil⟩

set_option maxHeartbeats 1000000 in
theorem names450_some (b nn : Nat) (D0 : DataW Unit) (w : World) (hown : w.ownsMap Tryz.prog 9 R0 b nn D0) (hmax : Maps.size D0 ≤ maxLen) (hbytes : Maps.size D0 * 16 ≤ 140737488355328) :
    Calls Tryz.prog 450 #[.map (some b)] w fun e w' => ∃ (v : Value) (ss : List (List UInt8)), e = .returned v ∧ ss.Perm (strKeys D0) ∧
      w'.ownsRow w.heap.size 9 1 v ss.length ((ss.mergeSort (fun x y => decide (x ≤ y))).map encStr) ∧ (v = .slice none 0 0 ↔ ss = []) ∧ Below w.heap.size w w' := by
  refine (callsIn_wide (n := 6)).1 ?_
  have hfK : Fence.wide.fn 455 := trivial
  have hfS : Fence.wide.fn 66 := trivial
  refine callsIn_of_wp Tryz.func450 rfl trivial ?_ rfl
  simp only [Tryz.ntmps450, List.size_toArray, List.length_cons, List.length_nil, Nat.reduceAdd, Nat.reduceSub, Array.replicate_succ, Array.replicate_zero, List.push_toArray, List.append_toArray, List.nil_append, List.cons_append]
  gi_wp2_with (first
    | (gi_at_call 455; refine (Tryz.maps_Keys_455 _ _).mono ?_; rintro e w' ⟨rfl, rfl⟩)
    | (gi_at_call 66; refine (Tryz.slices_Sorted_keys_66_455 b nn D0 R0 w hown hmax hbytes).mono ?_; rintro e w' ⟨v, ss, rfl, hS, hrow, hnil, hb⟩))
  go_ret
  exact ⟨v, ss, rfl, hS, ownsRow_base_a hrow (by simp), hnil, ((Below.refl _ w).alloc (Nat.le_refl _) _).trans (hb.mono (by simp))⟩

set_option maxHeartbeats 1000000 in
theorem names450_nil (w : World) : Calls Tryz.prog 450 #[.map none] w fun e w' => e = .returned (.slice none 0 0) ∧ Below w.heap.size w w' := by
  refine (callsIn_wide (n := 6)).1 ?_
  have hfK : Fence.wide.fn 455 := trivial
  have hfS : Fence.wide.fn 66 := trivial
  refine callsIn_of_wp Tryz.func450 rfl trivial ?_ rfl
  simp only [Tryz.ntmps450, List.size_toArray, List.length_cons, List.length_nil, Nat.reduceAdd, Nat.reduceSub, Array.replicate_succ, Array.replicate_zero, List.push_toArray, List.append_toArray, List.nil_append, List.cons_append]
  gi_wp2_with (first
    | (gi_at_call 455; refine (Tryz.maps_Keys_455 _ _).mono ?_; rintro e w' ⟨rfl, rfl⟩)
    | (gi_at_call 66; refine (Tryz.slices_Sorted_keys_nil_66_455 w).mono ?_; rintro e w' ⟨v, ss, rfl, hS, hrow, hnil, hb⟩))
  go_ret
  exact ⟨by rw [hnil.2 hS]; rfl, ((Below.refl _ w).alloc (Nat.le_refl _) _).trans (hb.mono (by simp))⟩

theorem names450_ok : NamesFn Tryz.prog 450 9 :=
  ⟨fun args w => run_callFunc_enter Tryz.func450 (by kernel_rfl) (show Tryz.f450.body = some _ from rfl) args w, Tryz.underlying9, names450_some, names450_nil⟩

noncomputable section
/-- the functions that are taken whole -/
def natN : Nats := fun f => Bool.rec (motive := fun _ => Option NatF) (Bool.rec (motive := fun _ => Option NatF) (Bool.rec (motive := fun _ => Option NatF) (none) (some namesN) (Nat.beq f 450)) (some namesN) (Nat.beq f 73)) (some namesN) (Nat.beq f 41)
theorem natN_ok [Sym] [SymFact Tryz.prog] : NatsOk Tryz.prog natN := by
  refine nats_ok fun f g h => ?_
  unfold natN at h
  cases e41 : Nat.beq f 41 with
  | true =>
    rw [e41] at h
    injection h with h
    have := Nat.eq_of_beq_eq_true e41
    subst this
    exact .inl ⟨h.symm, _, names41_ok⟩
  | false =>
  rw [e41] at h
  simp only at h
  cases e73 : Nat.beq f 73 with
  | true =>
    rw [e73] at h
    injection h with h
    have := Nat.eq_of_beq_eq_true e73
    subst this
    exact .inl ⟨h.symm, _, names73_ok⟩
  | false =>
  rw [e73] at h
  simp only at h
  cases e450 : Nat.beq f 450 with
  | true =>
    rw [e450] at h
    injection h with h
    have := Nat.eq_of_beq_eq_true e450
    subst this
    exact .inl ⟨h.symm, _, names450_ok⟩
  | false =>
  rw [e450] at h
  simp only at h
  cases h
end
end Go.Ev
