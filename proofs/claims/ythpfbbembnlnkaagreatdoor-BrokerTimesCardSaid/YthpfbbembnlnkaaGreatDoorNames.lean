/- The functions 'names' of the broker hand back the keys of a map, sorted: so the evaluator may take them whole. -/
import Derived.Test.YthpfbbembnlnkaaGreatDoorIter
import Derived.Test.YthpfbbembnlnkaaGreatDoorEvSym
namespace Go.Ev
open Go.RowKit Go.Maps Go.Sort Go.Shelf Go.Proofs

set_option maxHeartbeats 1000000 in
theorem names33_some (b nn : Nat) (D0 : DataW Unit) (w : World) (hown : w.ownsMap Tryz.prog 9 R0 b nn D0) (hmax : Maps.size D0 ≤ maxLen) (hbytes : Maps.size D0 * 16 ≤ 140737488355328) :
    Calls Tryz.prog 33 #[.map (some b)] w fun e w' => ∃ (v : Value) (ss : List (List UInt8)), e = .returned v ∧ ss.Perm (strKeys D0) ∧
      w'.ownsRow w.heap.size 9 1 v ss.length ((ss.mergeSort (fun x y => decide (x ≤ y))).map encStr) ∧ (v = .slice none 0 0 ↔ ss = []) ∧ Below w.heap.size w w' := by
  refine (callsIn_wide (n := 6)).1 ?_
  have hfK : Fence.wide.fn 67 := trivial
  have hfS : Fence.wide.fn 66 := trivial
  refine callsIn_of_wp Tryz.func33 rfl trivial ?_ rfl
  simp only [Tryz.ntmps33, List.size_toArray, List.length_cons, List.length_nil, Nat.reduceAdd, Nat.reduceSub, Array.replicate_succ, Array.replicate_zero, List.push_toArray, List.append_toArray, List.nil_append, List.cons_append]
  gi_wp2_with (first
    | (gi_at_call 67; refine (Tryz.maps_Keys_67 _ _).mono ?_; rintro e w' ⟨rfl, rfl⟩)
    | (gi_at_call 66; refine (Tryz.slices_Sorted_keys_66_67 b nn D0 R0 w hown hmax hbytes).mono ?_; rintro e w' ⟨v, ss, rfl, hS, hrow, hnil, hb⟩))
  go_ret
  exact ⟨v, ss, rfl, hS, ownsRow_base_a hrow (by simp), hnil, ((Below.refl _ w).alloc (Nat.le_refl _) _).trans (hb.mono (by simp))⟩

set_option maxHeartbeats 1000000 in
theorem names33_nil (w : World) : Calls Tryz.prog 33 #[.map none] w fun e w' => e = .returned (.slice none 0 0) ∧ Below w.heap.size w w' := by
  refine (callsIn_wide (n := 6)).1 ?_
  have hfK : Fence.wide.fn 67 := trivial
  have hfS : Fence.wide.fn 66 := trivial
  refine callsIn_of_wp Tryz.func33 rfl trivial ?_ rfl
  simp only [Tryz.ntmps33, List.size_toArray, List.length_cons, List.length_nil, Nat.reduceAdd, Nat.reduceSub, Array.replicate_succ, Array.replicate_zero, List.push_toArray, List.append_toArray, List.nil_append, List.cons_append]
  gi_wp2_with (first
    | (gi_at_call 67; refine (Tryz.maps_Keys_67 _ _).mono ?_; rintro e w' ⟨rfl, rfl⟩)
    | (gi_at_call 66; refine (Tryz.slices_Sorted_keys_nil_66_67 w).mono ?_; rintro e w' ⟨v, ss, rfl, hS, hrow, hnil, hb⟩))
  go_ret
  exact ⟨by rw [hnil.2 hS]; rfl, ((Below.refl _ w).alloc (Nat.le_refl _) _).trans (hb.mono (by simp))⟩

theorem names33_ok : NamesFn Tryz.prog 33 9 :=
  ⟨fun args w => run_callFunc_enter Tryz.func33 (by kernel_rfl) (show Tryz.f33.body = some _ from rfl) args w, Tryz.underlying9, names33_some, names33_nil⟩

set_option maxHeartbeats 1000000 in
theorem names73_some (b nn : Nat) (D0 : DataW Unit) (w : World) (hown : w.ownsMap Tryz.prog 9 R0 b nn D0) (hmax : Maps.size D0 ≤ maxLen) (hbytes : Maps.size D0 * 16 ≤ 140737488355328) :
    Calls Tryz.prog 73 #[.map (some b)] w fun e w' => ∃ (v : Value) (ss : List (List UInt8)), e = .returned v ∧ ss.Perm (strKeys D0) ∧
      w'.ownsRow w.heap.size 9 1 v ss.length ((ss.mergeSort (fun x y => decide (x ≤ y))).map encStr) ∧ (v = .slice none 0 0 ↔ ss = []) ∧ Below w.heap.size w w' := by
  refine (callsIn_wide (n := 6)).1 ?_
  have hfK : Fence.wide.fn 106 := trivial
  have hfS : Fence.wide.fn 66 := trivial
  refine callsIn_of_wp Tryz.func73 rfl trivial ?_ rfl
  simp only [Tryz.ntmps73, List.size_toArray, List.length_cons, List.length_nil, Nat.reduceAdd, Nat.reduceSub, Array.replicate_succ, Array.replicate_zero, List.push_toArray, List.append_toArray, List.nil_append, List.cons_append]
  gi_wp2_with (first
    | (gi_at_call 106; refine (Tryz.maps_Keys_106 _ _).mono ?_; rintro e w' ⟨rfl, rfl⟩)
    | (gi_at_call 66; refine (Tryz.slices_Sorted_keys_66_106 b nn D0 R0 w hown hmax hbytes).mono ?_; rintro e w' ⟨v, ss, rfl, hS, hrow, hnil, hb⟩))
  go_ret
  exact ⟨v, ss, rfl, hS, ownsRow_base_a hrow (by simp), hnil, ((Below.refl _ w).alloc (Nat.le_refl _) _).trans (hb.mono (by simp))⟩

set_option maxHeartbeats 1000000 in
theorem names73_nil (w : World) : Calls Tryz.prog 73 #[.map none] w fun e w' => e = .returned (.slice none 0 0) ∧ Below w.heap.size w w' := by
  refine (callsIn_wide (n := 6)).1 ?_
  have hfK : Fence.wide.fn 106 := trivial
  have hfS : Fence.wide.fn 66 := trivial
  refine callsIn_of_wp Tryz.func73 rfl trivial ?_ rfl
  simp only [Tryz.ntmps73, List.size_toArray, List.length_cons, List.length_nil, Nat.reduceAdd, Nat.reduceSub, Array.replicate_succ, Array.replicate_zero, List.push_toArray, List.append_toArray, List.nil_append, List.cons_append]
  gi_wp2_with (first
    | (gi_at_call 106; refine (Tryz.maps_Keys_106 _ _).mono ?_; rintro e w' ⟨rfl, rfl⟩)
    | (gi_at_call 66; refine (Tryz.slices_Sorted_keys_nil_66_106 w).mono ?_; rintro e w' ⟨v, ss, rfl, hS, hrow, hnil, hb⟩))
  go_ret
  exact ⟨by rw [hnil.2 hS]; rfl, ((Below.refl _ w).alloc (Nat.le_refl _) _).trans (hb.mono (by simp))⟩

theorem names73_ok : NamesFn Tryz.prog 73 9 :=
  ⟨fun args w => run_callFunc_enter Tryz.func73 (by kernel_rfl) (show Tryz.f73.body = some _ from rfl) args w, Tryz.underlying9, names73_some, names73_nil⟩

set_option maxHeartbeats 1000000 in
theorem names449_some (b nn : Nat) (D0 : DataW Unit) (w : World) (hown : w.ownsMap Tryz.prog 9 R0 b nn D0) (hmax : Maps.size D0 ≤ maxLen) (hbytes : Maps.size D0 * 16 ≤ 140737488355328) :
    Calls Tryz.prog 449 #[.map (some b)] w fun e w' => ∃ (v : Value) (ss : List (List UInt8)), e = .returned v ∧ ss.Perm (strKeys D0) ∧
      w'.ownsRow w.heap.size 9 1 v ss.length ((ss.mergeSort (fun x y => decide (x ≤ y))).map encStr) ∧ (v = .slice none 0 0 ↔ ss = []) ∧ Below w.heap.size w w' := by
  refine (callsIn_wide (n := 6)).1 ?_
  have hfK : Fence.wide.fn 454 := trivial
  have hfS : Fence.wide.fn 66 := trivial
  refine callsIn_of_wp Tryz.func449 rfl trivial ?_ rfl
  simp only [Tryz.ntmps449, List.size_toArray, List.length_cons, List.length_nil, Nat.reduceAdd, Nat.reduceSub, Array.replicate_succ, Array.replicate_zero, List.push_toArray, List.append_toArray, List.nil_append, List.cons_append]
  gi_wp2_with (first
    | (gi_at_call 454; refine (Tryz.maps_Keys_454 _ _).mono ?_; rintro e w' ⟨rfl, rfl⟩)
    | (gi_at_call 66; refine (Tryz.slices_Sorted_keys_66_454 b nn D0 R0 w hown hmax hbytes).mono ?_; rintro e w' ⟨v, ss, rfl, hS, hrow, hnil, hb⟩))
  go_ret
  exact ⟨v, ss, rfl, hS, ownsRow_base_a hrow (by simp), hnil, ((Below.refl _ w).alloc (Nat.le_refl _) _).trans (hb.mono (by simp))⟩

set_option maxHeartbeats 1000000 in
theorem names449_nil (w : World) : Calls Tryz.prog 449 #[.map none] w fun e w' => e = .returned (.slice none 0 0) ∧ Below w.heap.size w w' := by
  refine (callsIn_wide (n := 6)).1 ?_
  have hfK : Fence.wide.fn 454 := trivial
  have hfS : Fence.wide.fn 66 := trivial
  refine callsIn_of_wp Tryz.func449 rfl trivial ?_ rfl
  simp only [Tryz.ntmps449, List.size_toArray, List.length_cons, List.length_nil, Nat.reduceAdd, Nat.reduceSub, Array.replicate_succ, Array.replicate_zero, List.push_toArray, List.append_toArray, List.nil_append, List.cons_append]
  gi_wp2_with (first
    | (gi_at_call 454; refine (Tryz.maps_Keys_454 _ _).mono ?_; rintro e w' ⟨rfl, rfl⟩)
    | (gi_at_call 66; refine (Tryz.slices_Sorted_keys_nil_66_454 w).mono ?_; rintro e w' ⟨v, ss, rfl, hS, hrow, hnil, hb⟩))
  go_ret
  exact ⟨by rw [hnil.2 hS]; rfl, ((Below.refl _ w).alloc (Nat.le_refl _) _).trans (hb.mono (by simp))⟩

theorem names449_ok : NamesFn Tryz.prog 449 9 :=
  ⟨fun args w => run_callFunc_enter Tryz.func449 (by kernel_rfl) (show Tryz.f449.body = some _ from rfl) args w, Tryz.underlying9, names449_some, names449_nil⟩

noncomputable section
/-- the functions that are taken whole -/
def natN : Nats := fun f => Bool.rec (motive := fun _ => Option (Bool → List CV → Heap → Key → R)) (Bool.rec (motive := fun _ => Option (Bool → List CV → Heap → Key → R)) (Bool.rec (motive := fun _ => Option (Bool → List CV → Heap → Key → R)) (none) (some namesN) (Nat.beq f 449)) (some namesN) (Nat.beq f 73)) (some namesN) (Nat.beq f 33)
theorem natN_ok [Sym] [SymFact Tryz.prog] : NatsOk Tryz.prog natN := by
  refine names_ok fun f g h => ?_
  unfold natN at h
  cases e33 : Nat.beq f 33 with
  | true =>
    rw [e33] at h
    injection h with h
    have := Nat.eq_of_beq_eq_true e33
    subst this
    exact ⟨h.symm, _, names33_ok⟩
  | false =>
  rw [e33] at h
  simp only at h
  cases e73 : Nat.beq f 73 with
  | true =>
    rw [e73] at h
    injection h with h
    have := Nat.eq_of_beq_eq_true e73
    subst this
    exact ⟨h.symm, _, names73_ok⟩
  | false =>
  rw [e73] at h
  simp only at h
  cases e449 : Nat.beq f 449 with
  | true =>
    rw [e449] at h
    injection h with h
    have := Nat.eq_of_beq_eq_true e449
    subst this
    exact ⟨h.symm, _, names449_ok⟩
  | false =>
  rw [e449] at h
  simp only at h
  cases h
end
end Go.Ev
