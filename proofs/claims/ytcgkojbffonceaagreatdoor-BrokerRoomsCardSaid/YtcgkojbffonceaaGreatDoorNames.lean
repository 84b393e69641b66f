/- The functions 'names' of the broker hand back the keys of a map, sorted: so the evaluator may take them whole. -/
import Derived.Test.YtcgkojbffonceaaGreatDoorIter
import Derived.Test.YtcgkojbffonceaaGreatDoorEvSym
namespace Go.Ev
open Go.RowKit Go.Maps Go.Sort Go.Shelf Go.Proofs

set_option maxHeartbeats 1000000 in
theorem names25_some (b nn : Nat) (D0 : DataW Unit) (w : World) (hown : w.ownsMap Tryz.prog 9 R0 b nn D0) (hmax : Maps.size D0 ≤ maxLen) (hbytes : Maps.size D0 * 16 ≤ 140737488355328) :
    Calls Tryz.prog 25 #[.map (some b)] w fun e w' => ∃ (v : Value) (ss : List (List UInt8)), e = .returned v ∧ ss.Perm (strKeys D0) ∧
      w'.ownsRow w.heap.size 9 1 v ss.length ((ss.mergeSort (fun x y => decide (x ≤ y))).map encStr) ∧ (v = .slice none 0 0 ↔ ss = []) ∧ Below w.heap.size w w' := by
  refine (callsIn_wide (n := 6)).1 ?_
  have hfK : Fence.wide.fn 47 := trivial
  have hfS : Fence.wide.fn 46 := trivial
  refine callsIn_of_wp Tryz.func25 rfl trivial ?_ rfl
  simp only [Tryz.ntmps25, List.size_toArray, List.length_cons, List.length_nil, Nat.reduceAdd, Nat.reduceSub, Array.replicate_succ, Array.replicate_zero, List.push_toArray, List.append_toArray, List.nil_append, List.cons_append]
  gi_wp2_with (first
    | (gi_at_call 47; refine (Tryz.maps_Keys_47 _ _).mono ?_; rintro e w' ⟨rfl, rfl⟩)
    | (gi_at_call 46; refine (Tryz.slices_Sorted_keys_46_47 b nn D0 R0 w hown hmax hbytes).mono ?_; rintro e w' ⟨v, ss, rfl, hS, hrow, hnil, hb⟩))
  go_ret
  exact ⟨v, ss, rfl, hS, ownsRow_base_a hrow (by simp), hnil, ((Below.refl _ w).alloc (Nat.le_refl _) _).trans (hb.mono (by simp))⟩

set_option maxHeartbeats 1000000 in
theorem names25_nil (w : World) : Calls Tryz.prog 25 #[.map none] w fun e w' => e = .returned (.slice none 0 0) ∧ Below w.heap.size w w' := by
  refine (callsIn_wide (n := 6)).1 ?_
  have hfK : Fence.wide.fn 47 := trivial
  have hfS : Fence.wide.fn 46 := trivial
  refine callsIn_of_wp Tryz.func25 rfl trivial ?_ rfl
  simp only [Tryz.ntmps25, List.size_toArray, List.length_cons, List.length_nil, Nat.reduceAdd, Nat.reduceSub, Array.replicate_succ, Array.replicate_zero, List.push_toArray, List.append_toArray, List.nil_append, List.cons_append]
  gi_wp2_with (first
    | (gi_at_call 47; refine (Tryz.maps_Keys_47 _ _).mono ?_; rintro e w' ⟨rfl, rfl⟩)
    | (gi_at_call 46; refine (Tryz.slices_Sorted_keys_nil_46_47 w).mono ?_; rintro e w' ⟨v, ss, rfl, hS, hrow, hnil, hb⟩))
  go_ret
  exact ⟨by rw [hnil.2 hS]; rfl, ((Below.refl _ w).alloc (Nat.le_refl _) _).trans (hb.mono (by simp))⟩

theorem names25_ok : NamesFn Tryz.prog 25 9 :=
  ⟨fun args w => run_callFunc_enter Tryz.func25 (by kernel_rfl) (show Tryz.f25.body = some _ from rfl) args w, Tryz.underlying9, names25_some, names25_nil⟩

set_option maxHeartbeats 1000000 in
theorem names31_some (b nn : Nat) (D0 : DataW Unit) (w : World) (hown : w.ownsMap Tryz.prog 9 R0 b nn D0) (hmax : Maps.size D0 ≤ maxLen) (hbytes : Maps.size D0 * 16 ≤ 140737488355328) :
    Calls Tryz.prog 31 #[.map (some b)] w fun e w' => ∃ (v : Value) (ss : List (List UInt8)), e = .returned v ∧ ss.Perm (strKeys D0) ∧
      w'.ownsRow w.heap.size 9 1 v ss.length ((ss.mergeSort (fun x y => decide (x ≤ y))).map encStr) ∧ (v = .slice none 0 0 ↔ ss = []) ∧ Below w.heap.size w w' := by
  refine (callsIn_wide (n := 6)).1 ?_
  have hfK : Fence.wide.fn 48 := trivial
  have hfS : Fence.wide.fn 46 := trivial
  refine callsIn_of_wp Tryz.func31 rfl trivial ?_ rfl
  simp only [Tryz.ntmps31, List.size_toArray, List.length_cons, List.length_nil, Nat.reduceAdd, Nat.reduceSub, Array.replicate_succ, Array.replicate_zero, List.push_toArray, List.append_toArray, List.nil_append, List.cons_append]
  gi_wp2_with (first
    | (gi_at_call 48; refine (Tryz.maps_Keys_48 _ _).mono ?_; rintro e w' ⟨rfl, rfl⟩)
    | (gi_at_call 46; refine (Tryz.slices_Sorted_keys_46_48 b nn D0 R0 w hown hmax hbytes).mono ?_; rintro e w' ⟨v, ss, rfl, hS, hrow, hnil, hb⟩))
  go_ret
  exact ⟨v, ss, rfl, hS, ownsRow_base_a hrow (by simp), hnil, ((Below.refl _ w).alloc (Nat.le_refl _) _).trans (hb.mono (by simp))⟩

set_option maxHeartbeats 1000000 in
theorem names31_nil (w : World) : Calls Tryz.prog 31 #[.map none] w fun e w' => e = .returned (.slice none 0 0) ∧ Below w.heap.size w w' := by
  refine (callsIn_wide (n := 6)).1 ?_
  have hfK : Fence.wide.fn 48 := trivial
  have hfS : Fence.wide.fn 46 := trivial
  refine callsIn_of_wp Tryz.func31 rfl trivial ?_ rfl
  simp only [Tryz.ntmps31, List.size_toArray, List.length_cons, List.length_nil, Nat.reduceAdd, Nat.reduceSub, Array.replicate_succ, Array.replicate_zero, List.push_toArray, List.append_toArray, List.nil_append, List.cons_append]
  gi_wp2_with (first
    | (gi_at_call 48; refine (Tryz.maps_Keys_48 _ _).mono ?_; rintro e w' ⟨rfl, rfl⟩)
    | (gi_at_call 46; refine (Tryz.slices_Sorted_keys_nil_46_48 w).mono ?_; rintro e w' ⟨v, ss, rfl, hS, hrow, hnil, hb⟩))
  go_ret
  exact ⟨by rw [hnil.2 hS]; rfl, ((Below.refl _ w).alloc (Nat.le_refl _) _).trans (hb.mono (by simp))⟩

theorem names31_ok : NamesFn Tryz.prog 31 9 :=
  ⟨fun args w => run_callFunc_enter Tryz.func31 (by kernel_rfl) (show Tryz.f31.body = some _ from rfl) args w, Tryz.underlying9, names31_some, names31_nil⟩

set_option maxHeartbeats 1000000 in
theorem names82_some (b nn : Nat) (D0 : DataW Unit) (w : World) (hown : w.ownsMap Tryz.prog 9 R0 b nn D0) (hmax : Maps.size D0 ≤ maxLen) (hbytes : Maps.size D0 * 16 ≤ 140737488355328) :
    Calls Tryz.prog 82 #[.map (some b)] w fun e w' => ∃ (v : Value) (ss : List (List UInt8)), e = .returned v ∧ ss.Perm (strKeys D0) ∧
      w'.ownsRow w.heap.size 9 1 v ss.length ((ss.mergeSort (fun x y => decide (x ≤ y))).map encStr) ∧ (v = .slice none 0 0 ↔ ss = []) ∧ Below w.heap.size w w' := by
  refine (callsIn_wide (n := 6)).1 ?_
  have hfK : Fence.wide.fn 111 := trivial
  have hfS : Fence.wide.fn 46 := trivial
  refine callsIn_of_wp Tryz.func82 rfl trivial ?_ rfl
  simp only [Tryz.ntmps82, List.size_toArray, List.length_cons, List.length_nil, Nat.reduceAdd, Nat.reduceSub, Array.replicate_succ, Array.replicate_zero, List.push_toArray, List.append_toArray, List.nil_append, List.cons_append]
  gi_wp2_with (first
    | (gi_at_call 111; refine (Tryz.maps_Keys_111 _ _).mono ?_; rintro e w' ⟨rfl, rfl⟩)
    | (gi_at_call 46; refine (Tryz.slices_Sorted_keys_46_111 b nn D0 R0 w hown hmax hbytes).mono ?_; rintro e w' ⟨v, ss, rfl, hS, hrow, hnil, hb⟩))
  go_ret
  exact ⟨v, ss, rfl, hS, ownsRow_base_a hrow (by simp), hnil, ((Below.refl _ w).alloc (Nat.le_refl _) _).trans (hb.mono (by simp))⟩

set_option maxHeartbeats 1000000 in
theorem names82_nil (w : World) : Calls Tryz.prog 82 #[.map none] w fun e w' => e = .returned (.slice none 0 0) ∧ Below w.heap.size w w' := by
  refine (callsIn_wide (n := 6)).1 ?_
  have hfK : Fence.wide.fn 111 := trivial
  have hfS : Fence.wide.fn 46 := trivial
  refine callsIn_of_wp Tryz.func82 rfl trivial ?_ rfl
  simp only [Tryz.ntmps82, List.size_toArray, List.length_cons, List.length_nil, Nat.reduceAdd, Nat.reduceSub, Array.replicate_succ, Array.replicate_zero, List.push_toArray, List.append_toArray, List.nil_append, List.cons_append]
  gi_wp2_with (first
    | (gi_at_call 111; refine (Tryz.maps_Keys_111 _ _).mono ?_; rintro e w' ⟨rfl, rfl⟩)
    | (gi_at_call 46; refine (Tryz.slices_Sorted_keys_nil_46_111 w).mono ?_; rintro e w' ⟨v, ss, rfl, hS, hrow, hnil, hb⟩))
  go_ret
  exact ⟨by rw [hnil.2 hS]; rfl, ((Below.refl _ w).alloc (Nat.le_refl _) _).trans (hb.mono (by simp))⟩

theorem names82_ok : NamesFn Tryz.prog 82 9 :=
  ⟨fun args w => run_callFunc_enter Tryz.func82 (by kernel_rfl) (show Tryz.f82.body = some _ from rfl) args w, Tryz.underlying9, names82_some, names82_nil⟩

noncomputable section
/-- the functions that are taken whole -/
def natN : Nats := fun f => Bool.rec (motive := fun _ => Option (Bool → List CV → Heap → Key → R)) (Bool.rec (motive := fun _ => Option (Bool → List CV → Heap → Key → R)) (Bool.rec (motive := fun _ => Option (Bool → List CV → Heap → Key → R)) (none) (some namesN) (Nat.beq f 82)) (some namesN) (Nat.beq f 31)) (some namesN) (Nat.beq f 25)
theorem natN_ok [Sym] [SymFact Tryz.prog] : NatsOk Tryz.prog natN := by
  refine names_ok fun f g h => ?_
  unfold natN at h
  cases e25 : Nat.beq f 25 with
  | true =>
    rw [e25] at h
    injection h with h
    have := Nat.eq_of_beq_eq_true e25
    subst this
    exact ⟨h.symm, _, names25_ok⟩
  | false =>
  rw [e25] at h
  simp only at h
  cases e31 : Nat.beq f 31 with
  | true =>
    rw [e31] at h
    injection h with h
    have := Nat.eq_of_beq_eq_true e31
    subst this
    exact ⟨h.symm, _, names31_ok⟩
  | false =>
  rw [e31] at h
  simp only at h
  cases e82 : Nat.beq f 82 with
  | true =>
    rw [e82] at h
    injection h with h
    have := Nat.eq_of_beq_eq_true e82
    subst this
    exact ⟨h.symm, _, names82_ok⟩
  | false =>
  rw [e82] at h
  simp only at h
  cases h
end
end Go.Ev
