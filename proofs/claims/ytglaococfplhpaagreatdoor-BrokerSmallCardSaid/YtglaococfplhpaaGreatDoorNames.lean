/- The functions 'names' of the broker hand back the keys of a map, sorted: so the evaluator may take them whole. -/
import Derived.Test.YtglaococfplhpaaGreatDoorIter
import Derived.Test.YtglaococfplhpaaGreatDoorEvSym
namespace Go.Ev
open Go.RowKit Go.Maps Go.Sort Go.Shelf Go.Proofs

set_option maxHeartbeats 1000000 in
theorem names37_some (b nn : Nat) (D0 : DataW Unit) (w : World) (hown : w.ownsMap Tryz.prog 9 R0 b nn D0) (hmax : Maps.size D0 ≤ maxLen) (hbytes : Maps.size D0 * 16 ≤ 140737488355328) :
    Calls Tryz.prog 37 #[.map (some b)] w fun e w' => ∃ (v : Value) (ss : List (List UInt8)), e = .returned v ∧ ss.Perm (strKeys D0) ∧
      w'.ownsRow w.heap.size 9 1 v ss.length ((ss.mergeSort (fun x y => decide (x ≤ y))).map encStr) ∧ (v = .slice none 0 0 ↔ ss = []) ∧ Below w.heap.size w w' := by
  refine (callsIn_wide (n := 6)).1 ?_
  have hfK : Fence.wide.fn 57 := trivial
  have hfS : Fence.wide.fn 56 := trivial
  refine callsIn_of_wp Tryz.func37 rfl trivial ?_ rfl
  simp only [Tryz.ntmps37, List.size_toArray, List.length_cons, List.length_nil, Nat.reduceAdd, Nat.reduceSub, Array.replicate_succ, Array.replicate_zero, List.push_toArray, List.append_toArray, List.nil_append, List.cons_append]
  gi_wp2_with (first
    | (gi_at_call 57; refine (Tryz.maps_Keys_57 _ _).mono ?_; rintro e w' ⟨rfl, rfl⟩)
    | (gi_at_call 56; refine (Tryz.slices_Sorted_keys_56_57 b nn D0 R0 w hown hmax hbytes).mono ?_; rintro e w' ⟨v, ss, rfl, hS, hrow, hnil, hb⟩))
  go_ret
  exact ⟨v, ss, rfl, hS, ownsRow_base_a hrow (by simp), hnil, ((Below.refl _ w).alloc (Nat.le_refl _) _).trans (hb.mono (by simp))⟩

set_option maxHeartbeats 1000000 in
theorem names37_nil (w : World) : Calls Tryz.prog 37 #[.map none] w fun e w' => e = .returned (.slice none 0 0) ∧ Below w.heap.size w w' := by
  refine (callsIn_wide (n := 6)).1 ?_
  have hfK : Fence.wide.fn 57 := trivial
  have hfS : Fence.wide.fn 56 := trivial
  refine callsIn_of_wp Tryz.func37 rfl trivial ?_ rfl
  simp only [Tryz.ntmps37, List.size_toArray, List.length_cons, List.length_nil, Nat.reduceAdd, Nat.reduceSub, Array.replicate_succ, Array.replicate_zero, List.push_toArray, List.append_toArray, List.nil_append, List.cons_append]
  gi_wp2_with (first
    | (gi_at_call 57; refine (Tryz.maps_Keys_57 _ _).mono ?_; rintro e w' ⟨rfl, rfl⟩)
    | (gi_at_call 56; refine (Tryz.slices_Sorted_keys_nil_56_57 w).mono ?_; rintro e w' ⟨v, ss, rfl, hS, hrow, hnil, hb⟩))
  go_ret
  exact ⟨by rw [hnil.2 hS]; rfl, ((Below.refl _ w).alloc (Nat.le_refl _) _).trans (hb.mono (by simp))⟩

theorem names37_ok : NamesFn Tryz.prog 37 9 :=
  ⟨fun args w => run_callFunc_enter Tryz.func37 (by kernel_rfl) (show Tryz.f37.body = some _ from rfl) args w, Tryz.underlying9, names37_some, names37_nil⟩

set_option maxHeartbeats 1000000 in
theorem names63_some (b nn : Nat) (D0 : DataW Unit) (w : World) (hown : w.ownsMap Tryz.prog 9 R0 b nn D0) (hmax : Maps.size D0 ≤ maxLen) (hbytes : Maps.size D0 * 16 ≤ 140737488355328) :
    Calls Tryz.prog 63 #[.map (some b)] w fun e w' => ∃ (v : Value) (ss : List (List UInt8)), e = .returned v ∧ ss.Perm (strKeys D0) ∧
      w'.ownsRow w.heap.size 9 1 v ss.length ((ss.mergeSort (fun x y => decide (x ≤ y))).map encStr) ∧ (v = .slice none 0 0 ↔ ss = []) ∧ Below w.heap.size w w' := by
  refine (callsIn_wide (n := 6)).1 ?_
  have hfK : Fence.wide.fn 95 := trivial
  have hfS : Fence.wide.fn 56 := trivial
  refine callsIn_of_wp Tryz.func63 rfl trivial ?_ rfl
  simp only [Tryz.ntmps63, List.size_toArray, List.length_cons, List.length_nil, Nat.reduceAdd, Nat.reduceSub, Array.replicate_succ, Array.replicate_zero, List.push_toArray, List.append_toArray, List.nil_append, List.cons_append]
  gi_wp2_with (first
    | (gi_at_call 95; refine (Tryz.maps_Keys_95 _ _).mono ?_; rintro e w' ⟨rfl, rfl⟩)
    | (gi_at_call 56; refine (Tryz.slices_Sorted_keys_56_95 b nn D0 R0 w hown hmax hbytes).mono ?_; rintro e w' ⟨v, ss, rfl, hS, hrow, hnil, hb⟩))
  go_ret
  exact ⟨v, ss, rfl, hS, ownsRow_base_a hrow (by simp), hnil, ((Below.refl _ w).alloc (Nat.le_refl _) _).trans (hb.mono (by simp))⟩

set_option maxHeartbeats 1000000 in
theorem names63_nil (w : World) : Calls Tryz.prog 63 #[.map none] w fun e w' => e = .returned (.slice none 0 0) ∧ Below w.heap.size w w' := by
  refine (callsIn_wide (n := 6)).1 ?_
  have hfK : Fence.wide.fn 95 := trivial
  have hfS : Fence.wide.fn 56 := trivial
  refine callsIn_of_wp Tryz.func63 rfl trivial ?_ rfl
  simp only [Tryz.ntmps63, List.size_toArray, List.length_cons, List.length_nil, Nat.reduceAdd, Nat.reduceSub, Array.replicate_succ, Array.replicate_zero, List.push_toArray, List.append_toArray, List.nil_append, List.cons_append]
  gi_wp2_with (first
    | (gi_at_call 95; refine (Tryz.maps_Keys_95 _ _).mono ?_; rintro e w' ⟨rfl, rfl⟩)
    | (gi_at_call 56; refine (Tryz.slices_Sorted_keys_nil_56_95 w).mono ?_; rintro e w' ⟨v, ss, rfl, hS, hrow, hnil, hb⟩))
  go_ret
  exact ⟨by rw [hnil.2 hS]; rfl, ((Below.refl _ w).alloc (Nat.le_refl _) _).trans (hb.mono (by simp))⟩

theorem names63_ok : NamesFn Tryz.prog 63 9 :=
  ⟨fun args w => run_callFunc_enter Tryz.func63 (by kernel_rfl) (show Tryz.f63.body = some _ from rfl) args w, Tryz.underlying9, names63_some, names63_nil⟩

set_option maxHeartbeats 1000000 in
theorem names449_some (b nn : Nat) (D0 : DataW Unit) (w : World) (hown : w.ownsMap Tryz.prog 9 R0 b nn D0) (hmax : Maps.size D0 ≤ maxLen) (hbytes : Maps.size D0 * 16 ≤ 140737488355328) :
    Calls Tryz.prog 449 #[.map (some b)] w fun e w' => ∃ (v : Value) (ss : List (List UInt8)), e = .returned v ∧ ss.Perm (strKeys D0) ∧
      w'.ownsRow w.heap.size 9 1 v ss.length ((ss.mergeSort (fun x y => decide (x ≤ y))).map encStr) ∧ (v = .slice none 0 0 ↔ ss = []) ∧ Below w.heap.size w w' := by
  refine (callsIn_wide (n := 6)).1 ?_
  have hfK : Fence.wide.fn 454 := trivial
  have hfS : Fence.wide.fn 56 := trivial
  refine callsIn_of_wp Tryz.func449 rfl trivial ?_ rfl
  simp only [Tryz.ntmps449, List.size_toArray, List.length_cons, List.length_nil, Nat.reduceAdd, Nat.reduceSub, Array.replicate_succ, Array.replicate_zero, List.push_toArray, List.append_toArray, List.nil_append, List.cons_append]
  gi_wp2_with (first
    | (gi_at_call 454; refine (Tryz.maps_Keys_454 _ _).mono ?_; rintro e w' ⟨rfl, rfl⟩)
    | (gi_at_call 56; refine (Tryz.slices_Sorted_keys_56_454 b nn D0 R0 w hown hmax hbytes).mono ?_; rintro e w' ⟨v, ss, rfl, hS, hrow, hnil, hb⟩))
  go_ret
  exact ⟨v, ss, rfl, hS, ownsRow_base_a hrow (by simp), hnil, ((Below.refl _ w).alloc (Nat.le_refl _) _).trans (hb.mono (by simp))⟩

set_option maxHeartbeats 1000000 in
theorem names449_nil (w : World) : Calls Tryz.prog 449 #[.map none] w fun e w' => e = .returned (.slice none 0 0) ∧ Below w.heap.size w w' := by
  refine (callsIn_wide (n := 6)).1 ?_
  have hfK : Fence.wide.fn 454 := trivial
  have hfS : Fence.wide.fn 56 := trivial
  refine callsIn_of_wp Tryz.func449 rfl trivial ?_ rfl
  simp only [Tryz.ntmps449, List.size_toArray, List.length_cons, List.length_nil, Nat.reduceAdd, Nat.reduceSub, Array.replicate_succ, Array.replicate_zero, List.push_toArray, List.append_toArray, List.nil_append, List.cons_append]
  gi_wp2_with (first
    | (gi_at_call 454; refine (Tryz.maps_Keys_454 _ _).mono ?_; rintro e w' ⟨rfl, rfl⟩)
    | (gi_at_call 56; refine (Tryz.slices_Sorted_keys_nil_56_454 w).mono ?_; rintro e w' ⟨v, ss, rfl, hS, hrow, hnil, hb⟩))
  go_ret
  exact ⟨by rw [hnil.2 hS]; rfl, ((Below.refl _ w).alloc (Nat.le_refl _) _).trans (hb.mono (by simp))⟩

theorem names449_ok : NamesFn Tryz.prog 449 9 :=
  ⟨fun args w => run_callFunc_enter Tryz.func449 (by kernel_rfl) (show Tryz.f449.body = some _ from rfl) args w, Tryz.underlying9, names449_some, names449_nil⟩

noncomputable section
/-- the functions that are taken whole -/
def natN : Nats := fun f => Bool.rec (motive := fun _ => Option NatF) (Bool.rec (motive := fun _ => Option NatF) (Bool.rec (motive := fun _ => Option NatF) (none) (some namesN) (Nat.beq f 449)) (some namesN) (Nat.beq f 63)) (some namesN) (Nat.beq f 37)
theorem natN_ok [Sym] [SymFact Tryz.prog] : NatsOk Tryz.prog natN := by
  refine nats_ok fun f g h => ?_
  unfold natN at h
  cases e37 : Nat.beq f 37 with
  | true =>
    rw [e37] at h
    injection h with h
    have := Nat.eq_of_beq_eq_true e37
    subst this
    exact .inl ⟨h.symm, _, names37_ok⟩
  | false =>
  rw [e37] at h
  simp only at h
  cases e63 : Nat.beq f 63 with
  | true =>
    rw [e63] at h
    injection h with h
    have := Nat.eq_of_beq_eq_true e63
    subst this
    exact .inl ⟨h.symm, _, names63_ok⟩
  | false =>
  rw [e63] at h
  simp only at h
  cases e449 : Nat.beq f 449 with
  | true =>
    rw [e449] at h
    injection h with h
    have := Nat.eq_of_beq_eq_true e449
    subst this
    exact .inl ⟨h.symm, _, names449_ok⟩
  | false =>
  rw [e449] at h
  simp only at h
  cases h
end
end Go.Ev
