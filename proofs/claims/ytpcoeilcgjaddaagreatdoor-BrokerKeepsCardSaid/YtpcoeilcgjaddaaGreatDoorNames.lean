/- The functions 'names' of the broker hand back the keys of a map, sorted: so the evaluator may take them whole. -/
import Derived.Test.YtpcoeilcgjaddaaGreatDoorIter
import Derived.Test.YtpcoeilcgjaddaaGreatDoorEvSym
namespace Go.Ev
open Go.RowKit Go.Maps Go.Sort Go.Shelf Go.Proofs

set_option maxHeartbeats 1000000 in
theorem names45_some (b nn : Nat) (D0 : DataW Unit) (w : World) (hown : w.ownsMap Tryz.prog 9 R0 b nn D0) (hmax : Maps.size D0 ≤ maxLen) (hbytes : Maps.size D0 * 16 ≤ 140737488355328) :
    Calls Tryz.prog 45 #[.map (some b)] w fun e w' => ∃ (v : Value) (ss : List (List UInt8)), e = .returned v ∧ ss.Perm (strKeys D0) ∧
      w'.ownsRow w.heap.size 9 1 v ss.length ((ss.mergeSort (fun x y => decide (x ≤ y))).map encStr) ∧ (v = .slice none 0 0 ↔ ss = []) ∧ Below w.heap.size w w' := by
  refine (callsIn_wide (n := 6)).1 ?_
  have hfK : Fence.wide.fn 66 := trivial
  have hfS : Fence.wide.fn 65 := trivial
  refine callsIn_of_wp Tryz.func45 rfl trivial ?_ rfl
  simp only [Tryz.ntmps45, List.size_toArray, List.length_cons, List.length_nil, Nat.reduceAdd, Nat.reduceSub, Array.replicate_succ, Array.replicate_zero, List.push_toArray, List.append_toArray, List.nil_append, List.cons_append]
  gi_wp2_with (first
    | (gi_at_call 66; refine (Tryz.maps_Keys_66 _ _).mono ?_; rintro e w' ⟨rfl, rfl⟩)
    | (gi_at_call 65; refine (Tryz.slices_Sorted_keys_65_66 b nn D0 R0 w hown hmax hbytes).mono ?_; rintro e w' ⟨v, ss, rfl, hS, hrow, hnil, hb⟩))
  go_ret
  exact ⟨v, ss, rfl, hS, ownsRow_base_a hrow (by simp), hnil, ((Below.refl _ w).alloc (Nat.le_refl _) _).trans (hb.mono (by simp))⟩

set_option maxHeartbeats 1000000 in
theorem names45_nil (w : World) : Calls Tryz.prog 45 #[.map none] w fun e w' => e = .returned (.slice none 0 0) ∧ Below w.heap.size w w' := by
  refine (callsIn_wide (n := 6)).1 ?_
  have hfK : Fence.wide.fn 66 := trivial
  have hfS : Fence.wide.fn 65 := trivial
  refine callsIn_of_wp Tryz.func45 rfl trivial ?_ rfl
  simp only [Tryz.ntmps45, List.size_toArray, List.length_cons, List.length_nil, Nat.reduceAdd, Nat.reduceSub, Array.replicate_succ, Array.replicate_zero, List.push_toArray, List.append_toArray, List.nil_append, List.cons_append]
  gi_wp2_with (first
    | (gi_at_call 66; refine (Tryz.maps_Keys_66 _ _).mono ?_; rintro e w' ⟨rfl, rfl⟩)
    | (gi_at_call 65; refine (Tryz.slices_Sorted_keys_nil_65_66 w).mono ?_; rintro e w' ⟨v, ss, rfl, hS, hrow, hnil, hb⟩))
  go_ret
  exact ⟨by rw [hnil.2 hS]; rfl, ((Below.refl _ w).alloc (Nat.le_refl _) _).trans (hb.mono (by simp))⟩

theorem names45_ok : NamesFn Tryz.prog 45 9 :=
  ⟨fun args w => run_callFunc_enter Tryz.func45 (by kernel_rfl) (show Tryz.f45.body = some _ from rfl) args w, Tryz.underlying9, names45_some, names45_nil⟩

set_option maxHeartbeats 1000000 in
theorem names72_some (b nn : Nat) (D0 : DataW Unit) (w : World) (hown : w.ownsMap Tryz.prog 9 R0 b nn D0) (hmax : Maps.size D0 ≤ maxLen) (hbytes : Maps.size D0 * 16 ≤ 140737488355328) :
    Calls Tryz.prog 72 #[.map (some b)] w fun e w' => ∃ (v : Value) (ss : List (List UInt8)), e = .returned v ∧ ss.Perm (strKeys D0) ∧
      w'.ownsRow w.heap.size 9 1 v ss.length ((ss.mergeSort (fun x y => decide (x ≤ y))).map encStr) ∧ (v = .slice none 0 0 ↔ ss = []) ∧ Below w.heap.size w w' := by
  refine (callsIn_wide (n := 6)).1 ?_
  have hfK : Fence.wide.fn 105 := trivial
  have hfS : Fence.wide.fn 65 := trivial
  refine callsIn_of_wp Tryz.func72 rfl trivial ?_ rfl
  simp only [Tryz.ntmps72, List.size_toArray, List.length_cons, List.length_nil, Nat.reduceAdd, Nat.reduceSub, Array.replicate_succ, Array.replicate_zero, List.push_toArray, List.append_toArray, List.nil_append, List.cons_append]
  gi_wp2_with (first
    | (gi_at_call 105; refine (Tryz.maps_Keys_105 _ _).mono ?_; rintro e w' ⟨rfl, rfl⟩)
    | (gi_at_call 65; refine (Tryz.slices_Sorted_keys_65_105 b nn D0 R0 w hown hmax hbytes).mono ?_; rintro e w' ⟨v, ss, rfl, hS, hrow, hnil, hb⟩))
  go_ret
  exact ⟨v, ss, rfl, hS, ownsRow_base_a hrow (by simp), hnil, ((Below.refl _ w).alloc (Nat.le_refl _) _).trans (hb.mono (by simp))⟩

set_option maxHeartbeats 1000000 in
theorem names72_nil (w : World) : Calls Tryz.prog 72 #[.map none] w fun e w' => e = .returned (.slice none 0 0) ∧ Below w.heap.size w w' := by
  refine (callsIn_wide (n := 6)).1 ?_
  have hfK : Fence.wide.fn 105 := trivial
  have hfS : Fence.wide.fn 65 := trivial
  refine callsIn_of_wp Tryz.func72 rfl trivial ?_ rfl
  simp only [Tryz.ntmps72, List.size_toArray, List.length_cons, List.length_nil, Nat.reduceAdd, Nat.reduceSub, Array.replicate_succ, Array.replicate_zero, List.push_toArray, List.append_toArray, List.nil_append, List.cons_append]
  gi_wp2_with (first
    | (gi_at_call 105; refine (Tryz.maps_Keys_105 _ _).mono ?_; rintro e w' ⟨rfl, rfl⟩)
    | (gi_at_call 65; refine (Tryz.slices_Sorted_keys_nil_65_105 w).mono ?_; rintro e w' ⟨v, ss, rfl, hS, hrow, hnil, hb⟩))
  go_ret
  exact ⟨by rw [hnil.2 hS]; rfl, ((Below.refl _ w).alloc (Nat.le_refl _) _).trans (hb.mono (by simp))⟩

theorem names72_ok : NamesFn Tryz.prog 72 9 :=
  ⟨fun args w => run_callFunc_enter Tryz.func72 (by kernel_rfl) (show Tryz.f72.body = some _ from rfl) args w, Tryz.underlying9, names72_some, names72_nil⟩

set_option maxHeartbeats 1000000 in
theorem names457_some (b nn : Nat) (D0 : DataW Unit) (w : World) (hown : w.ownsMap Tryz.prog 9 R0 b nn D0) (hmax : Maps.size D0 ≤ maxLen) (hbytes : Maps.size D0 * 16 ≤ 140737488355328) :
    Calls Tryz.prog 457 #[.map (some b)] w fun e w' => ∃ (v : Value) (ss : List (List UInt8)), e = .returned v ∧ ss.Perm (strKeys D0) ∧
      w'.ownsRow w.heap.size 9 1 v ss.length ((ss.mergeSort (fun x y => decide (x ≤ y))).map encStr) ∧ (v = .slice none 0 0 ↔ ss = []) ∧ Below w.heap.size w w' := by
  refine (callsIn_wide (n := 6)).1 ?_
  have hfK : Fence.wide.fn 462 := trivial
  have hfS : Fence.wide.fn 65 := trivial
  refine callsIn_of_wp Tryz.func457 rfl trivial ?_ rfl
  simp only [Tryz.ntmps457, List.size_toArray, List.length_cons, List.length_nil, Nat.reduceAdd, Nat.reduceSub, Array.replicate_succ, Array.replicate_zero, List.push_toArray, List.append_toArray, List.nil_append, List.cons_append]
  gi_wp2_with (first
    | (gi_at_call 462; refine (Tryz.maps_Keys_462 _ _).mono ?_; rintro e w' ⟨rfl, rfl⟩)
    | (gi_at_call 65; refine (Tryz.slices_Sorted_keys_65_462 b nn D0 R0 w hown hmax hbytes).mono ?_; rintro e w' ⟨v, ss, rfl, hS, hrow, hnil, hb⟩))
  go_ret
  exact ⟨v, ss, rfl, hS, ownsRow_base_a hrow (by simp), hnil, ((Below.refl _ w).alloc (Nat.le_refl _) _).trans (hb.mono (by simp))⟩

set_option maxHeartbeats 1000000 in
theorem names457_nil (w : World) : Calls Tryz.prog 457 #[.map none] w fun e w' => e = .returned (.slice none 0 0) ∧ Below w.heap.size w w' := by
  refine (callsIn_wide (n := 6)).1 ?_
  have hfK : Fence.wide.fn 462 := trivial
  have hfS : Fence.wide.fn 65 := trivial
  refine callsIn_of_wp Tryz.func457 rfl trivial ?_ rfl
  simp only [Tryz.ntmps457, List.size_toArray, List.length_cons, List.length_nil, Nat.reduceAdd, Nat.reduceSub, Array.replicate_succ, Array.replicate_zero, List.push_toArray, List.append_toArray, List.nil_append, List.cons_append]
  gi_wp2_with (first
    | (gi_at_call 462; refine (Tryz.maps_Keys_462 _ _).mono ?_; rintro e w' ⟨rfl, rfl⟩)
    | (gi_at_call 65; refine (Tryz.slices_Sorted_keys_nil_65_462 w).mono ?_; rintro e w' ⟨v, ss, rfl, hS, hrow, hnil, hb⟩))
  go_ret
  exact ⟨by rw [hnil.2 hS]; rfl, ((Below.refl _ w).alloc (Nat.le_refl _) _).trans (hb.mono (by simp))⟩

theorem names457_ok : NamesFn Tryz.prog 457 9 :=
  ⟨fun args w => run_callFunc_enter Tryz.func457 (by kernel_rfl) (show Tryz.f457.body = some _ from rfl) args w, Tryz.underlying9, names457_some, names457_nil⟩

noncomputable section
/-- the functions that are taken whole -/
def natN : Nats := fun f => Bool.rec (motive := fun _ => Option NatF) (Bool.rec (motive := fun _ => Option NatF) (Bool.rec (motive := fun _ => Option NatF) (none) (some namesN) (Nat.beq f 457)) (some namesN) (Nat.beq f 72)) (some namesN) (Nat.beq f 45)
theorem natN_ok [Sym] [SymFact Tryz.prog] : NatsOk Tryz.prog natN := by
  refine nats_ok fun f g h => ?_
  unfold natN at h
  cases e45 : Nat.beq f 45 with
  | true =>
    rw [e45] at h
    injection h with h
    have := Nat.eq_of_beq_eq_true e45
    subst this
    exact .inl ⟨h.symm, _, names45_ok⟩
  | false =>
  rw [e45] at h
  simp only at h
  cases e72 : Nat.beq f 72 with
  | true =>
    rw [e72] at h
    injection h with h
    have := Nat.eq_of_beq_eq_true e72
    subst this
    exact .inl ⟨h.symm, _, names72_ok⟩
  | false =>
  rw [e72] at h
  simp only at h
  cases e457 : Nat.beq f 457 with
  | true =>
    rw [e457] at h
    injection h with h
    have := Nat.eq_of_beq_eq_true e457
    subst this
    exact .inl ⟨h.symm, _, names457_ok⟩
  | false =>
  rw [e457] at h
  simp only at h
  cases h
end
end Go.Ev
