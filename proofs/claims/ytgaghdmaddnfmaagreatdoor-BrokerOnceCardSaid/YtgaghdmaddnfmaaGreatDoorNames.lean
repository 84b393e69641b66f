/- The functions 'names' of the broker hand back the keys of a map, sorted: so the evaluator may take them whole. -/
import Derived.Test.YtgaghdmaddnfmaaGreatDoorIter
import Derived.Test.YtgaghdmaddnfmaaGreatDoorEvSym
namespace Go.Ev
open Go.RowKit Go.Maps Go.Sort Go.Shelf Go.Proofs

set_option maxHeartbeats 1000000 in
theorem names38_some (b nn : Nat) (D0 : DataW Unit) (w : World) (hown : w.ownsMap Tryz.prog 9 R0 b nn D0) (hmax : Maps.size D0 ≤ maxLen) (hbytes : Maps.size D0 * 16 ≤ 140737488355328) :
    Calls Tryz.prog 38 #[.map (some b)] w fun e w' => ∃ (v : Value) (ss : List (List UInt8)), e = .returned v ∧ ss.Perm (strKeys D0) ∧
      w'.ownsRow w.heap.size 9 1 v ss.length ((ss.mergeSort (fun x y => decide (x ≤ y))).map encStr) ∧ (v = .slice none 0 0 ↔ ss = []) ∧ Below w.heap.size w w' := by
  refine (callsIn_wide (n := 6)).1 ?_
  have hfK : Fence.wide.fn 58 := trivial
  have hfS : Fence.wide.fn 57 := trivial
  refine callsIn_of_wp Tryz.func38 rfl trivial ?_ rfl
  simp only [Tryz.ntmps38, List.size_toArray, List.length_cons, List.length_nil, Nat.reduceAdd, Nat.reduceSub, Array.replicate_succ, Array.replicate_zero, List.push_toArray, List.append_toArray, List.nil_append, List.cons_append]
  gi_wp2_with (first
    | (gi_at_call 58; refine (Tryz.maps_Keys_58 _ _).mono ?_; rintro e w' ⟨rfl, rfl⟩)
    | (gi_at_call 57; refine (Tryz.slices_Sorted_keys_57_58 b nn D0 R0 w hown hmax hbytes).mono ?_; rintro e w' ⟨v, ss, rfl, hS, hrow, hnil, hb⟩))
  go_ret
  exact ⟨v, ss, rfl, hS, ownsRow_base_a hrow (by simp), hnil, ((Below.refl _ w).alloc (Nat.le_refl _) _).trans (hb.mono (by simp))⟩

set_option maxHeartbeats 1000000 in
theorem names38_nil (w : World) : Calls Tryz.prog 38 #[.map none] w fun e w' => e = .returned (.slice none 0 0) ∧ Below w.heap.size w w' := by
  refine (callsIn_wide (n := 6)).1 ?_
  have hfK : Fence.wide.fn 58 := trivial
  have hfS : Fence.wide.fn 57 := trivial
  refine callsIn_of_wp Tryz.func38 rfl trivial ?_ rfl
  simp only [Tryz.ntmps38, List.size_toArray, List.length_cons, List.length_nil, Nat.reduceAdd, Nat.reduceSub, Array.replicate_succ, Array.replicate_zero, List.push_toArray, List.append_toArray, List.nil_append, List.cons_append]
  gi_wp2_with (first
    | (gi_at_call 58; refine (Tryz.maps_Keys_58 _ _).mono ?_; rintro e w' ⟨rfl, rfl⟩)
    | (gi_at_call 57; refine (Tryz.slices_Sorted_keys_nil_57_58 w).mono ?_; rintro e w' ⟨v, ss, rfl, hS, hrow, hnil, hb⟩))
  go_ret
  exact ⟨by rw [hnil.2 hS]; rfl, ((Below.refl _ w).alloc (Nat.le_refl _) _).trans (hb.mono (by simp))⟩

theorem names38_ok : NamesFn Tryz.prog 38 9 :=
  ⟨fun args w => run_callFunc_enter Tryz.func38 (by kernel_rfl) (show Tryz.f38.body = some _ from rfl) args w, Tryz.underlying9, names38_some, names38_nil⟩

set_option maxHeartbeats 1000000 in
theorem names64_some (b nn : Nat) (D0 : DataW Unit) (w : World) (hown : w.ownsMap Tryz.prog 9 R0 b nn D0) (hmax : Maps.size D0 ≤ maxLen) (hbytes : Maps.size D0 * 16 ≤ 140737488355328) :
    Calls Tryz.prog 64 #[.map (some b)] w fun e w' => ∃ (v : Value) (ss : List (List UInt8)), e = .returned v ∧ ss.Perm (strKeys D0) ∧
      w'.ownsRow w.heap.size 9 1 v ss.length ((ss.mergeSort (fun x y => decide (x ≤ y))).map encStr) ∧ (v = .slice none 0 0 ↔ ss = []) ∧ Below w.heap.size w w' := by
  refine (callsIn_wide (n := 6)).1 ?_
  have hfK : Fence.wide.fn 96 := trivial
  have hfS : Fence.wide.fn 57 := trivial
  refine callsIn_of_wp Tryz.func64 rfl trivial ?_ rfl
  simp only [Tryz.ntmps64, List.size_toArray, List.length_cons, List.length_nil, Nat.reduceAdd, Nat.reduceSub, Array.replicate_succ, Array.replicate_zero, List.push_toArray, List.append_toArray, List.nil_append, List.cons_append]
  gi_wp2_with (first
    | (gi_at_call 96; refine (Tryz.maps_Keys_96 _ _).mono ?_; rintro e w' ⟨rfl, rfl⟩)
    | (gi_at_call 57; refine (Tryz.slices_Sorted_keys_57_96 b nn D0 R0 w hown hmax hbytes).mono ?_; rintro e w' ⟨v, ss, rfl, hS, hrow, hnil, hb⟩))
  go_ret
  exact ⟨v, ss, rfl, hS, ownsRow_base_a hrow (by simp), hnil, ((Below.refl _ w).alloc (Nat.le_refl _) _).trans (hb.mono (by simp))⟩

set_option maxHeartbeats 1000000 in
theorem names64_nil (w : World) : Calls Tryz.prog 64 #[.map none] w fun e w' => e = .returned (.slice none 0 0) ∧ Below w.heap.size w w' := by
  refine (callsIn_wide (n := 6)).1 ?_
  have hfK : Fence.wide.fn 96 := trivial
  have hfS : Fence.wide.fn 57 := trivial
  refine callsIn_of_wp Tryz.func64 rfl trivial ?_ rfl
  simp only [Tryz.ntmps64, List.size_toArray, List.length_cons, List.length_nil, Nat.reduceAdd, Nat.reduceSub, Array.replicate_succ, Array.replicate_zero, List.push_toArray, List.append_toArray, List.nil_append, List.cons_append]
  gi_wp2_with (first
    | (gi_at_call 96; refine (Tryz.maps_Keys_96 _ _).mono ?_; rintro e w' ⟨rfl, rfl⟩)
    | (gi_at_call 57; refine (Tryz.slices_Sorted_keys_nil_57_96 w).mono ?_; rintro e w' ⟨v, ss, rfl, hS, hrow, hnil, hb⟩))
  go_ret
  exact ⟨by rw [hnil.2 hS]; rfl, ((Below.refl _ w).alloc (Nat.le_refl _) _).trans (hb.mono (by simp))⟩

theorem names64_ok : NamesFn Tryz.prog 64 9 :=
  ⟨fun args w => run_callFunc_enter Tryz.func64 (by kernel_rfl) (show Tryz.f64.body = some _ from rfl) args w, Tryz.underlying9, names64_some, names64_nil⟩

set_option maxHeartbeats 1000000 in
theorem names450_some (b nn : Nat) (D0 : DataW Unit) (w : World) (hown : w.ownsMap Tryz.prog 9 R0 b nn D0) (hmax : Maps.size D0 ≤ maxLen) (hbytes : Maps.size D0 * 16 ≤ 140737488355328) :
    Calls Tryz.prog 450 #[.map (some b)] w fun e w' => ∃ (v : Value) (ss : List (List UInt8)), e = .returned v ∧ ss.Perm (strKeys D0) ∧
      w'.ownsRow w.heap.size 9 1 v ss.length ((ss.mergeSort (fun x y => decide (x ≤ y))).map encStr) ∧ (v = .slice none 0 0 ↔ ss = []) ∧ Below w.heap.size w w' := by
  refine (callsIn_wide (n := 6)).1 ?_
  have hfK : Fence.wide.fn 455 := trivial
  have hfS : Fence.wide.fn 57 := trivial
  refine callsIn_of_wp Tryz.func450 rfl trivial ?_ rfl
  simp only [Tryz.ntmps450, List.size_toArray, List.length_cons, List.length_nil, Nat.reduceAdd, Nat.reduceSub, Array.replicate_succ, Array.replicate_zero, List.push_toArray, List.append_toArray, List.nil_append, List.cons_append]
  gi_wp2_with (first
    | (gi_at_call 455; refine (Tryz.maps_Keys_455 _ _).mono ?_; rintro e w' ⟨rfl, rfl⟩)
    | (gi_at_call 57; refine (Tryz.slices_Sorted_keys_57_455 b nn D0 R0 w hown hmax hbytes).mono ?_; rintro e w' ⟨v, ss, rfl, hS, hrow, hnil, hb⟩))
  go_ret
  exact ⟨v, ss, rfl, hS, ownsRow_base_a hrow (by simp), hnil, ((Below.refl _ w).alloc (Nat.le_refl _) _).trans (hb.mono (by simp))⟩

set_option maxHeartbeats 1000000 in
theorem names450_nil (w : World) : Calls Tryz.prog 450 #[.map none] w fun e w' => e = .returned (.slice none 0 0) ∧ Below w.heap.size w w' := by
  refine (callsIn_wide (n := 6)).1 ?_
  have hfK : Fence.wide.fn 455 := trivial
  have hfS : Fence.wide.fn 57 := trivial
  refine callsIn_of_wp Tryz.func450 rfl trivial ?_ rfl
  simp only [Tryz.ntmps450, List.size_toArray, List.length_cons, List.length_nil, Nat.reduceAdd, Nat.reduceSub, Array.replicate_succ, Array.replicate_zero, List.push_toArray, List.append_toArray, List.nil_append, List.cons_append]
  gi_wp2_with (first
    | (gi_at_call 455; refine (Tryz.maps_Keys_455 _ _).mono ?_; rintro e w' ⟨rfl, rfl⟩)
    | (gi_at_call 57; refine (Tryz.slices_Sorted_keys_nil_57_455 w).mono ?_; rintro e w' ⟨v, ss, rfl, hS, hrow, hnil, hb⟩))
  go_ret
  exact ⟨by rw [hnil.2 hS]; rfl, ((Below.refl _ w).alloc (Nat.le_refl _) _).trans (hb.mono (by simp))⟩

theorem names450_ok : NamesFn Tryz.prog 450 9 :=
  ⟨fun args w => run_callFunc_enter Tryz.func450 (by kernel_rfl) (show Tryz.f450.body = some _ from rfl) args w, Tryz.underlying9, names450_some, names450_nil⟩

noncomputable section
/-- the functions that are taken whole -/
def natN : Nats := fun f => Bool.rec (motive := fun _ => Option (Bool → List CV → Heap → Key → R)) (Bool.rec (motive := fun _ => Option (Bool → List CV → Heap → Key → R)) (Bool.rec (motive := fun _ => Option (Bool → List CV → Heap → Key → R)) (none) (some namesN) (Nat.beq f 450)) (some namesN) (Nat.beq f 64)) (some namesN) (Nat.beq f 38)
theorem natN_ok [Sym] [SymFact Tryz.prog] : NatsOk Tryz.prog natN := by
  refine names_ok fun f g h => ?_
  unfold natN at h
  cases e38 : Nat.beq f 38 with
  | true =>
    rw [e38] at h
    injection h with h
    have := Nat.eq_of_beq_eq_true e38
    subst this
    exact ⟨h.symm, _, names38_ok⟩
  | false =>
  rw [e38] at h
  simp only at h
  cases e64 : Nat.beq f 64 with
  | true =>
    rw [e64] at h
    injection h with h
    have := Nat.eq_of_beq_eq_true e64
    subst this
    exact ⟨h.symm, _, names64_ok⟩
  | false =>
  rw [e64] at h
  simp only at h
  cases e450 : Nat.beq f 450 with
  | true =>
    rw [e450] at h
    injection h with h
    have := Nat.eq_of_beq_eq_true e450
    subst this
    exact ⟨h.symm, _, names450_ok⟩
  | false =>
  rw [e450] at h
  simp only at h
  cases h
end
end Go.Ev
