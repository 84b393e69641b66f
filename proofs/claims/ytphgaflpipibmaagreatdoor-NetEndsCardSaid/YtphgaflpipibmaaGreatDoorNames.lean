/- The functions 'names' of the broker hand back the keys of a map, sorted: so the evaluator may take them whole. -/
import Derived.Test.YtphgaflpipibmaaGreatDoorIter
import Derived.Test.YtphgaflpipibmaaGreatDoorEvSym
import Derived.Lib.SlKeysI
import Derived.Sort.MapsRangeIn
import Derived.Maps.AppendAt
import Derived.WalkKit
import Derived.TacticsInMore
import Derived.RegionIn
import Derived.OwnWalkIn
import Derived.LoopNIn
import Derived.LoopIn
import Derived.Deep.LoopGhost
import Derived.WalkSpells
import Derived.RangeFuncFrom
import Derived.RangeFuncMany
import Derived.RangeFuncBound
import Derived.RangeFuncCalls
import Derived.RangeFuncLeaves
import Derived.Shelf.Abstract
import Derived.Shelf.RegionOpen
namespace Go.Ev
open Go.RowKit Go.Maps Go.Sort Go.Shelf Go.Proofs

set_option maxHeartbeats 1000000 in
theorem names141_some (b nn : Nat) (D0 : DataW Unit) (w : World) (hown : w.ownsMap Tryz.prog 9 R0 b nn D0) (hmax : Maps.size D0 ≤ maxLen) (hbytes : Maps.size D0 * 16 ≤ 140737488355328) :
    Calls Tryz.prog 141 #[.map (some b)] w fun e w' => ∃ (v : Value) (ss : List (List UInt8)), e = .returned v ∧ ss.Perm (strKeys D0) ∧
      w'.ownsRow w.heap.size 9 1 v ss.length ((ss.mergeSort (fun x y => decide (x ≤ y))).map encStr) ∧ (v = .slice none 0 0 ↔ ss = []) ∧ Below w.heap.size w w' := by
  refine (callsIn_wide (n := 6)).1 ?_
  have hfK : Fence.wide.fn 228 := trivial
  have hfS : Fence.wide.fn 227 := trivial
  refine callsIn_of_wp Tryz.func141 rfl trivial ?_ rfl
  simp only [Tryz.ntmps141, List.size_toArray, List.length_cons, List.length_nil, Nat.reduceAdd, Nat.reduceSub, Array.replicate_succ, Array.replicate_zero, List.push_toArray, List.append_toArray, List.nil_append, List.cons_append]
  gi_wp2_with (first
    | (gi_at_call 228; refine (Tryz.maps_Keys_228 _ _).mono ?_; rintro e w' ⟨rfl, rfl⟩)
    | (gi_at_call 227; refine (Tryz.slices_Sorted_keys_227_228 b nn D0 R0 w hown hmax hbytes).mono ?_; rintro e w' ⟨v, ss, rfl, hS, hrow, hnil, hb⟩))
  go_ret
  exact ⟨v, ss, rfl, hS, ownsRow_base_a hrow (by simp), hnil, ((Below.refl _ w).alloc (Nat.le_refl _) _).trans (hb.mono (by simp))⟩

set_option maxHeartbeats 1000000 in
theorem names141_nil (w : World) : Calls Tryz.prog 141 #[.map none] w fun e w' => e = .returned (.slice none 0 0) ∧ Below w.heap.size w w' := by
  refine (callsIn_wide (n := 6)).1 ?_
  have hfK : Fence.wide.fn 228 := trivial
  have hfS : Fence.wide.fn 227 := trivial
  refine callsIn_of_wp Tryz.func141 rfl trivial ?_ rfl
  simp only [Tryz.ntmps141, List.size_toArray, List.length_cons, List.length_nil, Nat.reduceAdd, Nat.reduceSub, Array.replicate_succ, Array.replicate_zero, List.push_toArray, List.append_toArray, List.nil_append, List.cons_append]
  gi_wp2_with (first
    | (gi_at_call 228; refine (Tryz.maps_Keys_228 _ _).mono ?_; rintro e w' ⟨rfl, rfl⟩)
    | (gi_at_call 227; refine (Tryz.slices_Sorted_keys_nil_227_228 w).mono ?_; rintro e w' ⟨v, ss, rfl, hS, hrow, hnil, hb⟩))
  go_ret
  exact ⟨by rw [hnil.2 hS]; rfl, ((Below.refl _ w).alloc (Nat.le_refl _) _).trans (hb.mono (by simp))⟩

theorem names141_ok : NamesFn Tryz.prog 141 9 :=
  ⟨fun args w => run_callFunc_enter Tryz.func141 (by kernel_rfl) (show Tryz.f141.body = some _ from rfl) args w, Tryz.underlying9, names141_some, names141_nil⟩

set_option maxHeartbeats 1000000 in
theorem names143_some (b nn : Nat) (D0 : DataW Unit) (w : World) (hown : w.ownsMap Tryz.prog 9 R0 b nn D0) (hmax : Maps.size D0 ≤ maxLen) (hbytes : Maps.size D0 * 16 ≤ 140737488355328) :
    Calls Tryz.prog 143 #[.map (some b)] w fun e w' => ∃ (v : Value) (ss : List (List UInt8)), e = .returned v ∧ ss.Perm (strKeys D0) ∧
      w'.ownsRow w.heap.size 9 1 v ss.length ((ss.mergeSort (fun x y => decide (x ≤ y))).map encStr) ∧ (v = .slice none 0 0 ↔ ss = []) ∧ Below w.heap.size w w' := by
  refine (callsIn_wide (n := 6)).1 ?_
  have hfK : Fence.wide.fn 232 := trivial
  have hfS : Fence.wide.fn 227 := trivial
  refine callsIn_of_wp Tryz.func143 rfl trivial ?_ rfl
  simp only [Tryz.ntmps143, List.size_toArray, List.length_cons, List.length_nil, Nat.reduceAdd, Nat.reduceSub, Array.replicate_succ, Array.replicate_zero, List.push_toArray, List.append_toArray, List.nil_append, List.cons_append]
  gi_wp2_with (first
    | (gi_at_call 232; refine (Tryz.maps_Keys_232 _ _).mono ?_; rintro e w' ⟨rfl, rfl⟩)
    | (gi_at_call 227; refine (Tryz.slices_Sorted_keys_227_232 b nn D0 R0 w hown hmax hbytes).mono ?_; rintro e w' ⟨v, ss, rfl, hS, hrow, hnil, hb⟩))
  go_ret
  exact ⟨v, ss, rfl, hS, ownsRow_base_a hrow (by simp), hnil, ((Below.refl _ w).alloc (Nat.le_refl _) _).trans (hb.mono (by simp))⟩

set_option maxHeartbeats 1000000 in
theorem names143_nil (w : World) : Calls Tryz.prog 143 #[.map none] w fun e w' => e = .returned (.slice none 0 0) ∧ Below w.heap.size w w' := by
  refine (callsIn_wide (n := 6)).1 ?_
  have hfK : Fence.wide.fn 232 := trivial
  have hfS : Fence.wide.fn 227 := trivial
  refine callsIn_of_wp Tryz.func143 rfl trivial ?_ rfl
  simp only [Tryz.ntmps143, List.size_toArray, List.length_cons, List.length_nil, Nat.reduceAdd, Nat.reduceSub, Array.replicate_succ, Array.replicate_zero, List.push_toArray, List.append_toArray, List.nil_append, List.cons_append]
  gi_wp2_with (first
    | (gi_at_call 232; refine (Tryz.maps_Keys_232 _ _).mono ?_; rintro e w' ⟨rfl, rfl⟩)
    | (gi_at_call 227; refine (Tryz.slices_Sorted_keys_nil_227_232 w).mono ?_; rintro e w' ⟨v, ss, rfl, hS, hrow, hnil, hb⟩))
  go_ret
  exact ⟨by rw [hnil.2 hS]; rfl, ((Below.refl _ w).alloc (Nat.le_refl _) _).trans (hb.mono (by simp))⟩

theorem names143_ok : NamesFn Tryz.prog 143 9 :=
  ⟨fun args w => run_callFunc_enter Tryz.func143 (by kernel_rfl) (show Tryz.f143.body = some _ from rfl) args w, Tryz.underlying9, names143_some, names143_nil⟩

set_option maxHeartbeats 1000000 in
theorem names145_some (b nn : Nat) (D0 : DataW Unit) (w : World) (hown : w.ownsMap Tryz.prog 9 R0 b nn D0) (hmax : Maps.size D0 ≤ maxLen) (hbytes : Maps.size D0 * 16 ≤ 140737488355328) :
    Calls Tryz.prog 145 #[.map (some b)] w fun e w' => ∃ (v : Value) (ss : List (List UInt8)), e = .returned v ∧ ss.Perm (strKeys D0) ∧
      w'.ownsRow w.heap.size 9 1 v ss.length ((ss.mergeSort (fun x y => decide (x ≤ y))).map encStr) ∧ (v = .slice none 0 0 ↔ ss = []) ∧ Below w.heap.size w w' := by
  refine (callsIn_wide (n := 6)).1 ?_
  have hfK : Fence.wide.fn 238 := trivial
  have hfS : Fence.wide.fn 227 := trivial
  refine callsIn_of_wp Tryz.func145 rfl trivial ?_ rfl
  simp only [Tryz.ntmps145, List.size_toArray, List.length_cons, List.length_nil, Nat.reduceAdd, Nat.reduceSub, Array.replicate_succ, Array.replicate_zero, List.push_toArray, List.append_toArray, List.nil_append, List.cons_append]
  gi_wp2_with (first
    | (gi_at_call 238; refine (Tryz.maps_Keys_238 _ _).mono ?_; rintro e w' ⟨rfl, rfl⟩)
    | (gi_at_call 227; refine (Tryz.slices_Sorted_keys_227_238 b nn D0 R0 w hown hmax hbytes).mono ?_; rintro e w' ⟨v, ss, rfl, hS, hrow, hnil, hb⟩))
  go_ret
  exact ⟨v, ss, rfl, hS, ownsRow_base_a hrow (by simp), hnil, ((Below.refl _ w).alloc (Nat.le_refl _) _).trans (hb.mono (by simp))⟩

set_option maxHeartbeats 1000000 in
theorem names145_nil (w : World) : Calls Tryz.prog 145 #[.map none] w fun e w' => e = .returned (.slice none 0 0) ∧ Below w.heap.size w w' := by
  refine (callsIn_wide (n := 6)).1 ?_
  have hfK : Fence.wide.fn 238 := trivial
  have hfS : Fence.wide.fn 227 := trivial
  refine callsIn_of_wp Tryz.func145 rfl trivial ?_ rfl
  simp only [Tryz.ntmps145, List.size_toArray, List.length_cons, List.length_nil, Nat.reduceAdd, Nat.reduceSub, Array.replicate_succ, Array.replicate_zero, List.push_toArray, List.append_toArray, List.nil_append, List.cons_append]
  gi_wp2_with (first
    | (gi_at_call 238; refine (Tryz.maps_Keys_238 _ _).mono ?_; rintro e w' ⟨rfl, rfl⟩)
    | (gi_at_call 227; refine (Tryz.slices_Sorted_keys_nil_227_238 w).mono ?_; rintro e w' ⟨v, ss, rfl, hS, hrow, hnil, hb⟩))
  go_ret
  exact ⟨by rw [hnil.2 hS]; rfl, ((Below.refl _ w).alloc (Nat.le_refl _) _).trans (hb.mono (by simp))⟩

theorem names145_ok : NamesFn Tryz.prog 145 9 :=
  ⟨fun args w => run_callFunc_enter Tryz.func145 (by kernel_rfl) (show Tryz.f145.body = some _ from rfl) args w, Tryz.underlying9, names145_some, names145_nil⟩
attribute [local go_sem] Oper.semAt_some

theorem Tryz.sprInfo : (Tryz.prog.info? 3).map (fun i => (i.zero, i.size, i.bytes)) = some (some (.int .i64 0), 1, 8) := by kernel_rfl
theorem Tryz.sprKeyed : Keyed Tryz.prog 3 := int_keyed Tryz.underlying3

abbrev SprP (size : Nat) : Type := {p : Int × Int // 0 ≤ p.1 ∧ p.1 < (size : Int)}
abbrev sprE {size : Nat} (p : SprP size) : Array Value := #[.int .i64 p.1.1, .int .i64 p.1.2]
def SprAt {size : Nat} (D0 : DataW Unit) (p : SprP size) : Prop := ∀ zd, D0.atKey (.int .i64 p.1.1) zd = .lit (.int .i64 p.1.2)
def SprAll {size : Nat} (D0 : DataW Unit) (ps : List (SprP size)) : Prop := (ps.map (fun p => p.1.1)).Perm (intKeys D0) ∧ ∀ p ∈ ps, SprAt D0 p

set_option maxRecDepth 100000 in
set_option maxHeartbeats 1000000 in
theorem Tryz.sprIter (size : Nat) (F : Fence) (n : Nat) (h8 : F.fn 256) (hro : F.round = none) (hn : 1 ≤ n) (l Bm b nn : Nat) (D0 : DataW Unit) (hD : ∀ x, has D0 (.int .i64 x) = true → 0 ≤ x ∧ x < (size : Int)) (J Jx : List (SprP size) → World → Prop)
    (hY : ∀ pre x W, J pre W → pre.length < Maps.size D0 → YieldAt F (n - 1) Tryz.prog l (sprE x) W fun e W' =>
      (e = .returned (.bool true) ∧ J (pre ++ [x]) W' ∧ KeepsWalks W W') ∨ (e = .returned (.bool false) ∧ Jx (pre ++ [x]) W'))
    (W : World) (hJ : AbidesFrom W.heap.size J) (hm : W.cell? ⟨Bm, 0, none⟩ = some (.map (some b))) (hown : W.ownsMap Tryz.prog 3 (plainElem Tryz.prog 3) b nn D0) (h0 : J [] W) :
    CallsIn F n Tryz.prog 256 #[.func (.yield l) #[] #[], .pointer (some ⟨Bm, 0, none⟩)] W fun e W' => (∃ v, e = .returned v) ∧
      ((∃ ps, SprAll D0 ps ∧ J ps W') ∨ (∃ pre, True ∧ Jx pre W')) := by
  refine callsIn_of_wp Tryz.func256 rfl h8 ?_ hro
  simp only [Tryz.ntmps256, List.size_toArray, List.length_cons, List.length_nil, Nat.reduceAdd, Nat.reduceSub, Array.replicate_succ, Array.replicate_zero, List.push_toArray, List.append_toArray, List.nil_append, List.cons_append]
  gi_wp2_with (first
    | (gi_at_range; refine wpListIn_range_own _ rfl _ 190 rfl 3 3 Tryz.sprKeyed Tryz.underlying190 _ b nn _ rfl hown ?_; intro w0 hrg0 hg0 hs0)
    | gi_in)
  go_frame
  gi_loopw [3, 4] (fun _ _ wr => ∃ (left : Lit → Bool) (cnt : Nat) (ps : List (SprP size)), wr.ranges Tryz.prog 3 (plainElem Tryz.prog 3) b W.heap.size nn D0 left cnt ∧ ps.length + cnt ≤ Maps.size D0 ∧ CollectedI D0 left (ps.map (fun p => p.1.1)) ∧ (∀ p ∈ ps, SprAt D0 p) ∧ J ps wr)
    (fun _ _ wr => wr.rangeLeft b W.heap.size)
  case atStart =>
    exact ⟨_, _, [], hrg0, by simp, CollectedI.start D0, by simp, hJ [] W w0 none h0 hg0 (fun r e => by cases e)⟩
  case round =>
    obtain ⟨left, cnt, ps, hrg, hcs, hC, hV, hJs⟩ := hrel
    gi_wp2_with (first
      | (gi_at_next; refine wpListIn_next_ranges _ rfl _ rfl 3 Tryz.sprKeyed (plainElem Tryz.prog 3) encZ (Value.int .i64) (fun key kl hk => by obtain ⟨x, hx, _⟩ := Maps.keyOf_i64 Tryz.underlying3 hk; exact ⟨x, hx⟩) (fun v y hv => by obtain ⟨c, rfl, _⟩ := plainElem_int_inv Tryz.underlying3 hv; exact ⟨c, rfl⟩) b W.heap.size nn _ _ _ rfl hrg ?_ ?_)
      | gi_in)
    · -- nothing is left
      intro hc0 hl0
      gi_wp2
      go_end0
      exact ⟨⟨_, rfl⟩, .inl ⟨ps, ⟨hC.perm hown Tryz.sprKeyed Tryz.underlying3 hl0, hV⟩, hJs⟩⟩
    · -- an entry has come
      intro x c kl yd yp w2 cnt2 hkey hlk hv hat hrg2 hlt hg2 hs2 hen
      obtain ⟨x', ex, rfl, _⟩ := Maps.keyOf_i64 Tryz.underlying3 hkey
      obtain rfl : x = x' := encZ_inj ex
      obtain ⟨c', ec, ez, _⟩ := plainElem_int_inv Tryz.underlying3 hv
      obtain rfl : c = c' := by simpa using ec
      obtain rfl : yd = .lit (.int .i64 c) := (Prod.mk.inj ez).1
      have hJ2 : J ps w2 := hJ ps wr w2 (some W.heap.size) hJs hg2 (fun r e => by cases e; exact ⟨Nat.le_refl _, hrg.iter_walk⟩)
      have hin : 0 ≤ x ∧ x < (size : Int) := hD x (has_true_of_atKey hat)
      obtain ⟨fn, tmps, assign, body, hy, hR⟩ := hY ps ⟨(x, c), hin⟩ w2 hJ2 (by omega)
      dsimp only [sprE] at hy
      clear hs2
      gi_wp2
      refine hR.mono ?_
      have hC2 : CollectedI D0 (fun z => left z && !z.sameKey (.int .i64 x)) ((ps ++ [(⟨(x, c), hin⟩ : SprP size)]).map (fun p => p.1.1)) := by simpa using hC.step hlk hat
      have hV2 : ∀ p ∈ ps ++ [(⟨(x, c), hin⟩ : SprP size)], SprAt D0 p := fun p hp => (List.mem_append.1 hp).elim (hV p) (fun e => by simp at e; subst e; exact hat)
      rintro e W3 (⟨rfl, hJ3, hk3⟩ | ⟨rfl, hJx3⟩)
      · gi_wp2
        have hrg3 := hrg2.of_walks hk3
        go_roundw
        case rel => exact ⟨_, cnt2, ps ++ [⟨(x, c), hin⟩], hrg3, by simp; omega, hC2, hV2, hJ3⟩
        case measure => rw [hrg3.left_eq, hrg.left_eq]; exact hlt
      · gi_wp2
        refine bodyPost_ret (results_none rfl _ _ _) rfl ?_
        exact ⟨⟨_, rfl⟩, .inr ⟨ps ++ [⟨(x, c), hin⟩], trivial, hJx3⟩⟩

set_option maxHeartbeats 1000000 in
theorem Tryz.sprMake (F : Fence) (n : Nat) (hf : F.fn 157) (hro : F.round = none) (mb : Option Nat) (w : World) :
    CallsIn F n Tryz.prog 157 #[.map mb] w fun e w' => e = .returned (.func (.func 256) #[] #[.pointer (some ⟨w.heap.size, 0, none⟩)]) ∧ w' = w.alloc (.cells #[.map mb] 190) := by
  refine callsIn_of_wp Tryz.func157 rfl hf ?_ hro
  simp only [Tryz.ntmps157, List.size_toArray, List.length_cons, List.length_nil, Nat.reduceAdd, Nat.reduceSub, Array.replicate_succ, Array.replicate_zero, List.push_toArray, List.append_toArray, List.nil_append, List.cons_append]
  gi_wp2
  go_ret
  exact ⟨rfl, rfl⟩

theorem Tryz.sprStops (size : Nat) (F : Fence) (n : Nat) (h8 : F.fn 256) (hro : F.round = none) (hn : 1 ≤ n) (Bm b nn : Nat) (D0 : DataW Unit) (hD : ∀ x, has D0 (.int .i64 x) = true → 0 ≤ x ∧ x < (size : Int)) (w : World) (hBm : Bm < w.heap.size)
    (hm : w.cell? ⟨Bm, 0, none⟩ = some (.map (some b))) (hown : w.ownsMap Tryz.prog 3 (plainElem Tryz.prog 3) b nn D0) :
    SeqStopsA F n Tryz.prog 256 #[.pointer (some ⟨Bm, 0, none⟩)] (sprE (size := size)) (SprAll D0) (fun _ => True) (Maps.size D0) w := fun l J Jx W hW hJ _ hY h0 => by
  have hown' : W.ownsMap Tryz.prog 3 (plainElem Tryz.prog 3) b nn D0 := by
    have hbl := hown.lt
    obtain ⟨es, clock, hb, Ft, hs, hD⟩ := hown
    exact ⟨es, clock, (hW.block b hbl).trans hb, Ft, hs, hD⟩
  exact Tryz.sprIter size F n h8 hro hn l Bm b nn D0 hD J Jx hY W hJ ((hW.cell (p := ⟨Bm, 0, none⟩) hBm).trans hm) hown' h0

def sprRow {size : Nat} (ps : List (SprP size)) : Array Value := ps.foldl (fun t p => t.setIfInBounds p.1.1.toNat (.int .i64 p.1.2)) (Array.replicate size (.int .i64 0))
theorem sprRow_snoc {size : Nat} (ps : List (SprP size)) (p : SprP size) : sprRow (ps ++ [p]) = (sprRow ps).setIfInBounds p.1.1.toNat (.int .i64 p.1.2) := by simp [sprRow]
theorem sprRow_size {size : Nat} (ps : List (SprP size)) : (sprRow ps).size = size := by
  unfold sprRow
  suffices ∀ (t : Array Value), (ps.foldl (fun t p => t.setIfInBounds p.1.1.toNat (.int .i64 p.1.2)) t).size = t.size by rw [this]; simp
  induction ps with
  | nil => intro t; rfl
  | cons p ps ih => intro t; rw [List.foldl_cons, ih]; simp

theorem spr_kept {A B : World} {row : Option Nat} {g : Nat} {arr : Array Value} {e : TypeId} {fz : Nat × Nat} (h : A.heap[g]? = some (.cells arr e fz)) (hg : A.grownBy B row) (hr : ∀ r, row = some r → ∃ o : Obj, A.heap[r]? = some o ∧ o.isCells = false) :
    B.heap[g]? = some (.cells arr e fz) := by
  have hlt : g < A.heap.size := (Array.getElem?_eq_some_iff.1 h).1
  rw [hg.block g hlt (fun q => by
    obtain ⟨o, h1, h2⟩ := hr g q.symm
    rw [h] at h1; injection h1 with h1; subst h1; cases h2)]
  exact h
theorem spr_cell {W : World} {B : Nat} {v : Value} {t : TypeId} (h : W.heap[B]? = some (.cells #[v] t (0, 0))) : W.cell? ⟨B, 0, none⟩ = some v := by simp [World.cell?, h]
theorem spr_at {W : World} {B i : Nat} {arr : Array Value} {t : TypeId} (h : W.heap[B]? = some (.cells arr t (0, 0))) (hi : i < arr.size) : W.cell? ⟨B, i, none⟩ = some arr[i] ∧ W.frozen? ⟨B, i, none⟩ = false := by
  constructor <;> simp [World.cell?, World.frozen?, h, hi]
theorem spr_setCell {W : World} {g i : Nat} {v : Value} {arr : Array Value} {e : TypeId} (h : W.heap[g]? = some (.cells arr e (0, 0))) : (W.setCell ⟨g, i, none⟩ v).heap[g]? = some (.cells (arr.setIfInBounds i v) e (0, 0)) := by
  simp [World.setCell, Array.getElem?_modify, h]

set_option maxRecDepth 100000 in
set_option maxHeartbeats 2000000 in
theorem Tryz.sprCalls (size b nn : Nat) (D0 : DataW Unit) (w : World) (hown : w.ownsMap Tryz.prog 3 (plainElem Tryz.prog 3) b nn D0) (hs : size ≤ 1000) (hD : ∀ x, has D0 (.int .i64 x) = true → 0 ≤ x ∧ x < (size : Int)) :
    Calls Tryz.prog 89 #[.map (some b), .int .i64 (size : Int)] w fun e w' => ∃ (g : Nat) (ps : List (SprP size)), e = .returned (.slice (some ⟨g, 0, none⟩) size size) ∧ w.heap.size ≤ g ∧ SprAll D0 ps ∧
      w'.heap[g]? = some (.cells (sprRow ps) 3 (0, 0)) ∧ Below w.heap.size w w' := by
  obtain ⟨i0, hi, hz0, hz1, hz2⟩ := info_parts Tryz.sprInfo
  refine (callsIn_wide (n := 6)).1 ?_
  have hfA : Fence.wide.fn 157 := trivial
  have hfI : Fence.wide.fn 256 := trivial
  refine callsIn_of_wp_marks Tryz.func89 rfl trivial ?_ rfl
  simp only [Tryz.ntmps89, List.size_toArray, List.length_cons, List.length_nil, Nat.reduceAdd, Nat.reduceSub, Array.replicate_succ, Array.replicate_zero, List.push_toArray, List.append_toArray, List.nil_append, List.cons_append]
  have hmk := run_makeSlice (P := Tryz.prog) w 126 3 i0 (.int .i64 0) Tryz.underlying126 hi hz0 .i64 .i64 (size : Int) (size : Int) (by omega) (Int.le_refl _) (by rw [hz1]; simp; omega) (by rw [hz2]; omega) (by omega)
  have hcs : madeCells (Value.int .i64 0).cells ((size : Int).toNat * i0.size) = Array.replicate size (Value.int .i64 0) := by
    rw [hz1]
    refine Array.ext (by simp [madeCells]) fun i h1 h2 => ?_
    simp [madeCells, Value.cells, Nat.mod_one]
  rw [hcs] at hmk
  simp only [Int.toNat_natCast] at hmk
  gi_wp2_with (first
    | (gi_at_call 157; refine (Tryz.sprMake _ _ hfA rfl _ _).mono ?_; rintro e w' ⟨rfl, rfl⟩)
    | gi_in)
  have c1 : ((w.alloc (.cells (Array.replicate size (Value.int .i64 0)) 3)).alloc (.cells #[Value.slice (some ⟨w.heap.size, 0, none⟩) size size] 126)).cell? ⟨w.heap.size + 1, 0, none⟩ = some (.slice (some ⟨w.heap.size, 0, none⟩) size size) := by
    have := World.alloc_heap_new (w.alloc (.cells (Array.replicate size (Value.int .i64 0)) 3)) (.cells #[Value.slice (some ⟨w.heap.size, 0, none⟩) size size] 126)
    rw [World.size_alloc] at this
    exact spr_cell this
  have c2 : (((w.alloc (.cells (Array.replicate size (Value.int .i64 0)) 3)).alloc (.cells #[Value.slice (some ⟨w.heap.size, 0, none⟩) size size] 126)).alloc (.cells #[Value.map (some b)] 190)).cell? ⟨w.heap.size + 1 + 1, 0, none⟩ = some (.map (some b)) := by
    have := World.alloc_heap_new ((w.alloc (.cells (Array.replicate size (Value.int .i64 0)) 3)).alloc (.cells #[Value.slice (some ⟨w.heap.size, 0, none⟩) size size] 126)) (.cells #[Value.map (some b)] 190)
    rw [World.size_alloc, World.size_alloc] at this
    exact spr_cell this
  have hB0 : Below w.heap.size w (((w.alloc (.cells (Array.replicate size (Value.int .i64 0)) 3)).alloc (.cells #[Value.slice (some ⟨w.heap.size, 0, none⟩) size size] 126)).alloc (.cells #[Value.map (some b)] 190)) :=
    (((Below.refl _ w).alloc (Nat.le_refl _) _).alloc (by simp) _).alloc (by simp; omega) _
  have hg0 : (((w.alloc (.cells (Array.replicate size (Value.int .i64 0)) 3)).alloc (.cells #[Value.slice (some ⟨w.heap.size, 0, none⟩) size size] 126)).alloc (.cells #[Value.map (some b)] 190)).heap[w.heap.size]? = some (.cells (Array.replicate size (Value.int .i64 0)) 3 (0, 0)) :=
    (Below.heap_alloc _ _ _ (by simp; omega)).trans ((Below.heap_alloc _ _ _ (by simp)).trans (World.alloc_heap_new w _))
  have hc0 : (((w.alloc (.cells (Array.replicate size (Value.int .i64 0)) 3)).alloc (.cells #[Value.slice (some ⟨w.heap.size, 0, none⟩) size size] 126)).alloc (.cells #[Value.map (some b)] 190)).cell? ⟨w.heap.size + 1, 0, none⟩ = some (.slice (some ⟨w.heap.size, 0, none⟩) size size) :=
    cell_kept c1 (World.grownBy_alloc _ _ none) (fun r e => by cases e)
  have hown0 := hown
  have hownX : (((w.alloc (.cells (Array.replicate size (Value.int .i64 0)) 3)).alloc (.cells #[Value.slice (some ⟨w.heap.size, 0, none⟩) size size] 126)).alloc (.cells #[Value.map (some b)] 190)).ownsMap Tryz.prog 3 (plainElem Tryz.prog 3) b nn D0 := by
    have hbl := hown.lt
    obtain ⟨es, clock, hb, Ft, hs, hD⟩ := hown
    exact ⟨es, clock, (hB0.block b hbl).trans hb, Ft, hs, hD⟩
  obtain ⟨W0, hW0⟩ : ∃ W0, (((w.alloc (.cells (Array.replicate size (Value.int .i64 0)) 3)).alloc (.cells #[Value.slice (some ⟨w.heap.size, 0, none⟩) size size] 126)).alloc (.cells #[Value.map (some b)] 190)) = W0 := ⟨_, rfl⟩
  have hsz : W0.heap.size = w.heap.size + 3 := by rw [← hW0]; simp
  rw [hW0] at c2 hB0 hg0 hc0 hownX ⊢
  refine wpIn_rangeFunc_ownF rfl (by decide) (gf := 256) (lb := #[.pointer (some ⟨w.heap.size + 1 + 1, 0, none⟩)]) rfl hfI (enters_of Tryz.func256 (by kernel_rfl) rfl)
    (Tryz.sprStops size Fence.wide 5 hfI rfl (by decide) (w.heap.size + 1 + 1) b nn D0 hD W0 (by omega) c2 hownX) walksK_t walksK_b (Below.refl _ _) (fun _ => rfl)
    (fun pre W => (W.heap[w.heap.size]? = some (.cells (sprRow pre) 3 (0, 0)) ∧ W.cell? ⟨w.heap.size + 1, 0, none⟩ = some (.slice (some ⟨w.heap.size, 0, none⟩) size size)) ∧ Below w.heap.size w W)
    (fun _ _ _ => False)
    (OwnFrom.and (Own.from (fun s A B row hs hg hr => ⟨spr_kept hs.1 hg hr, cell_kept hs.2 hg hr⟩) _) (ownFrom_below (Nat.le_refl _) (by omega)))
    (fun _ _ _ _ _ hs _ _ => hs)
    ⟨⟨hg0, hc0⟩, hB0⟩
    (fun x => { tmps := #[Value.map (some b), Value.int IntKind.i64 (size : Int), undef, undef, Value.slice none 0 0,
          Value.pointer (some ⟨w.heap.size + 1, 0, none⟩), .int .i64 x.1.1, .int .i64 x.1.2, Value.int IntKind.i64 (size : Int),
          Value.slice (some ⟨w.heap.size, 0, none⟩) size size, Value.map (some b),
          Value.func (Fn.func 256) #[] #[Value.pointer (some ⟨w.heap.size + 1 + 1, 0, none⟩)], .int .i64 x.1.1, .int .i64 x.1.2,
          undef, undef, undef, undef, undef], defers := [] }) ?assign ?body ?done ?stop
  case assign =>
    intro l x W K hK
    gi_wp2
    exact hK
  case body =>
    rintro l pre x W ⟨⟨hr, hc⟩, hB⟩ _
    obtain ⟨hx0, hx1⟩ := x.2
    obtain ⟨hcx, hfx⟩ := spr_at (i := x.1.1.toNat) hr (by rw [sprRow_size]; omega)
    gi_wp2
    exact ⟨KeepsOthers.setCell _ _ _, (KeepsOthers.setCell _ _ _).walks, ⟨by rw [sprRow_snoc]; exact spr_setCell hr, (World.cell?_setCell_other W _ _ _ (by simp)).trans hc⟩, hB.setCell (p := ⟨w.heap.size, x.1.1.toNat, none⟩) (Nat.le_refl _) _⟩
  case done =>
    rintro D ps W hDl hS ⟨⟨hr, hc⟩, hB⟩ hK
    gi_wp2
    refine ⟨by simp, .inl ⟨_, _, rfl, run_takeDeferred hK, ?_⟩⟩
    exact ⟨_, results_tmp rfl _ _ _, w.heap.size, ps, rfl, Nat.le_refl _, hS, (World.putObj_heap_other (by omega)).trans hr, hB.trans (belowK_b (w := w) (Nat.le_refl _) W D _ _ (by omega) hK rfl rfl)⟩
  case stop =>
    rintro D c pre W _ _ h _
    exact h.elim

theorem sprHas {a : Int} {y : DataW Unit} {x : Int} : has (DataW.map [(.int .i64 a, y)]) (.int .i64 x) = true ↔ a = x := by
  simp [has_eq, Lit.sameKey]
theorem Tryz.sprOk : SpreadFn Tryz.prog 89 3 := by
  refine ⟨fun args w => run_callFunc_enter Tryz.func89 (by kernel_rfl) (show Tryz.f89.body = some _ from rfl) args w, Tryz.underlying3, fun size b nn a v w hown hlt hsz => ?_⟩
  refine Calls.mono (Tryz.sprCalls size b nn _ w hown hsz fun x hx => by have := sprHas.1 hx; omega) fun e w' ⟨g, ps, h1, h2, ⟨h3, h4⟩, h5, h6⟩ => ⟨g, h1, h2, ?_, h6⟩
  rw [h5]
  have q3 : ps.map (fun p => p.1.1) = [(a : Int)] := List.perm_singleton.1 (show (ps.map (fun p => p.1.1)).Perm [(a : Int)] from h3)
  clear h3
  cases ps with
  | nil => cases q3
  | cons p ps =>
    rw [List.map_cons] at q3
    injection q3 with q4 q5
    have q6 : ps = [] := by simpa using q5
    subst q6
    have q7 : p.1.1 = (a : Int) := q4
    have h7 := h4 p (by simp) .nil
    rw [q7] at h7
    have h8 : p.1.2 = (v : Int) := by
      simp [DataW.atKey, Lit.sameKey] at h7
      omega
    simp [sprRow, q7, h8]

noncomputable section
/-- the functions that are taken whole -/
def natN : Nats := fun f => Bool.rec (motive := fun _ => Option NatF) (Bool.rec (motive := fun _ => Option NatF) (Bool.rec (motive := fun _ => Option NatF) (Bool.rec (motive := fun _ => Option NatF) (none) (some spreadN) (Nat.beq f 89)) (some namesN) (Nat.beq f 145)) (some namesN) (Nat.beq f 143)) (some namesN) (Nat.beq f 141)
theorem natN_ok [Sym] [SymFact Tryz.prog] : NatsOk Tryz.prog natN := by
  refine nats_okS fun f g h => ?_
  unfold natN at h
  cases e141 : Nat.beq f 141 with
  | true =>
    rw [e141] at h
    injection h with h
    have := Nat.eq_of_beq_eq_true e141
    subst this
    exact .inl ⟨h.symm, _, names141_ok⟩
  | false =>
  rw [e141] at h
  simp only at h
  cases e143 : Nat.beq f 143 with
  | true =>
    rw [e143] at h
    injection h with h
    have := Nat.eq_of_beq_eq_true e143
    subst this
    exact .inl ⟨h.symm, _, names143_ok⟩
  | false =>
  rw [e143] at h
  simp only at h
  cases e145 : Nat.beq f 145 with
  | true =>
    rw [e145] at h
    injection h with h
    have := Nat.eq_of_beq_eq_true e145
    subst this
    exact .inl ⟨h.symm, _, names145_ok⟩
  | false =>
  rw [e145] at h
  simp only at h
  cases e89 : Nat.beq f 89 with
  | true =>
    rw [e89] at h
    injection h with h
    have := Nat.eq_of_beq_eq_true e89
    subst this
    exact .inr (.inr ⟨h.symm, _, Tryz.sprOk⟩)
  | false =>
  rw [e89] at h
  simp only at h
  cases h
end
end Go.Ev
