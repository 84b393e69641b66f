/- The contracts of the document's Out: For. -/
import Derived.Test.YtmnpiocgbgdilaaRef
namespace Go.Proofs.Ytmnpiocgbgdilaa
open Go.RowKit Go.Maps Go.WideMaps

theorem frozen_blk {w : World} {b i : Nat} {cs : Array Value} {t : TypeId} (h : w.heap[b]? = some (.cells cs t (0, 0))) : w.frozen? ⟨b, i, none⟩ = false := by
  unfold World.frozen?
  simp [h]
theorem own_shape {w : World} {base : Nat} {e : TypeId} {size : Nat} {v : Value} {n : Nat} {xs : List Value} (h : w.ownsRow base e size v n xs) (hn : 0 < n) : ∃ g cap, v = .slice (some ⟨g, 0, none⟩) n cap ∧ base ≤ g := by
  rcases h.2 with ⟨_, h0⟩ | ⟨g, cap, cur, rfl, hb, _⟩
  · omega
  · exact ⟨g, cap, rfl, hb⟩
theorem own_block {w : World} {base : Nat} {e : TypeId} {size : Nat} {v : Value} {n : Nat} {xs : List Value} (h : w.ownsRow base e size v n xs) {r : Nat} (hr : r < base) : some r ≠ v.ownBlock := by
  rcases h.2 with ⟨rfl, _⟩ | ⟨g, cap, cur, rfl, hb, _⟩
  · intro e; cases e
  · intro e; injection e with e; simp only at e; omega
theorem Fr.grown {w w' : World} {r : Nat} {o : Option Nat} (h : w.grownBy w' o) (ho : ∀ k, o = some k → r ≤ k) : Fr (r ≤ ·) w w' :=
  ⟨h.os, h.tape, h.output, h.size, fun k hk hn => h.block k hk (fun e => hn (ho k e.symm))⟩
theorem Fr.alloc {w : World} {S : Nat → Prop} (o : Obj) : Fr S w (w.alloc o) := ⟨rfl, rfl, rfl, by simp, fun k hk _ => Below.heap_alloc _ _ _ hk⟩
theorem Fr.setCell {w : World} {r i : Nat} (v : Value) : Fr (r ≤ ·) w (w.setCell ⟨r, i, none⟩ v) := ⟨rfl, rfl, rfl, by simp, fun k _ hn => Below.heap_setCell _ _ _ _ (fun e => hn (by simp only at e; omega))⟩

theorem Try.info9 : (Try.prog.info? 9).map (fun i => (i.zero, i.size, i.bytes)) = some (some (.string ByteArray.empty), 1, 16) := by kernel_rfl

theorem ref_known (r : Nat) (most : Int) (v : Value) (L : List ByteArray) (t : ByteArray) (w : World) (h : RefAt w r most v L) (hL : L.length < 1000) (c : Nat) (h0 : L[c]? = some t) (h1 : ∀ k, k < c → L[k]? ≠ some t) :
    Calls Try.prog 13 #[.pointer (some ⟨r, 0, none⟩), .string t] w fun e w' => e = .returned (.tuple #[.int .i64 (c + 1), .bool true]) ∧ w' = w := by
  have hk := known_any r most v L t w h hL (c + 1) (.inr ⟨by omega, by simpa using h0, by simpa using h1⟩)
  have HK := Lib.hid hk
  clear hk h1 h0
  go_enter Try.func13, Try.ntmps13
  go_wp2_with (go_at_call 15; refine HK.out.mono ?_; rintro e w' ⟨rfl, rfl⟩)
  go_ret2
  exact ⟨rfl, rfl⟩

theorem ref_full (r : Nat) (most : Int) (v : Value) (L : List ByteArray) (t : ByteArray) (w : World) (h : RefAt w r most v L) (hL : L.length < 1000) (h1 : ∀ k : Nat, L[k]? ≠ some t) (hm : most ≤ L.length) :
    Calls Try.prog 13 #[.pointer (some ⟨r, 0, none⟩), .string t] w fun e w' => e = .returned (.tuple #[.int .i64 0, .bool false]) ∧ Fr (fun _ => False) w w' := by
  have hk := known_any r most v L t w h hL 0 (.inl ⟨rfl, h1⟩)
  have HK := Lib.hid hk
  obtain ⟨a, cap, rfl, _⟩ := h.shape
  have c0 : w.cell? ⟨r, 0, none⟩ = some (.int .i64 most) := cell_blk h.blk (i := 0) rfl
  have c1 : w.cell? ⟨r, 1, none⟩ = some (.slice a L.length cap) := cell_blk h.blk (i := 1) rfl
  have hg : decide ((L.length : Int) ≥ most) = true := decide_eq_true hm
  clear hk h1
  go_enter Try.func13, Try.ntmps13
  go_wp2_with (go_at_call 15; refine HK.out.mono ?_; rintro e w' ⟨rfl, rfl⟩)
  go_quiet (fail)
  go_wp2
  go_ret2
  exact ⟨rfl, Fr.drewN nq⟩

set_option maxRecDepth 100000 in
theorem ref_new (r : Nat) (most : Int) (v : Value) (L : List ByteArray) (t : ByteArray) (w : World) (h : RefAt w r most v L) (hL : L.length < 1000) (h1 : ∀ k : Nat, L[k]? ≠ some t) (hm : L.length < most) :
    Calls Try.prog 13 #[.pointer (some ⟨r, 0, none⟩), .string t] w fun e w' => ∃ v', e = .returned (.tuple #[.int .i64 (L.length + 1), .bool false]) ∧ RefAt w' r most v' (L ++ [t]) ∧ Fr (r ≤ ·) w w' := by
  have hk := known_any r most v L t w h hL 0 (.inl ⟨rfl, h1⟩)
  have HK := Lib.hid hk
  have hr : r < w.heap.size := by
    have := h.blk
    exact (Array.getElem?_eq_some_iff.1 this).1
  have HO := Lib.hid h.own
  have HB := Lib.hid h.blk
  obtain ⟨a, cap, rfl, _⟩ := h.shape
  have c0 : w.cell? ⟨r, 0, none⟩ = some (.int .i64 most) := cell_blk h.blk (i := 0) rfl
  have c1 : w.cell? ⟨r, 1, none⟩ = some (.slice a L.length cap) := cell_blk h.blk (i := 1) rfl
  have hg : decide ((L.length : Int) ≥ most) = false := decide_eq_false (by omega)
  clear hk h1
  obtain ⟨i0, hi, hz0, hz1, hz2⟩ := info_parts Try.info9
  go_enter Try.func13, Try.ntmps13
  go_wp2_with (go_at_call 15; refine HK.out.mono ?_; rintro e w' ⟨rfl, rfl⟩)
  go_quiet (fail)
  have hf : Fr (r ≤ ·) w (w.drewN nq) := Fr.drewN nq
  have c1' : (w.drewN nq).cell? ⟨r, 1, none⟩ = some (.slice a L.length cap) := c1
  have HO' : Hid ((w.drewN nq).ownsRow (r + 1) 9 1 (.slice a L.length cap) L.length (L.map Value.string)) := HO.out
  have HB' : Hid ((w.drewN nq).heap[r]? = some (.cells #[.int .i64 most, .slice a L.length cap] 44 (0, 0))) := HB.out
  have hr' : r < (w.drewN nq).heap.size := hr
  clear HK h HO HB c0 c1 hr
  generalize w.drewN nq = w2 at *
  have hown := HO'.out
  go_wp2_with (first
    | (at_builtin; refine wpList_append_own _ rfl _ _ 28 rfl (r + 1) 9 i0 (.string ByteArray.empty) 1 16 Try.underlying28 hi hz0 hz1 hz2 rfl (by decide) _ _ _ rfl (hown.alloc _) ⟨w2.heap.size, 0, none⟩ 1 1 [.string t] rfl rfl ?c1 ?c2 ?c3 ?c4 ?c5 ?_)
    | go_in)
  case c1 =>
    intro j u hj
    match j, hj with
    | 0, hj => simp at hj; subst hj; simp [Addr.add]
  case c2 => intro u hu; simp at hu; subst hu; rfl
  case c3 => unfold maxLen; omega
  case c4 => omega
  case c5 => simp; omega
  intro v' w3 hown3 hgrow3 _
  have hsp := own_shape hown3 (by omega)
  obtain ⟨g, cap', rfl, hg'⟩ := hsp
  have hB3 : w3.heap[r]? = some (.cells #[.int .i64 most, .slice a L.length cap] 44 (0, 0)) := by
    rw [hgrow3.block r (by simp; omega) (own_block hown (by omega)), Below.heap_alloc _ _ _ hr']
    exact HB'.out
  have c3 : w3.cell? ⟨r, 1, none⟩ = some (.slice a L.length cap) := cell_blk hB3 rfl
  have f3 : w3.frozen? ⟨r, 1, none⟩ = false := frozen_blk hB3
  have hf3 : Fr (r ≤ ·) w w3 := hf.trans ((Fr.alloc _).trans (Fr.grown hgrow3 (fun k e => by
    rcases hown.2 with ⟨h, _⟩ | ⟨g, c, cu, h, hb, _⟩
    · injection h with h; subst h; cases e
    · injection h with h; subst h; injection e with e; simp only at e; omega)))
  have HB3 := Lib.hid hB3
  have HO3 := Lib.hid hown3
  clear hown3 hgrow3 hown HO' HB' hB3 hf
  go_wp2
  go_ret2
  refine ⟨.slice (some ⟨g, 0, none⟩) (L.length + 1) cap', rfl, ⟨?_, ?_⟩, hf3.trans (Fr.setCell _)⟩
  · rw [heap_setCell_same _ _ _ _ _ _ HB3.out]
    rfl
  · have := ownsRow_setCell_below HO3.out (a := ⟨r, 1, none⟩) (by simp only; omega) (.slice (some ⟨g, 0, none⟩) (L.length + 1) cap')
    simpa using this
end Go.Proofs.Ytmnpiocgbgdilaa
