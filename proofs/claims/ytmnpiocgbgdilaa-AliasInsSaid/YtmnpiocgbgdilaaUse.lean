/- The contracts of In.Use. -/
import Derived.Test.YtmnpiocgbgdilaaBase
import Derived.Outline
import Derived.Lib.Strings
namespace Go.Proofs.Ytmnpiocgbgdilaa
open Go.RowKit Go.Maps Go.WideMaps

theorem use_bad (b m : Nat) (most k : Int) (t : ByteArray) (n : Nat) (f : Int → ByteArray) (D : DataW Unit) (w : World) (h : InAt w b m most n f D) (hk : k < 0 ∨ (0 < k ∧ most < k)) :
    Calls Try.prog 8 #[.pointer (some ⟨b, 0, none⟩), .int .i64 k, .string t] w fun e w' => e = .returned (.tuple #[.string ByteArray.empty, .int .i64 148]) ∧ w' = w := by
  have c0 := cell_blk h.blk (i := 0) rfl
  have c1 := cell_blk h.blk (i := 1) rfl
  rcases hk with hk | ⟨hk, hm⟩
  · have hk0 : k ≠ 0 := by omega
    go_enter Try.func8, Try.ntmps8
    go_wp2
    go_ret2
    exact ⟨rfl, rfl⟩
  · have hk0 : k ≠ 0 := by omega
    have hk1 : ¬ k < 0 := by omega
    go_enter Try.func8, Try.ntmps8
    go_wp2
    go_ret2
    exact ⟨rfl, rfl⟩

theorem use_put (b m : Nat) (most k : Int) (t : ByteArray) (n : Nat) (f : Int → ByteArray) (D : DataW Unit) (w : World) (h : InAt w b m most n f D) (hk : 0 < k) (hm : k ≤ most) (hw : (Lit.int .i64 k).wf = true) (ht : t.toList.isEmpty = false) (hs : t.size ≤ maxLen) (hn : n < maxLen) :
    Calls Try.prog 8 #[.pointer (some ⟨b, 0, none⟩), .int .i64 k, .string t] w fun e w' => e = .returned (.tuple #[.string t, .int .i64 0]) ∧ w'.ownsMap Try.prog 3 (plainElem Try.prog 9) m (n + 1) (D.put (.int .i64 k) (sd t)) ∧ w.mapTurned w' m := by
  have c0 := cell_blk h.blk (i := 0) rfl
  have c1 := cell_blk h.blk (i := 1) rfl
  have hown := h.own
  have hkey := keyOf_int_mk Try.underlying3 hw
  have hk0 : (k != 0) = true := by simp; omega
  have hk1 : ¬ k < 0 := by omega
  have hk2 : ¬ most < k := by omega
  go_enter Try.func8, Try.ntmps8
  go_wp2_with (first
    | (at_mapUpdate; refine wpList_mapUpdate_in _ rfl _ _ _ 49 rfl 3 9 law3 Try.underlying49 _ m n D rfl hown hn _ _ _ rfl rfl hkey _ [] (plainElem_string Try.underlying9 hs) ?_; intro w1 hown1 hturn1)
    | go_in)
  go_ret2
  exact ⟨rfl, hown1, hturn1⟩

theorem empty_of {s : ByteArray} (h : s.toList.isEmpty = true) : s = ByteArray.empty := by
  rw [Lib.toList_data] at h
  obtain ⟨⟨l⟩⟩ := s
  simp at h
  subst h
  rfl

theorem use_get (b m : Nat) (most k : Int) (n : Nat) (f : Int → ByteArray) (D : DataW Unit) (w : World) (h : InAt w b m most n f D) (hk : 0 < k) (hm : k ≤ most) (hw : (Lit.int .i64 k).wf = true) :
    Calls Try.prog 8 #[.pointer (some ⟨b, 0, none⟩), .int .i64 k, .string ByteArray.empty] w fun e w' => e = .returned (.tuple #[.string (f k), .int .i64 (if (f k).toList.isEmpty then 130 else 0)]) ∧ w' = w := by
  have c0 := cell_blk h.blk (i := 0) rfl
  have c1 := cell_blk h.blk (i := 1) rfl
  have hown := h.own
  have hat := h.at_ k
  have hkey := keyOf_int_mk Try.underlying3 hw
  have hk0 : (k != 0) = true := by simp; omega
  have hk1 : ¬ k < 0 := by omega
  have hk2 : ¬ most < k := by omega
  obtain ⟨s, hs⟩ : ∃ s, s = f k := ⟨_, rfl⟩
  rw [← hs] at hat ⊢
  clear hs
  go_enter Try.func8, Try.ntmps8
  go_wp2_with (first
    | (at_lookup; refine wpList_lookup_own_string _ rfl _ _ 49 rfl 3 9 law3 Try.underlying49 Try.underlying9 (zero9 _) m n D rfl hown _ _ rfl hkey s hat ?_)
    | go_in)
  · have h1 : s.toList.isEmpty = true := by assumption
    go_ret2
    rw [empty_of h1]
    exact ⟨rfl, rfl⟩
  · go_ret2
    exact ⟨rfl, rfl⟩
theorem use_zero (b m : Nat) (most : Int) (t : ByteArray) (n : Nat) (f : Int → ByteArray) (D : DataW Unit) (w : World) (h : InAt w b m most n f D) :
    Calls Try.prog 8 #[.pointer (some ⟨b, 0, none⟩), .int .i64 0, .string t] w fun e w' => e = .returned (.tuple #[.string t, .int .i64 (if t.toList.isEmpty then 130 else 0)]) ∧ w' = w := by
  have c0 := cell_blk h.blk (i := 0) rfl
  have c1 := cell_blk h.blk (i := 1) rfl
  go_enter Try.func8, Try.ntmps8
  go_wp2
  · have h1 : t.toList.isEmpty = true := by assumption
    go_ret2
    rw [empty_of h1]
    exact ⟨rfl, rfl⟩
  · go_ret2
    exact ⟨rfl, rfl⟩
  · go_ret2
    exact ⟨rfl, rfl⟩
end Go.Proofs.Ytmnpiocgbgdilaa
