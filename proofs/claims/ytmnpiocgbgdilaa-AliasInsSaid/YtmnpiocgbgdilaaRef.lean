/- The contracts of the document's Out. -/
import Derived.Test.YtmnpiocgbgdilaaOut
import Derived.Lib.Strings
import Derived.Lib.Hide
namespace Go.Proofs.Ytmnpiocgbgdilaa
open Go.RowKit Go.Maps Go.WideMaps

/-- the document's Out: its most, its topics -/
structure RefAt (w : World) (r : Nat) (most : Int) (v : Value) (L : List ByteArray) : Prop where
  blk : w.heap[r]? = some (.cells #[.int .i64 most, v] 44 (0, 0))
  own : w.ownsRow (r + 1) 9 1 v L.length (L.map Value.string)
theorem RefAt.shape {w : World} {r : Nat} {most : Int} {v : Value} {L : List ByteArray} (h : RefAt w r most v L) :
    ∃ a cap, v = .slice a L.length cap ∧ ∀ k s, L[k]? = some s → ∃ g, a = some ⟨g, 0, none⟩ ∧ w.cell? ⟨g, k, none⟩ = some (.string s) := by
  have ho := h.own
  rcases ho.2 with ⟨rfl, hn⟩ | ⟨g, cap, cur, rfl, _, _, _, _, _, _⟩
  · refine ⟨none, 0, by rw [hn], fun k s hk => ?_⟩
    have := (List.getElem?_eq_some_iff.1 hk).1
    omega
  · refine ⟨some ⟨g, 0, none⟩, cap, rfl, fun k s hk => ⟨g, rfl, ?_⟩⟩
    have hlt := (List.getElem?_eq_some_iff.1 hk).1
    rw [ho.cellAt k (by omega), List.getElem?_map, hk]
    rfl

set_option maxHeartbeats 400000 in
theorem known_none (r : Nat) (most : Int) (v : Value) (t : ByteArray) (w : World) (h : RefAt w r most v []) :
    Calls Try.prog 15 #[.pointer (some ⟨r, 0, none⟩), .string t] w fun e w' => e = .returned (.int .i64 0) ∧ w = w' := by
  obtain ⟨a, cap, rfl, _⟩ := h.shape
  have c1 : w.cell? ⟨r, 1, none⟩ = some (.slice a 0 cap) := cell_blk h.blk (i := 1) rfl
  go_enter Try.func15, Try.ntmps15
  go_wp2
  refine wp_loop_rounds 1 ?_
  rw [rounds_succ]
  go_wp2
  go_ret
  exact ⟨rfl, rfl⟩

theorem bytes_ne {s t : ByteArray} (h : s ≠ t) : (s.toList == t.toList) = false := by
  rw [beq_eq_false_iff_ne]
  intro e
  rw [Lib.toList_data, Lib.toList_data] at e
  apply h
  cases s; cases t
  simp only at e
  rw [Array.toList_inj.1 e]

/-- the number of a topic: from 1 on; 0: none -/
def pos (t : ByteArray) : List ByteArray → Nat
  | [] => 0
  | x :: r => if x = t then 1 else if pos t r = 0 then 0 else pos t r + 1

set_option maxHeartbeats 800000 in
theorem known_any (r : Nat) (most : Int) (v : Value) (L : List ByteArray) (t : ByteArray) (w : World) (h : RefAt w r most v L) (hL : L.length < 1000) (c : Nat) (hc : (c = 0 ∧ ∀ k : Nat, L[k]? ≠ some t) ∨ (0 < c ∧ L[c - 1]? = some t ∧ ∀ k, k < c - 1 → L[k]? ≠ some t)) :
    Calls Try.prog 15 #[.pointer (some ⟨r, 0, none⟩), .string t] w fun e w' => e = .returned (.int .i64 c) ∧ w = w' := by
  by_cases hne : L = []
  · subst hne
    rcases hc with ⟨rfl, _⟩ | ⟨_, hc, _⟩
    · exact known_none r most v t w h
    · simp at hc
  obtain ⟨a, cap, rfl, hcell⟩ := h.shape
  obtain ⟨g, rfl⟩ : ∃ g, a = some ⟨g, 0, none⟩ := by
    obtain ⟨g, e, _⟩ := hcell 0 (L[0]'(by cases L; exact absurd rfl hne; simp)) (List.getElem?_eq_getElem _)
    exact ⟨g, e⟩
  have hcell' : ∀ k s, L[k]? = some s → w.cell? ⟨g, k, none⟩ = some (.string s) := fun k s hk => by
    obtain ⟨g', e, h1⟩ := hcell k s hk
    injection e with e
    injection e with e
    subst e
    exact h1
  have c1 : w.cell? ⟨r, 1, none⟩ = some (.slice (some ⟨g, 0, none⟩) L.length cap) := cell_blk h.blk (i := 1) rfl
  clear hcell
  have HC := Lib.hid hc
  have HL := Lib.hid hcell'
  clear hc hcell'
  go_enter Try.func15, Try.ntmps15
  go_wp2
  go_loop [5] (fun i => ∃ k : Nat, k ≤ L.length ∧ i = .int .i64 k ∧ Hid (∀ j, j < k → L[j]? ≠ some t)) (fun i => L.length - (intOf i).toNat)
  case atStart => exact ⟨0, Nat.zero_le _, rfl, fun j hj => by omega⟩
  case round =>
    obtain ⟨k, hk, rfl, hno⟩ := hrel
    by_cases hlt : k < L.length
    · obtain ⟨s, hs⟩ : ∃ s, L[k]? = some s := ⟨_, List.getElem?_eq_getElem hlt⟩
      have hck := HL.out k s hs
      have HS := Lib.hid hs
      clear hs
      by_cases hst : s = t
      · subst hst
        go_wp2
        go_ret
        have hck : c = k + 1 := by
          have hs := HS.out
          rcases HC.out with ⟨_, h0⟩ | ⟨h1, h2, h3⟩
          · exact absurd hs (h0 k)
          · rcases Nat.lt_trichotomy (c - 1) k with hlt' | he | hgt
            · exact absurd h2 (hno (c - 1) hlt')
            · omega
            · exact absurd hs (h3 k hgt)
        subst hck
        exact ⟨by go_num, rfl⟩
      · have hst' : (s.toList == t.toList) = false := bytes_ne hst
        go_wp2
        go_round
        case rel => exact ⟨k + 1, by omega, by go_num, fun j hj e => by
          rcases Nat.lt_or_ge j k with h | h
          · exact hno j h e
          · obtain rfl : j = k := by omega
            rw [HS.out] at e
            injection e with e
            exact hst e⟩
        case measure => simp [intOf]; omega
    · go_wp2
      go_ret
      have hck : c = 0 := by
        rcases HC.out with ⟨h0, _⟩ | ⟨h1, h2, _⟩
        · exact h0
        · have := (List.getElem?_eq_some_iff.1 h2).1
          exact absurd h2 (hno (c - 1) (by omega))
      subst hck
      exact ⟨rfl, rfl⟩
end Go.Proofs.Ytmnpiocgbgdilaa
