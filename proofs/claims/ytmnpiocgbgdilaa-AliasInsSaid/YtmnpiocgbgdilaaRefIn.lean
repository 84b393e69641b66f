/- The contracts of the document's In. -/
import Derived.Test.YtmnpiocgbgdilaaWake2
namespace Go.Proofs.Ytmnpiocgbgdilaa
open Go.RowKit Go.Maps Go.WideMaps
set_option linter.unusedVariables false

/-- the document's In: its most, its numbers, their topics -/
structure RInAt (w : World) (r : Nat) (most : Int) (v1 v2 : Value) (ks : List Int) (ts : List ByteArray) : Prop where
  blk : w.heap[r]? = some (.cells #[.int .i64 most, v1, v2] 30 (0, 0))
  own1 : w.ownsRow (r + 1) 3 1 v1 ks.length (ks.map (Value.int .i64))
  own2 : w.ownsRow (r + 1) 9 1 v2 ts.length (ts.map Value.string)
  len : ks.length = ts.length

theorem int_shape {w : World} {b : Nat} {v : Value} {ks : List Int} (ho : w.ownsRow b 3 1 v ks.length (ks.map (Value.int .i64))) :
    ∃ a cap, v = .slice a ks.length cap ∧ ∀ j k, ks[j]? = some k → ∃ g, a = some ⟨g, 0, none⟩ ∧ w.cell? ⟨g, j, none⟩ = some (.int .i64 k) := by
  rcases ho.2 with ⟨rfl, hn⟩ | ⟨g, cap, cur, rfl, _, _, _, _, _, _⟩
  · refine ⟨none, 0, by rw [hn], fun k s hk => ?_⟩
    have := (List.getElem?_eq_some_iff.1 hk).1
    omega
  · refine ⟨some ⟨g, 0, none⟩, cap, rfl, fun k s hk => ⟨g, rfl, ?_⟩⟩
    have hlt := (List.getElem?_eq_some_iff.1 hk).1
    rw [ho.cellAt k (by omega), List.getElem?_map, hk]
    rfl
theorem str_shape {w : World} {b : Nat} {v : Value} {ts : List ByteArray} (ho : w.ownsRow b 9 1 v ts.length (ts.map Value.string)) :
    ∃ a cap, v = .slice a ts.length cap ∧ ∀ j t, ts[j]? = some t → ∃ g, b ≤ g ∧ a = some ⟨g, 0, none⟩ ∧ w.cell? ⟨g, j, none⟩ = some (.string t) ∧ w.frozen? ⟨g, j, none⟩ = false := by
  rcases ho.2 with ⟨rfl, hn⟩ | ⟨g, cap, cur, rfl, hb, _, _, _, _, _⟩
  · refine ⟨none, 0, by rw [hn], fun k s hk => ?_⟩
    have := (List.getElem?_eq_some_iff.1 hk).1
    omega
  · refine ⟨some ⟨g, 0, none⟩, cap, rfl, fun k s hk => ⟨g, hb, rfl, ?_, ho.frozenAt k⟩⟩
    have hlt := (List.getElem?_eq_some_iff.1 hk).1
    rw [ho.cellAt k (by omega), List.getElem?_map, hk]
    rfl

theorem rin_zero (r : Nat) (t : ByteArray) (w : World) :
    Calls Try.prog 9 #[.pointer (some ⟨r, 0, none⟩), .int .i64 0, .string t] w fun e w' => e = .returned (.tuple #[.string t, .int .i64 (if t.toList.isEmpty then 130 else 0)]) ∧ w = w' := by
  go_enter Try.func9, Try.ntmps9
  go_wp2
  · have h1 : t.toList.isEmpty = true := by assumption
    go_ret2
    rw [empty_of h1]
    exact ⟨rfl, rfl⟩
  · go_ret2
    exact ⟨rfl, rfl⟩
  · go_ret2
    exact ⟨rfl, rfl⟩

theorem rin_bad (r : Nat) (most k : Int) (v1 v2 : Value) (ks : List Int) (ts : List ByteArray) (t : ByteArray) (w : World) (h : RInAt w r most v1 v2 ks ts) (hk : k < 0 ∨ (0 < k ∧ most < k)) :
    Calls Try.prog 9 #[.pointer (some ⟨r, 0, none⟩), .int .i64 k, .string t] w fun e w' => e = .returned (.tuple #[.string ByteArray.empty, .int .i64 148]) ∧ w = w' := by
  have c0 : w.cell? ⟨r, 0, none⟩ = some (.int .i64 most) := cell_blk h.blk (i := 0) rfl
  rcases hk with hk | ⟨hk, hm⟩
  · have hk0 : (k == 0) = false := by simp; omega
    go_enter Try.func9, Try.ntmps9
    go_wp2
    go_ret2
    exact ⟨rfl, rfl⟩
  · have hk0 : (k == 0) = false := by simp; omega
    have hk1 : ¬ k < 0 := by omega
    go_enter Try.func9, Try.ntmps9
    go_wp2
    go_ret2
    exact ⟨rfl, rfl⟩

set_option maxHeartbeats 800000 in
theorem rin_get (r : Nat) (most k : Int) (v1 v2 : Value) (ks : List Int) (ts : List ByteArray) (w : World) (h : RInAt w r most v1 v2 ks ts) (hL : ks.length < 1000) (hk : 0 < k) (hm : k ≤ most) (j0 : Nat) (t0 : ByteArray) (hj0 : ks[j0]? = some k) (ht0 : ts[j0]? = some t0) (hfst : ∀ j, j < j0 → ks[j]? ≠ some k) :
    Calls Try.prog 9 #[.pointer (some ⟨r, 0, none⟩), .int .i64 k, .string ByteArray.empty] w fun e w' => e = .returned (.tuple #[.string t0, .int .i64 0]) ∧ w = w' := by
  obtain ⟨a1, cap1, rfl, hc1⟩ := int_shape h.own1
  obtain ⟨a2, cap2, rfl, hc2⟩ := str_shape h.own2
  obtain ⟨g1, rfl⟩ : ∃ g, a1 = some ⟨g, 0, none⟩ := by
    obtain ⟨g, e, _⟩ := hc1 j0 k hj0
    exact ⟨g, e⟩
  obtain ⟨g2, rfl, cT⟩ : ∃ g, a2 = some ⟨g, 0, none⟩ ∧ w.cell? ⟨g, j0, none⟩ = some (.string t0) := by
    obtain ⟨g, _, e, h1, _⟩ := hc2 j0 t0 ht0
    exact ⟨g, e, h1⟩
  have HK : Hid (∀ j q, ks[j]? = some q → w.cell? ⟨g1, j, none⟩ = some (.int .i64 q)) := fun j q hq => by
    obtain ⟨g, e, h1⟩ := hc1 j q hq
    injection e with e
    injection e with e
    subst e
    exact h1
  have c0 : w.cell? ⟨r, 0, none⟩ = some (.int .i64 most) := cell_blk h.blk (i := 0) rfl
  have c1 : w.cell? ⟨r, 1, none⟩ = some (.slice (some ⟨g1, 0, none⟩) ks.length cap1) := cell_blk h.blk (i := 1) rfl
  have c2 : w.cell? ⟨r, 2, none⟩ = some (.slice (some ⟨g2, 0, none⟩) ts.length cap2) := cell_blk h.blk (i := 2) rfl
  have hj1 : j0 < ks.length := (List.getElem?_eq_some_iff.1 hj0).1
  have hj2 : j0 < ts.length := (List.getElem?_eq_some_iff.1 ht0).1
  have HJ := Lib.hid hj0
  have HF := Lib.hid hfst
  have HLen := Lib.hid h.len
  have hk0 : (k == 0) = false := by simp; omega
  have hk1 : ¬ k < 0 := by omega
  have hk2 : ¬ most < k := by omega
  clear hc1 hc2 hj0 ht0 hfst h
  go_enter Try.func9, Try.ntmps9
  go_wp2
  go_loop [8] (fun i => ∃ j : Nat, j ≤ j0 ∧ i = .int .i64 j) (fun i => ks.length - (intOf i).toNat)
  case atStart => exact ⟨0, Nat.zero_le _, rfl⟩
  case round =>
    obtain ⟨j, hj, rfl⟩ := hrel
    rcases Nat.lt_or_eq_of_le hj with hlt | rfl
    · have hq : ∃ q, ks[j]? = some q := ⟨_, List.getElem?_eq_getElem (by omega)⟩
      obtain ⟨q, hq⟩ := hq
      have hcq := HK.out j q hq
      have hne : (q == k) = false := by
        rw [beq_eq_false_iff_ne]
        intro e
        subst e
        exact HF.out j hlt hq
      clear hq
      have hjl : j < ks.length := by omega
      go_wp2
      go_round
      case rel => exact ⟨j + 1, by omega, by go_num⟩
      case measure => simp [intOf]; omega
    · have hcq := HK.out j k HJ.out
      go_wp2
      go_ret2
      exact ⟨rfl, rfl⟩

set_option maxHeartbeats 800000 in
theorem rin_put (r : Nat) (most k : Int) (v1 v2 : Value) (ks : List Int) (ts : List ByteArray) (t : ByteArray) (w : World) (h : RInAt w r most v1 v2 ks ts) (hL : ks.length < 1000) (hk : 0 < k) (hm : k ≤ most) (hne : t.toList.isEmpty = false) (j0 : Nat) (hj0 : ks[j0]? = some k) (hfst : ∀ j, j < j0 → ks[j]? ≠ some k) :
    Calls Try.prog 9 #[.pointer (some ⟨r, 0, none⟩), .int .i64 k, .string t] w fun e w' => e = .returned (.tuple #[.string t, .int .i64 0]) ∧ RInAt w' r most v1 v2 ks (ts.set j0 t) ∧ Fr (r ≤ ·) w w' := by
  have hj1 : j0 < ks.length := (List.getElem?_eq_some_iff.1 hj0).1
  have hj2 : j0 < ts.length := by rw [← h.len]; exact hj1
  have HR := Lib.hid h
  obtain ⟨a1, cap1, rfl, hc1⟩ := int_shape h.own1
  obtain ⟨a2, cap2, rfl, hc2⟩ := str_shape h.own2
  obtain ⟨g1, rfl⟩ : ∃ g, a1 = some ⟨g, 0, none⟩ := by
    obtain ⟨g, e, _⟩ := hc1 j0 k hj0
    exact ⟨g, e⟩
  have ht0 : ts[j0]? = some (ts[j0]'hj2) := List.getElem?_eq_getElem hj2
  obtain ⟨g2, rfl, hg2, cT, fT⟩ : ∃ g, a2 = some ⟨g, 0, none⟩ ∧ r + 1 ≤ g ∧ (∃ t0, w.cell? ⟨g, j0, none⟩ = some (.string t0)) ∧ w.frozen? ⟨g, j0, none⟩ = false := by
    obtain ⟨g, hb, e, h1, h2⟩ := hc2 j0 _ ht0
    exact ⟨g, e, hb, ⟨_, h1⟩, h2⟩
  obtain ⟨t0, cT⟩ := cT
  have HK : Hid (∀ j q, ks[j]? = some q → w.cell? ⟨g1, j, none⟩ = some (.int .i64 q)) := fun j q hq => by
    obtain ⟨g, e, h1⟩ := hc1 j q hq
    injection e with e
    injection e with e
    subst e
    exact h1
  have c0 : w.cell? ⟨r, 0, none⟩ = some (.int .i64 most) := cell_blk h.blk (i := 0) rfl
  have c1 : w.cell? ⟨r, 1, none⟩ = some (.slice (some ⟨g1, 0, none⟩) ks.length cap1) := cell_blk h.blk (i := 1) rfl
  have c2 : w.cell? ⟨r, 2, none⟩ = some (.slice (some ⟨g2, 0, none⟩) ts.length cap2) := cell_blk h.blk (i := 2) rfl
  have c2' : (w.setCell ⟨g2, j0, none⟩ (.string t)).cell? ⟨r, 2, none⟩ = some (.slice (some ⟨g2, 0, none⟩) ts.length cap2) := by
    rw [← c2]
    exact World.cell?_of_block (Below.heap_setCell _ _ _ _ (by simp only; omega))
  have HJ := Lib.hid hj0
  have HF := Lib.hid hfst
  have hk0 : (k == 0) = false := by simp; omega
  have hk1 : ¬ k < 0 := by omega
  have hk2 : ¬ most < k := by omega
  clear hc1 hc2 hj0 ht0 hfst h
  go_enter Try.func9, Try.ntmps9
  go_wp2
  go_loop [8] (fun i => ∃ j : Nat, j ≤ j0 ∧ i = .int .i64 j) (fun i => ks.length - (intOf i).toNat)
  case atStart => exact ⟨0, Nat.zero_le _, rfl⟩
  case round =>
    obtain ⟨j, hj, rfl⟩ := hrel
    rcases Nat.lt_or_eq_of_le hj with hlt | rfl
    · have hq : ∃ q, ks[j]? = some q := ⟨_, List.getElem?_eq_getElem (by omega)⟩
      obtain ⟨q, hq⟩ := hq
      have hcq := HK.out j q hq
      have hne' : (q == k) = false := by
        rw [beq_eq_false_iff_ne]
        intro e
        subst e
        exact HF.out j hlt hq
      clear hq
      have hjl : j < ks.length := by omega
      go_wp2
      go_round
      case rel => exact ⟨j + 1, by omega, by go_num⟩
      case measure => simp [intOf]; omega
    · have hcq := HK.out j k HJ.out
      go_wp2
      go_ret2
      have hR := HR.out
      refine ⟨rfl, ⟨?_, ?_, ?_, ?_⟩, (Fr.setCell _).mono (fun k h => by omega)⟩
      · rw [Below.heap_setCell _ _ _ _ (by simp only; omega)]
        exact hR.blk
      · refine ⟨hR.own1.1, ?_⟩
        rcases hR.own1.2 with ⟨e, _⟩ | ⟨g, cap, cur, e, hb, hg, hrest⟩
        · cases e
        · injection e with e1 e2 e3
          injection e1 with e1
          injection e1 with e1
          subst e1 e3
          refine .inr ⟨g1, cap1, cur, rfl, hb, ?_, hrest⟩
          rw [Below.heap_setCell _ _ _ _ ?_]
          · exact hg
          · simp only
            intro e
            subst e
            rcases hR.own2.2 with ⟨e, _⟩ | ⟨g, cap, cur', e, hb', hg', _⟩
            · cases e
            · injection e with e1 e2 e3
              injection e1 with e1
              injection e1 with e1
              subst e1
              rw [hg] at hg'
              injection hg' with hg'
              injection hg' with _ hg' _
              cases hg'
      · have := (hR.own2.stored j (.string t)).1
        simpa [List.map_set] using this
      · simp [hR.len]

set_option maxHeartbeats 800000 in
theorem rin_miss (r : Nat) (most k : Int) (v1 v2 : Value) (ks : List Int) (ts : List ByteArray) (w : World) (h : RInAt w r most v1 v2 ks ts) (hL : ks.length < 1000) (hk : 0 < k) (hm : k ≤ most) (hno : ∀ j : Nat, ks[j]? ≠ some k) :
    Calls Try.prog 9 #[.pointer (some ⟨r, 0, none⟩), .int .i64 k, .string ByteArray.empty] w fun e w' => e = .returned (.tuple #[.string ByteArray.empty, .int .i64 130]) ∧ w = w' := by
  obtain ⟨a1, cap1, rfl, hc1⟩ := int_shape h.own1
  have HK : Hid (∀ j q, ks[j]? = some q → ∃ g, a1 = some ⟨g, 0, none⟩ ∧ w.cell? ⟨g, j, none⟩ = some (.int .i64 q)) := hc1
  have c0 : w.cell? ⟨r, 0, none⟩ = some (.int .i64 most) := cell_blk h.blk (i := 0) rfl
  have c1 : w.cell? ⟨r, 1, none⟩ = some (.slice a1 ks.length cap1) := cell_blk h.blk (i := 1) rfl
  have HF := Lib.hid hno
  have hk0 : (k == 0) = false := by simp; omega
  have hk1 : ¬ k < 0 := by omega
  have hk2 : ¬ most < k := by omega
  clear hc1 hno h
  go_enter Try.func9, Try.ntmps9
  go_wp2
  go_loop [8] (fun i => ∃ j : Nat, j ≤ ks.length ∧ i = .int .i64 j) (fun i => ks.length - (intOf i).toNat)
  case atStart => exact ⟨0, Nat.zero_le _, rfl⟩
  case round =>
    obtain ⟨j, hj, rfl⟩ := hrel
    rcases Nat.lt_or_eq_of_le hj with hlt | rfl
    · have hq : ∃ q, ks[j]? = some q := ⟨_, List.getElem?_eq_getElem (by omega)⟩
      obtain ⟨q, hq⟩ := hq
      obtain ⟨g, rfl, hcq⟩ := HK.out j q hq
      have hne' : (q == k) = false := by
        rw [beq_eq_false_iff_ne]
        intro e
        subst e
        exact HF.out j hq
      clear hq
      go_wp2
      go_round
      case rel => exact ⟨j + 1, by omega, by go_num⟩
      case measure => simp [intOf]; omega
    · go_wp2
      go_ret2
      exact ⟨rfl, rfl⟩
end Go.Proofs.Ytmnpiocgbgdilaa
