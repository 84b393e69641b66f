/- The contract of the document's In: a number that is new. -/
import Derived.Test.YtmnpiocgbgdilaaRefIn
namespace Go.Proofs.Ytmnpiocgbgdilaa
open Go.RowKit Go.Maps Go.WideMaps
set_option linter.unusedVariables false

theorem Try.info3 : (Try.prog.info? 3).map (fun i => (i.zero, i.size, i.bytes)) = some (some (.int .i64 0), 1, 8) := by kernel_rfl

set_option maxHeartbeats 1000000 in
set_option maxRecDepth 100000 in
theorem rin_new (r : Nat) (most k : Int) (v1 v2 : Value) (ks : List Int) (ts : List ByteArray) (t : ByteArray) (w : World) (h : RInAt w r most v1 v2 ks ts) (hL : ks.length < 1000) (hk : 0 < k) (hm : k ≤ most) (hne : t.toList.isEmpty = false) (hno : ∀ j : Nat, ks[j]? ≠ some k) :
    Calls Try.prog 9 #[.pointer (some ⟨r, 0, none⟩), .int .i64 k, .string t] w fun e w' => ∃ v1' v2', e = .returned (.tuple #[.string t, .int .i64 0]) ∧ RInAt w' r most v1' v2' (ks ++ [k]) (ts ++ [t]) ∧ Fr (r ≤ ·) w w' := by
  have HR := Lib.hid h
  have hLt : ts.length < 1000 := by rw [← h.len]; exact hL
  have hr : r < w.heap.size := (Array.getElem?_eq_some_iff.1 h.blk).1
  obtain ⟨a1, cap1, rfl, hc1⟩ := int_shape h.own1
  obtain ⟨a2, cap2, rfl, hc2⟩ := str_shape h.own2
  have HK : Hid (∀ j q, ks[j]? = some q → ∃ g, a1 = some ⟨g, 0, none⟩ ∧ w.cell? ⟨g, j, none⟩ = some (.int .i64 q)) := hc1
  have c0 : w.cell? ⟨r, 0, none⟩ = some (.int .i64 most) := cell_blk h.blk (i := 0) rfl
  have c1 : w.cell? ⟨r, 1, none⟩ = some (.slice a1 ks.length cap1) := cell_blk h.blk (i := 1) rfl
  have HF := Lib.hid hno
  have hk0 : (k == 0) = false := by simp; omega
  have hk1 : ¬ k < 0 := by omega
  have hk2 : ¬ most < k := by omega
  clear hc1 hc2 hno h
  obtain ⟨i0, hi, hz0, hz1, hz2⟩ := info_parts Try.info3
  obtain ⟨i9, hi9, hy0, hy1, hy2⟩ := info_parts Try.info9
  go_enter Try.func9, Try.ntmps9
  go_wp2
  go_loop [8] (fun i => ∃ j : Nat, j ≤ ks.length ∧ i = .int .i64 j) (fun i => ks.length - (intOf i).toNat)
  case atStart => exact ⟨0, Nat.zero_le _, rfl⟩
  case round =>
    obtain ⟨j, hj, rfl⟩ := hrel
    rcases Nat.lt_or_eq_of_le hj with hlt | rfl
    · have hq : ∃ q, ks[j]? = some q := ⟨_, List.getElem?_eq_getElem (by omega)⟩
      obtain ⟨q, hq⟩ := hq
      obtain ⟨g, rfl, hcq⟩ := HK.out j q hq
      have hne' : (q == k) = false := by
        rw [beq_eq_false_iff_ne]
        intro e
        subst e
        exact HF.out j hq
      clear hq
      go_wp2
      go_round
      case rel => exact ⟨j + 1, by omega, by go_num⟩
      case measure => simp [intOf]; omega
    · have hown := HR.out.own1
      go_wp2_with (first
        | (at_builtin; refine wpList_append_own _ rfl (.tmp 64) (.tmp 66) 27 rfl (r + 1) 3 i0 (.int .i64 0) 1 8 Try.underlying27 hi hz0 hz1 hz2 rfl (by decide) _ _ _ rfl (hown.alloc _) ⟨w.heap.size, 0, none⟩ 1 1 [.int .i64 k] rfl rfl ?c1 ?c2 ?c3 ?c4 ?c5 ?_)
        | go_in)
      case c2 => rfl
      case c3 => unfold maxLen; omega
      case c4 => omega
      case c5 => omega
      intro v1' w3 hown3 hgrow3 _
      have hsp := own_shape hown3 (by omega)
      obtain ⟨g, cap', rfl, hg'⟩ := hsp
      have hB3 : w3.heap[r]? = some (.cells #[.int .i64 most, .slice a1 ks.length cap1, .slice a2 ts.length cap2] 30 (0, 0)) := by
        rw [hgrow3.block r (by simp; omega) (own_block hown (by omega)), Below.heap_alloc _ _ _ hr]
        exact HR.out.blk
      have hown23 : w3.ownsRow (r + 1) 9 1 (.slice a2 ts.length cap2) ts.length (ts.map Value.string) := by
        refine (HR.out.own2.alloc _).kept hgrow3 ?_
        rcases HR.out.own2.2 with ⟨e, _⟩ | ⟨g2, c2, cur2, e, hb2, hg2, _⟩
        · injection e with e
          subst e
          exact .inl rfl
        · right
          rcases HR.out.own1.2 with ⟨e', _⟩ | ⟨g1, c1', cur1, e', hb1, hg1, _⟩
          · injection e' with e'
            subst e'
            injection e with e
            subst e
            intro q
            cases q
          · injection e with e
            injection e' with e'
            subst e e'
            intro q
            injection q with q
            simp only at q
            subst q
            rw [hg1] at hg2
            injection hg2 with hg2
            injection hg2 with _ hg2 _
            cases hg2
      have c3 : w3.cell? ⟨r, 1, none⟩ = some (.slice a1 ks.length cap1) := cell_blk hB3 rfl
      have f3 : w3.frozen? ⟨r, 1, none⟩ = false := frozen_blk hB3
      have hf3 : Fr (r ≤ ·) w w3 := (Fr.alloc _).trans (Fr.grown hgrow3 (fun k e => by
        rcases hown.2 with ⟨h, _⟩ | ⟨g, c, cu, h, hb, _⟩
        · injection h with h; subst h; cases e
        · injection h with h; subst h; injection e with e; simp only at e; omega))
      have hB4 : (w3.setCell ⟨r, 1, none⟩ (.slice (some ⟨g, 0, none⟩) (ks.length + 1) cap')).heap[r]? = some (.cells #[.int .i64 most, .slice (some ⟨g, 0, none⟩) (ks.length + 1) cap', .slice a2 ts.length cap2] 30 (0, 0)) := by
        rw [heap_setCell_same _ _ _ _ _ _ hB3]
        rfl
      have c4 : (w3.setCell ⟨r, 1, none⟩ (.slice (some ⟨g, 0, none⟩) (ks.length + 1) cap')).cell? ⟨r, 2, none⟩ = some (.slice a2 ts.length cap2) := cell_blk hB4 rfl
      have hown24 := ownsRow_setCell_below hown23 (a := ⟨r, 1, none⟩) (by simp only; omega) (.slice (some ⟨g, 0, none⟩) (ks.length + 1) cap')
      have HO3 := Lib.hid (ownsRow_setCell_below hown3 (a := ⟨r, 1, none⟩) (by simp only; omega) (.slice (some ⟨g, 0, none⟩) (ks.length + 1) cap'))
      have HB4 := Lib.hid hB4
      have HF4 : Hid (Fr (r ≤ ·) w (w3.setCell ⟨r, 1, none⟩ (.slice (some ⟨g, 0, none⟩) (ks.length + 1) cap'))) := hf3.trans (Fr.setCell _)
      have hr4 : r < (w3.setCell ⟨r, 1, none⟩ (.slice (some ⟨g, 0, none⟩) (ks.length + 1) cap')).heap.size := (Array.getElem?_eq_some_iff.1 hB4).1
      clear hown3 hgrow3 hown hB3 hf3 hown23 hB4 c0 c1
      go_wp2_with (first
        | (at_builtin; have _t := c3; refine wpList_append_own _ rfl (.tmp 74) (.tmp 76) 28 rfl (r + 1) 9 i9 (.string ByteArray.empty) 1 16 Try.underlying28 hi9 hy0 hy1 hy2 rfl (by decide) _ _ _ rfl (hown24.alloc _) ⟨w3.heap.size, 0, none⟩ 1 1 [.string t] rfl rfl ?d1 ?d2 ?d3 ?d4 ?d5 ?_)
        | go_in)
      case d2 => first | rfl | (intro u hu; simp at hu; subst hu; rfl)
      case d3 => unfold maxLen; omega
      case d4 => omega
      case d5 => simp; simp at hr4; omega
      case d1 =>
        intro j u hj
        match j, hj with
        | 0, hj =>
          simp at hj
          subst hj
          have e := heap_alloc_new (w3.setCell ⟨r, 1, none⟩ (.slice (some ⟨g, 0, none⟩) (ks.length + 1) cap')) (.cells #[.string t] 9)
          rw [World.size_setCell] at e
          exact cell_blk e rfl
      intro v2' w5 hown5 hgrow5 _
      have hsp := own_shape hown5 (by omega)
      obtain ⟨g5, cap5, rfl, hg5⟩ := hsp
      have hown14 := HO3.out
      have hown15 : w5.ownsRow (r + 1) 3 1 (.slice (some ⟨g, 0, none⟩) (ks.length + 1) cap') (ks.length + 1) (ks.map (Value.int .i64) ++ [.int .i64 k]) := by
        refine (hown14.alloc _).kept hgrow5 ?_
        right
        intro q
        rcases hown24.2 with ⟨e, _⟩ | ⟨g2, c2, cur2, e, hb2, hg2, _⟩
        · injection e with e
          subst e
          cases q
        · injection e with e
          subst e
          injection q with q
          simp only at q
          subst q
          rcases hown14.2 with ⟨e', _⟩ | ⟨g1, c1', cur1, e', hb1, hg1, _⟩
          · cases e'
          · injection e' with e'
            injection e' with e'
            injection e' with e'
            subst e'
            rw [hg1] at hg2
            injection hg2 with hg2
            injection hg2 with _ hg2 _
            cases hg2
      have hB5 : w5.heap[r]? = some (.cells #[.int .i64 most, .slice (some ⟨g, 0, none⟩) (ks.length + 1) cap', .slice a2 ts.length cap2] 30 (0, 0)) := by
        rw [hgrow5.block r (by simp at hr4; simp; omega) (own_block hown24 (by omega)), Below.heap_alloc _ _ _ hr4]
        exact HB4.out
      have c5 : w5.cell? ⟨r, 2, none⟩ = some (.slice a2 ts.length cap2) := cell_blk hB5 rfl
      have f5 : w5.frozen? ⟨r, 2, none⟩ = false := frozen_blk hB5
      have HF5 : Hid (Fr (r ≤ ·) w w5) := HF4.out.trans ((Fr.alloc _).trans (Fr.grown hgrow5 (fun k e => by
        rcases hown24.2 with ⟨h, _⟩ | ⟨g, c, cu, h, hb, _⟩
        · injection h with h; subst h; cases e
        · injection h with h; subst h; injection e with e; simp only at e; omega)))
      have HO5 := Lib.hid hown5
      have HO6 := Lib.hid hown15
      have HB5 := Lib.hid hB5
      clear hown5 hgrow5 hown14 hown15 hown24 hB5 HF4 HB4 HO3 c4 c3 f3 hr4
      go_wp2
      go_ret2
      refine ⟨.slice (some ⟨g, 0, none⟩) (ks.length + 1) cap', .slice (some ⟨g5, 0, none⟩) (ts.length + 1) cap5, rfl, ⟨?_, ?_, ?_, ?_⟩, HF5.out.trans ((Fr.setCell _).mono (fun k h => h))⟩
      · rw [heap_setCell_same _ _ _ _ _ _ HB5.out]
        rfl
      · have := ownsRow_setCell_below HO6.out (a := ⟨r, 2, none⟩) (by simp only; omega) (.slice (some ⟨g5, 0, none⟩) (ts.length + 1) cap5)
        simpa using this
      · have := ownsRow_setCell_below HO5.out (a := ⟨r, 2, none⟩) (by simp only; omega) (.slice (some ⟨g5, 0, none⟩) (ts.length + 1) cap5)
        simpa using this
      · simp [HR.out.len]
end Go.Proofs.Ytmnpiocgbgdilaa
