/- The walk of AliasIns. -/
import Derived.Test.YtmnpiocgbgdilaaRefNew
import Derived.Test.YtmnpiocgbgdilaaBoth
import Derived.Deep.RegionWith
namespace Go.Proofs.Ytmnpiocgbgdilaa
open Go.RowKit Go.Maps Go.WideMaps
set_option linter.unusedVariables false

/-- the two tables agree -/
structure InTied (f : Int → ByteArray) (ks : List Int) (ts : List ByteArray) : Prop where
  len : ks.length = ts.length
  yes : ∀ (j : Nat) k t, ks[j]? = some k → ts[j]? = some t → f k = t ∧ t.toList.isEmpty = false
  no : ∀ k, (∀ j : Nat, ks[j]? ≠ some k) → f k = ByteArray.empty
  one : ∀ (j j' : Nat) k, ks[j]? = some k → ks[j']? = some k → j = j'
theorem inTied_nil : InTied (fun _ => ByteArray.empty) [] [] := ⟨rfl, fun j k t h => by simp at h, fun k _ => rfl, fun j j' k h => by simp at h⟩
theorem InTied.set {f : Int → ByteArray} {ks : List Int} {ts : List ByteArray} (h : InTied f ks ts) {j : Nat} {k : Int} {t : ByteArray} (hj : ks[j]? = some k) (ht : t.toList.isEmpty = false) :
    InTied (fun i => if i = k then t else f i) ks (ts.set j t) := by
  have hl : j < ts.length := by
    rw [← h.len]
    exact (List.getElem?_eq_some_iff.1 hj).1
  refine ⟨by simp [h.len], fun j' k' t' h1 h2 => ?_, fun k' h1 => ?_, h.one⟩
  · by_cases e : j' = j
    · subst e
      rw [List.getElem?_set_self hl] at h2
      injection h2 with h2
      subst h2
      rw [hj] at h1
      injection h1 with h1
      subst h1
      exact ⟨by simp, ht⟩
    · rw [List.getElem?_set_ne (fun q => e q.symm)] at h2
      have hne : k' ≠ k := fun q => e (h.one _ _ _ h1 (by rw [q]; exact hj))
      rw [if_neg hne]
      exact h.yes j' k' t' h1 h2
  · have hne : k' ≠ k := fun q => h1 j (by rw [q]; exact hj)
    rw [if_neg hne]
    exact h.no k' h1
theorem InTied.app {f : Int → ByteArray} {ks : List Int} {ts : List ByteArray} (h : InTied f ks ts) {k : Int} {t : ByteArray} (hk : ∀ j : Nat, ks[j]? ≠ some k) (ht : t.toList.isEmpty = false) :
    InTied (fun i => if i = k then t else f i) (ks ++ [k]) (ts ++ [t]) := by
  have key : ∀ (j : Nat) k', (ks ++ [k])[j]? = some k' → (j < ks.length ∧ ks[j]? = some k') ∨ (j = ks.length ∧ k' = k) := by
    intro j k' hj
    rcases Nat.lt_or_ge j ks.length with hlt | hge
    · rw [List.getElem?_append_left hlt] at hj
      exact .inl ⟨hlt, hj⟩
    · rw [List.getElem?_append_right hge] at hj
      have h0 : j - ks.length = 0 := by
        rcases Nat.eq_zero_or_pos (j - ks.length) with h0 | h0
        · exact h0
        · rw [List.getElem?_eq_none (by simp; omega)] at hj; cases hj
      rw [h0] at hj
      simp at hj
      exact .inr ⟨by omega, hj.symm⟩
  refine ⟨by simp [h.len], fun j k' t' h1 h2 => ?_, fun k' h1 => ?_, fun j j' k' h1 h2 => ?_⟩
  · rcases key j k' h1 with ⟨hl, h1⟩ | ⟨rfl, rfl⟩
    · rw [List.getElem?_append_left (by rw [← h.len]; exact hl)] at h2
      rw [if_neg (fun q => hk j (by rw [← q]; exact h1))]
      exact h.yes j k' t' h1 h2
    · rw [h.len, List.getElem?_append_right (Nat.le_refl _)] at h2
      simp at h2
      subst h2
      exact ⟨by simp, ht⟩
  · have hne : k' ≠ k := fun q => h1 ks.length (by rw [q]; simp)
    rw [if_neg hne]
    refine h.no k' fun j hj => h1 j ?_
    rw [List.getElem?_append_left (List.getElem?_eq_some_iff.1 hj).1]
    exact hj
  · rcases key j k' h1 with ⟨hl, h3⟩ | ⟨e1, e2⟩ <;> rcases key j' k' h2 with ⟨hl', h4⟩ | ⟨e3, e4⟩
    · exact h.one j j' k' h3 h4
    · exact absurd (by rw [h3, e4]) (hk j)
    · exact absurd (by rw [h4, e2]) (hk j')
    · omega
theorem RInAt.fr {w w' : World} {r : Nat} {most : Int} {v1 v2 : Value} {ks : List Int} {ts : List ByteArray} {S : Nat → Prop} (h : RInAt w r most v1 v2 ks ts) (hf : Fr S w w') (hS : ∀ k, r ≤ k → ¬ S k) : RInAt w' r most v1 v2 ks ts := by
  have h1 : r < w.heap.size := (Array.getElem?_eq_some_iff.1 h.blk).1
  refine ⟨(hf.block r h1 (hS r (Nat.le_refl _))).trans h.blk, ⟨h.own1.1, ?_⟩, ⟨h.own2.1, ?_⟩, h.len⟩
  · rcases h.own1.2 with hn | ⟨g, cap, cur, rfl, hb, hg, hr⟩
    · exact .inl hn
    · exact .inr ⟨g, cap, cur, rfl, hb, (hf.block g (Array.getElem?_eq_some_iff.1 hg).1 (hS g (by omega))).trans hg, hr⟩
  · rcases h.own2.2 with hn | ⟨g, cap, cur, rfl, hb, hg, hr⟩
    · exact .inl hn
    · exact .inr ⟨g, cap, cur, rfl, hb, (hf.block g (Array.getElem?_eq_some_iff.1 hg).1 (hS g (by omega))).trans hg, hr⟩

/-- what is so at the loop's head -/
structure InsRel (w0 : World) (bI mI r : Nat) (most : Int) (k : Nat) (wr : World) : Prop where
  ex : ∃ D n f v1 v2 ks ts, InAt wr bI mI most n f D ∧ n ≤ k ∧ RInAt wr r most v1 v2 ks ts ∧ ks.length ≤ k ∧ InTied f ks ts
  below : Below w0.heap.size w0 wr
theorem zero_e {b m n : Nat} {most : Int} {f : Int → ByteArray} {D : DataW Unit} {w : World} (h : InAt w b m most n f D) :
    Calls Try.prog 8 #[.pointer (some ⟨b, 0, none⟩), .int .i64 0, .string ByteArray.empty] w fun e w' => e = .returned (.tuple #[.string ByteArray.empty, .int .i64 130]) ∧ w = w' :=
  (use_zero b m most ByteArray.empty n f D w h).mono fun e w' ⟨he, hw⟩ => ⟨by rw [he, empty_ne]; rfl, hw.symm⟩
theorem rin_zero_t (r : Nat) (t : ByteArray) (w : World) (hne : t.toList.isEmpty = false) :
    Calls Try.prog 9 #[.pointer (some ⟨r, 0, none⟩), .int .i64 0, .string t] w fun e w' => e = .returned (.tuple #[.string t, .int .i64 0]) ∧ w = w' :=
  (rin_zero r t w).mono fun e w' ⟨he, hw⟩ => ⟨by rw [he, hne]; rfl, hw⟩
theorem rin_zero_e (r : Nat) (w : World) :
    Calls Try.prog 9 #[.pointer (some ⟨r, 0, none⟩), .int .i64 0, .string ByteArray.empty] w fun e w' => e = .returned (.tuple #[.string ByteArray.empty, .int .i64 130]) ∧ w = w' :=
  (rin_zero r ByteArray.empty w).mono fun e w' ⟨he, hw⟩ => ⟨by rw [he, empty_ne]; rfl, hw⟩
theorem use_bad' {b m n : Nat} {most k : Int} {t : ByteArray} {f : Int → ByteArray} {D : DataW Unit} {w : World} (h : InAt w b m most n f D) (hk : k < 0 ∨ (0 < k ∧ most < k)) :
    Calls Try.prog 8 #[.pointer (some ⟨b, 0, none⟩), .int .i64 k, .string t] w fun e w' => e = .returned (.tuple #[.string ByteArray.empty, .int .i64 148]) ∧ w = w' :=
  (use_bad b m most k t n f D w h hk).mono fun e w' ⟨he, hw⟩ => ⟨he, hw.symm⟩

set_option maxHeartbeats 20000000 in
set_option maxRecDepth 100000 in
theorem ins_any (most : Int) (b off len cap : Nat) (w : World) (hb : b < w.heap.size) (hc : ∀ j, j < len → ∃ (q : Int) (s : ByteArray), w.cell? ⟨b, off + j * 2, none⟩ = some (.int .i64 q) ∧ (Lit.int .i64 q).wf = true ∧ w.cell? ⟨b, off + j * 2 + 1, none⟩ = some (.string s) ∧ s.size ≤ maxLen) :
    Calls Try.prog 3 #[.int .i64 most, .slice (some ⟨b, off, none⟩) len cap] w fun e w' => e = .returned (.bool true) ∧ Below w.heap.size w w' := by
  have HC := Lib.hid hc
  clear hc
  go_enter Try.func3, Try.ntmps3
  go_wp2_with fail
  refine (newIn_new most w).mono ?_
  rintro e w1 ⟨bI, mI, rfl, hI, hf1, g1, g2, g3, g4⟩
  go_wp2_with fail
  refine (wakes_any w1).mono ?_
  rintro e w2 ⟨rfl, hb2⟩
  have HI2 := Lib.hid (hI.fr (S := (w1.heap.size ≤ ·)) (w' := w2) ⟨hb2.os, hb2.tape, hb2.output, hb2.size, fun k hk hn => hb2.block k (by omega)⟩ (by omega) (by omega))
  have HB2 := Lib.hid ((hf1.below (B := w.heap.size) (fun k h => h.elim) (Nat.le_refl _)).trans (hb2.mono (by have := hf1.size; omega)))
  have hs2 := hb2.size
  clear hI hf1 hb2
  go_wp2_with fail
  have hr1 : bI < w2.heap.size := by omega
  have hr2 : mI < w2.heap.size := by omega
  have hr3 : w.heap.size ≤ w2.heap.size := HB2.out.size
  have HA : Hid (InsRel w bI mI w2.heap.size most 0 (w2.alloc (.cells #[.int .i64 most, .slice none 0 0, .slice none 0 0] 30))) :=
    ⟨⟨.map [], 0, _, .slice none 0 0, .slice none 0 0, [], [], HI2.out.fr (Fr.alloc (S := fun _ => False) _) (fun h => h) (fun h => h), Nat.le_refl _, ⟨heap_alloc_new _ _, World.ownsRow_nil _ _ _ _, World.ownsRow_nil _ _ _ _, rfl⟩, Nat.le_refl _, inTied_nil⟩, HB2.out.alloc hr3 _⟩
  obtain ⟨r, hr⟩ : ∃ r, r = w2.heap.size := ⟨_, rfl⟩
  rw [← hr] at hr1 hr2 hr3 HA ⊢
  have HR := Lib.hid hr
  clear hr HI2 HB2 g1 g3 g4 hs2
  go_loopw [7] (fun i wr => ∃ k : Nat, k ≤ len ∧ k ≤ 100 ∧ i = .int .i64 k ∧ InsRel w bI mI r most k wr) (fun i _ => len - (intOf i).toNat)
  case atStart => exact ⟨0, Nat.zero_le _, by omega, rfl, HA.out⟩
  case round =>
    obtain ⟨k, hk, hk1, rfl, hR⟩ := hrel
    clear HA HR
    by_cases hlt : k < len
    · by_cases hlt1 : k < 100
      · obtain ⟨⟨D, n, f, v1, v2, ks, ts, hI, hn, hRf, hL, hT⟩, hbl⟩ := hR
        obtain ⟨q, s, hq, hwq, hs, hsz⟩ := HC.out k hlt
        have ci : wr.cell? ⟨b, off + k * 2, none⟩ = some (.int .i64 q) := (hbl.cell (by exact hb)).trans hq
        have cs : wr.cell? ⟨b, off + k * 2 + 1, none⟩ = some (.string s) := (hbl.cell (by exact hb)).trans hs
        have HI := Lib.hid hI
        have HRf := Lib.hid hRf
        have HT := Lib.hid hT
        clear hs hq hI hRf hT
        rcases Int.lt_trichotomy q 0 with hneg | hz | hpos
        · skip
          have HId := Lib.hid (HI.out.fr (Fr.refl (fun _ => False) wr).drew (fun h => h) (fun h => h))
          have ci' : wr.drew.cell? ⟨b, off + k * 2, none⟩ = some (.int .i64 q) := ci
          have cs' : wr.drew.cell? ⟨b, off + k * 2 + 1, none⟩ = some (.string s) := cs
          have HRd := Lib.hid (RInAt.fr HRf.out (Fr.refl (fun _ => False) wr).drew.drew (fun k _ h => h))
          have HIe := Lib.hid (HId.out.fr (Fr.refl (fun _ => False) wr.drew).drew (fun h => h) (fun h => h))
          have hbd := hbl.drew.drew
          go_wp2
          go_region_with (go_at_call 8; refine (use_bad' HId.out (.inl hneg)).mono ?_; rintro e w' ⟨rfl, rfl⟩)
          all_goals go_wp2
          all_goals go_region_with (go_at_call 9; refine (rin_bad r most q v1 v2 ks ts s _ HRd.out (.inl hneg)).mono ?_; rintro e w' ⟨rfl, rfl⟩)
          all_goals
            go_wp2_with (go_at_call 10; refine (num_any _ _).mono ?_; rintro e w' ⟨rfl, rfl⟩)
            go_roundw
            case rel => exact ⟨k + 1, by omega, by omega, by go_num, ⟨D, n, f, v1, v2, ks, ts, HIe.out, by omega, HRd.out, by omega, HT.out⟩, hbd⟩
            case measure => simp [intOf]; omega
        · subst hz
          by_cases hemp : s.toList.isEmpty = true
          · obtain rfl := empty_of hemp
            clear hemp
            have HId := Lib.hid (HI.out.fr (Fr.refl (fun _ => False) wr).drew (fun h => h) (fun h => h))
            have ci' : wr.drew.cell? ⟨b, off + k * 2, none⟩ = some (.int .i64 0) := ci
            have cs' : wr.drew.cell? ⟨b, off + k * 2 + 1, none⟩ = some (.string ByteArray.empty) := cs
            have HRd := Lib.hid (RInAt.fr HRf.out (Fr.refl (fun _ => False) wr).drew.drew (fun k _ h => h))
            have HIe := Lib.hid (HId.out.fr (Fr.refl (fun _ => False) wr.drew).drew (fun h => h) (fun h => h))
            have hbd := hbl.drew.drew
            go_wp2
            go_region_with (go_at_call 8; refine (zero_e HId.out).mono ?_; rintro e w' ⟨rfl, rfl⟩)
            all_goals go_wp2
            all_goals go_region_with (go_at_call 9; refine (rin_zero_e r _).mono ?_; rintro e w' ⟨rfl, rfl⟩)
            all_goals
              go_wp2_with (go_at_call 10; refine (num_any _ _).mono ?_; rintro e w' ⟨rfl, rfl⟩)
              go_roundw
              case rel => exact ⟨k + 1, by omega, by omega, by go_num, ⟨D, n, f, v1, v2, ks, ts, HIe.out, by omega, HRd.out, by omega, HT.out⟩, hbd⟩
              case measure => simp [intOf]; omega
          · have hne : s.toList.isEmpty = false := by simpa using hemp
            clear hemp
            have HId := Lib.hid (HI.out.fr (Fr.refl (fun _ => False) wr).drew (fun h => h) (fun h => h))
            have ci' : wr.drew.cell? ⟨b, off + k * 2, none⟩ = some (.int .i64 0) := ci
            have cs' : wr.drew.cell? ⟨b, off + k * 2 + 1, none⟩ = some (.string s) := cs
            have HRd := Lib.hid (RInAt.fr HRf.out (Fr.refl (fun _ => False) wr).drew.drew (fun k _ h => h))
            have HIe := Lib.hid (HId.out.fr (Fr.refl (fun _ => False) wr.drew).drew (fun h => h) (fun h => h))
            have hbd := hbl.drew.drew
            go_wp2
            go_region_with (go_at_call 8; refine (zero_t HId.out s hne).mono ?_; rintro e w' ⟨rfl, rfl⟩)
            all_goals go_wp2
            all_goals go_region_with (go_at_call 9; refine (rin_zero_t r s _ hne).mono ?_; rintro e w' ⟨rfl, rfl⟩)
            all_goals
              go_wp2_with (go_at_call 10; refine (num_any _ _).mono ?_; rintro e w' ⟨rfl, rfl⟩)
              go_roundw
              case rel => exact ⟨k + 1, by omega, by omega, by go_num, ⟨D, n, f, v1, v2, ks, ts, HIe.out, by omega, HRd.out, by omega, HT.out⟩, hbd⟩
              case measure => simp [intOf]; omega
        · by_cases hm : q ≤ most
          · by_cases hemp : s.toList.isEmpty = true
            · obtain rfl := empty_of hemp
              clear hemp
              by_cases hin : ∃ j : Nat, ks[j]? = some q
              · obtain ⟨j, hj⟩ := hin
                have hlt0 : j < ts.length := by rw [← HT.out.len]; exact (List.getElem?_eq_some_iff.1 hj).1
                have hex : ∃ t0, ts[j]? = some t0 := ⟨_, List.getElem?_eq_getElem hlt0⟩
                obtain ⟨t0, ht0⟩ := hex
                have hy := HT.out.yes j q t0 hj ht0
                have HY := Lib.hid hy
                have HJ := Lib.hid hj
                have HJ0 := Lib.hid ht0
                clear hy hj ht0 hlt0
                have HId := Lib.hid (HI.out.fr (Fr.refl (fun _ => False) wr).drew (fun h => h) (fun h => h))
                have ci' : wr.drew.cell? ⟨b, off + k * 2, none⟩ = some (.int .i64 q) := ci
                have cs' : wr.drew.cell? ⟨b, off + k * 2 + 1, none⟩ = some (.string ByteArray.empty) := cs
                have HRd := Lib.hid (RInAt.fr HRf.out (Fr.refl (fun _ => False) wr).drew.drew (fun k _ h => h))
                have HIe := Lib.hid (HId.out.fr (Fr.refl (fun _ => False) wr.drew).drew (fun h => h) (fun h => h))
                have hbd := hbl.drew.drew
                go_wp2
                go_region_with (go_at_call 8; refine (get_t HId.out hpos hm hwq t0 HY.out.1 HY.out.2).mono ?_; rintro e w' ⟨rfl, rfl⟩)
                all_goals go_wp2
                all_goals go_region_with (go_at_call 9; refine (rin_get r most q v1 v2 ks ts _ HRd.out (by omega) hpos hm j t0 HJ.out HJ0.out (fun j' hj' e => by have := HT.out.one _ _ _ e HJ.out; omega)).mono ?_; rintro e w' ⟨rfl, rfl⟩)
                all_goals
                  go_wp2_with (go_at_call 10; refine (num_any _ _).mono ?_; rintro e w' ⟨rfl, rfl⟩)
                  go_roundw
                  case rel => exact ⟨k + 1, by omega, by omega, by go_num, ⟨D, n, f, v1, v2, ks, ts, HIe.out, by omega, HRd.out, by omega, HT.out⟩, hbd⟩
                  case measure => simp [intOf]; omega
              · have HN : Hid (∀ j : Nat, ks[j]? ≠ some q) := fun j e => hin ⟨j, e⟩
                clear hin
                have HId := Lib.hid (HI.out.fr (Fr.refl (fun _ => False) wr).drew (fun h => h) (fun h => h))
                have ci' : wr.drew.cell? ⟨b, off + k * 2, none⟩ = some (.int .i64 q) := ci
                have cs' : wr.drew.cell? ⟨b, off + k * 2 + 1, none⟩ = some (.string ByteArray.empty) := cs
                have HRd := Lib.hid (RInAt.fr HRf.out (Fr.refl (fun _ => False) wr).drew.drew (fun k _ h => h))
                have HIe := Lib.hid (HId.out.fr (Fr.refl (fun _ => False) wr.drew).drew (fun h => h) (fun h => h))
                have hbd := hbl.drew.drew
                go_wp2
                go_region_with (go_at_call 8; refine (get_none HId.out hpos hm hwq (HT.out.no q HN.out)).mono ?_; rintro e w' ⟨rfl, rfl⟩)
                all_goals go_wp2
                all_goals go_region_with (go_at_call 9; refine (rin_miss r most q v1 v2 ks ts _ HRd.out (by omega) hpos hm HN.out).mono ?_; rintro e w' ⟨rfl, rfl⟩)
                all_goals
                  go_wp2_with (go_at_call 10; refine (num_any _ _).mono ?_; rintro e w' ⟨rfl, rfl⟩)
                  go_roundw
                  case rel => exact ⟨k + 1, by omega, by omega, by go_num, ⟨D, n, f, v1, v2, ks, ts, HIe.out, by omega, HRd.out, by omega, HT.out⟩, hbd⟩
                  case measure => simp [intOf]; omega
            · have hne : s.toList.isEmpty = false := by simpa using hemp
              clear hemp
              by_cases hin : ∃ j : Nat, ks[j]? = some q
              · obtain ⟨j, hj⟩ := hin
                have HJ := Lib.hid hj
                clear hj
                have HId := Lib.hid (HI.out.fr (Fr.refl (fun _ => False) wr).drew (fun h => h) (fun h => h))
                have HRd := Lib.hid (RInAt.fr HRf.out (Fr.refl (fun _ => False) wr).drew (fun k _ h => h))
                have hbd := Lib.hid hbl.drew
                have hnm : Hid (n < maxLen) := (by unfold maxLen; omega : n < maxLen)
                go_wp2
                go_region_with (go_at_call 8; refine (use_put bI mI most q s n f D _ HId.out hpos hm hwq hne hsz hnm.out).mono ?_; rintro e w3 ⟨rfl, hown3, hturn3⟩)
                all_goals
                  have HI3 := Lib.hid (HId.out.put hturn3 hown3)
                  have hf3 := Fr.turned hturn3
                  have HR3 := Lib.hid (RInAt.fr HRd.out (hf3.trans (Fr.refl _ w3).drew) (fun k h1 h => by omega))
                  have hbl3 := Lib.hid (hbd.out.trans (hf3.below (B := w.heap.size) (fun k h => by omega) hbd.out.size))
                  have ci3 : w3.cell? ⟨b, off + k * 2, none⟩ = some (.int .i64 q) := by rw [← ci]; exact World.cell?_of_block (hf3.block b (by have := hbd.out.size; omega) (by omega))
                  have cs3 : w3.cell? ⟨b, off + k * 2 + 1, none⟩ = some (.string s) := by rw [← cs]; exact World.cell?_of_block (hf3.block b (by have := hbd.out.size; omega) (by omega))
                  clear hf3 hown3 hturn3 ci cs HI HRf hbl HId HRd hbd
                  go_wp2
                all_goals go_region_with (go_at_call 9; refine (rin_put r most q v1 v2 ks ts s _ HR3.out (by omega) hpos hm hne j HJ.out (fun j' hj' e => by have := HT.out.one _ _ _ e HJ.out; omega)).mono ?_; rintro e w4 ⟨rfl, hr4, hf4⟩)
                all_goals
                  have HI4 := Lib.hid ((HI3.out.fr (Fr.refl (fun _ => False) w3).drew (fun h => h) (fun h => h)).fr hf4 (by omega) (by omega))
                  have hbl4 := Lib.hid (hbl3.out.drew.trans (hf4.below (B := w.heap.size) (fun k h => by omega) hbl3.out.drew.size))
                  have HR4 := Lib.hid hr4
                  clear hf4 hr4 HI3 HR3 hbl3 ci3 cs3
                  go_wp2_with (go_at_call 10; refine (num_any _ _).mono ?_; rintro e w' ⟨rfl, rfl⟩)
                  go_roundw
                  case rel => exact ⟨k + 1, by omega, by omega, by go_num, ⟨_, n + 1, _, v1, v2, ks, ts.set j s, HI4.out, by omega, HR4.out, by omega, HT.out.set HJ.out hne⟩, hbl4.out⟩
                  case measure => simp [intOf]; omega
              · have HN : Hid (∀ j : Nat, ks[j]? ≠ some q) := fun j e => hin ⟨j, e⟩
                clear hin
                have HId := Lib.hid (HI.out.fr (Fr.refl (fun _ => False) wr).drew (fun h => h) (fun h => h))
                have HRd := Lib.hid (RInAt.fr HRf.out (Fr.refl (fun _ => False) wr).drew (fun k _ h => h))
                have hbd := Lib.hid hbl.drew
                have hnm : Hid (n < maxLen) := (by unfold maxLen; omega : n < maxLen)
                go_wp2
                go_region_with (go_at_call 8; refine (use_put bI mI most q s n f D _ HId.out hpos hm hwq hne hsz hnm.out).mono ?_; rintro e w3 ⟨rfl, hown3, hturn3⟩)
                all_goals
                  have HI3 := Lib.hid (HId.out.put hturn3 hown3)
                  have hf3 := Fr.turned hturn3
                  have HR3 := Lib.hid (RInAt.fr HRd.out (hf3.trans (Fr.refl _ w3).drew) (fun k h1 h => by omega))
                  have hbl3 := Lib.hid (hbd.out.trans (hf3.below (B := w.heap.size) (fun k h => by omega) hbd.out.size))
                  have ci3 : w3.cell? ⟨b, off + k * 2, none⟩ = some (.int .i64 q) := by rw [← ci]; exact World.cell?_of_block (hf3.block b (by have := hbd.out.size; omega) (by omega))
                  have cs3 : w3.cell? ⟨b, off + k * 2 + 1, none⟩ = some (.string s) := by rw [← cs]; exact World.cell?_of_block (hf3.block b (by have := hbd.out.size; omega) (by omega))
                  clear hf3 hown3 hturn3 ci cs HI HRf hbl HId HRd hbd
                  go_wp2
                all_goals go_region_with (go_at_call 9; refine (rin_new r most q v1 v2 ks ts s _ HR3.out (by omega) hpos hm hne HN.out).mono ?_; rintro e w4 ⟨v1', v2', rfl, hr4, hf4⟩)
                all_goals
                  have HI4 := Lib.hid ((HI3.out.fr (Fr.refl (fun _ => False) w3).drew (fun h => h) (fun h => h)).fr hf4 (by omega) (by omega))
                  have hbl4 := Lib.hid (hbl3.out.drew.trans (hf4.below (B := w.heap.size) (fun k h => by omega) hbl3.out.drew.size))
                  have HR4 := Lib.hid hr4
                  clear hf4 hr4 HI3 HR3 hbl3 ci3 cs3
                  go_wp2_with (go_at_call 10; refine (num_any _ _).mono ?_; rintro e w' ⟨rfl, rfl⟩)
                  go_roundw
                  case rel => exact ⟨k + 1, by omega, by omega, by go_num, ⟨_, n + 1, _, v1', v2', ks ++ [q], ts ++ [s], HI4.out, by omega, HR4.out, by simp; omega, HT.out.app HN.out hne⟩, hbl4.out⟩
                  case measure => simp [intOf]; omega
          · have hm' : most < q := by omega
            have HId := Lib.hid (HI.out.fr (Fr.refl (fun _ => False) wr).drew (fun h => h) (fun h => h))
            have ci' : wr.drew.cell? ⟨b, off + k * 2, none⟩ = some (.int .i64 q) := ci
            have cs' : wr.drew.cell? ⟨b, off + k * 2 + 1, none⟩ = some (.string s) := cs
            have HRd := Lib.hid (RInAt.fr HRf.out (Fr.refl (fun _ => False) wr).drew.drew (fun k _ h => h))
            have HIe := Lib.hid (HId.out.fr (Fr.refl (fun _ => False) wr.drew).drew (fun h => h) (fun h => h))
            have hbd := hbl.drew.drew
            go_wp2
            go_region_with (go_at_call 8; refine (use_bad' HId.out (.inr ⟨hpos, hm'⟩)).mono ?_; rintro e w' ⟨rfl, rfl⟩)
            all_goals go_wp2
            all_goals go_region_with (go_at_call 9; refine (rin_bad r most q v1 v2 ks ts s _ HRd.out (.inr ⟨hpos, hm'⟩)).mono ?_; rintro e w' ⟨rfl, rfl⟩)
            all_goals
              go_wp2_with (go_at_call 10; refine (num_any _ _).mono ?_; rintro e w' ⟨rfl, rfl⟩)
              go_roundw
              case rel => exact ⟨k + 1, by omega, by omega, by go_num, ⟨D, n, f, v1, v2, ks, ts, HIe.out, by omega, HRd.out, by omega, HT.out⟩, hbd⟩
              case measure => simp [intOf]; omega
      · have hbl := hR.below
        clear hR
        go_wp2
        go_ret
        exact ⟨rfl, hbl⟩
    · have hbl := hR.below
      clear hR
      go_wp2
      go_ret
      exact ⟨rfl, hbl⟩
end Go.Proofs.Ytmnpiocgbgdilaa
