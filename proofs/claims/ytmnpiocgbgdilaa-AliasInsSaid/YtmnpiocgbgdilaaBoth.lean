/- The walk of AliasBoth. -/
import Derived.Test.YtmnpiocgbgdilaaOuts
namespace Go.Proofs.Ytmnpiocgbgdilaa
open Go.RowKit Go.Maps Go.WideMaps

/-- what one side gives, the other side has -/
structure Both (D : DataW Unit) (f : Int → ByteArray) (most : Int) : Prop where
  size : (Maps.size D : Int) ≤ most
  yes : ∀ s : ByteArray, Maps.has D (.string s.data.toList) = true → ∃ c : Int, D.atKey (.string s.data.toList) (di 0) = di c ∧ 1 ≤ c ∧ c ≤ Maps.size D ∧ f c = s
theorem Both.put {D : DataW Unit} {f : Int → ByteArray} {most : Int} (h : Both D f most) (hD : Maps.Tidy D) {t : ByteArray} (ht : Maps.has D (.string t.data.toList) = false) (hm : Maps.size D < most) :
    Both (D.put (.string t.data.toList) (di (Maps.size D + 1))) (fun j => if j = Maps.size D + 1 then t else f j) most := by
  have hs : Maps.size (D.put (.string t.data.toList) (di (Maps.size D + 1))) = Maps.size D + 1 := by
    rw [Maps.size_put hD, ht]; rfl
  refine ⟨by rw [hs]; omega, fun s h1 => ?_⟩
  rw [hs]
  by_cases e : s = t
  · subst e
    exact ⟨Maps.size D + 1, Maps.atKey_put_same hD.isMap (keyLit_str _) _ _, by omega, by omega, by simp⟩
  · have hne : (Lit.string s.data.toList) ≠ .string t.data.toList := fun q => by
      injection q with q
      exact e (bytes_inj q)
    rw [Maps.has_put_other hne] at h1
    obtain ⟨c, q1, q2, q3, q4⟩ := h.yes s h1
    exact ⟨c, by rw [Maps.atKey_put_other hne]; exact q1, q2, by omega, by rw [if_neg (by omega)]; exact q4⟩

theorem zero_t {b m n : Nat} {most : Int} {f : Int → ByteArray} {D : DataW Unit} {w : World} (h : InAt w b m most n f D) (t : ByteArray) (hne : t.toList.isEmpty = false) :
    Calls Try.prog 8 #[.pointer (some ⟨b, 0, none⟩), .int .i64 0, .string t] w fun e w' => e = .returned (.tuple #[.string t, .int .i64 0]) ∧ w = w' :=
  (use_zero b m most t n f D w h).mono fun e w' ⟨he, hw⟩ => ⟨by rw [he, hne]; rfl, hw.symm⟩
theorem mask7 (q : Int) : 0 ≤ bits BinOp.and IntKind.i64 q 7 ∧ bits BinOp.and IntKind.i64 q 7 ≤ 7 := by
  have h : (BitVec.ofInt 64 q &&& BitVec.ofInt 64 7).toNat ≤ 7 := by
    rw [BitVec.toNat_and]
    have e : (BitVec.ofInt 64 7).toNat = 7 := by decide
    rw [e]
    exact Nat.and_le_right
  have e : bits BinOp.and IntKind.i64 q 7 = IntKind.i64.wrap ((BitVec.ofInt 64 q &&& BitVec.ofInt 64 7).toNat : Int) := rfl
  rw [e, IntWalk.i64_in _ (by omega)]
  omega

/-- what is so at the loop's head -/
structure BothRel (w0 : World) (bO mO bI mI : Nat) (most : Int) (k : Nat) (wr : World) : Prop where
  ex : ∃ D n f D' n', OutAt wr bO mO most n D ∧ n ≤ k ∧ InAt wr bI mI most n' f D' ∧ n' ≤ k ∧ Both D f most
  below : Below w0.heap.size w0 wr

set_option maxHeartbeats 1000000 in
set_option maxRecDepth 100000 in
theorem both_any (most : Int) (b off len cap : Nat) (w : World) (hb : b < w.heap.size) (hc : ∀ j, j < len → ∃ s : ByteArray, w.cell? ⟨b, off + j, none⟩ = some (.string s) ∧ s.size ≤ maxLen) :
    Calls Try.prog 5 #[.int .i64 most, .slice (some ⟨b, off, none⟩) len cap] w fun e w' => e = .returned (.bool true) ∧ Below w.heap.size w w' := by
  have HC := Lib.hid hc
  clear hc
  go_enter Try.func5, Try.ntmps5
  go_wp2_with fail
  have hm0 := mask7 most
  obtain ⟨mm, hmm⟩ : ∃ mm, mm = bits BinOp.and IntKind.i64 most 7 := ⟨_, rfl⟩
  rw [← hmm] at hm0
  rw [← hmm]
  clear hmm
  refine (newOut_new mm w).mono ?_
  rintro e w1 ⟨bO, mO, rfl, hO, hf1, g1, g2, g3, g4⟩
  go_wp2_with fail
  refine (newIn_new mm w1).mono ?_
  rintro e w2 ⟨bI, mI, rfl, hI, hf2, g5, g6, g7, g8⟩
  have HF2 := Lib.hid (hf1.trans hf2)
  have HO2 := Lib.hid (hO.fr hf2 (fun h => h) (fun h => h))
  have HI2 := Lib.hid hI
  have hz1 := hf1.size
  have hz2 := hf2.size
  clear hf1 hf2 hO hI
  go_wp2_with fail
  refine (wakes_any w2).mono ?_
  rintro e w3 ⟨rfl, hb3⟩
  have hf3 : Fr (w2.heap.size ≤ ·) w2 w3 := ⟨hb3.os, hb3.tape, hb3.output, hb3.size, fun k hk hn => hb3.block k (by omega)⟩
  have HA : Hid (BothRel w bO mO bI mI mm 0 w3) :=
    ⟨⟨.map [], 0, _, .map [], 0, HO2.out.fr hf3 (by omega) (by omega), Nat.le_refl _, HI2.out.fr hf3 (by omega) (by omega), Nat.le_refl _, ⟨by show ((0 : Nat) : Int) ≤ mm; omega, fun s h => by cases h⟩⟩,
      (HF2.out.below (B := w.heap.size) (fun k h => h.elim) (Nat.le_refl _)).trans (hb3.mono (by omega))⟩
  have hd1 : bO ≠ mI := by omega
  have hd2 : mO ≠ mI := by omega
  have hd3 : bI ≠ mO := by omega
  have hd4 : mI ≠ mO := by omega
  have he1 : w.heap.size ≤ mO := g2
  have he2 : w.heap.size ≤ mI := by omega
  clear HF2 HO2 HI2 hz1 hz2 hb3 hf3 g1 g2 g3 g4 g5 g6 g7 g8
  go_wp2_with fail
  go_loopw [7] (fun i wr => ∃ k : Nat, k ≤ len ∧ k ≤ 100 ∧ i = .int .i64 k ∧ BothRel w bO mO bI mI mm k wr) (fun i _ => len - (intOf i).toNat)
  case atStart => exact ⟨0, Nat.zero_le _, by omega, rfl, HA.out⟩
  case round =>
    obtain ⟨k, hk, hk1, rfl, hR⟩ := hrel
    clear HA
    by_cases hlt : k < len
    · by_cases hlt1 : k < 100
      · obtain ⟨⟨D, n, f, D', n', hO, hn, hI, hn', hB⟩, hbl⟩ := hR
        obtain ⟨s, hs, hsz⟩ := HC.out k hlt
        have hcell : wr.cell? ⟨b, off + k, none⟩ = some (.string s) := (hbl.cell (by exact hb)).trans hs
        have HOr := Lib.hid hO
        have HIr := Lib.hid hI
        have HB := Lib.hid hB
        clear hs hO hI hB
        by_cases hemp : s.toList.isEmpty = true
        · go_wp2
          go_roundw
          case rel => exact ⟨k + 1, by omega, by omega, by go_num, ⟨D, n, f, D', n', HOr.out, by omega, HIr.out, by omega, HB.out⟩, hbl⟩
          case measure => simp [intOf]; omega
        · have hne : s.toList.isEmpty = false := by simpa using hemp
          clear hemp
          by_cases hin : Maps.has D (.string s.data.toList) = true
          · obtain ⟨c, hc1, hc2, hc3, hc4⟩ := HB.out.yes s hin
            have hcm : c ≤ mm := by have := HB.out.size; omega
            go_wp2_with fail
            refine (for_known bO mO mm n D s wr HOr.out hsz hin).mono ?_
            rintro e w' ⟨c', rfl, hcc, hw⟩
            obtain rfl := hw.symm
            clear hw
            obtain rfl := di_inj (hcc.symm.trans hc1)
            clear hcc hc1
            go_wp2_with fail
            refine (get_t HIr.out (k := c') (by omega) hcm (WalkArith.wf_i64 ⟨by omega, by omega⟩) s hc4 hne).mono ?_
            rintro e w' ⟨rfl, rfl⟩
            clear hc4
            go_wp2_with (go_at_call 10; refine (num_any _ _).mono ?_; rintro e w' ⟨rfl, rfl⟩)
            go_roundw
            case rel => exact ⟨k + 1, by omega, by omega, by go_num, ⟨D, n, f, D', n', HOr.out, by omega, HIr.out, by omega, HB.out⟩, hbl⟩
            case measure => simp [intOf]; omega
          · have hno : Maps.has D (.string s.data.toList) = false := by simpa using hin
            clear hin
            by_cases hfull : mm ≤ (Maps.size D : Int)
            · go_wp2_with fail
              refine (for_full bO mO mm n D s wr HOr.out hsz hno hfull).mono ?_
              rintro e w3 ⟨rfl, hf3⟩
              have HO3 := Lib.hid (HOr.out.fr hf3 (fun h => h) (fun h => h))
              have HI3 := Lib.hid (HIr.out.fr hf3 (fun h => h) (fun h => h))
              have hbl3 := hbl.trans (hf3.below (B := w.heap.size) (fun k h => h.elim) hbl.size)
              have hcell3 : w3.cell? ⟨b, off + k, none⟩ = some (.string s) := by rw [← hcell]; exact World.cell?_of_block (hf3.block b (by have := hbl.size; omega) (fun h => h))
              clear hf3 hcell HOr HIr hbl hno
              go_wp2_with fail
              refine (zero_t HI3.out s hne).mono ?_
              rintro e w' ⟨rfl, rfl⟩
              go_wp2_with (go_at_call 10; refine (num_any _ _).mono ?_; rintro e w' ⟨rfl, rfl⟩)
              go_roundw
              case rel => exact ⟨k + 1, by omega, by omega, by go_num, ⟨D, n, f, D', n', HO3.out, by omega, HI3.out, by omega, HB.out⟩, hbl3⟩
              case measure => simp [intOf]; omega
            · have hsm := HB.out.size
              go_wp2_with fail
              refine (for_new bO mO mm n D s wr HOr.out hsz hno (by omega) (by omega)).mono ?_
              rintro e w3 ⟨rfl, hown3, hf3⟩
              have HO3 := Lib.hid (HOr.out.put hf3 hown3)
              have HI3 := Lib.hid (HIr.out.fr hf3 hd3 hd4)
              have hbl3 := hbl.trans (hf3.below (B := w.heap.size) (fun k h => by omega) hbl.size)
              have hcell3 : w3.cell? ⟨b, off + k, none⟩ = some (.string s) := by rw [← hcell]; exact World.cell?_of_block (hf3.block b (by have := hbl.size; omega) (by omega))
              have HB3 := Lib.hid (HB.out.put (HOr.out.own.tidy law9) hno (by omega))
              clear hf3 hown3 hcell HOr HIr hbl hno
              go_wp2_with fail
              refine (use_put bI mI mm (Maps.size D + 1) s n' f D' w3 HI3.out (by omega) (by omega) (WalkArith.wf_i64 ⟨by omega, by omega⟩) hne hsz (by unfold maxLen; omega)).mono ?_
              rintro e w4 ⟨rfl, hown4, hturn4⟩
              have HI4 := Lib.hid (HI3.out.put hturn4 hown4)
              have hf4 := Fr.turned hturn4
              have HO4 := Lib.hid (HO3.out.fr hf4 hd1 hd2)
              have hbl4 := hbl3.trans (hf4.below (B := w.heap.size) (fun k h => by omega) hbl3.size)
              have hcell4 : w4.cell? ⟨b, off + k, none⟩ = some (.string s) := by rw [← hcell3]; exact World.cell?_of_block (hf4.block b (by have := hbl3.size; omega) (by omega))
              clear hf4 hown4 hturn4 hcell3 HO3 HI3 hbl3
              have hg : decide (mm < (Maps.size D : Int) + 1) = false := decide_eq_false (by omega)
              go_wp2_with (go_at_call 10; refine (num_any _ _).mono ?_; rintro e w' ⟨rfl, rfl⟩)
              go_roundw
              case rel => exact ⟨k + 1, by omega, by omega, by go_num, ⟨_, n + 1, _, _, n' + 1, HO4.out, by omega, HI4.out, by omega, HB3.out⟩, hbl4⟩
              case measure => simp [intOf]; omega
      · obtain ⟨⟨D, n, f, D', n', hO, hn, hI, hn', hB⟩, hbl⟩ := hR
        have hsm := hB.size
        have HOr := Lib.hid hO
        clear hO hI hB
        go_wp2_with fail
        refine (len_any bO mO mm n D wr HOr.out).mono ?_
        rintro e w' ⟨rfl, hw⟩
        obtain rfl := hw.symm
        have hg : decide ((Maps.size D : Int) ≤ mm) = true := decide_eq_true hsm
        go_wp2
        go_ret
        exact ⟨rfl, hbl⟩
    · obtain ⟨⟨D, n, f, D', n', hO, hn, hI, hn', hB⟩, hbl⟩ := hR
      have hsm := hB.size
      have HOr := Lib.hid hO
      clear hO hI hB
      go_wp2_with fail
      refine (len_any bO mO mm n D wr HOr.out).mono ?_
      rintro e w' ⟨rfl, hw⟩
      obtain rfl := hw.symm
      have hg : decide ((Maps.size D : Int) ≤ mm) = true := decide_eq_true hsm
      go_wp2
      go_ret
      exact ⟨rfl, hbl⟩

set_option maxRecDepth 100000 in
theorem both_none (most : Int) (a : Option Addr) (cap : Nat) (w : World) :
    Calls Try.prog 5 #[.int .i64 most, .slice a 0 cap] w fun e w' => e = .returned (.bool true) ∧ Below w.heap.size w w' := by
  go_enter Try.func5, Try.ntmps5
  go_wp2_with fail
  have hm0 := mask7 most
  obtain ⟨mm, hmm⟩ : ∃ mm, mm = bits BinOp.and IntKind.i64 most 7 := ⟨_, rfl⟩
  rw [← hmm] at hm0
  rw [← hmm]
  clear hmm
  refine (newOut_new mm w).mono ?_
  rintro e w1 ⟨bO, mO, rfl, hO, hf1, g1, g2, g3, g4⟩
  go_wp2_with fail
  refine (newIn_new mm w1).mono ?_
  rintro e w2 ⟨bI, mI, rfl, hI, hf2, g5, g6, g7, g8⟩
  have HF2 := Lib.hid (hf1.trans hf2)
  have HO2 := Lib.hid (hO.fr hf2 (fun h => h) (fun h => h))
  have hz1 := hf1.size
  have hz2 := hf2.size
  clear hf1 hf2 hO hI
  go_wp2_with fail
  refine (wakes_any w2).mono ?_
  rintro e w3 ⟨rfl, hb3⟩
  have hf3 : Fr (w2.heap.size ≤ ·) w2 w3 := ⟨hb3.os, hb3.tape, hb3.output, hb3.size, fun k hk hn => hb3.block k (by omega)⟩
  have HO3 := Lib.hid (HO2.out.fr hf3 (by omega) (by omega))
  have HB := Lib.hid ((HF2.out.below (B := w.heap.size) (fun k h => h.elim) (Nat.le_refl _)).trans (hb3.mono (by omega)))
  clear HF2 HO2 hz1 hz2 hb3 hf3 g1 g2 g3 g4 g5 g6 g7 g8
  go_wp2_with fail
  refine wp_loop_rounds 1 ?_
  rw [rounds_succ]
  go_wp2_with fail
  refine (len_any bO mO mm 0 _ w3 HO3.out).mono ?_
  rintro e w' ⟨rfl, hw⟩
  obtain rfl := hw.symm
  have hg : decide (((Maps.size (.map [] : DataW Unit) : Nat) : Int) ≤ mm) = true := decide_eq_true (by show ((0 : Nat) : Int) ≤ mm; omega)
  go_wp2
  go_ret
  exact ⟨rfl, HB.out⟩
end Go.Proofs.Ytmnpiocgbgdilaa
