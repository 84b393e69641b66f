/- The walk of AliasOuts. -/
import Derived.Test.YtmnpiocgbgdilaaWake2
namespace Go.Proofs.Ytmnpiocgbgdilaa
open Go.RowKit Go.Maps Go.WideMaps

/-- numbers and topics agree -/
structure Tied (D : DataW Unit) (L : List ByteArray) : Prop where
  size : Maps.size D = L.length
  yes : ∀ (k : Nat) s, L[k]? = some s → Maps.has D (.string s.data.toList) = true ∧ D.atKey (.string s.data.toList) (di 0) = di (k + 1)
  no : ∀ s, (∀ k : Nat, L[k]? ≠ some s) → Maps.has D (.string s.data.toList) = false
theorem tied_nil : Tied (.map []) [] := ⟨rfl, fun k s h => by simp at h, fun s _ => rfl⟩
theorem bytes_inj {s t : ByteArray} (h : s.data.toList = t.data.toList) : s = t := by
  cases s; cases t
  simp only at h
  rw [Array.toList_inj.1 h]
theorem Tied.put {D : DataW Unit} {L : List ByteArray} (h : Tied D L) (hD : Maps.Tidy D) {t : ByteArray} (ht : ∀ k : Nat, L[k]? ≠ some t) : Tied (D.put (.string t.data.toList) (di (Maps.size D + 1))) (L ++ [t]) := by
  have hno := h.no t ht
  refine ⟨?_, fun k s hk => ?_, fun s hs => ?_⟩
  · rw [Maps.size_put hD, hno]
    simp [h.size]
  · rcases Nat.lt_or_ge k L.length with hlt | hge
    · rw [List.getElem?_append_left hlt] at hk
      have hne : (Lit.string s.data.toList) ≠ .string t.data.toList := fun e => by
        injection e with e
        exact ht k (by rw [hk, bytes_inj e])
      rw [Maps.has_put_other hne, Maps.atKey_put_other hne]
      exact h.yes k s hk
    · rw [List.getElem?_append_right hge] at hk
      have hk0 : k - L.length = 0 := by
        rcases Nat.eq_zero_or_pos (k - L.length) with h0 | h0
        · exact h0
        · rw [List.getElem?_eq_none (by simp; omega)] at hk; cases hk
      rw [hk0] at hk
      simp at hk
      subst hk
      rw [Maps.has_put_same hD.isMap (keyLit_str _), Maps.atKey_put_same hD.isMap (keyLit_str _), h.size]
      obtain rfl : k = L.length := by omega
      exact ⟨rfl, rfl⟩
  · have h1 : s ≠ t := fun e => hs L.length (by rw [e]; simp)
    have hne : (Lit.string s.data.toList) ≠ .string t.data.toList := fun e => by
      injection e with e
      exact h1 (bytes_inj e)
    rw [Maps.has_put_other hne]
    refine h.no s fun k hk => hs k ?_
    rw [List.getElem?_append_left (List.getElem?_eq_some_iff.1 hk).1]
    exact hk
theorem di_inj {a b : Int} (h : di a = di b) : a = b := by
  injection h with h
  injection h with _ h
theorem Tied.one {D : DataW Unit} {L : List ByteArray} (h : Tied D L) {k k' : Nat} {s : ByteArray} (h1 : L[k]? = some s) (h2 : L[k']? = some s) : k = k' := by
  have e := (h.yes k s h1).2.symm.trans (h.yes k' s h2).2
  have := di_inj e
  omega

theorem RefAt.fr {w w' : World} {r : Nat} {most : Int} {v : Value} {L : List ByteArray} {S : Nat → Prop} (h : RefAt w r most v L) (hf : Fr S w w') (hS : ∀ k, r ≤ k → ¬ S k) : RefAt w' r most v L := by
  have h1 : r < w.heap.size := (Array.getElem?_eq_some_iff.1 h.blk).1
  refine ⟨(hf.block r h1 (hS r (Nat.le_refl _))).trans h.blk, h.own.1, ?_⟩
  rcases h.own.2 with hn | ⟨g, cap, cur, rfl, hb, hg, hr⟩
  · exact .inl hn
  · exact .inr ⟨g, cap, cur, rfl, hb, (hf.block g (Array.getElem?_eq_some_iff.1 hg).1 (hS g (by omega))).trans hg, hr⟩

/-- what is so at the loop's head -/
structure OutsRel (w0 : World) (bO mO r : Nat) (most : Int) (k : Nat) (wr : World) : Prop where
  ex : ∃ D n L v, OutAt wr bO mO most n D ∧ n ≤ k ∧ RefAt wr r most v L ∧ L.length ≤ k ∧ Tied D L
  below : Below w0.heap.size w0 wr

set_option maxRecDepth 100000 in
theorem outs_none (most : Int) (a : Option Addr) (cap : Nat) (w : World) :
    Calls Try.prog 4 #[.int .i64 most, .slice a 0 cap] w fun e w' => e = .returned (.bool true) ∧ Below w.heap.size w w' := by
  go_enter Try.func4, Try.ntmps4
  go_wp2_with fail
  refine (newOut_new most w).mono ?_
  rintro e w1 ⟨bO, mO, rfl, hO, hf1, g1, g2, g3, g4⟩
  go_wp2_with fail
  refine (wakes_any w1).mono ?_
  rintro e w2 ⟨rfl, hb2⟩
  have HB2 := Lib.hid ((hf1.below (B := w.heap.size) (fun k h => h.elim) (Nat.le_refl _)).trans (hb2.mono (by have := hf1.size; omega)))
  clear hO hf1 hb2
  go_wp2_with fail
  refine wp_loop_rounds 1 ?_
  rw [rounds_succ]
  go_wp2
  go_ret
  exact ⟨rfl, HB2.out.alloc HB2.out.size _⟩

set_option maxHeartbeats 1000000 in
set_option maxRecDepth 100000 in
theorem outs_any (most : Int) (b off len cap : Nat) (w : World) (hb : b < w.heap.size) (hc : ∀ j, j < len → ∃ s : ByteArray, w.cell? ⟨b, off + j, none⟩ = some (.string s) ∧ s.size ≤ maxLen) :
    Calls Try.prog 4 #[.int .i64 most, .slice (some ⟨b, off, none⟩) len cap] w fun e w' => e = .returned (.bool true) ∧ Below w.heap.size w w' := by
  have HC := Lib.hid hc
  clear hc
  go_enter Try.func4, Try.ntmps4
  go_wp2_with fail
  refine (newOut_new most w).mono ?_
  rintro e w1 ⟨bO, mO, rfl, hO, hf1, g1, g2, g3, g4⟩
  go_wp2_with fail
  refine (wakes_any w1).mono ?_
  rintro e w2 ⟨rfl, hb2⟩
  have HO2 := Lib.hid (hO.fr (S := (w1.heap.size ≤ ·)) (w' := w2) ⟨hb2.os, hb2.tape, hb2.output, hb2.size, fun k hk hn => hb2.block k (by omega)⟩ (by omega) (by omega))
  have HB2 := Lib.hid ((hf1.below (B := w.heap.size) (fun k h => h.elim) (Nat.le_refl _)).trans (hb2.mono (by have := hf1.size; omega)))
  have hs2 := hb2.size
  clear hO hf1 hb2
  go_wp2_with fail
  have hr1 : bO < w2.heap.size := by omega
  have hr2 : mO < w2.heap.size := by omega
  have hr3 : w.heap.size ≤ w2.heap.size := HB2.out.size
  have HA : Hid (OutsRel w bO mO w2.heap.size most 0 (w2.alloc (.cells #[.int .i64 most, .slice none 0 0] 44))) :=
    ⟨⟨.map [], 0, [], .slice none 0 0, HO2.out.fr (Fr.alloc (S := fun _ => False) _) (fun h => h) (fun h => h), Nat.le_refl _, ⟨heap_alloc_new _ _, World.ownsRow_nil _ _ _ _⟩, Nat.le_refl _, tied_nil⟩, HB2.out.alloc hr3 _⟩
  obtain ⟨r, hr⟩ : ∃ r, r = w2.heap.size := ⟨_, rfl⟩
  rw [← hr] at hr1 hr2 hr3 HA ⊢
  have HR := Lib.hid hr
  clear hr HO2 HB2 g1 g3 g4 hs2
  go_loopw [7] (fun i wr => ∃ k : Nat, k ≤ len ∧ k ≤ 100 ∧ i = .int .i64 k ∧ OutsRel w bO mO r most k wr) (fun i _ => len - (intOf i).toNat)
  case atStart => exact ⟨0, Nat.zero_le _, by omega, rfl, HA.out⟩
  case round =>
    obtain ⟨k, hk, hk1, rfl, hR⟩ := hrel
    clear HA HR
    by_cases hlt : k < len
    · by_cases hlt1 : k < 100
      · obtain ⟨⟨D, n, L, v, hO, hn, hRf, hL, hT⟩, hbl⟩ := hR
        obtain ⟨s, hs, hsz⟩ := HC.out k hlt
        have hcell : wr.cell? ⟨b, off + k, none⟩ = some (.string s) := (hbl.cell (by exact hb)).trans hs
        have HOr := Lib.hid hO
        have HRf := Lib.hid hRf
        have HT := Lib.hid hT
        clear hs hO hRf hT
        by_cases hin : ∃ kk : Nat, L[kk]? = some s
        · obtain ⟨kk, hkk⟩ := hin
          have HKK := Lib.hid hkk
          clear hkk
          go_wp2_with fail
          refine (for_known bO mO most n D s wr HOr.out hsz (HT.out.yes kk s HKK.out).1).mono ?_
          rintro e w' ⟨c, rfl, hcc, hw⟩
          obtain rfl := hw.symm
          clear hw
          obtain rfl := di_inj (hcc.symm.trans (HT.out.yes kk s HKK.out).2)
          clear hcc
          go_wp2_with fail
          refine (ref_known r most v L s wr HRf.out (by omega) kk HKK.out (fun j hj e => by have := HT.out.one e HKK.out; omega)).mono ?_
          rintro e w' ⟨rfl, hw⟩
          obtain rfl := hw.symm
          clear hw
          go_wp2_with fail
          have hq := fun q => HOr.out.fr (Fr.drewN (S := fun _ => False) q) (fun h => h) (fun h => h)
          have hv := HRf.out.shape
          obtain ⟨a, cp, rfl, _⟩ := hv
          have c1 : wr.cell? ⟨r, 1, none⟩ = some (.slice a L.length cp) := cell_blk HRf.out.blk (i := 1) rfl
          have hse := HT.out.size
          go_quiet ((go_at_call 14; exact Calls.quiet_of_same (len_any bO mO most n D _ (hq _))))
          clear hse hq c1
          have HN := Lib.hid (Fr.drewN (S := fun _ => False) (a := wr) nq)
          go_wp2
          go_roundw
          case rel => exact ⟨k + 1, by omega, by omega, by go_num, ⟨D, n, L, _, HOr.out.fr HN.out (fun h => h) (fun h => h), by omega, RefAt.fr HRf.out HN.out (fun k _ h => h), by omega, HT.out⟩, hbl.trans (HN.out.below (fun k h => h.elim) hbl.size)⟩
          case measure => simp [intOf]; omega
        · have hnot : ∀ j : Nat, L[j]? ≠ some s := fun j e => hin ⟨j, e⟩
          have HNOT := Lib.hid hnot
          have hsl := HT.out.size
          clear hin hnot
          by_cases hfull : most ≤ (Maps.size D : Int)
          · go_wp2_with fail
            refine (for_full bO mO most n D s wr HOr.out hsz (HT.out.no s HNOT.out) hfull).mono ?_
            rintro e w3 ⟨rfl, hf3⟩
            have HO3 := Lib.hid (HOr.out.fr hf3 (fun h => h) (fun h => h))
            have HR3 := Lib.hid (RefAt.fr HRf.out hf3 (fun k _ h => h))
            have hbl3 := hbl.trans (hf3.below (B := w.heap.size) (fun k h => h.elim) hbl.size)
            have hcell3 : w3.cell? ⟨b, off + k, none⟩ = some (.string s) := by rw [← hcell]; exact World.cell?_of_block (hf3.block b (by have := hbl.size; omega) (fun h => h))
            clear hf3 hcell HOr HRf hbl
            go_wp2_with fail
            refine (ref_full r most v L s w3 HR3.out (by omega) HNOT.out (by omega)).mono ?_
            rintro e w4 ⟨rfl, hf4⟩
            have HO4 := Lib.hid (HO3.out.fr hf4 (fun h => h) (fun h => h))
            have HR4 := Lib.hid (RefAt.fr HR3.out hf4 (fun k _ h => h))
            have hbl4 := hbl3.trans (hf4.below (B := w.heap.size) (fun k h => h.elim) hbl3.size)
            clear hf4 hcell3 HO3 HR3 hbl3 hsl hfull
            go_wp2_with fail
            have hq := fun q => HO4.out.fr (Fr.drewN (S := fun _ => False) q) (fun h => h) (fun h => h)
            have hv := HR4.out.shape
            obtain ⟨a, cp, rfl, _⟩ := hv
            have c1 : w4.cell? ⟨r, 1, none⟩ = some (.slice a L.length cp) := cell_blk HR4.out.blk (i := 1) rfl
            have hse := HT.out.size
            go_quiet ((go_at_call 14; exact Calls.quiet_of_same (len_any bO mO most n D _ (hq _))))
            clear hse hq c1
            have HN := Lib.hid (Fr.drewN (S := fun _ => False) (a := w4) nq)
            go_wp2
            go_roundw
            case rel => exact ⟨k + 1, by omega, by omega, by go_num, ⟨D, n, L, _, HO4.out.fr HN.out (fun h => h) (fun h => h), by omega, RefAt.fr HR4.out HN.out (fun k _ h => h), by omega, HT.out⟩, hbl4.trans (HN.out.below (fun k h => h.elim) hbl4.size)⟩
            case measure => simp [intOf]; omega
          · go_wp2_with fail
            refine (for_new bO mO most n D s wr HOr.out hsz (HT.out.no s HNOT.out) (by omega) (by omega)).mono ?_
            rintro e w3 ⟨rfl, hown3, hf3⟩
            have HO3 := Lib.hid (HOr.out.put hf3 hown3)
            have HR3 := Lib.hid (RefAt.fr HRf.out hf3 (fun k h1 h => by omega))
            have hbl3 := hbl.trans (hf3.below (B := w.heap.size) (fun k h => by omega) hbl.size)
            have hcell3 : w3.cell? ⟨b, off + k, none⟩ = some (.string s) := by rw [← hcell]; exact World.cell?_of_block (hf3.block b (by have := hbl.size; omega) (by omega))
            have HT3 := Lib.hid (HT.out.put (HOr.out.own.tidy law9) HNOT.out)
            clear hf3 hown3 hcell HOr HRf hbl
            go_wp2_with fail
            refine (ref_new r most v L s w3 HR3.out (by omega) HNOT.out (by omega)).mono ?_
            rintro e w4 ⟨v', rfl, hr4, hf4⟩
            have HO4 := Lib.hid (HO3.out.fr hf4 (by omega) (by omega))
            have HR4 := Lib.hid hr4
            have hbl4 := hbl3.trans (hf4.below (B := w.heap.size) (fun k h => by omega) hbl3.size)
            clear hf4 hr4 hcell3 HO3 HR3 hbl3 hfull hsl
            go_wp2_with fail
            have hq := fun q => HO4.out.fr (Fr.drewN (S := fun _ => False) q) (fun h => h) (fun h => h)
            have hv := HR4.out.shape
            obtain ⟨a, cp, rfl, _⟩ := hv
            have c1 : w4.cell? ⟨r, 1, none⟩ = some (.slice a (L ++ [s]).length cp) := cell_blk HR4.out.blk (i := 1) rfl
            have hse : Maps.size (D.put (.string s.data.toList) (di (Maps.size D + 1))) = L.length + 1 := by
              have := HT3.out.size
              simpa using this
            go_quiet ((go_at_call 14; exact Calls.quiet_of_same (len_any bO mO most (n + 1) (D.put (.string s.data.toList) (di (Maps.size D + 1))) _ (hq _))))
            clear hse hq c1
            have HN := Lib.hid (Fr.drewN (S := fun _ => False) (a := w4) nq)
            go_wp2
            go_roundw
            case rel => exact ⟨k + 1, by omega, by omega, by go_num, ⟨(D.put (.string s.data.toList) (di (Maps.size D + 1))), (n + 1), (L ++ [s]), _, HO4.out.fr HN.out (fun h => h) (fun h => h), by omega, RefAt.fr HR4.out HN.out (fun k _ h => h), by simp; omega, HT3.out⟩, hbl4.trans (HN.out.below (fun k h => h.elim) hbl4.size)⟩
            case measure => simp [intOf]; omega
      · have hbl := hR.below
        clear hR
        go_wp2
        go_ret
        exact ⟨rfl, hbl⟩
    · have hbl := hR.below
      clear hR
      go_wp2
      go_ret
      exact ⟨rfl, hbl⟩
end Go.Proofs.Ytmnpiocgbgdilaa
