/- 'wakes' hands back true: the walk. -/
import Derived.Test.YtmnpiocgbgdilaaWakes
namespace Go.Proofs.Ytmnpiocgbgdilaa
open Go.RowKit Go.Maps Go.WideMaps

/-- what a new table is, and where -/
def NewIn (most : Int) (w : World) (b m : Nat) (w' : World) : Prop := InAt w' b m most 0 (fun _ => ByteArray.empty) (.map []) ∧ Fr (fun _ => False) w w' ∧ w.heap.size ≤ b ∧ w.heap.size ≤ m ∧ b < w'.heap.size ∧ m < w'.heap.size
def NewOut (most : Int) (w : World) (b m : Nat) (w' : World) : Prop := OutAt w' b m most 0 (.map []) ∧ Fr (fun _ => False) w w' ∧ w.heap.size ≤ b ∧ w.heap.size ≤ m ∧ b < w'.heap.size ∧ m < w'.heap.size
theorem newIn_new (most : Int) (w : World) : Calls Try.prog 6 #[.int .i64 most] w fun e w' => ∃ b m, e = .returned (.pointer (some ⟨b, 0, none⟩)) ∧ NewIn most w b m w' :=
  (newIn_any most w).mono fun e w' ⟨he, hw⟩ => ⟨w.heap.size + 1, w.heap.size, he, by
    subst hw
    exact ⟨inAt_new most w, fr_new _ _ _, by omega, Nat.le_refl _, by simp, by simp; omega⟩⟩
theorem newOut_new (most : Int) (w : World) : Calls Try.prog 11 #[.int .i64 most] w fun e w' => ∃ b m, e = .returned (.pointer (some ⟨b, 0, none⟩)) ∧ NewOut most w b m w' :=
  (newOut_any most w).mono fun e w' ⟨he, hw⟩ => ⟨w.heap.size + 1, w.heap.size, he, by
    subst hw
    exact ⟨outAt_new most w, fr_new _ _ _, by omega, Nat.le_refl _, by simp, by simp; omega⟩⟩

def bt : ByteArray := ⟨#[116]⟩
theorem bt_list : bt.toList = [116] := by
  rw [Lib.toList_data]; rfl
theorem bt_ne : bt.toList.isEmpty = false := by
  rw [Lib.toList_data]; rfl
theorem empty_ne : ByteArray.empty.toList.isEmpty = true := by
  rw [Lib.toList_data]; rfl
theorem get_t {b m n : Nat} {most k : Int} {f : Int → ByteArray} {D : DataW Unit} {w : World} (h : InAt w b m most n f D) (hk : 0 < k) (hm : k ≤ most) (hw : (Lit.int .i64 k).wf = true) (t : ByteArray) (ht : f k = t) (hne : t.toList.isEmpty = false) :
    Calls Try.prog 8 #[.pointer (some ⟨b, 0, none⟩), .int .i64 k, .string ByteArray.empty] w fun e w' => e = .returned (.tuple #[.string t, .int .i64 0]) ∧ w = w' :=
  (use_get b m most k n f D w h hk hm hw).mono fun e w' ⟨he, hw⟩ => ⟨by rw [he, ht, hne]; rfl, hw.symm⟩
theorem get_none {b m n : Nat} {most k : Int} {f : Int → ByteArray} {D : DataW Unit} {w : World} (h : InAt w b m most n f D) (hk : 0 < k) (hm : k ≤ most) (hw : (Lit.int .i64 k).wf = true) (ht : f k = ByteArray.empty) :
    Calls Try.prog 8 #[.pointer (some ⟨b, 0, none⟩), .int .i64 k, .string ByteArray.empty] w fun e w' => e = .returned (.tuple #[.string ByteArray.empty, .int .i64 130]) ∧ w = w' :=
  (use_get b m most k n f D w h hk hm hw).mono fun e w' ⟨he, hw⟩ => ⟨by rw [he, ht, empty_ne]; rfl, hw.symm⟩

set_option maxHeartbeats 1000000 in
set_option maxRecDepth 100000 in
theorem wakes_any (w : World) : Calls Try.prog 7 #[] w fun e w' => e = .returned (.bool true) ∧ Below w.heap.size w w' := by
  go_enter Try.func7, Try.ntmps7
  go_wp2_with fail
  refine (newIn_new 2 w).mono ?_
  rintro e w1 ⟨bI, mI, rfl, hI, hf1, g1, g2, g3, g4⟩
  have HI := Lib.hid hI
  have HF1 := Lib.hid hf1
  clear hI hf1
  go_wp2_with fail
  refine (newOut_new 1 w1).mono ?_
  rintro e w2 ⟨bO, mO, rfl, hO, hf2, g5, g6, g7, g8⟩
  have HI2 := Lib.hid (HI.out.fr hf2 (fun h => h) (fun h => h))
  have HF2 := Lib.hid (HF1.out.trans hf2)
  have HO := Lib.hid hO
  clear hO hf2 HI HF1
  go_wp2_with fail
  refine (use_put bI mI 2 1 bt 0 _ _ w2 HI2.out (by omega) (by omega) (by decide) bt_ne (by decide) (by unfold maxLen; omega)).mono ?_
  rintro e w3 ⟨rfl, hown3, hturn3⟩
  have HI3 := Lib.hid (HI2.out.put hturn3 hown3)
  have hf := Fr.turned hturn3
  have HO3 := Lib.hid (HO.out.fr hf (by omega) (by omega))
  have HF3 := Lib.hid ((HF2.out.mono (S' := (w.heap.size ≤ ·)) (fun k h => h.elim)).trans (hf.mono (fun k h => by omega)))
  clear hown3 hturn3 hf HI2 HO HF2
  go_wp2_with fail
  refine (get_t HI3.out (k := 1) (by omega) (by omega) (by decide) bt rfl bt_ne).mono ?_
  rintro e w' ⟨rfl, rfl⟩
  go_wp2_with fail
  refine (get_none HI3.out (k := 2) (by omega) (by omega) (by decide) rfl).mono ?_
  rintro e w' ⟨rfl, rfl⟩
  go_wp2_with fail
  refine (for_new bO mO 1 0 (.map []) bt w3 HO3.out (by decide) rfl (by decide) (by omega)).mono ?_
  rintro e w4 ⟨rfl, hown4, hf4⟩
  have HO4 := Lib.hid (HO3.out.put hf4 hown4)
  have HF4 := Lib.hid (HF3.out.trans (hf4.mono (fun k h => by omega)))
  clear hown4 hf4 HO3 HF3
  go_wp2_with fail
  refine (for_known bO mO 1 1 _ bt w4 HO4.out (by decide) rfl).mono ?_
  rintro e w' ⟨c, rfl, hc, hw⟩
  obtain rfl := hw.symm
  clear hw
  have hc1 : c = 1 := by
    have : di 1 = di c := hc
    injection this with this
    injection this with _ this
    exact this.symm
  subst hc1
  clear hc
  go_wp2_with (go_at_call 10; refine (num_any _ _).mono ?_; rintro e w' ⟨rfl, rfl⟩)
  · go_ret
    exact ⟨rfl, HF4.out.below (fun k h => h) (Nat.le_refl _)⟩
  · exact absurd bt_list (by assumption)
end Go.Proofs.Ytmnpiocgbgdilaa
