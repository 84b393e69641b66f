/- AliasIns at a row of no uses. -/
import Derived.Test.YtmnpiocgbgdilaaWake2
namespace Go.Proofs.Ytmnpiocgbgdilaa
open Go.RowKit Go.Maps Go.WideMaps
set_option maxRecDepth 100000 in
theorem ins_none (most : Int) (a : Option Addr) (cap : Nat) (w : World) :
    Calls Try.prog 3 #[.int .i64 most, .slice a 0 cap] w fun e w' => e = .returned (.bool true) ∧ Below w.heap.size w w' := by
  go_enter Try.func3, Try.ntmps3
  go_wp2_with fail
  refine (newIn_new most w).mono ?_
  rintro e w1 ⟨bI, mI, rfl, hI, hf1, g1, g2, g3, g4⟩
  go_wp2_with fail
  refine (wakes_any w1).mono ?_
  rintro e w2 ⟨rfl, hb2⟩
  have HB2 := Lib.hid ((hf1.below (B := w.heap.size) (fun k h => h.elim) (Nat.le_refl _)).trans (hb2.mono (by have := hf1.size; omega)))
  clear hI hf1 hb2
  go_wp2_with fail
  refine wp_loop_rounds 1 ?_
  rw [rounds_succ]
  go_wp2
  go_ret
  exact ⟨rfl, HB2.out.alloc HB2.out.size _⟩
end Go.Proofs.Ytmnpiocgbgdilaa
