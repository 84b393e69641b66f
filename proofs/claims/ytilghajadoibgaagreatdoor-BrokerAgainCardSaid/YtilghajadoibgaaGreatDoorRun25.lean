/- Passes of the loops, stretches of states. -/
import Derived.Test.YtilghajadoibgaaGreatDoorSt
namespace Go.Ev
open Go.Proofs
set_option maxRecDepth 1000000
theorem rB1_0_1 : ∀ s A, statesM (gzB s A 1 0) 1 1 = true := by
  intro s A
  kernel_rfl
theorem rB4_3_1 : ∀ s A, statesM (gzB s A 4 3) 1 10 = true := by
  intro s A
  kernel_rfl
theorem rB5_1_1 : ∀ s A, statesM (gzB s A 5 1) 1 3 = true := by
  intro s A
  kernel_rfl
theorem rB5_3_1 : ∀ s A, statesM (gzB s A 5 3) 1 10 = true := by
  intro s A
  kernel_rfl
theorem rB6_6_82 : ∀ s A, statesM (gzB s A 6 6) 82 8 = true := by
  intro s A
  kernel_rfl
theorem rB7_5_56 : ∀ s A, statesM (gzB s A 7 5) 56 8 = true := by
  intro s A
  kernel_rfl
theorem rB7_6_20 : ∀ s A, statesM (gzB s A 7 6) 20 9 = true := by
  intro s A
  kernel_rfl
theorem rB7_6_29 : ∀ s A, statesM (gzB s A 7 6) 29 9 = true := by
  intro s A
  kernel_rfl
theorem rB8_8_49 : ∀ s A, statesM (gzB s A 8 8) 49 9 = true := by
  intro s A
  kernel_rfl
theorem rB8_8_138 : ∀ s A, statesM (gzB s A 8 8) 138 7 = true := by
  intro s A
  kernel_rfl
theorem rB8_8_336 : ∀ s A, statesM (gzB s A 8 8) 336 6 = true := by
  intro s A
  kernel_rfl
theorem rB8_8_356 : ∀ s A, statesM (gzB s A 8 8) 356 7 = true := by
  intro s A
  kernel_rfl
end Go.Ev
