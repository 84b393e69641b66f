/- Passes of the loops, stretches of states. -/
import Derived.Test.YtilghajadoibgaaGreatDoorSt
namespace Go.Ev
open Go.Proofs
set_option maxRecDepth 1000000
theorem rB5_4_1 : ∀ s A, statesM (gzB s A 5 4) 1 10 = true := by
  intro s A
  kernel_rfl
theorem rB5_5_58 : ∀ s A, statesM (gzB s A 5 5) 58 6 = true := by
  intro s A
  kernel_rfl
theorem rB7_6_56 : ∀ s A, statesM (gzB s A 7 6) 56 9 = true := by
  intro s A
  kernel_rfl
theorem rB7_7_32 : ∀ s A, statesM (gzB s A 7 7) 32 8 = true := by
  intro s A
  kernel_rfl
theorem rB8_4_11 : ∀ s A, statesM (gzB s A 8 4) 11 9 = true := by
  intro s A
  kernel_rfl
theorem rB8_7_38 : ∀ s A, statesM (gzB s A 8 7) 38 9 = true := by
  intro s A
  kernel_rfl
theorem rB8_7_119 : ∀ s A, statesM (gzB s A 8 7) 119 9 = true := by
  intro s A
  kernel_rfl
theorem rB8_8_403 : ∀ s A, statesM (gzB s A 8 8) 403 7 = true := by
  intro s A
  kernel_rfl
theorem rB8_8_438 : ∀ s A, statesM (gzB s A 8 8) 438 8 = true := by
  intro s A
  kernel_rfl
theorem rB8_8_497 : ∀ s A, statesM (gzB s A 8 8) 497 8 = true := by
  intro s A
  kernel_rfl
theorem rD0_7_1_243 : ∀ s A, statesM (gzD s A 0 7 1) 243 13 = true := by
  intro s A
  kernel_rfl
theorem rD1_2_1_4 : ∀ s A, statesM (gzD s A 1 2 1) 4 4 = true := by
  intro s A
  kernel_rfl
theorem rD4_1_1_2 : ∀ s A, statesM (gzD s A 4 1 1) 2 2 = true := by
  intro s A
  kernel_rfl
end Go.Ev
