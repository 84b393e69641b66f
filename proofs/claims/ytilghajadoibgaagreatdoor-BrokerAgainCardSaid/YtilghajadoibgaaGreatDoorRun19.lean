/- Passes of the loops, stretches of states. -/
import Derived.Test.YtilghajadoibgaaGreatDoorSt
namespace Go.Ev
open Go.Proofs
set_option maxRecDepth 1000000
theorem rB2_2_1 : ∀ s A, statesM (gzB s A 2 2) 1 7 = true := by
  intro s A
  kernel_rfl
theorem rB6_6_32 : ∀ s A, statesM (gzB s A 6 6) 32 8 = true := by
  intro s A
  kernel_rfl
theorem rB7_6_11 : ∀ s A, statesM (gzB s A 7 6) 11 9 = true := by
  intro s A
  kernel_rfl
theorem rB8_3_1 : ∀ s A, statesM (gzB s A 8 3) 1 10 = true := by
  intro s A
  kernel_rfl
theorem rB8_6_47 : ∀ s A, statesM (gzB s A 8 6) 47 9 = true := by
  intro s A
  kernel_rfl
theorem rB8_8_22 : ∀ s A, statesM (gzB s A 8 8) 22 10 = true := by
  intro s A
  kernel_rfl
theorem rB8_8_145 : ∀ s A, statesM (gzB s A 8 8) 145 7 = true := by
  intro s A
  kernel_rfl
theorem rB8_8_349 : ∀ s A, statesM (gzB s A 8 8) 349 7 = true := by
  intro s A
  kernel_rfl
theorem rB8_8_453 : ∀ s A, statesM (gzB s A 8 8) 453 7 = true := by
  intro s A
  kernel_rfl
theorem rD1_7_1_243 : ∀ s A, statesM (gzD s A 1 7 1) 243 13 = true := by
  intro s A
  kernel_rfl
theorem rD2_2_1_4 : ∀ s A, statesM (gzD s A 2 2 1) 4 4 = true := by
  intro s A
  kernel_rfl
theorem rD3_5_1_32 : ∀ s A, statesM (gzD s A 3 5 1) 32 29 = true := by
  intro s A
  kernel_rfl
theorem rD5_1_1_2 : ∀ s A, statesM (gzD s A 5 1 1) 2 2 = true := by
  intro s A
  kernel_rfl
end Go.Ev
