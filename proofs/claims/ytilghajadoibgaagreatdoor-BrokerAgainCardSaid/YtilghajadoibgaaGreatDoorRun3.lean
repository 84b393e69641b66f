/- Passes of the loops, stretches of states. -/
import Derived.Test.YtilghajadoibgaaGreatDoorSt
namespace Go.Ev
open Go.Proofs
set_option maxRecDepth 1000000
theorem rB6_6_1 : ∀ s A, statesM (gzB s A 6 6) 1 11 = true := by
  intro s A
  kernel_rfl
theorem rB8_1_1 : ∀ s A, statesM (gzB s A 8 1) 1 3 = true := by
  intro s A
  kernel_rfl
theorem rB8_6_74 : ∀ s A, statesM (gzB s A 8 6) 74 9 = true := by
  intro s A
  kernel_rfl
theorem rB8_7_200 : ∀ s A, statesM (gzB s A 8 7) 200 9 = true := by
  intro s A
  kernel_rfl
theorem rB8_8_12 : ∀ s A, statesM (gzB s A 8 8) 12 10 = true := by
  intro s A
  kernel_rfl
theorem rB8_8_67 : ∀ s A, statesM (gzB s A 8 8) 67 7 = true := by
  intro s A
  kernel_rfl
theorem rB8_8_257 : ∀ s A, statesM (gzB s A 8 8) 257 5 = true := by
  intro s A
  kernel_rfl
theorem rB8_8_286 : ∀ s A, statesM (gzB s A 8 8) 286 6 = true := by
  intro s A
  kernel_rfl
theorem rB8_8_377 : ∀ s A, statesM (gzB s A 8 8) 377 8 = true := by
  intro s A
  kernel_rfl
theorem rD0_1_1_2 : ∀ s A, statesM (gzD s A 0 1 1) 2 2 = true := by
  intro s A
  kernel_rfl
theorem rD0_8_1_486 : ∀ s A, statesM (gzD s A 0 8 1) 486 26 = true := by
  intro s A
  kernel_rfl
theorem rD1_6_1_64 : ∀ s A, statesM (gzD s A 1 6 1) 64 29 = true := by
  intro s A
  kernel_rfl
theorem rD2_0_1_1 : ∀ s A, statesM (gzD s A 2 0 1) 1 1 = true := by
  intro s A
  kernel_rfl
end Go.Ev
