/- Passes of the loops, stretches of states. -/
import Derived.Test.YtilghajadoibgaaGreatDoorSt
namespace Go.Ev
open Go.Proofs
set_option maxRecDepth 1000000
theorem rB4_3_11 : ∀ s A, statesM (gzB s A 4 3) 11 5 = true := by
  intro s A
  kernel_rfl
theorem rB5_5_49 : ∀ s A, statesM (gzB s A 5 5) 49 9 = true := by
  intro s A
  kernel_rfl
theorem rB7_7_209 : ∀ s A, statesM (gzB s A 7 7) 209 8 = true := by
  intro s A
  kernel_rfl
theorem rB8_5_11 : ∀ s A, statesM (gzB s A 8 5) 11 9 = true := by
  intro s A
  kernel_rfl
theorem rB8_6_101 : ∀ s A, statesM (gzB s A 8 6) 101 9 = true := by
  intro s A
  kernel_rfl
theorem rB8_7_47 : ∀ s A, statesM (gzB s A 8 7) 47 9 = true := by
  intro s A
  kernel_rfl
theorem rB8_7_218 : ∀ s A, statesM (gzB s A 8 7) 218 9 = true := by
  intro s A
  kernel_rfl
theorem rB8_8_32 : ∀ s A, statesM (gzB s A 8 8) 32 8 = true := by
  intro s A
  kernel_rfl
theorem rB8_8_262 : ∀ s A, statesM (gzB s A 8 8) 262 6 = true := by
  intro s A
  kernel_rfl
theorem rD0_0_0_1 : ∀ s A, statesM (gzD s A 0 0 0) 1 1 = true := by
  intro s A
  kernel_rfl
theorem rD0_4_1_16 : ∀ s A, statesM (gzD s A 0 4 1) 16 16 = true := by
  intro s A
  kernel_rfl
theorem rD0_7_1_157 : ∀ s A, statesM (gzD s A 0 7 1) 157 29 = true := by
  intro s A
  kernel_rfl
theorem rD4_0_1_1 : ∀ s A, statesM (gzD s A 4 0 1) 1 1 = true := by
  intro s A
  kernel_rfl
theorem rD4_2_1_4 : ∀ s A, statesM (gzD s A 4 2 1) 4 4 = true := by
  intro s A
  kernel_rfl
end Go.Ev
