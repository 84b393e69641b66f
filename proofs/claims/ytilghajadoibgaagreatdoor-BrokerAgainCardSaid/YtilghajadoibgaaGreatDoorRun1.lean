/- Passes of the loops, stretches of states. -/
import Derived.Test.YtilghajadoibgaaGreatDoorSt
namespace Go.Ev
open Go.Proofs
set_option maxRecDepth 1000000
theorem rB5_3_11 : ∀ s A, statesM (gzB s A 5 3) 11 5 = true := by
  intro s A
  kernel_rfl
theorem rB5_4_11 : ∀ s A, statesM (gzB s A 5 4) 11 9 = true := by
  intro s A
  kernel_rfl
theorem rB7_7_74 : ∀ s A, statesM (gzB s A 7 7) 74 8 = true := by
  intro s A
  kernel_rfl
theorem rB8_6_11 : ∀ s A, statesM (gzB s A 8 6) 11 9 = true := by
  intro s A
  kernel_rfl
theorem rB8_6_38 : ∀ s A, statesM (gzB s A 8 6) 38 9 = true := by
  intro s A
  kernel_rfl
theorem rB8_7_74 : ∀ s A, statesM (gzB s A 8 7) 74 9 = true := by
  intro s A
  kernel_rfl
theorem rB8_7_236 : ∀ s A, statesM (gzB s A 8 7) 236 9 = true := by
  intro s A
  kernel_rfl
theorem rB8_8_217 : ∀ s A, statesM (gzB s A 8 8) 217 8 = true := by
  intro s A
  kernel_rfl
theorem rD0_0_1_1 : ∀ s A, statesM (gzD s A 0 0 1) 1 1 = true := by
  intro s A
  kernel_rfl
theorem rD1_4_1_16 : ∀ s A, statesM (gzD s A 1 4 1) 16 16 = true := by
  intro s A
  kernel_rfl
theorem rD1_6_1_93 : ∀ s A, statesM (gzD s A 1 6 1) 93 29 = true := by
  intro s A
  kernel_rfl
theorem rD1_7_1_157 : ∀ s A, statesM (gzD s A 1 7 1) 157 29 = true := by
  intro s A
  kernel_rfl
theorem rD5_0_1_1 : ∀ s A, statesM (gzD s A 5 0 1) 1 1 = true := by
  intro s A
  kernel_rfl
theorem rD5_2_1_4 : ∀ s A, statesM (gzD s A 5 2 1) 4 4 = true := by
  intro s A
  kernel_rfl
end Go.Ev
