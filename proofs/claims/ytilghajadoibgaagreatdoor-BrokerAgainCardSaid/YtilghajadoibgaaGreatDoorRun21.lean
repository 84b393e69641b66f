/- Passes of the loops, stretches of states. -/
import Derived.Test.YtilghajadoibgaaGreatDoorSt
namespace Go.Ev
open Go.Proofs
set_option maxRecDepth 1000000
theorem rB4_4_22 : ∀ s A, statesM (gzB s A 4 4) 22 10 = true := by
  intro s A
  kernel_rfl
theorem rB6_3_11 : ∀ s A, statesM (gzB s A 6 3) 11 5 = true := by
  intro s A
  kernel_rfl
theorem rB6_4_11 : ∀ s A, statesM (gzB s A 6 4) 11 9 = true := by
  intro s A
  kernel_rfl
theorem rB7_3_1 : ∀ s A, statesM (gzB s A 7 3) 1 10 = true := by
  intro s A
  kernel_rfl
theorem rB7_7_115 : ∀ s A, statesM (gzB s A 7 7) 115 9 = true := by
  intro s A
  kernel_rfl
theorem rB8_6_56 : ∀ s A, statesM (gzB s A 8 6) 56 9 = true := by
  intro s A
  kernel_rfl
theorem rB8_7_11 : ∀ s A, statesM (gzB s A 8 7) 11 9 = true := by
  intro s A
  kernel_rfl
theorem rB8_8_268 : ∀ s A, statesM (gzB s A 8 8) 268 6 = true := by
  intro s A
  kernel_rfl
theorem rB8_8_417 : ∀ s A, statesM (gzB s A 8 8) 417 7 = true := by
  intro s A
  kernel_rfl
theorem rD0_7_1_215 : ∀ s A, statesM (gzD s A 0 7 1) 215 28 = true := by
  intro s A
  kernel_rfl
theorem rD1_0_1_1 : ∀ s A, statesM (gzD s A 1 0 1) 1 1 = true := by
  intro s A
  kernel_rfl
theorem rD2_4_1_16 : ∀ s A, statesM (gzD s A 2 4 1) 16 16 = true := by
  intro s A
  kernel_rfl
theorem rD6_0_1_1 : ∀ s A, statesM (gzD s A 6 0 1) 1 1 = true := by
  intro s A
  kernel_rfl
theorem rD6_2_1_4 : ∀ s A, statesM (gzD s A 6 2 1) 4 4 = true := by
  intro s A
  kernel_rfl
end Go.Ev
