/- Passes of the loops, stretches of states. -/
import Derived.Test.YtilghajadoibgaaGreatDoorSt
namespace Go.Ev
open Go.Proofs
set_option maxRecDepth 1000000
theorem rB6_4_1 : ∀ s A, statesM (gzB s A 6 4) 1 10 = true := by
  intro s A
  kernel_rfl
theorem rB6_6_115 : ∀ s A, statesM (gzB s A 6 6) 115 9 = true := by
  intro s A
  kernel_rfl
theorem rB7_2_1 : ∀ s A, statesM (gzB s A 7 2) 1 7 = true := by
  intro s A
  kernel_rfl
theorem rB7_4_29 : ∀ s A, statesM (gzB s A 7 4) 29 3 = true := by
  intro s A
  kernel_rfl
theorem rB7_7_22 : ∀ s A, statesM (gzB s A 7 7) 22 10 = true := by
  intro s A
  kernel_rfl
theorem rB7_7_58 : ∀ s A, statesM (gzB s A 7 7) 58 9 = true := by
  intro s A
  kernel_rfl
theorem rB7_7_145 : ∀ s A, statesM (gzB s A 7 7) 145 7 = true := by
  intro s A
  kernel_rfl
theorem rB7_7_166 : ∀ s A, statesM (gzB s A 7 7) 166 7 = true := by
  intro s A
  kernel_rfl
theorem rB8_5_38 : ∀ s A, statesM (gzB s A 8 5) 38 9 = true := by
  intro s A
  kernel_rfl
theorem rB8_8_249 : ∀ s A, statesM (gzB s A 8 8) 249 8 = true := by
  intro s A
  kernel_rfl
theorem rD0_6_1_122 : ∀ s A, statesM (gzD s A 0 6 1) 122 6 = true := by
  intro s A
  kernel_rfl
theorem rD0_8_1_372 : ∀ s A, statesM (gzD s A 0 8 1) 372 29 = true := by
  intro s A
  kernel_rfl
theorem rD3_0_1_1 : ∀ s A, statesM (gzD s A 3 0 1) 1 1 = true := by
  intro s A
  kernel_rfl
end Go.Ev
