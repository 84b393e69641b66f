/- Passes of the loops, stretches of states. -/
import Derived.Test.YtilghajadoibgaaGreatDoorSt
namespace Go.Ev
open Go.Proofs
set_option maxRecDepth 1000000
theorem rB2_1_1 : ∀ s A, statesM (gzB s A 2 1) 1 3 = true := by
  intro s A
  kernel_rfl
theorem rB5_5_12 : ∀ s A, statesM (gzB s A 5 5) 12 10 = true := by
  intro s A
  kernel_rfl
theorem rB6_5_20 : ∀ s A, statesM (gzB s A 6 5) 20 9 = true := by
  intro s A
  kernel_rfl
theorem rB7_6_92 : ∀ s A, statesM (gzB s A 7 6) 92 9 = true := by
  intro s A
  kernel_rfl
theorem rB7_7_152 : ∀ s A, statesM (gzB s A 7 7) 152 7 = true := by
  intro s A
  kernel_rfl
theorem rB7_7_249 : ∀ s A, statesM (gzB s A 7 7) 249 7 = true := by
  intro s A
  kernel_rfl
theorem rB8_7_155 : ∀ s A, statesM (gzB s A 8 7) 155 9 = true := by
  intro s A
  kernel_rfl
theorem rB8_8_82 : ∀ s A, statesM (gzB s A 8 8) 82 8 = true := by
  intro s A
  kernel_rfl
theorem rB8_8_225 : ∀ s A, statesM (gzB s A 8 8) 225 8 = true := by
  intro s A
  kernel_rfl
theorem rB8_8_233 : ∀ s A, statesM (gzB s A 8 8) 233 8 = true := by
  intro s A
  kernel_rfl
theorem rD0_8_1_314 : ∀ s A, statesM (gzD s A 0 8 1) 314 29 = true := by
  intro s A
  kernel_rfl
theorem rD2_6_1_122 : ∀ s A, statesM (gzD s A 2 6 1) 122 6 = true := by
  intro s A
  kernel_rfl
end Go.Ev
