/- Passes of the loops, stretches of states. -/
import Derived.Test.YtilghajadoibgaaGreatDoorSt
namespace Go.Ev
open Go.Proofs
set_option maxRecDepth 1000000
theorem rB5_5_22 : ∀ s A, statesM (gzB s A 5 5) 22 10 = true := by
  intro s A
  kernel_rfl
theorem rB6_5_38 : ∀ s A, statesM (gzB s A 6 5) 38 9 = true := by
  intro s A
  kernel_rfl
theorem rB7_5_1 : ∀ s A, statesM (gzB s A 7 5) 1 10 = true := by
  intro s A
  kernel_rfl
theorem rB7_7_202 : ∀ s A, statesM (gzB s A 7 7) 202 7 = true := by
  intro s A
  kernel_rfl
theorem rB8_0_1 : ∀ s A, statesM (gzB s A 8 0) 1 1 = true := by
  intro s A
  kernel_rfl
theorem rB8_7_20 : ∀ s A, statesM (gzB s A 8 7) 20 9 = true := by
  intro s A
  kernel_rfl
theorem rB8_7_101 : ∀ s A, statesM (gzB s A 8 7) 101 9 = true := by
  intro s A
  kernel_rfl
theorem rB8_8_159 : ∀ s A, statesM (gzB s A 8 8) 159 7 = true := by
  intro s A
  kernel_rfl
theorem rB8_8_202 : ∀ s A, statesM (gzB s A 8 8) 202 7 = true := by
  intro s A
  kernel_rfl
theorem rD0_8_1_430 : ∀ s A, statesM (gzD s A 0 8 1) 430 28 = true := by
  intro s A
  kernel_rfl
theorem rD1_5_1_32 : ∀ s A, statesM (gzD s A 1 5 1) 32 29 = true := by
  intro s A
  kernel_rfl
theorem rD5_3_1_8 : ∀ s A, statesM (gzD s A 5 3 1) 8 8 = true := by
  intro s A
  kernel_rfl
end Go.Ev
