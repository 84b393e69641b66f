/- Passes of the loops, stretches of states. -/
import Derived.Test.YtilghajadoibgaaGreatDoorSt
namespace Go.Ev
open Go.Proofs
set_option maxRecDepth 1000000
theorem rB4_4_1 : ∀ s A, statesM (gzB s A 4 4) 1 11 = true := by
  intro s A
  kernel_rfl
theorem rB6_5_11 : ∀ s A, statesM (gzB s A 6 5) 11 9 = true := by
  intro s A
  kernel_rfl
theorem rB7_3_11 : ∀ s A, statesM (gzB s A 7 3) 11 5 = true := by
  intro s A
  kernel_rfl
theorem rB7_6_119 : ∀ s A, statesM (gzB s A 7 6) 119 9 = true := by
  intro s A
  kernel_rfl
theorem rB7_7_106 : ∀ s A, statesM (gzB s A 7 7) 106 9 = true := by
  intro s A
  kernel_rfl
theorem rB7_7_195 : ∀ s A, statesM (gzB s A 7 7) 195 7 = true := by
  intro s A
  kernel_rfl
theorem rB8_7_1 : ∀ s A, statesM (gzB s A 8 7) 1 10 = true := by
  intro s A
  kernel_rfl
theorem rB8_7_182 : ∀ s A, statesM (gzB s A 8 7) 182 9 = true := by
  intro s A
  kernel_rfl
theorem rB8_8_40 : ∀ s A, statesM (gzB s A 8 8) 40 9 = true := by
  intro s A
  kernel_rfl
theorem rB8_8_370 : ∀ s A, statesM (gzB s A 8 8) 370 7 = true := by
  intro s A
  kernel_rfl
theorem rD0_5_1_61 : ∀ s A, statesM (gzD s A 0 5 1) 61 3 = true := by
  intro s A
  kernel_rfl
theorem rD1_1_1_2 : ∀ s A, statesM (gzD s A 1 1 1) 2 2 = true := by
  intro s A
  kernel_rfl
theorem rD3_4_1_16 : ∀ s A, statesM (gzD s A 3 4 1) 16 16 = true := by
  intro s A
  kernel_rfl
end Go.Ev
