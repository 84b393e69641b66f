/- Passes of the loops, stretches of states. -/
import Derived.Test.YtilghajadoibgaaGreatDoorSt
namespace Go.Ev
open Go.Proofs
set_option maxRecDepth 1000000
theorem rB1_1_1 : ∀ s A, statesM (gzB s A 1 1) 1 3 = true := by
  intro s A
  kernel_rfl
theorem rB5_2_1 : ∀ s A, statesM (gzB s A 5 2) 1 7 = true := by
  intro s A
  kernel_rfl
theorem rB5_4_20 : ∀ s A, statesM (gzB s A 5 4) 20 9 = true := by
  intro s A
  kernel_rfl
theorem rB5_4_29 : ∀ s A, statesM (gzB s A 5 4) 29 3 = true := by
  intro s A
  kernel_rfl
theorem rB6_6_12 : ∀ s A, statesM (gzB s A 6 6) 12 10 = true := by
  intro s A
  kernel_rfl
theorem rB7_6_101 : ∀ s A, statesM (gzB s A 7 6) 101 9 = true := by
  intro s A
  kernel_rfl
theorem rB7_7_90 : ∀ s A, statesM (gzB s A 7 7) 90 8 = true := by
  intro s A
  kernel_rfl
theorem rB8_7_164 : ∀ s A, statesM (gzB s A 8 7) 164 9 = true := by
  intro s A
  kernel_rfl
theorem rB8_8_98 : ∀ s A, statesM (gzB s A 8 8) 98 8 = true := by
  intro s A
  kernel_rfl
theorem rB8_8_106 : ∀ s A, statesM (gzB s A 8 8) 106 9 = true := by
  intro s A
  kernel_rfl
theorem rB8_8_363 : ∀ s A, statesM (gzB s A 8 8) 363 7 = true := by
  intro s A
  kernel_rfl
theorem rD0_8_1_458 : ∀ s A, statesM (gzD s A 0 8 1) 458 28 = true := by
  intro s A
  kernel_rfl
end Go.Ev
