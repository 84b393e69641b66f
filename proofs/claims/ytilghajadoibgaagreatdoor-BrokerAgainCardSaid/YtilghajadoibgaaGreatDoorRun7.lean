/- Passes of the loops, stretches of states. -/
import Derived.Test.YtilghajadoibgaaGreatDoorSt
namespace Go.Ev
open Go.Proofs
set_option maxRecDepth 1000000
theorem rB4_4_12 : ∀ s A, statesM (gzB s A 4 4) 12 10 = true := by
  intro s A
  kernel_rfl
theorem rB6_2_1 : ∀ s A, statesM (gzB s A 6 2) 1 7 = true := by
  intro s A
  kernel_rfl
theorem rB6_4_20 : ∀ s A, statesM (gzB s A 6 4) 20 9 = true := by
  intro s A
  kernel_rfl
theorem rB6_4_29 : ∀ s A, statesM (gzB s A 6 4) 29 3 = true := by
  intro s A
  kernel_rfl
theorem rB7_6_83 : ∀ s A, statesM (gzB s A 7 6) 83 9 = true := by
  intro s A
  kernel_rfl
theorem rB7_7_98 : ∀ s A, statesM (gzB s A 7 7) 98 8 = true := by
  intro s A
  kernel_rfl
theorem rB7_7_233 : ∀ s A, statesM (gzB s A 7 7) 233 8 = true := by
  intro s A
  kernel_rfl
theorem rB8_7_146 : ∀ s A, statesM (gzB s A 8 7) 146 9 = true := by
  intro s A
  kernel_rfl
theorem rB8_7_254 : ∀ s A, statesM (gzB s A 8 7) 254 2 = true := by
  intro s A
  kernel_rfl
theorem rB8_8_90 : ∀ s A, statesM (gzB s A 8 8) 90 8 = true := by
  intro s A
  kernel_rfl
theorem rB8_8_209 : ∀ s A, statesM (gzB s A 8 8) 209 8 = true := by
  intro s A
  kernel_rfl
theorem rD0_8_1_285 : ∀ s A, statesM (gzD s A 0 8 1) 285 29 = true := by
  intro s A
  kernel_rfl
end Go.Ev
