/- Passes of the loops, stretches of states. -/
import Derived.Test.YtilghajadoibgaaGreatDoorSt
namespace Go.Ev
open Go.Proofs
set_option maxRecDepth 1000000
theorem rB0_0_1 : ∀ s A, statesM (gzB s A 0 0) 1 1 = true := by
  intro s A
  kernel_rfl
theorem rB6_5_29 : ∀ s A, statesM (gzB s A 6 5) 29 9 = true := by
  intro s A
  kernel_rfl
theorem rB6_6_49 : ∀ s A, statesM (gzB s A 6 6) 49 9 = true := by
  intro s A
  kernel_rfl
theorem rB7_1_1 : ∀ s A, statesM (gzB s A 7 1) 1 3 = true := by
  intro s A
  kernel_rfl
theorem rB7_4_20 : ∀ s A, statesM (gzB s A 7 4) 20 9 = true := by
  intro s A
  kernel_rfl
theorem rB7_7_124 : ∀ s A, statesM (gzB s A 7 7) 124 8 = true := by
  intro s A
  kernel_rfl
theorem rB7_7_180 : ∀ s A, statesM (gzB s A 7 7) 180 8 = true := by
  intro s A
  kernel_rfl
theorem rB8_6_110 : ∀ s A, statesM (gzB s A 8 6) 110 9 = true := by
  intro s A
  kernel_rfl
theorem rB8_8_280 : ∀ s A, statesM (gzB s A 8 8) 280 6 = true := by
  intro s A
  kernel_rfl
theorem rB8_8_298 : ∀ s A, statesM (gzB s A 8 8) 298 6 = true := by
  intro s A
  kernel_rfl
theorem rB8_8_310 : ∀ s A, statesM (gzB s A 8 8) 310 7 = true := by
  intro s A
  kernel_rfl
theorem rD0_6_1_64 : ∀ s A, statesM (gzD s A 0 6 1) 64 29 = true := by
  intro s A
  kernel_rfl
theorem rD7_0_1_1 : ∀ s A, statesM (gzD s A 7 0 1) 1 1 = true := by
  intro s A
  kernel_rfl
end Go.Ev
