/- Passes of the loops, stretches of states. -/
import Derived.Test.YtilghajadoibgaaGreatDoorSt
namespace Go.Ev
open Go.Proofs
set_option maxRecDepth 1000000
theorem rB4_1_1 : ∀ s A, statesM (gzB s A 4 1) 1 3 = true := by
  intro s A
  kernel_rfl
theorem rB6_5_56 : ∀ s A, statesM (gzB s A 6 5) 56 8 = true := by
  intro s A
  kernel_rfl
theorem rB7_5_20 : ∀ s A, statesM (gzB s A 7 5) 20 9 = true := by
  intro s A
  kernel_rfl
theorem rB7_5_29 : ∀ s A, statesM (gzB s A 7 5) 29 9 = true := by
  intro s A
  kernel_rfl
theorem rB7_7_49 : ∀ s A, statesM (gzB s A 7 7) 49 9 = true := by
  intro s A
  kernel_rfl
theorem rB8_6_119 : ∀ s A, statesM (gzB s A 8 6) 119 9 = true := by
  intro s A
  kernel_rfl
theorem rB8_8_124 : ∀ s A, statesM (gzB s A 8 8) 124 8 = true := by
  intro s A
  kernel_rfl
theorem rB8_8_180 : ∀ s A, statesM (gzB s A 8 8) 180 8 = true := by
  intro s A
  kernel_rfl
theorem rB8_8_304 : ∀ s A, statesM (gzB s A 8 8) 304 6 = true := by
  intro s A
  kernel_rfl
theorem rB8_8_342 : ∀ s A, statesM (gzB s A 8 8) 342 7 = true := by
  intro s A
  kernel_rfl
theorem rD0_7_1_128 : ∀ s A, statesM (gzD s A 0 7 1) 128 29 = true := by
  intro s A
  kernel_rfl
theorem rD3_5_1_61 : ∀ s A, statesM (gzD s A 3 5 1) 61 3 = true := by
  intro s A
  kernel_rfl
end Go.Ev
