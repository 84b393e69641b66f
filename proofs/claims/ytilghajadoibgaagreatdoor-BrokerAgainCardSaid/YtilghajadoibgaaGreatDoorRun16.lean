/- Passes of the loops, stretches of states. -/
import Derived.Test.YtilghajadoibgaaGreatDoorSt
namespace Go.Ev
open Go.Proofs
set_option maxRecDepth 1000000
theorem rB3_1_1 : ∀ s A, statesM (gzB s A 3 1) 1 3 = true := by
  intro s A
  kernel_rfl
theorem rB7_4_1 : ∀ s A, statesM (gzB s A 7 4) 1 10 = true := by
  intro s A
  kernel_rfl
theorem rB7_6_47 : ∀ s A, statesM (gzB s A 7 6) 47 9 = true := by
  intro s A
  kernel_rfl
theorem rB8_8_115 : ∀ s A, statesM (gzB s A 8 8) 115 9 = true := by
  intro s A
  kernel_rfl
theorem rB8_8_241 : ∀ s A, statesM (gzB s A 8 8) 241 8 = true := by
  intro s A
  kernel_rfl
theorem rB8_8_385 : ∀ s A, statesM (gzB s A 8 8) 385 6 = true := by
  intro s A
  kernel_rfl
theorem rB8_8_460 : ∀ s A, statesM (gzB s A 8 8) 460 7 = true := by
  intro s A
  kernel_rfl
theorem rB8_8_467 : ∀ s A, statesM (gzB s A 8 8) 467 7 = true := by
  intro s A
  kernel_rfl
theorem rB8_8_505 : ∀ s A, statesM (gzB s A 8 8) 505 7 = true := by
  intro s A
  kernel_rfl
theorem rD0_2_1_4 : ∀ s A, statesM (gzD s A 0 2 1) 4 4 = true := by
  intro s A
  kernel_rfl
theorem rD0_5_1_32 : ∀ s A, statesM (gzD s A 0 5 1) 32 29 = true := by
  intro s A
  kernel_rfl
theorem rD1_7_1_215 : ∀ s A, statesM (gzD s A 1 7 1) 215 28 = true := by
  intro s A
  kernel_rfl
theorem rD3_1_1_2 : ∀ s A, statesM (gzD s A 3 1 1) 2 2 = true := by
  intro s A
  kernel_rfl
end Go.Ev
