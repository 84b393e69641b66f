/- Passes of the loops, stretches of states. -/
import Derived.Test.YtilghajadoibgaaGreatDoorSt
namespace Go.Ev
open Go.Proofs
set_option maxRecDepth 1000000
theorem rB3_2_1 : ∀ s A, statesM (gzB s A 3 2) 1 7 = true := by
  intro s A
  kernel_rfl
theorem rB6_6_124 : ∀ s A, statesM (gzB s A 6 6) 124 4 = true := by
  intro s A
  kernel_rfl
theorem rB7_6_38 : ∀ s A, statesM (gzB s A 7 6) 38 9 = true := by
  intro s A
  kernel_rfl
theorem rB7_7_241 : ∀ s A, statesM (gzB s A 7 7) 241 8 = true := by
  intro s A
  kernel_rfl
theorem rB8_7_83 : ∀ s A, statesM (gzB s A 8 7) 83 9 = true := by
  intro s A
  kernel_rfl
theorem rB8_7_245 : ∀ s A, statesM (gzB s A 8 7) 245 9 = true := by
  intro s A
  kernel_rfl
theorem rB8_8_74 : ∀ s A, statesM (gzB s A 8 8) 74 8 = true := by
  intro s A
  kernel_rfl
theorem rB8_8_152 : ∀ s A, statesM (gzB s A 8 8) 152 7 = true := by
  intro s A
  kernel_rfl
theorem rB8_8_410 : ∀ s A, statesM (gzB s A 8 8) 410 7 = true := by
  intro s A
  kernel_rfl
theorem rD2_5_1_61 : ∀ s A, statesM (gzD s A 2 5 1) 61 3 = true := by
  intro s A
  kernel_rfl
theorem rD2_6_1_64 : ∀ s A, statesM (gzD s A 2 6 1) 64 29 = true := by
  intro s A
  kernel_rfl
theorem rD2_6_1_93 : ∀ s A, statesM (gzD s A 2 6 1) 93 29 = true := by
  intro s A
  kernel_rfl
theorem rD7_1_1_2 : ∀ s A, statesM (gzD s A 7 1 1) 2 2 = true := by
  intro s A
  kernel_rfl
end Go.Ev
