/- Passes of the loops, stretches of states. -/
import Derived.Test.YtilghajadoibgaaGreatDoorSt
namespace Go.Ev
open Go.Proofs
set_option maxRecDepth 1000000
theorem rA : ∀ s A, statesM (gzA s A) 0 9 = true := by
  intro s A
  kernel_rfl
theorem rB3_3_12 : ∀ s A, statesM (gzB s A 3 3) 12 4 = true := by
  intro s A
  kernel_rfl
theorem rB4_2_1 : ∀ s A, statesM (gzB s A 4 2) 1 7 = true := by
  intro s A
  kernel_rfl
theorem rB6_6_74 : ∀ s A, statesM (gzB s A 6 6) 74 8 = true := by
  intro s A
  kernel_rfl
theorem rB6_6_90 : ∀ s A, statesM (gzB s A 6 6) 90 8 = true := by
  intro s A
  kernel_rfl
theorem rB7_7_217 : ∀ s A, statesM (gzB s A 7 7) 217 8 = true := by
  intro s A
  kernel_rfl
theorem rB8_5_47 : ∀ s A, statesM (gzB s A 8 5) 47 9 = true := by
  intro s A
  kernel_rfl
theorem rB8_7_65 : ∀ s A, statesM (gzB s A 8 7) 65 9 = true := by
  intro s A
  kernel_rfl
theorem rB8_7_227 : ∀ s A, statesM (gzB s A 8 7) 227 9 = true := by
  intro s A
  kernel_rfl
theorem rB8_8_166 : ∀ s A, statesM (gzB s A 8 8) 166 7 = true := by
  intro s A
  kernel_rfl
theorem rD0_6_1_93 : ∀ s A, statesM (gzD s A 0 6 1) 93 29 = true := by
  intro s A
  kernel_rfl
theorem rD1_7_1_128 : ∀ s A, statesM (gzD s A 1 7 1) 128 29 = true := by
  intro s A
  kernel_rfl
theorem rD3_2_1_4 : ∀ s A, statesM (gzD s A 3 2 1) 4 4 = true := by
  intro s A
  kernel_rfl
theorem rD6_1_1_2 : ∀ s A, statesM (gzD s A 6 1 1) 2 2 = true := by
  intro s A
  kernel_rfl
end Go.Ev
