/- Passes of the loops, stretches of states. -/
import Derived.Test.YtilghajadoibgaaGreatDoorSt
namespace Go.Ev
open Go.Proofs
set_option maxRecDepth 1000000
theorem rB3_3_1 : ∀ s A, statesM (gzB s A 3 3) 1 11 = true := by
  intro s A
  kernel_rfl
theorem rB6_6_106 : ∀ s A, statesM (gzB s A 6 6) 106 9 = true := by
  intro s A
  kernel_rfl
theorem rB7_4_11 : ∀ s A, statesM (gzB s A 7 4) 11 9 = true := by
  intro s A
  kernel_rfl
theorem rB7_6_110 : ∀ s A, statesM (gzB s A 7 6) 110 9 = true := by
  intro s A
  kernel_rfl
theorem rB7_7_40 : ∀ s A, statesM (gzB s A 7 7) 40 9 = true := by
  intro s A
  kernel_rfl
theorem rB8_3_11 : ∀ s A, statesM (gzB s A 8 3) 11 5 = true := by
  intro s A
  kernel_rfl
theorem rB8_6_1 : ∀ s A, statesM (gzB s A 8 6) 1 10 = true := by
  intro s A
  kernel_rfl
theorem rB8_7_56 : ∀ s A, statesM (gzB s A 8 7) 56 9 = true := by
  intro s A
  kernel_rfl
theorem rB8_7_173 : ∀ s A, statesM (gzB s A 8 7) 173 9 = true := by
  intro s A
  kernel_rfl
theorem rB8_8_482 : ∀ s A, statesM (gzB s A 8 8) 482 7 = true := by
  intro s A
  kernel_rfl
theorem rD1_5_1_61 : ∀ s A, statesM (gzD s A 1 5 1) 61 3 = true := by
  intro s A
  kernel_rfl
theorem rD2_1_1_2 : ∀ s A, statesM (gzD s A 2 1 1) 2 2 = true := by
  intro s A
  kernel_rfl
theorem rD4_4_1_16 : ∀ s A, statesM (gzD s A 4 4 1) 16 16 = true := by
  intro s A
  kernel_rfl
end Go.Ev
