/- Passes of the loops, stretches of states. -/
import Derived.Test.YtilghajadoibgaaGreatDoorSt
namespace Go.Ev
open Go.Proofs
set_option maxRecDepth 1000000
theorem rB5_5_1 : ∀ s A, statesM (gzB s A 5 5) 1 11 = true := by
  intro s A
  kernel_rfl
theorem rB5_5_32 : ∀ s A, statesM (gzB s A 5 5) 32 8 = true := by
  intro s A
  kernel_rfl
theorem rB7_5_11 : ∀ s A, statesM (gzB s A 7 5) 11 9 = true := by
  intro s A
  kernel_rfl
theorem rB7_7_12 : ∀ s A, statesM (gzB s A 7 7) 12 10 = true := by
  intro s A
  kernel_rfl
theorem rB8_2_1 : ∀ s A, statesM (gzB s A 8 2) 1 7 = true := by
  intro s A
  kernel_rfl
theorem rB8_4_29 : ∀ s A, statesM (gzB s A 8 4) 29 3 = true := by
  intro s A
  kernel_rfl
theorem rB8_6_65 : ∀ s A, statesM (gzB s A 8 6) 65 9 = true := by
  intro s A
  kernel_rfl
theorem rB8_7_191 : ∀ s A, statesM (gzB s A 8 7) 191 9 = true := by
  intro s A
  kernel_rfl
theorem rB8_8_195 : ∀ s A, statesM (gzB s A 8 8) 195 7 = true := by
  intro s A
  kernel_rfl
theorem rD0_8_1_343 : ∀ s A, statesM (gzD s A 0 8 1) 343 29 = true := by
  intro s A
  kernel_rfl
theorem rD0_8_1_401 : ∀ s A, statesM (gzD s A 0 8 1) 401 29 = true := by
  intro s A
  kernel_rfl
theorem rD1_6_1_122 : ∀ s A, statesM (gzD s A 1 6 1) 122 6 = true := by
  intro s A
  kernel_rfl
theorem rD8_0_1_1 : ∀ s A, statesM (gzD s A 8 0 1) 1 1 = true := by
  intro s A
  kernel_rfl
end Go.Ev
