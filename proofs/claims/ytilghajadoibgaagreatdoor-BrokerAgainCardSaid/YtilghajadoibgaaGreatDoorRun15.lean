/- Passes of the loops, stretches of states. -/
import Derived.Test.YtilghajadoibgaaGreatDoorSt
namespace Go.Ev
open Go.Proofs
set_option maxRecDepth 1000000
theorem rB5_0_1 : ∀ s A, statesM (gzB s A 5 0) 1 1 = true := by
  intro s A
  kernel_rfl
theorem rB6_6_40 : ∀ s A, statesM (gzB s A 6 6) 40 9 = true := by
  intro s A
  kernel_rfl
theorem rB7_6_74 : ∀ s A, statesM (gzB s A 7 6) 74 9 = true := by
  intro s A
  kernel_rfl
theorem rB7_7_67 : ∀ s A, statesM (gzB s A 7 7) 67 7 = true := by
  intro s A
  kernel_rfl
theorem rB7_7_82 : ∀ s A, statesM (gzB s A 7 7) 82 8 = true := by
  intro s A
  kernel_rfl
theorem rB8_5_1 : ∀ s A, statesM (gzB s A 8 5) 1 10 = true := by
  intro s A
  kernel_rfl
theorem rB8_6_20 : ∀ s A, statesM (gzB s A 8 6) 20 9 = true := by
  intro s A
  kernel_rfl
theorem rB8_7_29 : ∀ s A, statesM (gzB s A 8 7) 29 9 = true := by
  intro s A
  kernel_rfl
theorem rB8_7_137 : ∀ s A, statesM (gzB s A 8 7) 137 9 = true := by
  intro s A
  kernel_rfl
theorem rB8_8_132 : ∀ s A, statesM (gzB s A 8 8) 132 6 = true := by
  intro s A
  kernel_rfl
theorem rD1_7_1_186 : ∀ s A, statesM (gzD s A 1 7 1) 186 29 = true := by
  intro s A
  kernel_rfl
theorem rD2_3_1_8 : ∀ s A, statesM (gzD s A 2 3 1) 8 8 = true := by
  intro s A
  kernel_rfl
end Go.Ev
