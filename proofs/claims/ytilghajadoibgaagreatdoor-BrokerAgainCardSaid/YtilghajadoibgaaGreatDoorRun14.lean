/- Passes of the loops, stretches of states. -/
import Derived.Test.YtilghajadoibgaaGreatDoorSt
namespace Go.Ev
open Go.Proofs
set_option maxRecDepth 1000000
theorem rB4_0_1 : ∀ s A, statesM (gzB s A 4 0) 1 1 = true := by
  intro s A
  kernel_rfl
theorem rB5_5_40 : ∀ s A, statesM (gzB s A 5 5) 40 9 = true := by
  intro s A
  kernel_rfl
theorem rB6_6_67 : ∀ s A, statesM (gzB s A 6 6) 67 7 = true := by
  intro s A
  kernel_rfl
theorem rB6_6_98 : ∀ s A, statesM (gzB s A 6 6) 98 8 = true := by
  intro s A
  kernel_rfl
theorem rB7_6_65 : ∀ s A, statesM (gzB s A 7 6) 65 9 = true := by
  intro s A
  kernel_rfl
theorem rB7_7_132 : ∀ s A, statesM (gzB s A 7 7) 132 6 = true := by
  intro s A
  kernel_rfl
theorem rB8_4_1 : ∀ s A, statesM (gzB s A 8 4) 1 10 = true := by
  intro s A
  kernel_rfl
theorem rB8_5_20 : ∀ s A, statesM (gzB s A 8 5) 20 9 = true := by
  intro s A
  kernel_rfl
theorem rB8_6_29 : ∀ s A, statesM (gzB s A 8 6) 29 9 = true := by
  intro s A
  kernel_rfl
theorem rB8_7_128 : ∀ s A, statesM (gzB s A 8 7) 128 9 = true := by
  intro s A
  kernel_rfl
theorem rD0_7_1_186 : ∀ s A, statesM (gzD s A 0 7 1) 186 29 = true := by
  intro s A
  kernel_rfl
theorem rD1_3_1_8 : ∀ s A, statesM (gzD s A 1 3 1) 8 8 = true := by
  intro s A
  kernel_rfl
end Go.Ev
