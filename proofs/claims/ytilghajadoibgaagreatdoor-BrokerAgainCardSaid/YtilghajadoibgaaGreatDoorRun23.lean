/- Passes of the loops, stretches of states. -/
import Derived.Test.YtilghajadoibgaaGreatDoorSt
namespace Go.Ev
open Go.Proofs
set_option maxRecDepth 1000000
theorem rB6_3_1 : ∀ s A, statesM (gzB s A 6 3) 1 10 = true := by
  intro s A
  kernel_rfl
theorem rB6_6_22 : ∀ s A, statesM (gzB s A 6 6) 22 10 = true := by
  intro s A
  kernel_rfl
theorem rB6_6_58 : ∀ s A, statesM (gzB s A 6 6) 58 9 = true := by
  intro s A
  kernel_rfl
theorem rB7_0_1 : ∀ s A, statesM (gzB s A 7 0) 1 1 = true := by
  intro s A
  kernel_rfl
theorem rB7_5_47 : ∀ s A, statesM (gzB s A 7 5) 47 9 = true := by
  intro s A
  kernel_rfl
theorem rB7_7_138 : ∀ s A, statesM (gzB s A 7 7) 138 7 = true := by
  intro s A
  kernel_rfl
theorem rB7_7_173 : ∀ s A, statesM (gzB s A 7 7) 173 7 = true := by
  intro s A
  kernel_rfl
theorem rB8_7_110 : ∀ s A, statesM (gzB s A 8 7) 110 9 = true := by
  intro s A
  kernel_rfl
theorem rB8_8_173 : ∀ s A, statesM (gzB s A 8 8) 173 7 = true := by
  intro s A
  kernel_rfl
theorem rB8_8_323 : ∀ s A, statesM (gzB s A 8 8) 323 6 = true := by
  intro s A
  kernel_rfl
theorem rB8_8_474 : ∀ s A, statesM (gzB s A 8 8) 474 8 = true := by
  intro s A
  kernel_rfl
theorem rD4_3_1_8 : ∀ s A, statesM (gzD s A 4 3 1) 8 8 = true := by
  intro s A
  kernel_rfl
end Go.Ev
