/- Passes of the loops, stretches of states. -/
import Derived.Test.YtilghajadoibgaaGreatDoorSt
namespace Go.Ev
open Go.Proofs
set_option maxRecDepth 1000000
theorem rB6_0_1 : ∀ s A, statesM (gzB s A 6 0) 1 1 = true := by
  intro s A
  kernel_rfl
theorem rB6_5_47 : ∀ s A, statesM (gzB s A 6 5) 47 9 = true := by
  intro s A
  kernel_rfl
theorem rB7_7_1 : ∀ s A, statesM (gzB s A 7 7) 1 11 = true := by
  intro s A
  kernel_rfl
theorem rB7_7_188 : ∀ s A, statesM (gzB s A 7 7) 188 7 = true := by
  intro s A
  kernel_rfl
theorem rB7_7_225 : ∀ s A, statesM (gzB s A 7 7) 225 8 = true := by
  intro s A
  kernel_rfl
theorem rB8_6_83 : ∀ s A, statesM (gzB s A 8 6) 83 9 = true := by
  intro s A
  kernel_rfl
theorem rB8_7_209 : ∀ s A, statesM (gzB s A 8 7) 209 9 = true := by
  intro s A
  kernel_rfl
theorem rB8_8_274 : ∀ s A, statesM (gzB s A 8 8) 274 6 = true := by
  intro s A
  kernel_rfl
theorem rB8_8_317 : ∀ s A, statesM (gzB s A 8 8) 317 6 = true := by
  intro s A
  kernel_rfl
theorem rB8_8_489 : ∀ s A, statesM (gzB s A 8 8) 489 8 = true := by
  intro s A
  kernel_rfl
theorem rD0_8_1_256 : ∀ s A, statesM (gzD s A 0 8 1) 256 29 = true := by
  intro s A
  kernel_rfl
theorem rD3_3_1_8 : ∀ s A, statesM (gzD s A 3 3 1) 8 8 = true := by
  intro s A
  kernel_rfl
end Go.Ev
