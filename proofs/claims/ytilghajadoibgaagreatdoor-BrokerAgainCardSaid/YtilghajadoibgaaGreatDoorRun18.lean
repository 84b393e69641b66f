/- Passes of the loops, stretches of states. -/
import Derived.Test.YtilghajadoibgaaGreatDoorSt
namespace Go.Ev
open Go.Proofs
set_option maxRecDepth 1000000
theorem rB3_0_1 : ∀ s A, statesM (gzB s A 3 0) 1 1 = true := by
  intro s A
  kernel_rfl
theorem rB7_5_38 : ∀ s A, statesM (gzB s A 7 5) 38 9 = true := by
  intro s A
  kernel_rfl
theorem rB7_6_1 : ∀ s A, statesM (gzB s A 7 6) 1 10 = true := by
  intro s A
  kernel_rfl
theorem rB7_7_159 : ∀ s A, statesM (gzB s A 7 7) 159 7 = true := by
  intro s A
  kernel_rfl
theorem rB8_7_92 : ∀ s A, statesM (gzB s A 8 7) 92 9 = true := by
  intro s A
  kernel_rfl
theorem rB8_8_188 : ∀ s A, statesM (gzB s A 8 8) 188 7 = true := by
  intro s A
  kernel_rfl
theorem rB8_8_292 : ∀ s A, statesM (gzB s A 8 8) 292 6 = true := by
  intro s A
  kernel_rfl
theorem rB8_8_397 : ∀ s A, statesM (gzB s A 8 8) 397 6 = true := by
  intro s A
  kernel_rfl
theorem rB8_8_431 : ∀ s A, statesM (gzB s A 8 8) 431 7 = true := by
  intro s A
  kernel_rfl
theorem rB8_8_446 : ∀ s A, statesM (gzB s A 8 8) 446 7 = true := by
  intro s A
  kernel_rfl
theorem rD0_3_1_8 : ∀ s A, statesM (gzD s A 0 3 1) 8 8 = true := by
  intro s A
  kernel_rfl
theorem rD2_5_1_32 : ∀ s A, statesM (gzD s A 2 5 1) 32 29 = true := by
  intro s A
  kernel_rfl
end Go.Ev
