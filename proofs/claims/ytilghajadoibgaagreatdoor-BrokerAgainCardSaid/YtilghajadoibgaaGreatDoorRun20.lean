/- Passes of the loops, stretches of states. -/
import Derived.Test.YtilghajadoibgaaGreatDoorSt
namespace Go.Ev
open Go.Proofs
set_option maxRecDepth 1000000
theorem rB2_0_1 : ∀ s A, statesM (gzB s A 2 0) 1 1 = true := by
  intro s A
  kernel_rfl
theorem rB6_1_1 : ∀ s A, statesM (gzB s A 6 1) 1 3 = true := by
  intro s A
  kernel_rfl
theorem rB6_5_1 : ∀ s A, statesM (gzB s A 6 5) 1 10 = true := by
  intro s A
  kernel_rfl
theorem rB8_4_20 : ∀ s A, statesM (gzB s A 8 4) 20 9 = true := by
  intro s A
  kernel_rfl
theorem rB8_5_29 : ∀ s A, statesM (gzB s A 8 5) 29 9 = true := by
  intro s A
  kernel_rfl
theorem rB8_5_56 : ∀ s A, statesM (gzB s A 8 5) 56 8 = true := by
  intro s A
  kernel_rfl
theorem rB8_6_92 : ∀ s A, statesM (gzB s A 8 6) 92 9 = true := by
  intro s A
  kernel_rfl
theorem rB8_8_1 : ∀ s A, statesM (gzB s A 8 8) 1 11 = true := by
  intro s A
  kernel_rfl
theorem rB8_8_58 : ∀ s A, statesM (gzB s A 8 8) 58 9 = true := by
  intro s A
  kernel_rfl
theorem rB8_8_329 : ∀ s A, statesM (gzB s A 8 8) 329 7 = true := by
  intro s A
  kernel_rfl
theorem rB8_8_391 : ∀ s A, statesM (gzB s A 8 8) 391 6 = true := by
  intro s A
  kernel_rfl
theorem rB8_8_424 : ∀ s A, statesM (gzB s A 8 8) 424 7 = true := by
  intro s A
  kernel_rfl
end Go.Ev
