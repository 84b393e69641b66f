/- Passes of the loop, stretches of each state. -/
import Derived.Test.YtaimebepiomgcaaGreatDoorSt
namespace Go.Ev
open Go.Proofs
set_option maxRecDepth 1000000
theorem r3_26 : ∀ s A, gzX s A 3 26 35 = true := by
  intro s A
  kernel_rfl
theorem r20_26 : ∀ s A, gzX s A 20 26 35 = true := by
  intro s A
  kernel_rfl
theorem r30_0 : ∀ s A, gzX s A 30 0 26 = true := by
  intro s A
  kernel_rfl
theorem r34_0 : ∀ s A, gzX s A 34 0 26 = true := by
  intro s A
  kernel_rfl
theorem r46_0 : ∀ s A, gzX s A 46 0 26 = true := by
  intro s A
  kernel_rfl
theorem r52_26 : ∀ s A, gzX s A 52 26 35 = true := by
  intro s A
  kernel_rfl
theorem r58_0 : ∀ s A, gzX s A 58 0 26 = true := by
  intro s A
  kernel_rfl
theorem r68_26 : ∀ s A, gzX s A 68 26 35 = true := by
  intro s A
  kernel_rfl
theorem r80_26 : ∀ s A, gzX s A 80 26 35 = true := by
  intro s A
  kernel_rfl
theorem r82_0 : ∀ s A, gzX s A 82 0 26 = true := by
  intro s A
  kernel_rfl
theorem r100_26 : ∀ s A, gzX s A 100 26 35 = true := by
  intro s A
  kernel_rfl
theorem r102_0 : ∀ s A, gzX s A 102 0 26 = true := by
  intro s A
  kernel_rfl
theorem r120_26 : ∀ s A, gzX s A 120 26 35 = true := by
  intro s A
  kernel_rfl
end Go.Ev
