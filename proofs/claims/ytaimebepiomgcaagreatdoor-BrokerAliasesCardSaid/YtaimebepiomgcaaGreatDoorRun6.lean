/- Passes of the loop, stretches of each state. -/
import Derived.Test.YtaimebepiomgcaaGreatDoorSt
namespace Go.Ev
open Go.Proofs
set_option maxRecDepth 1000000
theorem r6_26 : ∀ s A, gzX s A 6 26 35 = true := by
  intro s A
  kernel_rfl
theorem r12_0 : ∀ s A, gzX s A 12 0 26 = true := by
  intro s A
  kernel_rfl
theorem r16_0 : ∀ s A, gzX s A 16 0 26 = true := by
  intro s A
  kernel_rfl
theorem r24_0 : ∀ s A, gzX s A 24 0 26 = true := by
  intro s A
  kernel_rfl
theorem r40_0 : ∀ s A, gzX s A 40 0 26 = true := by
  intro s A
  kernel_rfl
theorem r42_26 : ∀ s A, gzX s A 42 26 35 = true := by
  intro s A
  kernel_rfl
theorem r58_26 : ∀ s A, gzX s A 58 26 35 = true := by
  intro s A
  kernel_rfl
theorem r70_26 : ∀ s A, gzX s A 70 26 35 = true := by
  intro s A
  kernel_rfl
theorem r88_0 : ∀ s A, gzX s A 88 0 26 = true := by
  intro s A
  kernel_rfl
theorem r90_26 : ∀ s A, gzX s A 90 26 35 = true := by
  intro s A
  kernel_rfl
theorem r108_0 : ∀ s A, gzX s A 108 0 26 = true := by
  intro s A
  kernel_rfl
theorem r110_26 : ∀ s A, gzX s A 110 26 35 = true := by
  intro s A
  kernel_rfl
theorem r124_0 : ∀ s A, gzX s A 124 0 26 = true := by
  intro s A
  kernel_rfl
end Go.Ev
