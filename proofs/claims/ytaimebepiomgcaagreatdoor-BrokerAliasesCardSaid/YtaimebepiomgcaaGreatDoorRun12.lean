/- Passes of the loop, stretches of each state. -/
import Derived.Test.YtaimebepiomgcaaGreatDoorSt
namespace Go.Ev
open Go.Proofs
set_option maxRecDepth 1000000
theorem r0_0 : ∀ s A, gzX s A 0 0 26 = true := by
  intro s A
  kernel_rfl
theorem r22_26 : ∀ s A, gzX s A 22 26 35 = true := by
  intro s A
  kernel_rfl
theorem r34_26 : ∀ s A, gzX s A 34 26 35 = true := by
  intro s A
  kernel_rfl
theorem r42_0 : ∀ s A, gzX s A 42 0 26 = true := by
  intro s A
  kernel_rfl
theorem r54_0 : ∀ s A, gzX s A 54 0 26 = true := by
  intro s A
  kernel_rfl
theorem r54_26 : ∀ s A, gzX s A 54 26 35 = true := by
  intro s A
  kernel_rfl
theorem r66_0 : ∀ s A, gzX s A 66 0 26 = true := by
  intro s A
  kernel_rfl
theorem r74_0 : ∀ s A, gzX s A 74 0 26 = true := by
  intro s A
  kernel_rfl
theorem r82_26 : ∀ s A, gzX s A 82 26 35 = true := by
  intro s A
  kernel_rfl
theorem r94_0 : ∀ s A, gzX s A 94 0 26 = true := by
  intro s A
  kernel_rfl
theorem r102_26 : ∀ s A, gzX s A 102 26 35 = true := by
  intro s A
  kernel_rfl
theorem r114_0 : ∀ s A, gzX s A 114 0 26 = true := by
  intro s A
  kernel_rfl
theorem r122_26 : ∀ s A, gzX s A 122 26 35 = true := by
  intro s A
  kernel_rfl
end Go.Ev
