/- Passes of the loop, stretches of each state. -/
import Derived.Test.YtaimebepiomgcaaGreatDoorSt
namespace Go.Ev
open Go.Proofs
set_option maxRecDepth 1000000
theorem r5_26 : ∀ s A, gzX s A 5 26 35 = true := by
  intro s A
  kernel_rfl
theorem r11_0 : ∀ s A, gzX s A 11 0 26 = true := by
  intro s A
  kernel_rfl
theorem r15_0 : ∀ s A, gzX s A 15 0 26 = true := by
  intro s A
  kernel_rfl
theorem r23_0 : ∀ s A, gzX s A 23 0 26 = true := by
  intro s A
  kernel_rfl
theorem r39_0 : ∀ s A, gzX s A 39 0 26 = true := by
  intro s A
  kernel_rfl
theorem r41_26 : ∀ s A, gzX s A 41 26 35 = true := by
  intro s A
  kernel_rfl
theorem r63_26 : ∀ s A, gzX s A 63 26 35 = true := by
  intro s A
  kernel_rfl
theorem r87_0 : ∀ s A, gzX s A 87 0 26 = true := by
  intro s A
  kernel_rfl
theorem r89_26 : ∀ s A, gzX s A 89 26 35 = true := by
  intro s A
  kernel_rfl
theorem r107_0 : ∀ s A, gzX s A 107 0 26 = true := by
  intro s A
  kernel_rfl
theorem r109_26 : ∀ s A, gzX s A 109 26 35 = true := by
  intro s A
  kernel_rfl
theorem r123_0 : ∀ s A, gzX s A 123 0 26 = true := by
  intro s A
  kernel_rfl
theorem r129_26 : ∀ s A, gzX s A 129 26 35 = true := by
  intro s A
  kernel_rfl
end Go.Ev
