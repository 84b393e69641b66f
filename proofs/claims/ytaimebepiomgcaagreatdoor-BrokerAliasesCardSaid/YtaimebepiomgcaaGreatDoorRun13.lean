/- Passes of the loop, stretches of each state. -/
import Derived.Test.YtaimebepiomgcaaGreatDoorSt
namespace Go.Ev
open Go.Proofs
set_option maxRecDepth 1000000
theorem r5_0 : ∀ s A, gzX s A 5 0 26 = true := by
  intro s A
  kernel_rfl
theorem r23_26 : ∀ s A, gzX s A 23 26 35 = true := by
  intro s A
  kernel_rfl
theorem r35_26 : ∀ s A, gzX s A 35 26 35 = true := by
  intro s A
  kernel_rfl
theorem r43_0 : ∀ s A, gzX s A 43 0 26 = true := by
  intro s A
  kernel_rfl
theorem r55_0 : ∀ s A, gzX s A 55 0 26 = true := by
  intro s A
  kernel_rfl
theorem r55_26 : ∀ s A, gzX s A 55 26 35 = true := by
  intro s A
  kernel_rfl
theorem r67_0 : ∀ s A, gzX s A 67 0 26 = true := by
  intro s A
  kernel_rfl
theorem r75_0 : ∀ s A, gzX s A 75 0 26 = true := by
  intro s A
  kernel_rfl
theorem r83_26 : ∀ s A, gzX s A 83 26 35 = true := by
  intro s A
  kernel_rfl
theorem r95_0 : ∀ s A, gzX s A 95 0 26 = true := by
  intro s A
  kernel_rfl
theorem r103_26 : ∀ s A, gzX s A 103 26 35 = true := by
  intro s A
  kernel_rfl
theorem r115_0 : ∀ s A, gzX s A 115 0 26 = true := by
  intro s A
  kernel_rfl
theorem r123_26 : ∀ s A, gzX s A 123 26 35 = true := by
  intro s A
  kernel_rfl
end Go.Ev
