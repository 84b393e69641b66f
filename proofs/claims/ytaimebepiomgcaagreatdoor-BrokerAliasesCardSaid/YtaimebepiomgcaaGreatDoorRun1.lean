/- Passes of the loop, stretches of each state. -/
import Derived.Test.YtaimebepiomgcaaGreatDoorSt
namespace Go.Ev
open Go.Proofs
set_option maxRecDepth 1000000
theorem r2_0 : ∀ s A, gzX s A 2 0 26 = true := by
  intro s A
  kernel_rfl
theorem r13_26 : ∀ s A, gzX s A 13 26 35 = true := by
  intro s A
  kernel_rfl
theorem r15_26 : ∀ s A, gzX s A 15 26 35 = true := by
  intro s A
  kernel_rfl
theorem r31_26 : ∀ s A, gzX s A 31 26 35 = true := by
  intro s A
  kernel_rfl
theorem r47_26 : ∀ s A, gzX s A 47 26 35 = true := by
  intro s A
  kernel_rfl
theorem r51_0 : ∀ s A, gzX s A 51 0 26 = true := by
  intro s A
  kernel_rfl
theorem r63_0 : ∀ s A, gzX s A 63 0 26 = true := by
  intro s A
  kernel_rfl
theorem r75_26 : ∀ s A, gzX s A 75 26 35 = true := by
  intro s A
  kernel_rfl
theorem r79_0 : ∀ s A, gzX s A 79 0 26 = true := by
  intro s A
  kernel_rfl
theorem r95_26 : ∀ s A, gzX s A 95 26 35 = true := by
  intro s A
  kernel_rfl
theorem r99_0 : ∀ s A, gzX s A 99 0 26 = true := by
  intro s A
  kernel_rfl
theorem r115_26 : ∀ s A, gzX s A 115 26 35 = true := by
  intro s A
  kernel_rfl
theorem r119_0 : ∀ s A, gzX s A 119 0 26 = true := by
  intro s A
  kernel_rfl
end Go.Ev
