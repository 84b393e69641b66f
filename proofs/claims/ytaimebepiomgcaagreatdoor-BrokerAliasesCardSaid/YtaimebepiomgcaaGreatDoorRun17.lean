/- Passes of the loop, stretches of each state. -/
import Derived.Test.YtaimebepiomgcaaGreatDoorSt
namespace Go.Ev
open Go.Proofs
set_option maxRecDepth 1000000
theorem r4_26 : ∀ s A, gzX s A 4 26 35 = true := by
  intro s A
  kernel_rfl
theorem r21_26 : ∀ s A, gzX s A 21 26 35 = true := by
  intro s A
  kernel_rfl
theorem r31_0 : ∀ s A, gzX s A 31 0 26 = true := by
  intro s A
  kernel_rfl
theorem r35_0 : ∀ s A, gzX s A 35 0 26 = true := by
  intro s A
  kernel_rfl
theorem r47_0 : ∀ s A, gzX s A 47 0 26 = true := by
  intro s A
  kernel_rfl
theorem r53_26 : ∀ s A, gzX s A 53 26 35 = true := by
  intro s A
  kernel_rfl
theorem r59_0 : ∀ s A, gzX s A 59 0 26 = true := by
  intro s A
  kernel_rfl
theorem r69_26 : ∀ s A, gzX s A 69 26 35 = true := by
  intro s A
  kernel_rfl
theorem r81_26 : ∀ s A, gzX s A 81 26 35 = true := by
  intro s A
  kernel_rfl
theorem r83_0 : ∀ s A, gzX s A 83 0 26 = true := by
  intro s A
  kernel_rfl
theorem r101_26 : ∀ s A, gzX s A 101 26 35 = true := by
  intro s A
  kernel_rfl
theorem r103_0 : ∀ s A, gzX s A 103 0 26 = true := by
  intro s A
  kernel_rfl
theorem r121_26 : ∀ s A, gzX s A 121 26 35 = true := by
  intro s A
  kernel_rfl
end Go.Ev
