/- Passes of the loop, stretches of each state. -/
import Derived.Test.YtaimebepiomgcaaGreatDoorSt
namespace Go.Ev
open Go.Proofs
set_option maxRecDepth 1000000
theorem r9_0 : ∀ s A, gzX s A 9 0 26 = true := by
  intro s A
  kernel_rfl
theorem r21_0 : ∀ s A, gzX s A 21 0 26 = true := by
  intro s A
  kernel_rfl
theorem r25_26 : ∀ s A, gzX s A 25 26 35 = true := by
  intro s A
  kernel_rfl
theorem r29_0 : ∀ s A, gzX s A 29 0 26 = true := by
  intro s A
  kernel_rfl
theorem r39_26 : ∀ s A, gzX s A 39 26 35 = true := by
  intro s A
  kernel_rfl
theorem r57_26 : ∀ s A, gzX s A 57 26 35 = true := by
  intro s A
  kernel_rfl
theorem r73_0 : ∀ s A, gzX s A 73 0 26 = true := by
  intro s A
  kernel_rfl
theorem r87_26 : ∀ s A, gzX s A 87 26 35 = true := by
  intro s A
  kernel_rfl
theorem r93_0 : ∀ s A, gzX s A 93 0 26 = true := by
  intro s A
  kernel_rfl
theorem r107_26 : ∀ s A, gzX s A 107 26 35 = true := by
  intro s A
  kernel_rfl
theorem r113_0 : ∀ s A, gzX s A 113 0 26 = true := by
  intro s A
  kernel_rfl
theorem r125_26 : ∀ s A, gzX s A 125 26 35 = true := by
  intro s A
  kernel_rfl
theorem r129_0 : ∀ s A, gzX s A 129 0 26 = true := by
  intro s A
  kernel_rfl
end Go.Ev
