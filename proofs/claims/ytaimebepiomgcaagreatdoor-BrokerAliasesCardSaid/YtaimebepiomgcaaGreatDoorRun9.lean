/- Passes of the loop, stretches of each state. -/
import Derived.Test.YtaimebepiomgcaaGreatDoorSt
namespace Go.Ev
open Go.Proofs
set_option maxRecDepth 1000000
theorem r7_0 : ∀ s A, gzX s A 7 0 26 = true := by
  intro s A
  kernel_rfl
theorem r9_26 : ∀ s A, gzX s A 9 26 35 = true := by
  intro s A
  kernel_rfl
theorem r19_0 : ∀ s A, gzX s A 19 0 26 = true := by
  intro s A
  kernel_rfl
theorem r27_0 : ∀ s A, gzX s A 27 0 26 = true := by
  intro s A
  kernel_rfl
theorem r37_26 : ∀ s A, gzX s A 37 26 35 = true := by
  intro s A
  kernel_rfl
theorem r61_26 : ∀ s A, gzX s A 61 26 35 = true := by
  intro s A
  kernel_rfl
theorem r71_0 : ∀ s A, gzX s A 71 0 26 = true := by
  intro s A
  kernel_rfl
theorem r85_26 : ∀ s A, gzX s A 85 26 35 = true := by
  intro s A
  kernel_rfl
theorem r91_0 : ∀ s A, gzX s A 91 0 26 = true := by
  intro s A
  kernel_rfl
theorem r105_26 : ∀ s A, gzX s A 105 26 35 = true := by
  intro s A
  kernel_rfl
theorem r111_0 : ∀ s A, gzX s A 111 0 26 = true := by
  intro s A
  kernel_rfl
theorem r127_0 : ∀ s A, gzX s A 127 0 26 = true := by
  intro s A
  kernel_rfl
theorem r127_26 : ∀ s A, gzX s A 127 26 35 = true := by
  intro s A
  kernel_rfl
end Go.Ev
