/- Passes of the loop, stretches of each state. -/
import Derived.Test.YtaimebepiomgcaaGreatDoorSt
namespace Go.Ev
open Go.Proofs
set_option maxRecDepth 1000000
theorem r7_26 : ∀ s A, gzX s A 7 26 35 = true := by
  intro s A
  kernel_rfl
theorem r13_0 : ∀ s A, gzX s A 13 0 26 = true := by
  intro s A
  kernel_rfl
theorem r17_0 : ∀ s A, gzX s A 17 0 26 = true := by
  intro s A
  kernel_rfl
theorem r25_0 : ∀ s A, gzX s A 25 0 26 = true := by
  intro s A
  kernel_rfl
theorem r41_0 : ∀ s A, gzX s A 41 0 26 = true := by
  intro s A
  kernel_rfl
theorem r43_26 : ∀ s A, gzX s A 43 26 35 = true := by
  intro s A
  kernel_rfl
theorem r59_26 : ∀ s A, gzX s A 59 26 35 = true := by
  intro s A
  kernel_rfl
theorem r71_26 : ∀ s A, gzX s A 71 26 35 = true := by
  intro s A
  kernel_rfl
theorem r89_0 : ∀ s A, gzX s A 89 0 26 = true := by
  intro s A
  kernel_rfl
theorem r91_26 : ∀ s A, gzX s A 91 26 35 = true := by
  intro s A
  kernel_rfl
theorem r109_0 : ∀ s A, gzX s A 109 0 26 = true := by
  intro s A
  kernel_rfl
theorem r111_26 : ∀ s A, gzX s A 111 26 35 = true := by
  intro s A
  kernel_rfl
theorem r125_0 : ∀ s A, gzX s A 125 0 26 = true := by
  intro s A
  kernel_rfl
end Go.Ev
