/- Passes of the loop, stretches of each state. -/
import Derived.Test.YtaimebepiomgcaaGreatDoorSt
namespace Go.Ev
open Go.Proofs
set_option maxRecDepth 1000000
theorem r11_26 : ∀ s A, gzX s A 11 26 35 = true := by
  intro s A
  kernel_rfl
theorem r29_26 : ∀ s A, gzX s A 29 26 35 = true := by
  intro s A
  kernel_rfl
theorem r33_0 : ∀ s A, gzX s A 33 0 26 = true := by
  intro s A
  kernel_rfl
theorem r37_0 : ∀ s A, gzX s A 37 0 26 = true := by
  intro s A
  kernel_rfl
theorem r45_26 : ∀ s A, gzX s A 45 26 35 = true := by
  intro s A
  kernel_rfl
theorem r49_0 : ∀ s A, gzX s A 49 0 26 = true := by
  intro s A
  kernel_rfl
theorem r61_0 : ∀ s A, gzX s A 61 0 26 = true := by
  intro s A
  kernel_rfl
theorem r65_26 : ∀ s A, gzX s A 65 26 35 = true := by
  intro s A
  kernel_rfl
theorem r73_26 : ∀ s A, gzX s A 73 26 35 = true := by
  intro s A
  kernel_rfl
theorem r85_0 : ∀ s A, gzX s A 85 0 26 = true := by
  intro s A
  kernel_rfl
theorem r93_26 : ∀ s A, gzX s A 93 26 35 = true := by
  intro s A
  kernel_rfl
theorem r105_0 : ∀ s A, gzX s A 105 0 26 = true := by
  intro s A
  kernel_rfl
theorem r113_26 : ∀ s A, gzX s A 113 26 35 = true := by
  intro s A
  kernel_rfl
end Go.Ev
