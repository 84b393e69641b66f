/- Passes of the loop, stretches of each state. -/
import Derived.Test.YtaimebepiomgcaaGreatDoorSt
namespace Go.Ev
open Go.Proofs
set_option maxRecDepth 1000000
theorem r4_0 : ∀ s A, gzX s A 4 0 26 = true := by
  intro s A
  kernel_rfl
theorem r17_26 : ∀ s A, gzX s A 17 26 35 = true := by
  intro s A
  kernel_rfl
theorem r27_26 : ∀ s A, gzX s A 27 26 35 = true := by
  intro s A
  kernel_rfl
theorem r33_26 : ∀ s A, gzX s A 33 26 35 = true := by
  intro s A
  kernel_rfl
theorem r49_26 : ∀ s A, gzX s A 49 26 35 = true := by
  intro s A
  kernel_rfl
theorem r53_0 : ∀ s A, gzX s A 53 0 26 = true := by
  intro s A
  kernel_rfl
theorem r65_0 : ∀ s A, gzX s A 65 0 26 = true := by
  intro s A
  kernel_rfl
theorem r77_26 : ∀ s A, gzX s A 77 26 35 = true := by
  intro s A
  kernel_rfl
theorem r81_0 : ∀ s A, gzX s A 81 0 26 = true := by
  intro s A
  kernel_rfl
theorem r97_26 : ∀ s A, gzX s A 97 26 35 = true := by
  intro s A
  kernel_rfl
theorem r101_0 : ∀ s A, gzX s A 101 0 26 = true := by
  intro s A
  kernel_rfl
theorem r117_26 : ∀ s A, gzX s A 117 26 35 = true := by
  intro s A
  kernel_rfl
theorem r121_0 : ∀ s A, gzX s A 121 0 26 = true := by
  intro s A
  kernel_rfl
end Go.Ev
