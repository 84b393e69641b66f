/- Passes of the loop, stretches of each state. -/
import Derived.Test.YtaimebepiomgcaaGreatDoorSt
namespace Go.Ev
open Go.Proofs
set_option maxRecDepth 1000000
theorem r0_26 : ∀ s A, gzX s A 0 26 35 = true := by
  intro s A
  kernel_rfl
theorem r10_0 : ∀ s A, gzX s A 10 0 26 = true := by
  intro s A
  kernel_rfl
theorem r14_0 : ∀ s A, gzX s A 14 0 26 = true := by
  intro s A
  kernel_rfl
theorem r22_0 : ∀ s A, gzX s A 22 0 26 = true := by
  intro s A
  kernel_rfl
theorem r38_0 : ∀ s A, gzX s A 38 0 26 = true := by
  intro s A
  kernel_rfl
theorem r40_26 : ∀ s A, gzX s A 40 26 35 = true := by
  intro s A
  kernel_rfl
theorem r62_26 : ∀ s A, gzX s A 62 26 35 = true := by
  intro s A
  kernel_rfl
theorem r86_0 : ∀ s A, gzX s A 86 0 26 = true := by
  intro s A
  kernel_rfl
theorem r88_26 : ∀ s A, gzX s A 88 26 35 = true := by
  intro s A
  kernel_rfl
theorem r106_0 : ∀ s A, gzX s A 106 0 26 = true := by
  intro s A
  kernel_rfl
theorem r108_26 : ∀ s A, gzX s A 108 26 35 = true := by
  intro s A
  kernel_rfl
theorem r122_0 : ∀ s A, gzX s A 122 0 26 = true := by
  intro s A
  kernel_rfl
theorem r128_26 : ∀ s A, gzX s A 128 26 35 = true := by
  intro s A
  kernel_rfl
end Go.Ev
