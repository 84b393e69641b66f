/- Passes of the loop, stretches of each state. -/
import Derived.Test.YtaimebepiomgcaaGreatDoorSt
namespace Go.Ev
open Go.Proofs
set_option maxRecDepth 1000000
theorem r8_0 : ∀ s A, gzX s A 8 0 26 = true := by
  intro s A
  kernel_rfl
theorem r20_0 : ∀ s A, gzX s A 20 0 26 = true := by
  intro s A
  kernel_rfl
theorem r24_26 : ∀ s A, gzX s A 24 26 35 = true := by
  intro s A
  kernel_rfl
theorem r28_0 : ∀ s A, gzX s A 28 0 26 = true := by
  intro s A
  kernel_rfl
theorem r38_26 : ∀ s A, gzX s A 38 26 35 = true := by
  intro s A
  kernel_rfl
theorem r56_26 : ∀ s A, gzX s A 56 26 35 = true := by
  intro s A
  kernel_rfl
theorem r72_0 : ∀ s A, gzX s A 72 0 26 = true := by
  intro s A
  kernel_rfl
theorem r86_26 : ∀ s A, gzX s A 86 26 35 = true := by
  intro s A
  kernel_rfl
theorem r92_0 : ∀ s A, gzX s A 92 0 26 = true := by
  intro s A
  kernel_rfl
theorem r106_26 : ∀ s A, gzX s A 106 26 35 = true := by
  intro s A
  kernel_rfl
theorem r112_0 : ∀ s A, gzX s A 112 0 26 = true := by
  intro s A
  kernel_rfl
theorem r124_26 : ∀ s A, gzX s A 124 26 35 = true := by
  intro s A
  kernel_rfl
theorem r128_0 : ∀ s A, gzX s A 128 0 26 = true := by
  intro s A
  kernel_rfl
end Go.Ev
