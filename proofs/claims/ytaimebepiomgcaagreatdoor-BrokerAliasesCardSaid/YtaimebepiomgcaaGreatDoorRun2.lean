/- Passes of the loop, stretches of each state. -/
import Derived.Test.YtaimebepiomgcaaGreatDoorSt
namespace Go.Ev
open Go.Proofs
set_option maxRecDepth 1000000
theorem r3_0 : ∀ s A, gzX s A 3 0 26 = true := by
  intro s A
  kernel_rfl
theorem r16_26 : ∀ s A, gzX s A 16 26 35 = true := by
  intro s A
  kernel_rfl
theorem r26_26 : ∀ s A, gzX s A 26 26 35 = true := by
  intro s A
  kernel_rfl
theorem r32_26 : ∀ s A, gzX s A 32 26 35 = true := by
  intro s A
  kernel_rfl
theorem r48_26 : ∀ s A, gzX s A 48 26 35 = true := by
  intro s A
  kernel_rfl
theorem r52_0 : ∀ s A, gzX s A 52 0 26 = true := by
  intro s A
  kernel_rfl
theorem r64_0 : ∀ s A, gzX s A 64 0 26 = true := by
  intro s A
  kernel_rfl
theorem r76_26 : ∀ s A, gzX s A 76 26 35 = true := by
  intro s A
  kernel_rfl
theorem r80_0 : ∀ s A, gzX s A 80 0 26 = true := by
  intro s A
  kernel_rfl
theorem r96_26 : ∀ s A, gzX s A 96 26 35 = true := by
  intro s A
  kernel_rfl
theorem r100_0 : ∀ s A, gzX s A 100 0 26 = true := by
  intro s A
  kernel_rfl
theorem r116_26 : ∀ s A, gzX s A 116 26 35 = true := by
  intro s A
  kernel_rfl
theorem r120_0 : ∀ s A, gzX s A 120 0 26 = true := by
  intro s A
  kernel_rfl
end Go.Ev
