/- Passes of the loop, stretches of each state. -/
import Derived.Test.YtaimebepiomgcaaGreatDoorSt
namespace Go.Ev
open Go.Proofs
set_option maxRecDepth 1000000
theorem r1_26 : ∀ s A, gzX s A 1 26 35 = true := by
  intro s A
  kernel_rfl
theorem r18_26 : ∀ s A, gzX s A 18 26 35 = true := by
  intro s A
  kernel_rfl
theorem r44_0 : ∀ s A, gzX s A 44 0 26 = true := by
  intro s A
  kernel_rfl
theorem r50_26 : ∀ s A, gzX s A 50 26 35 = true := by
  intro s A
  kernel_rfl
theorem r56_0 : ∀ s A, gzX s A 56 0 26 = true := by
  intro s A
  kernel_rfl
theorem r66_26 : ∀ s A, gzX s A 66 26 35 = true := by
  intro s A
  kernel_rfl
theorem r68_0 : ∀ s A, gzX s A 68 0 26 = true := by
  intro s A
  kernel_rfl
theorem r76_0 : ∀ s A, gzX s A 76 0 26 = true := by
  intro s A
  kernel_rfl
theorem r78_26 : ∀ s A, gzX s A 78 26 35 = true := by
  intro s A
  kernel_rfl
theorem r96_0 : ∀ s A, gzX s A 96 0 26 = true := by
  intro s A
  kernel_rfl
theorem r98_26 : ∀ s A, gzX s A 98 26 35 = true := by
  intro s A
  kernel_rfl
theorem r116_0 : ∀ s A, gzX s A 116 0 26 = true := by
  intro s A
  kernel_rfl
theorem r118_26 : ∀ s A, gzX s A 118 26 35 = true := by
  intro s A
  kernel_rfl
end Go.Ev
