/- Passes of the loop, stretches of each state. -/
import Derived.Test.YtaimebepiomgcaaGreatDoorSt
namespace Go.Ev
open Go.Proofs
set_option maxRecDepth 1000000
theorem r1_0 : ∀ s A, gzX s A 1 0 26 = true := by
  intro s A
  kernel_rfl
theorem r12_26 : ∀ s A, gzX s A 12 26 35 = true := by
  intro s A
  kernel_rfl
theorem r14_26 : ∀ s A, gzX s A 14 26 35 = true := by
  intro s A
  kernel_rfl
theorem r30_26 : ∀ s A, gzX s A 30 26 35 = true := by
  intro s A
  kernel_rfl
theorem r46_26 : ∀ s A, gzX s A 46 26 35 = true := by
  intro s A
  kernel_rfl
theorem r50_0 : ∀ s A, gzX s A 50 0 26 = true := by
  intro s A
  kernel_rfl
theorem r62_0 : ∀ s A, gzX s A 62 0 26 = true := by
  intro s A
  kernel_rfl
theorem r74_26 : ∀ s A, gzX s A 74 26 35 = true := by
  intro s A
  kernel_rfl
theorem r78_0 : ∀ s A, gzX s A 78 0 26 = true := by
  intro s A
  kernel_rfl
theorem r94_26 : ∀ s A, gzX s A 94 26 35 = true := by
  intro s A
  kernel_rfl
theorem r98_0 : ∀ s A, gzX s A 98 0 26 = true := by
  intro s A
  kernel_rfl
theorem r114_26 : ∀ s A, gzX s A 114 26 35 = true := by
  intro s A
  kernel_rfl
theorem r118_0 : ∀ s A, gzX s A 118 0 26 = true := by
  intro s A
  kernel_rfl
end Go.Ev
