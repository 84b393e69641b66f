/- Passes of the loop, stretches of each state. -/
import Derived.Test.YtaimebepiomgcaaGreatDoorSt
namespace Go.Ev
open Go.Proofs
set_option maxRecDepth 1000000
theorem r6_0 : ∀ s A, gzX s A 6 0 26 = true := by
  intro s A
  kernel_rfl
theorem r8_26 : ∀ s A, gzX s A 8 26 35 = true := by
  intro s A
  kernel_rfl
theorem r18_0 : ∀ s A, gzX s A 18 0 26 = true := by
  intro s A
  kernel_rfl
theorem r26_0 : ∀ s A, gzX s A 26 0 26 = true := by
  intro s A
  kernel_rfl
theorem r36_26 : ∀ s A, gzX s A 36 26 35 = true := by
  intro s A
  kernel_rfl
theorem r60_26 : ∀ s A, gzX s A 60 26 35 = true := by
  intro s A
  kernel_rfl
theorem r70_0 : ∀ s A, gzX s A 70 0 26 = true := by
  intro s A
  kernel_rfl
theorem r84_26 : ∀ s A, gzX s A 84 26 35 = true := by
  intro s A
  kernel_rfl
theorem r90_0 : ∀ s A, gzX s A 90 0 26 = true := by
  intro s A
  kernel_rfl
theorem r104_26 : ∀ s A, gzX s A 104 26 35 = true := by
  intro s A
  kernel_rfl
theorem r110_0 : ∀ s A, gzX s A 110 0 26 = true := by
  intro s A
  kernel_rfl
theorem r126_0 : ∀ s A, gzX s A 126 0 26 = true := by
  intro s A
  kernel_rfl
theorem r126_26 : ∀ s A, gzX s A 126 26 35 = true := by
  intro s A
  kernel_rfl
end Go.Ev
