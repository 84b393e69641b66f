/- Passes of the loop, stretches of each state. -/
import Derived.Test.YtaimebepiomgcaaGreatDoorSt
namespace Go.Ev
open Go.Proofs
set_option maxRecDepth 1000000
theorem r2_26 : ∀ s A, gzX s A 2 26 35 = true := by
  intro s A
  kernel_rfl
theorem r19_26 : ∀ s A, gzX s A 19 26 35 = true := by
  intro s A
  kernel_rfl
theorem r45_0 : ∀ s A, gzX s A 45 0 26 = true := by
  intro s A
  kernel_rfl
theorem r51_26 : ∀ s A, gzX s A 51 26 35 = true := by
  intro s A
  kernel_rfl
theorem r57_0 : ∀ s A, gzX s A 57 0 26 = true := by
  intro s A
  kernel_rfl
theorem r67_26 : ∀ s A, gzX s A 67 26 35 = true := by
  intro s A
  kernel_rfl
theorem r69_0 : ∀ s A, gzX s A 69 0 26 = true := by
  intro s A
  kernel_rfl
theorem r77_0 : ∀ s A, gzX s A 77 0 26 = true := by
  intro s A
  kernel_rfl
theorem r79_26 : ∀ s A, gzX s A 79 26 35 = true := by
  intro s A
  kernel_rfl
theorem r97_0 : ∀ s A, gzX s A 97 0 26 = true := by
  intro s A
  kernel_rfl
theorem r99_26 : ∀ s A, gzX s A 99 26 35 = true := by
  intro s A
  kernel_rfl
theorem r117_0 : ∀ s A, gzX s A 117 0 26 = true := by
  intro s A
  kernel_rfl
theorem r119_26 : ∀ s A, gzX s A 119 26 35 = true := by
  intro s A
  kernel_rfl
end Go.Ev
