/- Passes of the loop, stretches of each state. -/
import Derived.Test.YtaimebepiomgcaaGreatDoorSt
namespace Go.Ev
open Go.Proofs
set_option maxRecDepth 1000000
theorem r10_26 : ∀ s A, gzX s A 10 26 35 = true := by
  intro s A
  kernel_rfl
theorem r28_26 : ∀ s A, gzX s A 28 26 35 = true := by
  intro s A
  kernel_rfl
theorem r32_0 : ∀ s A, gzX s A 32 0 26 = true := by
  intro s A
  kernel_rfl
theorem r36_0 : ∀ s A, gzX s A 36 0 26 = true := by
  intro s A
  kernel_rfl
theorem r44_26 : ∀ s A, gzX s A 44 26 35 = true := by
  intro s A
  kernel_rfl
theorem r48_0 : ∀ s A, gzX s A 48 0 26 = true := by
  intro s A
  kernel_rfl
theorem r60_0 : ∀ s A, gzX s A 60 0 26 = true := by
  intro s A
  kernel_rfl
theorem r64_26 : ∀ s A, gzX s A 64 26 35 = true := by
  intro s A
  kernel_rfl
theorem r72_26 : ∀ s A, gzX s A 72 26 35 = true := by
  intro s A
  kernel_rfl
theorem r84_0 : ∀ s A, gzX s A 84 0 26 = true := by
  intro s A
  kernel_rfl
theorem r92_26 : ∀ s A, gzX s A 92 26 35 = true := by
  intro s A
  kernel_rfl
theorem r104_0 : ∀ s A, gzX s A 104 0 26 = true := by
  intro s A
  kernel_rfl
theorem r112_26 : ∀ s A, gzX s A 112 26 35 = true := by
  intro s A
  kernel_rfl
end Go.Ev
