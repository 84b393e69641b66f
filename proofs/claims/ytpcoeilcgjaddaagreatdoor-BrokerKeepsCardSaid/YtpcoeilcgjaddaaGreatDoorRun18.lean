/- Passes of BrokerKeeps's loop, part 18. -/
import Derived.Test.YtpcoeilcgjaddaaGreatDoorSt
namespace Go.Ev
open Go.Proofs
set_option maxRecDepth 1000000
theorem w28_16 : W_ TS28 ct28 [pa 5 1 1, pa 5 1 2, pa 5 2 0, pa 5 2 1, pa 5 2 2] := by
  intro s A
  kernel_rfl
theorem w29_0 : W_ TS29 ct29 [pa 0 0 0, pa 0 0 1, pa 0 0 2, pa 0 1 0, pa 0 1 1, pa 0 1 2] := by
  intro s A
  kernel_rfl
theorem w29_1 : W_ TS29 ct29 [pa 0 2 0, pa 0 2 1, pa 0 2 2, pa 1 0 0, pa 1 0 1, pa 1 0 2] := by
  intro s A
  kernel_rfl
theorem w29_2 : W_ TS29 ct29 [pa 1 1 0] := by
  intro s A
  kernel_rfl
theorem w29_3 : W_ TS29 ct29 [pa 1 1 1] := by
  intro s A
  kernel_rfl
theorem w29_4 : W_ TS29 ct29 [pa 1 1 2] := by
  intro s A
  kernel_rfl
theorem w29_5 : W_ TS29 ct29 [pa 1 2 0] := by
  intro s A
  kernel_rfl
theorem w29_6 : W_ TS29 ct29 [pa 1 2 1] := by
  intro s A
  kernel_rfl
theorem w29_7 : W_ TS29 ct29 [pa 1 2 2, pa 2 0 0, pa 2 0 1, pa 2 0 2, pa 2 1 0] := by
  intro s A
  kernel_rfl
theorem w29_8 : W_ TS29 ct29 [pa 2 1 1, pa 2 1 2] := by
  intro s A
  kernel_rfl
theorem w29_9 : W_ TS29 ct29 [pa 2 2 0, pa 2 2 1] := by
  intro s A
  kernel_rfl
theorem w29_10 : W_ TS29 ct29 [pa 2 2 2, pa 3 0 0, pa 3 0 1, pa 3 0 2, pa 3 1 0, pa 3 1 1] := by
  intro s A
  kernel_rfl
theorem w29_11 : W_ TS29 ct29 [pa 3 1 2, pa 3 2 0, pa 3 2 1, pa 3 2 2, pa 4 0 0, pa 4 0 1] := by
  intro s A
  kernel_rfl
theorem w29_12 : W_ TS29 ct29 [pa 4 0 2, pa 4 1 0, pa 4 1 1, pa 4 1 2, pa 4 2 0] := by
  intro s A
  kernel_rfl
theorem w29_13 : W_ TS29 ct29 [pa 4 2 1, pa 4 2 2, pa 5 0 0, pa 5 0 1, pa 5 0 2, pa 5 1 0] := by
  intro s A
  kernel_rfl
theorem w29_14 : W_ TS29 ct29 [pa 5 1 1, pa 5 1 2, pa 5 2 0, pa 5 2 1, pa 5 2 2] := by
  intro s A
  kernel_rfl
theorem w30_0 : W_ TS30 ct30 [pa 0 0 0, pa 0 0 1, pa 0 0 2, pa 0 1 0, pa 0 1 1, pa 0 1 2] := by
  intro s A
  kernel_rfl
theorem w30_1 : W_ TS30 ct30 [pa 0 2 0, pa 0 2 1, pa 0 2 2, pa 1 0 0, pa 1 0 1, pa 1 0 2] := by
  intro s A
  kernel_rfl
theorem w30_2 : W_ TS30 ct30 [pa 1 1 0] := by
  intro s A
  kernel_rfl
theorem w30_3 : W_ TS30 ct30 [pa 1 1 1] := by
  intro s A
  kernel_rfl
theorem w30_4 : W_ TS30 ct30 [pa 1 1 2] := by
  intro s A
  kernel_rfl
theorem w30_5 : W_ TS30 ct30 [pa 1 2 0] := by
  intro s A
  kernel_rfl
end Go.Ev
