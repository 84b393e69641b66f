/- Passes of BrokerKeeps's loop, part 17. -/
import Derived.Test.YtpcoeilcgjaddaaGreatDoorSt
namespace Go.Ev
open Go.Proofs
set_option maxRecDepth 1000000
theorem w27_12 : W_ TS27 ct27 [pa 2 1 2] := by
  intro s A
  kernel_rfl
theorem w27_13 : W_ TS27 ct27 [pa 2 2 0] := by
  intro s A
  kernel_rfl
theorem w27_14 : W_ TS27 ct27 [pa 2 2 1] := by
  intro s A
  kernel_rfl
theorem w27_15 : W_ TS27 ct27 [pa 2 2 2, pa 3 0 0, pa 3 0 1, pa 3 0 2, pa 3 1 0, pa 3 1 1, pa 3 1 2, pa 3 2 0] := by
  intro s A
  kernel_rfl
theorem w27_16 : W_ TS27 ct27 [pa 3 2 1, pa 3 2 2, pa 4 0 0, pa 4 0 1, pa 4 0 2, pa 4 1 0] := by
  intro s A
  kernel_rfl
theorem w27_17 : W_ TS27 ct27 [pa 4 1 1, pa 4 1 2, pa 4 2 0, pa 4 2 1, pa 4 2 2] := by
  intro s A
  kernel_rfl
theorem w27_18 : W_ TS27 ct27 [pa 5 0 0, pa 5 0 1, pa 5 0 2, pa 5 1 0, pa 5 1 1, pa 5 1 2] := by
  intro s A
  kernel_rfl
theorem w27_19 : W_ TS27 ct27 [pa 5 2 0, pa 5 2 1, pa 5 2 2] := by
  intro s A
  kernel_rfl
theorem w28_0 : W_ TS28 ct28 [pa 0 0 0, pa 0 0 1, pa 0 0 2, pa 0 1 0] := by
  intro s A
  kernel_rfl
theorem w28_1 : W_ TS28 ct28 [pa 0 1 1, pa 0 1 2] := by
  intro s A
  kernel_rfl
theorem w28_2 : W_ TS28 ct28 [pa 0 2 0, pa 0 2 1] := by
  intro s A
  kernel_rfl
theorem w28_3 : W_ TS28 ct28 [pa 0 2 2, pa 1 0 0, pa 1 0 1, pa 1 0 2] := by
  intro s A
  kernel_rfl
theorem w28_4 : W_ TS28 ct28 [pa 1 1 0] := by
  intro s A
  kernel_rfl
theorem w28_5 : W_ TS28 ct28 [pa 1 1 1] := by
  intro s A
  kernel_rfl
theorem w28_6 : W_ TS28 ct28 [pa 1 1 2] := by
  intro s A
  kernel_rfl
theorem w28_7 : W_ TS28 ct28 [pa 1 2 0] := by
  intro s A
  kernel_rfl
theorem w28_8 : W_ TS28 ct28 [pa 1 2 1] := by
  intro s A
  kernel_rfl
theorem w28_9 : W_ TS28 ct28 [pa 1 2 2, pa 2 0 0, pa 2 0 1, pa 2 0 2, pa 2 1 0] := by
  intro s A
  kernel_rfl
theorem w28_10 : W_ TS28 ct28 [pa 2 1 1, pa 2 1 2] := by
  intro s A
  kernel_rfl
theorem w28_11 : W_ TS28 ct28 [pa 2 2 0, pa 2 2 1] := by
  intro s A
  kernel_rfl
theorem w28_12 : W_ TS28 ct28 [pa 2 2 2, pa 3 0 0, pa 3 0 1, pa 3 0 2, pa 3 1 0, pa 3 1 1] := by
  intro s A
  kernel_rfl
theorem w28_13 : W_ TS28 ct28 [pa 3 1 2, pa 3 2 0, pa 3 2 1, pa 3 2 2, pa 4 0 0, pa 4 0 1] := by
  intro s A
  kernel_rfl
theorem w28_14 : W_ TS28 ct28 [pa 4 0 2, pa 4 1 0, pa 4 1 1, pa 4 1 2, pa 4 2 0] := by
  intro s A
  kernel_rfl
theorem w28_15 : W_ TS28 ct28 [pa 4 2 1, pa 4 2 2, pa 5 0 0, pa 5 0 1, pa 5 0 2, pa 5 1 0] := by
  intro s A
  kernel_rfl
end Go.Ev
