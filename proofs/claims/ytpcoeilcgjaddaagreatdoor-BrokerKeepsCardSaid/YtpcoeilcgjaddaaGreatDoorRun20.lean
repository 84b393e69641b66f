/- Passes of BrokerKeeps's loop, part 20. -/
import Derived.Test.YtpcoeilcgjaddaaGreatDoorSt
namespace Go.Ev
open Go.Proofs
set_option maxRecDepth 1000000
theorem w31_10 : W_ TS31 ct31 [pa 2 1 0] := by
  intro s A
  kernel_rfl
theorem w31_11 : W_ TS31 ct31 [pa 2 1 1] := by
  intro s A
  kernel_rfl
theorem w31_12 : W_ TS31 ct31 [pa 2 1 2] := by
  intro s A
  kernel_rfl
theorem w31_13 : W_ TS31 ct31 [pa 2 2 0] := by
  intro s A
  kernel_rfl
theorem w31_14 : W_ TS31 ct31 [pa 2 2 1] := by
  intro s A
  kernel_rfl
theorem w31_15 : W_ TS31 ct31 [pa 2 2 2, pa 3 0 0, pa 3 0 1, pa 3 0 2, pa 3 1 0, pa 3 1 1] := by
  intro s A
  kernel_rfl
theorem w31_16 : W_ TS31 ct31 [pa 3 1 2, pa 3 2 0, pa 3 2 1, pa 3 2 2, pa 4 0 0, pa 4 0 1] := by
  intro s A
  kernel_rfl
theorem w31_17 : W_ TS31 ct31 [pa 4 0 2, pa 4 1 0, pa 4 1 1, pa 4 1 2, pa 4 2 0] := by
  intro s A
  kernel_rfl
theorem w31_18 : W_ TS31 ct31 [pa 4 2 1, pa 4 2 2, pa 5 0 0, pa 5 0 1, pa 5 0 2, pa 5 1 0] := by
  intro s A
  kernel_rfl
theorem w31_19 : W_ TS31 ct31 [pa 5 1 1, pa 5 1 2, pa 5 2 0, pa 5 2 1, pa 5 2 2] := by
  intro s A
  kernel_rfl
theorem q0 : S_ 0 [0] := by
  intro s A
  kernel_rfl
end Go.Ev
