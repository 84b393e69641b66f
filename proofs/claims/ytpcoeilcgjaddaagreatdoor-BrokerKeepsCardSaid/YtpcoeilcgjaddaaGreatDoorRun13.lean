/- Passes of BrokerKeeps's loop, part 13. -/
import Derived.Test.YtpcoeilcgjaddaaGreatDoorSt
namespace Go.Ev
open Go.Proofs
set_option maxRecDepth 1000000
theorem w21_3 : W_ TS21 ct21 [pa 1 1 2, pa 1 2 0] := by
  intro s A
  kernel_rfl
theorem w21_4 : W_ TS21 ct21 [pa 1 2 1, pa 1 2 2, pa 2 0 0, pa 2 0 1, pa 2 0 2] := by
  intro s A
  kernel_rfl
theorem w21_5 : W_ TS21 ct21 [pa 2 1 0, pa 2 1 1, pa 2 1 2, pa 2 2 0] := by
  intro s A
  kernel_rfl
theorem w21_6 : W_ TS21 ct21 [pa 2 2 1, pa 2 2 2, pa 3 0 0, pa 3 0 1, pa 3 0 2, pa 3 1 0] := by
  intro s A
  kernel_rfl
theorem w21_7 : W_ TS21 ct21 [pa 3 1 1, pa 3 1 2, pa 3 2 0, pa 3 2 1, pa 3 2 2] := by
  intro s A
  kernel_rfl
theorem w21_8 : W_ TS21 ct21 [pa 4 0 0, pa 4 0 1, pa 4 0 2, pa 4 1 0, pa 4 1 1, pa 4 1 2] := by
  intro s A
  kernel_rfl
theorem w21_9 : W_ TS21 ct21 [pa 4 2 0, pa 4 2 1, pa 4 2 2, pa 5 0 0, pa 5 0 1, pa 5 0 2] := by
  intro s A
  kernel_rfl
theorem w21_10 : W_ TS21 ct21 [pa 5 1 0, pa 5 1 1, pa 5 1 2, pa 5 2 0] := by
  intro s A
  kernel_rfl
theorem w21_11 : W_ TS21 ct21 [pa 5 2 1, pa 5 2 2] := by
  intro s A
  kernel_rfl
theorem w22_0 : W_ TS22 ct22 [pa 0 0 0, pa 0 0 1, pa 0 0 2, pa 0 1 0, pa 0 1 1, pa 0 1 2] := by
  intro s A
  kernel_rfl
theorem w22_1 : W_ TS22 ct22 [pa 0 2 0, pa 0 2 1, pa 0 2 2, pa 1 0 0, pa 1 0 1, pa 1 0 2] := by
  intro s A
  kernel_rfl
theorem w22_2 : W_ TS22 ct22 [pa 1 1 0] := by
  intro s A
  kernel_rfl
theorem w22_3 : W_ TS22 ct22 [pa 1 1 1] := by
  intro s A
  kernel_rfl
theorem w22_4 : W_ TS22 ct22 [pa 1 1 2] := by
  intro s A
  kernel_rfl
theorem w22_5 : W_ TS22 ct22 [pa 1 2 0] := by
  intro s A
  kernel_rfl
theorem w22_6 : W_ TS22 ct22 [pa 1 2 1] := by
  intro s A
  kernel_rfl
theorem w22_7 : W_ TS22 ct22 [pa 1 2 2, pa 2 0 0, pa 2 0 1, pa 2 0 2, pa 2 1 0] := by
  intro s A
  kernel_rfl
theorem w22_8 : W_ TS22 ct22 [pa 2 1 1, pa 2 1 2] := by
  intro s A
  kernel_rfl
theorem w22_9 : W_ TS22 ct22 [pa 2 2 0, pa 2 2 1] := by
  intro s A
  kernel_rfl
theorem w22_10 : W_ TS22 ct22 [pa 2 2 2, pa 3 0 0, pa 3 0 1, pa 3 0 2, pa 3 1 0, pa 3 1 1] := by
  intro s A
  kernel_rfl
theorem w22_11 : W_ TS22 ct22 [pa 3 1 2, pa 3 2 0, pa 3 2 1, pa 3 2 2, pa 4 0 0, pa 4 0 1] := by
  intro s A
  kernel_rfl
theorem w22_12 : W_ TS22 ct22 [pa 4 0 2, pa 4 1 0, pa 4 1 1, pa 4 1 2, pa 4 2 0, pa 4 2 1, pa 4 2 2, pa 5 0 0] := by
  intro s A
  kernel_rfl
theorem w22_13 : W_ TS22 ct22 [pa 5 0 1, pa 5 0 2, pa 5 1 0, pa 5 1 1, pa 5 1 2, pa 5 2 0, pa 5 2 1, pa 5 2 2] := by
  intro s A
  kernel_rfl
end Go.Ev
