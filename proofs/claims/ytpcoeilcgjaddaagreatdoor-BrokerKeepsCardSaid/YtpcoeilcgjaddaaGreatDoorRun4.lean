/- Passes of BrokerKeeps's loop, part 4. -/
import Derived.Test.YtpcoeilcgjaddaaGreatDoorSt
namespace Go.Ev
open Go.Proofs
set_option maxRecDepth 1000000
theorem w4_0 : W_ TS4 ct4 [pa 0 0 0, pa 0 0 1, pa 0 0 2, pa 0 1 0, pa 0 1 1, pa 0 1 2, pa 0 2 0, pa 0 2 1] := by
  intro s A
  kernel_rfl
theorem w4_1 : W_ TS4 ct4 [pa 0 2 2, pa 1 0 0, pa 1 0 1, pa 1 0 2, pa 1 1 0, pa 1 1 1] := by
  intro s A
  kernel_rfl
theorem w4_2 : W_ TS4 ct4 [pa 1 1 2, pa 1 2 0, pa 1 2 1, pa 1 2 2, pa 2 0 0, pa 2 0 1] := by
  intro s A
  kernel_rfl
theorem w4_3 : W_ TS4 ct4 [pa 2 0 2, pa 2 1 0, pa 2 1 1, pa 2 1 2, pa 2 2 0, pa 2 2 1, pa 2 2 2, pa 3 0 0] := by
  intro s A
  kernel_rfl
theorem w4_4 : W_ TS4 ct4 [pa 3 0 1, pa 3 0 2, pa 3 1 0, pa 3 1 1, pa 3 1 2] := by
  intro s A
  kernel_rfl
theorem w4_5 : W_ TS4 ct4 [pa 3 2 0, pa 3 2 1, pa 3 2 2, pa 4 0 0, pa 4 0 1, pa 4 0 2] := by
  intro s A
  kernel_rfl
theorem w4_6 : W_ TS4 ct4 [pa 4 1 0, pa 4 1 1, pa 4 1 2, pa 4 2 0, pa 4 2 1, pa 4 2 2, pa 5 0 0, pa 5 0 1] := by
  intro s A
  kernel_rfl
theorem w4_7 : W_ TS4 ct4 [pa 5 0 2, pa 5 1 0, pa 5 1 1, pa 5 1 2, pa 5 2 0, pa 5 2 1, pa 5 2 2] := by
  intro s A
  kernel_rfl
theorem w5_0 : W_ TS5 ct5 [pa 0 0 0, pa 0 0 1, pa 0 0 2, pa 0 1 0, pa 0 1 1, pa 0 1 2, pa 0 2 0, pa 0 2 1] := by
  intro s A
  kernel_rfl
theorem w5_1 : W_ TS5 ct5 [pa 0 2 2, pa 1 0 0, pa 1 0 1, pa 1 0 2, pa 1 1 0, pa 1 1 1, pa 1 1 2, pa 1 2 0] := by
  intro s A
  kernel_rfl
theorem w5_2 : W_ TS5 ct5 [pa 1 2 1, pa 1 2 2, pa 2 0 0, pa 2 0 1, pa 2 0 2, pa 2 1 0, pa 2 1 1, pa 2 1 2] := by
  intro s A
  kernel_rfl
theorem w5_3 : W_ TS5 ct5 [pa 2 2 0, pa 2 2 1, pa 2 2 2, pa 3 0 0, pa 3 0 1, pa 3 0 2, pa 3 1 0, pa 3 1 1] := by
  intro s A
  kernel_rfl
theorem w5_4 : W_ TS5 ct5 [pa 3 1 2, pa 3 2 0, pa 3 2 1, pa 3 2 2, pa 4 0 0, pa 4 0 1, pa 4 0 2, pa 4 1 0] := by
  intro s A
  kernel_rfl
theorem w5_5 : W_ TS5 ct5 [pa 4 1 1, pa 4 1 2, pa 4 2 0, pa 4 2 1, pa 4 2 2, pa 5 0 0, pa 5 0 1, pa 5 0 2] := by
  intro s A
  kernel_rfl
theorem w5_6 : W_ TS5 ct5 [pa 5 1 0, pa 5 1 1, pa 5 1 2, pa 5 2 0] := by
  intro s A
  kernel_rfl
theorem w5_7 : W_ TS5 ct5 [pa 5 2 1, pa 5 2 2] := by
  intro s A
  kernel_rfl
theorem w6_0 : W_ TS6 ct6 [pa 0 0 0, pa 0 0 1, pa 0 0 2, pa 0 1 0] := by
  intro s A
  kernel_rfl
theorem w6_1 : W_ TS6 ct6 [pa 0 1 1, pa 0 1 2] := by
  intro s A
  kernel_rfl
theorem w6_2 : W_ TS6 ct6 [pa 0 2 0, pa 0 2 1] := by
  intro s A
  kernel_rfl
theorem w6_3 : W_ TS6 ct6 [pa 0 2 2, pa 1 0 0, pa 1 0 1, pa 1 0 2, pa 1 1 0] := by
  intro s A
  kernel_rfl
theorem w6_4 : W_ TS6 ct6 [pa 1 1 1, pa 1 1 2] := by
  intro s A
  kernel_rfl
theorem w6_5 : W_ TS6 ct6 [pa 1 2 0, pa 1 2 1] := by
  intro s A
  kernel_rfl
end Go.Ev
