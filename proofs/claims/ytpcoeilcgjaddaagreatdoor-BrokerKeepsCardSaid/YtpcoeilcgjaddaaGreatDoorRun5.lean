/- Passes of BrokerKeeps's loop, part 5. -/
import Derived.Test.YtpcoeilcgjaddaaGreatDoorSt
namespace Go.Ev
open Go.Proofs
set_option maxRecDepth 1000000
theorem w6_6 : W_ TS6 ct6 [pa 1 2 2, pa 2 0 0, pa 2 0 1, pa 2 0 2, pa 2 1 0] := by
  intro s A
  kernel_rfl
theorem w6_7 : W_ TS6 ct6 [pa 2 1 1, pa 2 1 2] := by
  intro s A
  kernel_rfl
theorem w6_8 : W_ TS6 ct6 [pa 2 2 0, pa 2 2 1] := by
  intro s A
  kernel_rfl
theorem w6_9 : W_ TS6 ct6 [pa 2 2 2, pa 3 0 0, pa 3 0 1, pa 3 0 2, pa 3 1 0, pa 3 1 1, pa 3 1 2, pa 3 2 0] := by
  intro s A
  kernel_rfl
theorem w6_10 : W_ TS6 ct6 [pa 3 2 1, pa 3 2 2, pa 4 0 0, pa 4 0 1, pa 4 0 2, pa 4 1 0] := by
  intro s A
  kernel_rfl
theorem w6_11 : W_ TS6 ct6 [pa 4 1 1, pa 4 1 2, pa 4 2 0, pa 4 2 1, pa 4 2 2] := by
  intro s A
  kernel_rfl
theorem w6_12 : W_ TS6 ct6 [pa 5 0 0, pa 5 0 1, pa 5 0 2, pa 5 1 0, pa 5 1 1, pa 5 1 2, pa 5 2 0, pa 5 2 1] := by
  intro s A
  kernel_rfl
theorem w6_13 : W_ TS6 ct6 [pa 5 2 2] := by
  intro s A
  kernel_rfl
theorem w7_0 : W_ TS7 ct7 [pa 0 0 0, pa 0 0 1, pa 0 0 2, pa 0 1 0, pa 0 1 1, pa 0 1 2] := by
  intro s A
  kernel_rfl
theorem w7_1 : W_ TS7 ct7 [pa 0 2 0, pa 0 2 1, pa 0 2 2, pa 1 0 0, pa 1 0 1, pa 1 0 2] := by
  intro s A
  kernel_rfl
theorem w7_2 : W_ TS7 ct7 [pa 1 1 0, pa 1 1 1] := by
  intro s A
  kernel_rfl
theorem w7_3 : W_ TS7 ct7 [pa 1 1 2, pa 1 2 0] := by
  intro s A
  kernel_rfl
theorem w7_4 : W_ TS7 ct7 [pa 1 2 1, pa 1 2 2, pa 2 0 0, pa 2 0 1, pa 2 0 2] := by
  intro s A
  kernel_rfl
theorem w7_5 : W_ TS7 ct7 [pa 2 1 0, pa 2 1 1] := by
  intro s A
  kernel_rfl
theorem w7_6 : W_ TS7 ct7 [pa 2 1 2, pa 2 2 0] := by
  intro s A
  kernel_rfl
theorem w7_7 : W_ TS7 ct7 [pa 2 2 1, pa 2 2 2, pa 3 0 0, pa 3 0 1, pa 3 0 2] := by
  intro s A
  kernel_rfl
theorem w7_8 : W_ TS7 ct7 [pa 3 1 0, pa 3 1 1, pa 3 1 2, pa 3 2 0, pa 3 2 1, pa 3 2 2, pa 4 0 0, pa 4 0 1] := by
  intro s A
  kernel_rfl
theorem w7_9 : W_ TS7 ct7 [pa 4 0 2, pa 4 1 0, pa 4 1 1, pa 4 1 2, pa 4 2 0] := by
  intro s A
  kernel_rfl
theorem w7_10 : W_ TS7 ct7 [pa 4 2 1, pa 4 2 2, pa 5 0 0, pa 5 0 1, pa 5 0 2, pa 5 1 0, pa 5 1 1] := by
  intro s A
  kernel_rfl
theorem w7_11 : W_ TS7 ct7 [pa 5 1 2, pa 5 2 0, pa 5 2 1, pa 5 2 2] := by
  intro s A
  kernel_rfl
theorem w8_0 : W_ TS8 ct8 [pa 0 0 0, pa 0 0 1, pa 0 0 2, pa 0 1 0, pa 0 1 1, pa 0 1 2] := by
  intro s A
  kernel_rfl
theorem w8_1 : W_ TS8 ct8 [pa 0 2 0, pa 0 2 1, pa 0 2 2, pa 1 0 0, pa 1 0 1, pa 1 0 2] := by
  intro s A
  kernel_rfl
theorem w8_2 : W_ TS8 ct8 [pa 1 1 0, pa 1 1 1] := by
  intro s A
  kernel_rfl
end Go.Ev
