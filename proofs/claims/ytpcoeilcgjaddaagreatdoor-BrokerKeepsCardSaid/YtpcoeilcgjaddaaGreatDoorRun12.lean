/- Passes of BrokerKeeps's loop, part 12. -/
import Derived.Test.YtpcoeilcgjaddaaGreatDoorSt
namespace Go.Ev
open Go.Proofs
set_option maxRecDepth 1000000
theorem w19_8 : W_ TS19 ct19 [pa 2 1 1, pa 2 1 2] := by
  intro s A
  kernel_rfl
theorem w19_9 : W_ TS19 ct19 [pa 2 2 0, pa 2 2 1] := by
  intro s A
  kernel_rfl
theorem w19_10 : W_ TS19 ct19 [pa 2 2 2, pa 3 0 0, pa 3 0 1, pa 3 0 2, pa 3 1 0, pa 3 1 1] := by
  intro s A
  kernel_rfl
theorem w19_11 : W_ TS19 ct19 [pa 3 1 2, pa 3 2 0, pa 3 2 1, pa 3 2 2, pa 4 0 0, pa 4 0 1] := by
  intro s A
  kernel_rfl
theorem w19_12 : W_ TS19 ct19 [pa 4 0 2, pa 4 1 0, pa 4 1 1, pa 4 1 2, pa 4 2 0] := by
  intro s A
  kernel_rfl
theorem w19_13 : W_ TS19 ct19 [pa 4 2 1, pa 4 2 2, pa 5 0 0, pa 5 0 1, pa 5 0 2, pa 5 1 0, pa 5 1 1] := by
  intro s A
  kernel_rfl
theorem w19_14 : W_ TS19 ct19 [pa 5 1 2, pa 5 2 0, pa 5 2 1, pa 5 2 2] := by
  intro s A
  kernel_rfl
theorem w20_0 : W_ TS20 ct20 [pa 0 0 0, pa 0 0 1, pa 0 0 2, pa 0 1 0, pa 0 1 1, pa 0 1 2] := by
  intro s A
  kernel_rfl
theorem w20_1 : W_ TS20 ct20 [pa 0 2 0, pa 0 2 1, pa 0 2 2, pa 1 0 0, pa 1 0 1, pa 1 0 2] := by
  intro s A
  kernel_rfl
theorem w20_2 : W_ TS20 ct20 [pa 1 1 0, pa 1 1 1] := by
  intro s A
  kernel_rfl
theorem w20_3 : W_ TS20 ct20 [pa 1 1 2, pa 1 2 0] := by
  intro s A
  kernel_rfl
theorem w20_4 : W_ TS20 ct20 [pa 1 2 1, pa 1 2 2, pa 2 0 0, pa 2 0 1, pa 2 0 2] := by
  intro s A
  kernel_rfl
theorem w20_5 : W_ TS20 ct20 [pa 2 1 0, pa 2 1 1] := by
  intro s A
  kernel_rfl
theorem w20_6 : W_ TS20 ct20 [pa 2 1 2, pa 2 2 0] := by
  intro s A
  kernel_rfl
theorem w20_7 : W_ TS20 ct20 [pa 2 2 1, pa 2 2 2, pa 3 0 0, pa 3 0 1, pa 3 0 2] := by
  intro s A
  kernel_rfl
theorem w20_8 : W_ TS20 ct20 [pa 3 1 0, pa 3 1 1, pa 3 1 2, pa 3 2 0, pa 3 2 1, pa 3 2 2, pa 4 0 0, pa 4 0 1] := by
  intro s A
  kernel_rfl
theorem w20_9 : W_ TS20 ct20 [pa 4 0 2, pa 4 1 0, pa 4 1 1, pa 4 1 2, pa 4 2 0] := by
  intro s A
  kernel_rfl
theorem w20_10 : W_ TS20 ct20 [pa 4 2 1, pa 4 2 2, pa 5 0 0, pa 5 0 1, pa 5 0 2, pa 5 1 0] := by
  intro s A
  kernel_rfl
theorem w20_11 : W_ TS20 ct20 [pa 5 1 1, pa 5 1 2, pa 5 2 0, pa 5 2 1, pa 5 2 2] := by
  intro s A
  kernel_rfl
theorem w21_0 : W_ TS21 ct21 [pa 0 0 0, pa 0 0 1, pa 0 0 2, pa 0 1 0, pa 0 1 1, pa 0 1 2] := by
  intro s A
  kernel_rfl
theorem w21_1 : W_ TS21 ct21 [pa 0 2 0, pa 0 2 1, pa 0 2 2, pa 1 0 0, pa 1 0 1, pa 1 0 2] := by
  intro s A
  kernel_rfl
theorem w21_2 : W_ TS21 ct21 [pa 1 1 0, pa 1 1 1] := by
  intro s A
  kernel_rfl
end Go.Ev
