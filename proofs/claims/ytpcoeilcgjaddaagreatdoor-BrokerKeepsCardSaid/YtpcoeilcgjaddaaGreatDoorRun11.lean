/- Passes of BrokerKeeps's loop, part 11. -/
import Derived.Test.YtpcoeilcgjaddaaGreatDoorSt
namespace Go.Ev
open Go.Proofs
set_option maxRecDepth 1000000
theorem w17_16 : W_ TS17 ct17 [pa 5 1 2, pa 5 2 0, pa 5 2 1, pa 5 2 2] := by
  intro s A
  kernel_rfl
theorem w18_0 : W_ TS18 ct18 [pa 0 0 0, pa 0 0 1, pa 0 0 2, pa 0 1 0] := by
  intro s A
  kernel_rfl
theorem w18_1 : W_ TS18 ct18 [pa 0 1 1, pa 0 1 2] := by
  intro s A
  kernel_rfl
theorem w18_2 : W_ TS18 ct18 [pa 0 2 0, pa 0 2 1] := by
  intro s A
  kernel_rfl
theorem w18_3 : W_ TS18 ct18 [pa 0 2 2, pa 1 0 0, pa 1 0 1, pa 1 0 2, pa 1 1 0] := by
  intro s A
  kernel_rfl
theorem w18_4 : W_ TS18 ct18 [pa 1 1 1, pa 1 1 2] := by
  intro s A
  kernel_rfl
theorem w18_5 : W_ TS18 ct18 [pa 1 2 0, pa 1 2 1] := by
  intro s A
  kernel_rfl
theorem w18_6 : W_ TS18 ct18 [pa 1 2 2, pa 2 0 0, pa 2 0 1, pa 2 0 2, pa 2 1 0] := by
  intro s A
  kernel_rfl
theorem w18_7 : W_ TS18 ct18 [pa 2 1 1, pa 2 1 2] := by
  intro s A
  kernel_rfl
theorem w18_8 : W_ TS18 ct18 [pa 2 2 0, pa 2 2 1] := by
  intro s A
  kernel_rfl
theorem w18_9 : W_ TS18 ct18 [pa 2 2 2, pa 3 0 0, pa 3 0 1, pa 3 0 2, pa 3 1 0, pa 3 1 1, pa 3 1 2, pa 3 2 0] := by
  intro s A
  kernel_rfl
theorem w18_10 : W_ TS18 ct18 [pa 3 2 1, pa 3 2 2, pa 4 0 0, pa 4 0 1, pa 4 0 2, pa 4 1 0] := by
  intro s A
  kernel_rfl
theorem w18_11 : W_ TS18 ct18 [pa 4 1 1, pa 4 1 2, pa 4 2 0, pa 4 2 1, pa 4 2 2] := by
  intro s A
  kernel_rfl
theorem w18_12 : W_ TS18 ct18 [pa 5 0 0, pa 5 0 1, pa 5 0 2, pa 5 1 0, pa 5 1 1, pa 5 1 2] := by
  intro s A
  kernel_rfl
theorem w18_13 : W_ TS18 ct18 [pa 5 2 0, pa 5 2 1, pa 5 2 2] := by
  intro s A
  kernel_rfl
theorem w19_0 : W_ TS19 ct19 [pa 0 0 0, pa 0 0 1, pa 0 0 2, pa 0 1 0, pa 0 1 1, pa 0 1 2] := by
  intro s A
  kernel_rfl
theorem w19_1 : W_ TS19 ct19 [pa 0 2 0, pa 0 2 1, pa 0 2 2, pa 1 0 0, pa 1 0 1, pa 1 0 2] := by
  intro s A
  kernel_rfl
theorem w19_2 : W_ TS19 ct19 [pa 1 1 0] := by
  intro s A
  kernel_rfl
theorem w19_3 : W_ TS19 ct19 [pa 1 1 1] := by
  intro s A
  kernel_rfl
theorem w19_4 : W_ TS19 ct19 [pa 1 1 2] := by
  intro s A
  kernel_rfl
theorem w19_5 : W_ TS19 ct19 [pa 1 2 0] := by
  intro s A
  kernel_rfl
theorem w19_6 : W_ TS19 ct19 [pa 1 2 1] := by
  intro s A
  kernel_rfl
theorem w19_7 : W_ TS19 ct19 [pa 1 2 2, pa 2 0 0, pa 2 0 1, pa 2 0 2, pa 2 1 0] := by
  intro s A
  kernel_rfl
end Go.Ev
