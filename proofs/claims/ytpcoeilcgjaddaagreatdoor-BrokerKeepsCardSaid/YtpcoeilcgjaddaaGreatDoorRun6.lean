/- Passes of BrokerKeeps's loop, part 6. -/
import Derived.Test.YtpcoeilcgjaddaaGreatDoorSt
namespace Go.Ev
open Go.Proofs
set_option maxRecDepth 1000000
theorem w8_3 : W_ TS8 ct8 [pa 1 1 2, pa 1 2 0] := by
  intro s A
  kernel_rfl
theorem w8_4 : W_ TS8 ct8 [pa 1 2 1, pa 1 2 2, pa 2 0 0, pa 2 0 1, pa 2 0 2] := by
  intro s A
  kernel_rfl
theorem w8_5 : W_ TS8 ct8 [pa 2 1 0, pa 2 1 1, pa 2 1 2, pa 2 2 0] := by
  intro s A
  kernel_rfl
theorem w8_6 : W_ TS8 ct8 [pa 2 2 1, pa 2 2 2, pa 3 0 0, pa 3 0 1, pa 3 0 2, pa 3 1 0] := by
  intro s A
  kernel_rfl
theorem w8_7 : W_ TS8 ct8 [pa 3 1 1, pa 3 1 2, pa 3 2 0, pa 3 2 1, pa 3 2 2] := by
  intro s A
  kernel_rfl
theorem w8_8 : W_ TS8 ct8 [pa 4 0 0, pa 4 0 1, pa 4 0 2, pa 4 1 0, pa 4 1 1, pa 4 1 2] := by
  intro s A
  kernel_rfl
theorem w8_9 : W_ TS8 ct8 [pa 4 2 0, pa 4 2 1, pa 4 2 2, pa 5 0 0, pa 5 0 1, pa 5 0 2] := by
  intro s A
  kernel_rfl
theorem w8_10 : W_ TS8 ct8 [pa 5 1 0, pa 5 1 1, pa 5 1 2, pa 5 2 0, pa 5 2 1, pa 5 2 2] := by
  intro s A
  kernel_rfl
theorem w9_0 : W_ TS9 ct9 [pa 0 0 0, pa 0 0 1, pa 0 0 2, pa 0 1 0, pa 0 1 1, pa 0 1 2] := by
  intro s A
  kernel_rfl
theorem w9_1 : W_ TS9 ct9 [pa 0 2 0, pa 0 2 1, pa 0 2 2, pa 1 0 0, pa 1 0 1, pa 1 0 2] := by
  intro s A
  kernel_rfl
theorem w9_2 : W_ TS9 ct9 [pa 1 1 0, pa 1 1 1, pa 1 1 2, pa 1 2 0] := by
  intro s A
  kernel_rfl
theorem w9_3 : W_ TS9 ct9 [pa 1 2 1, pa 1 2 2, pa 2 0 0, pa 2 0 1, pa 2 0 2, pa 2 1 0] := by
  intro s A
  kernel_rfl
theorem w9_4 : W_ TS9 ct9 [pa 2 1 1, pa 2 1 2, pa 2 2 0, pa 2 2 1, pa 2 2 2] := by
  intro s A
  kernel_rfl
theorem w9_5 : W_ TS9 ct9 [pa 3 0 0, pa 3 0 1, pa 3 0 2, pa 3 1 0, pa 3 1 1, pa 3 1 2, pa 3 2 0, pa 3 2 1] := by
  intro s A
  kernel_rfl
theorem w9_6 : W_ TS9 ct9 [pa 3 2 2, pa 4 0 0, pa 4 0 1, pa 4 0 2, pa 4 1 0, pa 4 1 1] := by
  intro s A
  kernel_rfl
theorem w9_7 : W_ TS9 ct9 [pa 4 1 2, pa 4 2 0, pa 4 2 1, pa 4 2 2, pa 5 0 0, pa 5 0 1] := by
  intro s A
  kernel_rfl
theorem w9_8 : W_ TS9 ct9 [pa 5 0 2, pa 5 1 0, pa 5 1 1, pa 5 1 2, pa 5 2 0] := by
  intro s A
  kernel_rfl
theorem w9_9 : W_ TS9 ct9 [pa 5 2 1, pa 5 2 2] := by
  intro s A
  kernel_rfl
theorem w10_0 : W_ TS10 ct10 [pa 0 0 0, pa 0 0 1, pa 0 0 2, pa 0 1 0, pa 0 1 1, pa 0 1 2] := by
  intro s A
  kernel_rfl
theorem w10_1 : W_ TS10 ct10 [pa 0 2 0, pa 0 2 1, pa 0 2 2, pa 1 0 0, pa 1 0 1, pa 1 0 2] := by
  intro s A
  kernel_rfl
theorem w10_2 : W_ TS10 ct10 [pa 1 1 0, pa 1 1 1] := by
  intro s A
  kernel_rfl
theorem w10_3 : W_ TS10 ct10 [pa 1 1 2, pa 1 2 0] := by
  intro s A
  kernel_rfl
end Go.Ev
