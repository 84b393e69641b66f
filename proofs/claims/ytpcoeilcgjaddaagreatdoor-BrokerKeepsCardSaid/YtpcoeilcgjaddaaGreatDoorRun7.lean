/- Passes of BrokerKeeps's loop, part 7. -/
import Derived.Test.YtpcoeilcgjaddaaGreatDoorSt
namespace Go.Ev
open Go.Proofs
set_option maxRecDepth 1000000
theorem w10_4 : W_ TS10 ct10 [pa 1 2 1, pa 1 2 2, pa 2 0 0, pa 2 0 1, pa 2 0 2] := by
  intro s A
  kernel_rfl
theorem w10_5 : W_ TS10 ct10 [pa 2 1 0, pa 2 1 1] := by
  intro s A
  kernel_rfl
theorem w10_6 : W_ TS10 ct10 [pa 2 1 2, pa 2 2 0] := by
  intro s A
  kernel_rfl
theorem w10_7 : W_ TS10 ct10 [pa 2 2 1, pa 2 2 2, pa 3 0 0, pa 3 0 1, pa 3 0 2] := by
  intro s A
  kernel_rfl
theorem w10_8 : W_ TS10 ct10 [pa 3 1 0, pa 3 1 1, pa 3 1 2, pa 3 2 0, pa 3 2 1, pa 3 2 2, pa 4 0 0, pa 4 0 1] := by
  intro s A
  kernel_rfl
theorem w10_9 : W_ TS10 ct10 [pa 4 0 2, pa 4 1 0, pa 4 1 1, pa 4 1 2, pa 4 2 0, pa 4 2 1, pa 4 2 2, pa 5 0 0] := by
  intro s A
  kernel_rfl
theorem w10_10 : W_ TS10 ct10 [pa 5 0 1, pa 5 0 2, pa 5 1 0, pa 5 1 1, pa 5 1 2, pa 5 2 0, pa 5 2 1, pa 5 2 2] := by
  intro s A
  kernel_rfl
theorem w11_0 : W_ TS11 ct11 [pa 0 0 0, pa 0 0 1, pa 0 0 2, pa 0 1 0, pa 0 1 1, pa 0 1 2] := by
  intro s A
  kernel_rfl
theorem w11_1 : W_ TS11 ct11 [pa 0 2 0, pa 0 2 1, pa 0 2 2, pa 1 0 0, pa 1 0 1, pa 1 0 2] := by
  intro s A
  kernel_rfl
theorem w11_2 : W_ TS11 ct11 [pa 1 1 0, pa 1 1 1] := by
  intro s A
  kernel_rfl
theorem w11_3 : W_ TS11 ct11 [pa 1 1 2, pa 1 2 0] := by
  intro s A
  kernel_rfl
theorem w11_4 : W_ TS11 ct11 [pa 1 2 1, pa 1 2 2, pa 2 0 0, pa 2 0 1, pa 2 0 2] := by
  intro s A
  kernel_rfl
theorem w11_5 : W_ TS11 ct11 [pa 2 1 0, pa 2 1 1, pa 2 1 2, pa 2 2 0] := by
  intro s A
  kernel_rfl
theorem w11_6 : W_ TS11 ct11 [pa 2 2 1, pa 2 2 2, pa 3 0 0, pa 3 0 1, pa 3 0 2, pa 3 1 0] := by
  intro s A
  kernel_rfl
theorem w11_7 : W_ TS11 ct11 [pa 3 1 1, pa 3 1 2, pa 3 2 0, pa 3 2 1, pa 3 2 2] := by
  intro s A
  kernel_rfl
theorem w11_8 : W_ TS11 ct11 [pa 4 0 0, pa 4 0 1, pa 4 0 2, pa 4 1 0, pa 4 1 1, pa 4 1 2, pa 4 2 0, pa 4 2 1] := by
  intro s A
  kernel_rfl
theorem w11_9 : W_ TS11 ct11 [pa 4 2 2, pa 5 0 0, pa 5 0 1, pa 5 0 2, pa 5 1 0, pa 5 1 1, pa 5 1 2, pa 5 2 0] := by
  intro s A
  kernel_rfl
theorem w11_10 : W_ TS11 ct11 [pa 5 2 1, pa 5 2 2] := by
  intro s A
  kernel_rfl
theorem w12_0 : W_ TS12 ct12 [pa 0 0 0, pa 0 0 1, pa 0 0 2, pa 0 1 0, pa 0 1 1, pa 0 1 2] := by
  intro s A
  kernel_rfl
theorem w12_1 : W_ TS12 ct12 [pa 0 2 0, pa 0 2 1, pa 0 2 2, pa 1 0 0, pa 1 0 1, pa 1 0 2] := by
  intro s A
  kernel_rfl
theorem w12_2 : W_ TS12 ct12 [pa 1 1 0, pa 1 1 1, pa 1 1 2, pa 1 2 0] := by
  intro s A
  kernel_rfl
theorem w12_3 : W_ TS12 ct12 [pa 1 2 1, pa 1 2 2, pa 2 0 0, pa 2 0 1, pa 2 0 2, pa 2 1 0] := by
  intro s A
  kernel_rfl
end Go.Ev
