/- Passes of BrokerKeeps's loop, part 2. -/
import Derived.Test.YtpcoeilcgjaddaaGreatDoorSt
namespace Go.Ev
open Go.Proofs
set_option maxRecDepth 1000000
theorem p26_2 : G_ tr4 TS26 2 [26, 26, 26, 26, 31] := by
  intro s A
  kernel_rfl
theorem p26_3 : G_ tr4 TS26 3 [22, 19, 17, 16, 26] := by
  intro s A
  kernel_rfl
theorem p26_4 : X_ tr4 TS26 4 26 := by
  intro s A
  kernel_rfl
theorem p26_5 : X_ tr4 TS26 5 26 := by
  intro s A
  kernel_rfl
theorem p27_0 : G_ tr4 TS27 0 [27, 27, 27, 31, 27] := by
  intro s A
  kernel_rfl
theorem p27_1 : G_ tr4 TS27 1 [23, 20, 18, 27, 16] := by
  intro s A
  kernel_rfl
theorem p27_2 : G_ tr4 TS27 2 [27, 27, 27, 31, 27] := by
  intro s A
  kernel_rfl
theorem p27_3 : G_ tr4 TS27 3 [23, 20, 18, 27, 16] := by
  intro s A
  kernel_rfl
theorem p27_4 : X_ tr4 TS27 4 27 := by
  intro s A
  kernel_rfl
theorem p27_5 : X_ tr4 TS27 5 27 := by
  intro s A
  kernel_rfl
theorem p28_0 : G_ tr4 TS28 0 [28, 28, 31, 28, 28] := by
  intro s A
  kernel_rfl
theorem p28_1 : G_ tr4 TS28 1 [24, 21, 28, 18, 17] := by
  intro s A
  kernel_rfl
theorem p28_2 : G_ tr4 TS28 2 [28, 28, 31, 28, 28] := by
  intro s A
  kernel_rfl
theorem p28_3 : G_ tr4 TS28 3 [24, 21, 28, 18, 17] := by
  intro s A
  kernel_rfl
theorem p28_4 : X_ tr4 TS28 4 28 := by
  intro s A
  kernel_rfl
theorem p28_5 : X_ tr4 TS28 5 28 := by
  intro s A
  kernel_rfl
theorem p29_0 : G_ tr4 TS29 0 [29, 31, 29, 29, 29] := by
  intro s A
  kernel_rfl
theorem p29_1 : G_ tr4 TS29 1 [25, 29, 21, 20, 19] := by
  intro s A
  kernel_rfl
theorem p29_2 : G_ tr4 TS29 2 [29, 31, 29, 29, 29] := by
  intro s A
  kernel_rfl
theorem p29_3 : G_ tr4 TS29 3 [25, 29, 21, 20, 19] := by
  intro s A
  kernel_rfl
theorem p29_4 : X_ tr4 TS29 4 29 := by
  intro s A
  kernel_rfl
theorem p29_5 : X_ tr4 TS29 5 29 := by
  intro s A
  kernel_rfl
theorem p30_0 : G_ tr4 TS30 0 [31, 30, 30, 30, 30] := by
  intro s A
  kernel_rfl
theorem p30_1 : G_ tr4 TS30 1 [30, 25, 24, 23, 22] := by
  intro s A
  kernel_rfl
theorem p30_2 : G_ tr4 TS30 2 [31, 30, 30, 30, 30] := by
  intro s A
  kernel_rfl
theorem p30_3 : G_ tr4 TS30 3 [30, 25, 24, 23, 22] := by
  intro s A
  kernel_rfl
theorem p30_4 : X_ tr4 TS30 4 30 := by
  intro s A
  kernel_rfl
theorem p30_5 : X_ tr4 TS30 5 30 := by
  intro s A
  kernel_rfl
theorem p31_0 : G_ tr5 TS31 0 [31, 31, 31, 31, 31] := by
  intro s A
  kernel_rfl
theorem p31_1 : G_ tr5 TS31 1 [30, 29, 28, 27, 26] := by
  intro s A
  kernel_rfl
theorem p31_2 : G_ tr5 TS31 2 [31, 31, 31, 31, 31] := by
  intro s A
  kernel_rfl
theorem p31_3 : G_ tr5 TS31 3 [30, 29, 28, 27, 26] := by
  intro s A
  kernel_rfl
theorem p31_4 : X_ tr5 TS31 4 31 := by
  intro s A
  kernel_rfl
theorem p31_5 : X_ tr5 TS31 5 31 := by
  intro s A
  kernel_rfl
theorem w0_0 : W_ TS0 ct0 [pa 0 0 0, pa 0 0 1, pa 0 0 2, pa 0 1 0, pa 0 1 1, pa 0 1 2, pa 0 2 0, pa 0 2 1] := by
  intro s A
  kernel_rfl
theorem w0_1 : W_ TS0 ct0 [pa 0 2 2, pa 1 0 0, pa 1 0 1, pa 1 0 2, pa 1 1 0, pa 1 1 1, pa 1 1 2, pa 1 2 0] := by
  intro s A
  kernel_rfl
theorem w0_2 : W_ TS0 ct0 [pa 1 2 1, pa 1 2 2, pa 2 0 0, pa 2 0 1, pa 2 0 2, pa 2 1 0, pa 2 1 1, pa 2 1 2] := by
  intro s A
  kernel_rfl
theorem w0_3 : W_ TS0 ct0 [pa 2 2 0, pa 2 2 1, pa 2 2 2, pa 3 0 0, pa 3 0 1, pa 3 0 2, pa 3 1 0, pa 3 1 1] := by
  intro s A
  kernel_rfl
theorem w0_4 : W_ TS0 ct0 [pa 3 1 2, pa 3 2 0, pa 3 2 1, pa 3 2 2, pa 4 0 0, pa 4 0 1, pa 4 0 2, pa 4 1 0] := by
  intro s A
  kernel_rfl
theorem w0_5 : W_ TS0 ct0 [pa 4 1 1, pa 4 1 2, pa 4 2 0, pa 4 2 1, pa 4 2 2, pa 5 0 0, pa 5 0 1, pa 5 0 2] := by
  intro s A
  kernel_rfl
theorem w0_6 : W_ TS0 ct0 [pa 5 1 0, pa 5 1 1, pa 5 1 2, pa 5 2 0, pa 5 2 1, pa 5 2 2] := by
  intro s A
  kernel_rfl
theorem w1_0 : W_ TS1 ct1 [pa 0 0 0, pa 0 0 1, pa 0 0 2, pa 0 1 0, pa 0 1 1, pa 0 1 2] := by
  intro s A
  kernel_rfl
theorem w1_1 : W_ TS1 ct1 [pa 0 2 0, pa 0 2 1, pa 0 2 2, pa 1 0 0, pa 1 0 1, pa 1 0 2] := by
  intro s A
  kernel_rfl
theorem w1_2 : W_ TS1 ct1 [pa 1 1 0, pa 1 1 1, pa 1 1 2, pa 1 2 0] := by
  intro s A
  kernel_rfl
theorem w1_3 : W_ TS1 ct1 [pa 1 2 1, pa 1 2 2, pa 2 0 0, pa 2 0 1, pa 2 0 2, pa 2 1 0] := by
  intro s A
  kernel_rfl
theorem w1_4 : W_ TS1 ct1 [pa 2 1 1, pa 2 1 2, pa 2 2 0, pa 2 2 1, pa 2 2 2] := by
  intro s A
  kernel_rfl
end Go.Ev
