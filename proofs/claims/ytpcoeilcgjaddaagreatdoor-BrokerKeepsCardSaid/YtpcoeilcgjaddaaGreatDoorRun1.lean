/- Passes of BrokerKeeps's loop, part 1. -/
import Derived.Test.YtpcoeilcgjaddaaGreatDoorSt
namespace Go.Ev
open Go.Proofs
set_option maxRecDepth 1000000
theorem p13_1 : G_ tr2 TS13 1 [13, 13, 4, 3, 13] := by
  intro s A
  kernel_rfl
theorem p13_2 : G_ tr2 TS13 2 [19, 22, 13, 13, 25] := by
  intro s A
  kernel_rfl
theorem p13_3 : G_ tr2 TS13 3 [13, 13, 4, 3, 13] := by
  intro s A
  kernel_rfl
theorem p13_4 : X_ tr2 TS13 4 13 := by
  intro s A
  kernel_rfl
theorem p13_5 : X_ tr2 TS13 5 13 := by
  intro s A
  kernel_rfl
theorem p14_0 : G_ tr2 TS14 0 [20, 23, 14, 25, 14] := by
  intro s A
  kernel_rfl
theorem p14_1 : G_ tr2 TS14 1 [14, 14, 5, 14, 3] := by
  intro s A
  kernel_rfl
theorem p14_2 : G_ tr2 TS14 2 [20, 23, 14, 25, 14] := by
  intro s A
  kernel_rfl
theorem p14_3 : G_ tr2 TS14 3 [14, 14, 5, 14, 3] := by
  intro s A
  kernel_rfl
theorem p14_4 : X_ tr2 TS14 4 14 := by
  intro s A
  kernel_rfl
theorem p14_5 : X_ tr2 TS14 5 14 := by
  intro s A
  kernel_rfl
theorem p15_0 : G_ tr2 TS15 0 [21, 24, 25, 15, 15] := by
  intro s A
  kernel_rfl
theorem p15_1 : G_ tr2 TS15 1 [15, 15, 15, 5, 4] := by
  intro s A
  kernel_rfl
theorem p15_2 : G_ tr2 TS15 2 [21, 24, 25, 15, 15] := by
  intro s A
  kernel_rfl
theorem p15_3 : G_ tr2 TS15 3 [15, 15, 15, 5, 4] := by
  intro s A
  kernel_rfl
theorem p15_4 : X_ tr2 TS15 4 15 := by
  intro s A
  kernel_rfl
theorem p15_5 : X_ tr2 TS15 5 15 := by
  intro s A
  kernel_rfl
theorem p16_0 : G_ tr3 TS16 0 [16, 16, 16, 26, 27] := by
  intro s A
  kernel_rfl
theorem p16_1 : G_ tr3 TS16 1 [10, 7, 6, 16, 16] := by
  intro s A
  kernel_rfl
theorem p16_2 : G_ tr3 TS16 2 [16, 16, 16, 26, 27] := by
  intro s A
  kernel_rfl
theorem p16_3 : G_ tr3 TS16 3 [10, 7, 6, 16, 16] := by
  intro s A
  kernel_rfl
theorem p16_4 : X_ tr3 TS16 4 16 := by
  intro s A
  kernel_rfl
theorem p16_5 : X_ tr3 TS16 5 16 := by
  intro s A
  kernel_rfl
theorem p17_0 : G_ tr3 TS17 0 [17, 17, 26, 17, 28] := by
  intro s A
  kernel_rfl
theorem p17_1 : G_ tr3 TS17 1 [11, 8, 17, 6, 17] := by
  intro s A
  kernel_rfl
theorem p17_2 : G_ tr3 TS17 2 [17, 17, 26, 17, 28] := by
  intro s A
  kernel_rfl
theorem p17_3 : G_ tr3 TS17 3 [11, 8, 17, 6, 17] := by
  intro s A
  kernel_rfl
theorem p17_4 : X_ tr3 TS17 4 17 := by
  intro s A
  kernel_rfl
theorem p17_5 : X_ tr3 TS17 5 17 := by
  intro s A
  kernel_rfl
theorem p18_0 : G_ tr3 TS18 0 [18, 18, 27, 28, 18] := by
  intro s A
  kernel_rfl
theorem p18_1 : G_ tr3 TS18 1 [12, 9, 18, 18, 6] := by
  intro s A
  kernel_rfl
theorem p18_2 : G_ tr3 TS18 2 [18, 18, 27, 28, 18] := by
  intro s A
  kernel_rfl
theorem p18_3 : G_ tr3 TS18 3 [12, 9, 18, 18, 6] := by
  intro s A
  kernel_rfl
theorem p18_4 : X_ tr3 TS18 4 18 := by
  intro s A
  kernel_rfl
theorem p18_5 : X_ tr3 TS18 5 18 := by
  intro s A
  kernel_rfl
theorem p19_0 : G_ tr3 TS19 0 [19, 26, 19, 19, 29] := by
  intro s A
  kernel_rfl
theorem p19_1 : G_ tr3 TS19 1 [13, 19, 8, 7, 19] := by
  intro s A
  kernel_rfl
theorem p19_2 : G_ tr3 TS19 2 [19, 26, 19, 19, 29] := by
  intro s A
  kernel_rfl
theorem p19_3 : G_ tr3 TS19 3 [13, 19, 8, 7, 19] := by
  intro s A
  kernel_rfl
theorem p19_4 : X_ tr3 TS19 4 19 := by
  intro s A
  kernel_rfl
theorem p19_5 : X_ tr3 TS19 5 19 := by
  intro s A
  kernel_rfl
theorem p20_0 : G_ tr3 TS20 0 [20, 27, 20, 29, 20] := by
  intro s A
  kernel_rfl
theorem p20_1 : G_ tr3 TS20 1 [14, 20, 9, 20, 7] := by
  intro s A
  kernel_rfl
theorem p20_2 : G_ tr3 TS20 2 [20, 27, 20, 29, 20] := by
  intro s A
  kernel_rfl
theorem p20_3 : G_ tr3 TS20 3 [14, 20, 9, 20, 7] := by
  intro s A
  kernel_rfl
theorem p20_4 : X_ tr3 TS20 4 20 := by
  intro s A
  kernel_rfl
theorem p20_5 : X_ tr3 TS20 5 20 := by
  intro s A
  kernel_rfl
theorem p21_0 : G_ tr3 TS21 0 [21, 28, 29, 21, 21] := by
  intro s A
  kernel_rfl
theorem p21_1 : G_ tr3 TS21 1 [15, 21, 21, 9, 8] := by
  intro s A
  kernel_rfl
theorem p21_2 : G_ tr3 TS21 2 [21, 28, 29, 21, 21] := by
  intro s A
  kernel_rfl
theorem p21_3 : G_ tr3 TS21 3 [15, 21, 21, 9, 8] := by
  intro s A
  kernel_rfl
theorem p21_4 : X_ tr3 TS21 4 21 := by
  intro s A
  kernel_rfl
theorem p21_5 : X_ tr3 TS21 5 21 := by
  intro s A
  kernel_rfl
theorem p22_0 : G_ tr3 TS22 0 [26, 22, 22, 22, 30] := by
  intro s A
  kernel_rfl
theorem p22_1 : G_ tr3 TS22 1 [22, 13, 11, 10, 22] := by
  intro s A
  kernel_rfl
theorem p22_2 : G_ tr3 TS22 2 [26, 22, 22, 22, 30] := by
  intro s A
  kernel_rfl
theorem p22_3 : G_ tr3 TS22 3 [22, 13, 11, 10, 22] := by
  intro s A
  kernel_rfl
theorem p22_4 : X_ tr3 TS22 4 22 := by
  intro s A
  kernel_rfl
theorem p22_5 : X_ tr3 TS22 5 22 := by
  intro s A
  kernel_rfl
theorem p23_0 : G_ tr3 TS23 0 [27, 23, 23, 30, 23] := by
  intro s A
  kernel_rfl
theorem p23_1 : G_ tr3 TS23 1 [23, 14, 12, 23, 10] := by
  intro s A
  kernel_rfl
theorem p23_2 : G_ tr3 TS23 2 [27, 23, 23, 30, 23] := by
  intro s A
  kernel_rfl
theorem p23_3 : G_ tr3 TS23 3 [23, 14, 12, 23, 10] := by
  intro s A
  kernel_rfl
theorem p23_4 : X_ tr3 TS23 4 23 := by
  intro s A
  kernel_rfl
theorem p23_5 : X_ tr3 TS23 5 23 := by
  intro s A
  kernel_rfl
theorem p24_0 : G_ tr3 TS24 0 [28, 24, 30, 24, 24] := by
  intro s A
  kernel_rfl
theorem p24_1 : G_ tr3 TS24 1 [24, 15, 24, 12, 11] := by
  intro s A
  kernel_rfl
theorem p24_2 : G_ tr3 TS24 2 [28, 24, 30, 24, 24] := by
  intro s A
  kernel_rfl
theorem p24_3 : G_ tr3 TS24 3 [24, 15, 24, 12, 11] := by
  intro s A
  kernel_rfl
theorem p24_4 : X_ tr3 TS24 4 24 := by
  intro s A
  kernel_rfl
theorem p24_5 : X_ tr3 TS24 5 24 := by
  intro s A
  kernel_rfl
theorem p25_0 : G_ tr3 TS25 0 [29, 30, 25, 25, 25] := by
  intro s A
  kernel_rfl
theorem p25_1 : G_ tr3 TS25 1 [25, 25, 15, 14, 13] := by
  intro s A
  kernel_rfl
theorem p25_2 : G_ tr3 TS25 2 [29, 30, 25, 25, 25] := by
  intro s A
  kernel_rfl
theorem p25_3 : G_ tr3 TS25 3 [25, 25, 15, 14, 13] := by
  intro s A
  kernel_rfl
theorem p25_4 : X_ tr3 TS25 4 25 := by
  intro s A
  kernel_rfl
theorem p25_5 : X_ tr3 TS25 5 25 := by
  intro s A
  kernel_rfl
theorem p26_0 : G_ tr4 TS26 0 [26, 26, 26, 26, 31] := by
  intro s A
  kernel_rfl
theorem p26_1 : G_ tr4 TS26 1 [22, 19, 17, 16, 26] := by
  intro s A
  kernel_rfl
end Go.Ev
