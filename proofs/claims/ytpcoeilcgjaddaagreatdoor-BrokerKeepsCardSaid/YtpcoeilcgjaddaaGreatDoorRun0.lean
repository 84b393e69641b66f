/- Passes of BrokerKeeps's loop, part 0. -/
import Derived.Test.YtpcoeilcgjaddaaGreatDoorSt
namespace Go.Ev
open Go.Proofs
set_option maxRecDepth 1000000
theorem p0_0 : G_ tr0 TS0 0 [1, 2, 3, 4, 5] := by
  intro s A
  kernel_rfl
theorem p0_1 : G_ tr0 TS0 1 [0, 0, 0, 0, 0] := by
  intro s A
  kernel_rfl
theorem p0_2 : G_ tr0 TS0 2 [1, 2, 3, 4, 5] := by
  intro s A
  kernel_rfl
theorem p0_3 : G_ tr0 TS0 3 [0, 0, 0, 0, 0] := by
  intro s A
  kernel_rfl
theorem p0_4 : X_ tr0 TS0 4 0 := by
  intro s A
  kernel_rfl
theorem p0_5 : X_ tr0 TS0 5 0 := by
  intro s A
  kernel_rfl
theorem p1_0 : G_ tr1 TS1 0 [1, 6, 7, 8, 9] := by
  intro s A
  kernel_rfl
theorem p1_1 : G_ tr1 TS1 1 [0, 1, 1, 1, 1] := by
  intro s A
  kernel_rfl
theorem p1_2 : G_ tr1 TS1 2 [1, 6, 7, 8, 9] := by
  intro s A
  kernel_rfl
theorem p1_3 : G_ tr1 TS1 3 [0, 1, 1, 1, 1] := by
  intro s A
  kernel_rfl
theorem p1_4 : X_ tr1 TS1 4 1 := by
  intro s A
  kernel_rfl
theorem p1_5 : X_ tr1 TS1 5 1 := by
  intro s A
  kernel_rfl
theorem p2_0 : G_ tr1 TS2 0 [6, 2, 10, 11, 12] := by
  intro s A
  kernel_rfl
theorem p2_1 : G_ tr1 TS2 1 [2, 0, 2, 2, 2] := by
  intro s A
  kernel_rfl
theorem p2_2 : G_ tr1 TS2 2 [6, 2, 10, 11, 12] := by
  intro s A
  kernel_rfl
theorem p2_3 : G_ tr1 TS2 3 [2, 0, 2, 2, 2] := by
  intro s A
  kernel_rfl
theorem p2_4 : X_ tr1 TS2 4 2 := by
  intro s A
  kernel_rfl
theorem p2_5 : X_ tr1 TS2 5 2 := by
  intro s A
  kernel_rfl
theorem p3_0 : G_ tr1 TS3 0 [7, 10, 3, 13, 14] := by
  intro s A
  kernel_rfl
theorem p3_1 : G_ tr1 TS3 1 [3, 3, 0, 3, 3] := by
  intro s A
  kernel_rfl
theorem p3_2 : G_ tr1 TS3 2 [7, 10, 3, 13, 14] := by
  intro s A
  kernel_rfl
theorem p3_3 : G_ tr1 TS3 3 [3, 3, 0, 3, 3] := by
  intro s A
  kernel_rfl
theorem p3_4 : X_ tr1 TS3 4 3 := by
  intro s A
  kernel_rfl
theorem p3_5 : X_ tr1 TS3 5 3 := by
  intro s A
  kernel_rfl
theorem p4_0 : G_ tr1 TS4 0 [8, 11, 13, 4, 15] := by
  intro s A
  kernel_rfl
theorem p4_1 : G_ tr1 TS4 1 [4, 4, 4, 0, 4] := by
  intro s A
  kernel_rfl
theorem p4_2 : G_ tr1 TS4 2 [8, 11, 13, 4, 15] := by
  intro s A
  kernel_rfl
theorem p4_3 : G_ tr1 TS4 3 [4, 4, 4, 0, 4] := by
  intro s A
  kernel_rfl
theorem p4_4 : X_ tr1 TS4 4 4 := by
  intro s A
  kernel_rfl
theorem p4_5 : X_ tr1 TS4 5 4 := by
  intro s A
  kernel_rfl
theorem p5_0 : G_ tr1 TS5 0 [9, 12, 14, 15, 5] := by
  intro s A
  kernel_rfl
theorem p5_1 : G_ tr1 TS5 1 [5, 5, 5, 5, 0] := by
  intro s A
  kernel_rfl
theorem p5_2 : G_ tr1 TS5 2 [9, 12, 14, 15, 5] := by
  intro s A
  kernel_rfl
theorem p5_3 : G_ tr1 TS5 3 [5, 5, 5, 5, 0] := by
  intro s A
  kernel_rfl
theorem p5_4 : X_ tr1 TS5 4 5 := by
  intro s A
  kernel_rfl
theorem p5_5 : X_ tr1 TS5 5 5 := by
  intro s A
  kernel_rfl
theorem p6_0 : G_ tr2 TS6 0 [6, 6, 16, 17, 18] := by
  intro s A
  kernel_rfl
theorem p6_1 : G_ tr2 TS6 1 [2, 1, 6, 6, 6] := by
  intro s A
  kernel_rfl
theorem p6_2 : G_ tr2 TS6 2 [6, 6, 16, 17, 18] := by
  intro s A
  kernel_rfl
theorem p6_3 : G_ tr2 TS6 3 [2, 1, 6, 6, 6] := by
  intro s A
  kernel_rfl
theorem p6_4 : X_ tr2 TS6 4 6 := by
  intro s A
  kernel_rfl
theorem p6_5 : X_ tr2 TS6 5 6 := by
  intro s A
  kernel_rfl
theorem p7_0 : G_ tr2 TS7 0 [7, 16, 7, 19, 20] := by
  intro s A
  kernel_rfl
theorem p7_1 : G_ tr2 TS7 1 [3, 7, 1, 7, 7] := by
  intro s A
  kernel_rfl
theorem p7_2 : G_ tr2 TS7 2 [7, 16, 7, 19, 20] := by
  intro s A
  kernel_rfl
theorem p7_3 : G_ tr2 TS7 3 [3, 7, 1, 7, 7] := by
  intro s A
  kernel_rfl
theorem p7_4 : X_ tr2 TS7 4 7 := by
  intro s A
  kernel_rfl
theorem p7_5 : X_ tr2 TS7 5 7 := by
  intro s A
  kernel_rfl
theorem p8_0 : G_ tr2 TS8 0 [8, 17, 19, 8, 21] := by
  intro s A
  kernel_rfl
theorem p8_1 : G_ tr2 TS8 1 [4, 8, 8, 1, 8] := by
  intro s A
  kernel_rfl
theorem p8_2 : G_ tr2 TS8 2 [8, 17, 19, 8, 21] := by
  intro s A
  kernel_rfl
theorem p8_3 : G_ tr2 TS8 3 [4, 8, 8, 1, 8] := by
  intro s A
  kernel_rfl
theorem p8_4 : X_ tr2 TS8 4 8 := by
  intro s A
  kernel_rfl
theorem p8_5 : X_ tr2 TS8 5 8 := by
  intro s A
  kernel_rfl
theorem p9_0 : G_ tr2 TS9 0 [9, 18, 20, 21, 9] := by
  intro s A
  kernel_rfl
theorem p9_1 : G_ tr2 TS9 1 [5, 9, 9, 9, 1] := by
  intro s A
  kernel_rfl
theorem p9_2 : G_ tr2 TS9 2 [9, 18, 20, 21, 9] := by
  intro s A
  kernel_rfl
theorem p9_3 : G_ tr2 TS9 3 [5, 9, 9, 9, 1] := by
  intro s A
  kernel_rfl
theorem p9_4 : X_ tr2 TS9 4 9 := by
  intro s A
  kernel_rfl
theorem p9_5 : X_ tr2 TS9 5 9 := by
  intro s A
  kernel_rfl
theorem p10_0 : G_ tr2 TS10 0 [16, 10, 10, 22, 23] := by
  intro s A
  kernel_rfl
theorem p10_1 : G_ tr2 TS10 1 [10, 3, 2, 10, 10] := by
  intro s A
  kernel_rfl
theorem p10_2 : G_ tr2 TS10 2 [16, 10, 10, 22, 23] := by
  intro s A
  kernel_rfl
theorem p10_3 : G_ tr2 TS10 3 [10, 3, 2, 10, 10] := by
  intro s A
  kernel_rfl
theorem p10_4 : X_ tr2 TS10 4 10 := by
  intro s A
  kernel_rfl
theorem p10_5 : X_ tr2 TS10 5 10 := by
  intro s A
  kernel_rfl
theorem p11_0 : G_ tr2 TS11 0 [17, 11, 22, 11, 24] := by
  intro s A
  kernel_rfl
theorem p11_1 : G_ tr2 TS11 1 [11, 4, 11, 2, 11] := by
  intro s A
  kernel_rfl
theorem p11_2 : G_ tr2 TS11 2 [17, 11, 22, 11, 24] := by
  intro s A
  kernel_rfl
theorem p11_3 : G_ tr2 TS11 3 [11, 4, 11, 2, 11] := by
  intro s A
  kernel_rfl
theorem p11_4 : X_ tr2 TS11 4 11 := by
  intro s A
  kernel_rfl
theorem p11_5 : X_ tr2 TS11 5 11 := by
  intro s A
  kernel_rfl
theorem p12_0 : G_ tr2 TS12 0 [18, 12, 23, 24, 12] := by
  intro s A
  kernel_rfl
theorem p12_1 : G_ tr2 TS12 1 [12, 5, 12, 12, 2] := by
  intro s A
  kernel_rfl
theorem p12_2 : G_ tr2 TS12 2 [18, 12, 23, 24, 12] := by
  intro s A
  kernel_rfl
theorem p12_3 : G_ tr2 TS12 3 [12, 5, 12, 12, 2] := by
  intro s A
  kernel_rfl
theorem p12_4 : X_ tr2 TS12 4 12 := by
  intro s A
  kernel_rfl
theorem p12_5 : X_ tr2 TS12 5 12 := by
  intro s A
  kernel_rfl
theorem p13_0 : G_ tr2 TS13 0 [19, 22, 13, 13, 25] := by
  intro s A
  kernel_rfl
end Go.Ev
