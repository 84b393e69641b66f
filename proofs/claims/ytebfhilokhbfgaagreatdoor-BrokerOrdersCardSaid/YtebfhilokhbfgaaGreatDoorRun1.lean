/- Passes of BrokerOrders's loop, part 1. -/
import Derived.Test.YtebfhilokhbfgaaGreatDoorSt
namespace Go.Ev
open Go.Proofs
set_option maxRecDepth 1000000
theorem p6_6 : G_ tr2 TS6 6 [7, 7, 7] := by
  intro s A
  kernel_rfl
theorem p6_7 : G_ tr2 TS6 7 [] := by
  intro s A
  kernel_rfl
theorem p6_8 : G_ tr2 TS6 8 [] := by
  intro s A
  kernel_rfl
theorem p7_0 : G_ tr3 TS7 0 [10, 10, 10] := by
  intro s A
  kernel_rfl
theorem p7_1 : G_ tr3 TS7 1 [7, 7, 7] := by
  intro s A
  kernel_rfl
theorem p7_2 : G_ tr3 TS7 2 [7, 7, 7] := by
  intro s A
  kernel_rfl
theorem p7_3 : G_ tr3 TS7 3 [10, 10, 10] := by
  intro s A
  kernel_rfl
theorem p7_4 : G_ tr3 TS7 4 [7, 7, 7] := by
  intro s A
  kernel_rfl
theorem p7_5 : G_ tr3 TS7 5 [7, 7, 7] := by
  intro s A
  kernel_rfl
theorem p7_6 : G_ tr3 TS7 6 [11, 11, 11] := by
  intro s A
  kernel_rfl
theorem p7_7 : G_ tr3 TS7 7 [10, 10, 10] := by
  intro s A
  kernel_rfl
theorem p7_8 : G_ tr3 TS7 8 [7, 7, 7] := by
  intro s A
  kernel_rfl
theorem p7_9 : G_ tr3 TS7 9 [7, 7, 7] := by
  intro s A
  kernel_rfl
theorem p7_10 : G_ tr3 TS7 10 [10, 10, 10] := by
  intro s A
  kernel_rfl
theorem p7_11 : G_ tr3 TS7 11 [7, 7, 7] := by
  intro s A
  kernel_rfl
theorem p7_12 : G_ tr3 TS7 12 [7, 7, 7] := by
  intro s A
  kernel_rfl
theorem p7_13 : G_ tr3 TS7 13 [] := by
  intro s A
  kernel_rfl
theorem p7_14 : G_ tr3 TS7 14 [] := by
  intro s A
  kernel_rfl
theorem p7_15 : G_ tr3 TS7 15 [] := by
  intro s A
  kernel_rfl
theorem p7_16 : G_ tr3 TS7 16 [] := by
  intro s A
  kernel_rfl
theorem p8_0 : G_ tr2 TS8 0 [12, 12, 12] := by
  intro s A
  kernel_rfl
theorem p8_1 : G_ tr2 TS8 1 [13, 13, 13] := by
  intro s A
  kernel_rfl
theorem p8_2 : G_ tr2 TS8 2 [13, 13, 13] := by
  intro s A
  kernel_rfl
theorem p8_3 : G_ tr2 TS8 3 [14, 14, 14] := by
  intro s A
  kernel_rfl
theorem p8_4 : G_ tr2 TS8 4 [12, 12, 12] := by
  intro s A
  kernel_rfl
theorem p8_5 : G_ tr2 TS8 5 [13, 13, 13] := by
  intro s A
  kernel_rfl
theorem p8_6 : G_ tr2 TS8 6 [13, 13, 13] := by
  intro s A
  kernel_rfl
theorem p8_7 : G_ tr2 TS8 7 [] := by
  intro s A
  kernel_rfl
theorem p8_8 : G_ tr2 TS8 8 [] := by
  intro s A
  kernel_rfl
theorem p9_0 : G_ tr2 TS9 0 [10, 10, 10] := by
  intro s A
  kernel_rfl
theorem p9_1 : G_ tr2 TS9 1 [7, 7, 7] := by
  intro s A
  kernel_rfl
theorem p9_2 : G_ tr2 TS9 2 [7, 7, 7] := by
  intro s A
  kernel_rfl
theorem p9_3 : G_ tr2 TS9 3 [15, 15, 15] := by
  intro s A
  kernel_rfl
theorem p9_4 : G_ tr2 TS9 4 [10, 10, 10] := by
  intro s A
  kernel_rfl
theorem p9_5 : G_ tr2 TS9 5 [7, 7, 7] := by
  intro s A
  kernel_rfl
theorem p9_6 : G_ tr2 TS9 6 [7, 7, 7] := by
  intro s A
  kernel_rfl
theorem p9_7 : G_ tr2 TS9 7 [] := by
  intro s A
  kernel_rfl
theorem p9_8 : G_ tr2 TS9 8 [] := by
  intro s A
  kernel_rfl
theorem p10_0 : G_ tr2 TS10 0 [10, 10, 10] := by
  intro s A
  kernel_rfl
theorem p10_1 : G_ tr2 TS10 1 [7, 7, 7] := by
  intro s A
  kernel_rfl
theorem p10_2 : G_ tr2 TS10 2 [7, 7, 7] := by
  intro s A
  kernel_rfl
theorem p10_3 : G_ tr2 TS10 3 [15, 15, 15] := by
  intro s A
  kernel_rfl
theorem p10_4 : G_ tr2 TS10 4 [10, 10, 10] := by
  intro s A
  kernel_rfl
theorem p10_5 : G_ tr2 TS10 5 [7, 7, 7] := by
  intro s A
  kernel_rfl
theorem p10_6 : G_ tr2 TS10 6 [7, 7, 7] := by
  intro s A
  kernel_rfl
theorem p10_7 : G_ tr2 TS10 7 [] := by
  intro s A
  kernel_rfl
theorem p10_8 : G_ tr2 TS10 8 [] := by
  intro s A
  kernel_rfl
theorem p11_0 : G_ tr4 TS11 0 [16, 16, 16] := by
  intro s A
  kernel_rfl
theorem p11_1 : G_ tr4 TS11 1 [13, 13, 13] := by
  intro s A
  kernel_rfl
theorem p11_2 : G_ tr4 TS11 2 [13, 13, 13] := by
  intro s A
  kernel_rfl
theorem p11_3 : G_ tr4 TS11 3 [16, 16, 16] := by
  intro s A
  kernel_rfl
theorem p11_4 : G_ tr4 TS11 4 [13, 13, 13] := by
  intro s A
  kernel_rfl
theorem p11_5 : G_ tr4 TS11 5 [13, 13, 13] := by
  intro s A
  kernel_rfl
end Go.Ev
