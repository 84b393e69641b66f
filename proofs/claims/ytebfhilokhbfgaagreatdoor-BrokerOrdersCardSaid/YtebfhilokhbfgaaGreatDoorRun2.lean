/- Passes of BrokerOrders's loop, part 2. -/
import Derived.Test.YtebfhilokhbfgaaGreatDoorSt
namespace Go.Ev
open Go.Proofs
set_option maxRecDepth 1000000
theorem p11_6 : G_ tr4 TS11 6 [17, 17, 17] := by
  intro s A
  kernel_rfl
theorem p11_7 : G_ tr4 TS11 7 [16, 16, 16] := by
  intro s A
  kernel_rfl
theorem p11_8 : G_ tr4 TS11 8 [13, 13, 13] := by
  intro s A
  kernel_rfl
theorem p11_9 : G_ tr4 TS11 9 [13, 13, 13] := by
  intro s A
  kernel_rfl
theorem p11_10 : G_ tr4 TS11 10 [16, 16, 16] := by
  intro s A
  kernel_rfl
theorem p11_11 : G_ tr4 TS11 11 [13, 13, 13] := by
  intro s A
  kernel_rfl
theorem p11_12 : G_ tr4 TS11 12 [13, 13, 13] := by
  intro s A
  kernel_rfl
theorem p11_13 : G_ tr4 TS11 13 [] := by
  intro s A
  kernel_rfl
theorem p11_14 : G_ tr4 TS11 14 [] := by
  intro s A
  kernel_rfl
theorem p11_15 : G_ tr4 TS11 15 [] := by
  intro s A
  kernel_rfl
theorem p11_16 : G_ tr4 TS11 16 [] := by
  intro s A
  kernel_rfl
theorem p12_0 : G_ tr2 TS12 0 [12, 12, 12] := by
  intro s A
  kernel_rfl
theorem p12_1 : G_ tr2 TS12 1 [13, 13, 13] := by
  intro s A
  kernel_rfl
theorem p12_2 : G_ tr2 TS12 2 [13, 13, 13] := by
  intro s A
  kernel_rfl
theorem p12_3 : G_ tr2 TS12 3 [14, 14, 14] := by
  intro s A
  kernel_rfl
theorem p12_4 : G_ tr2 TS12 4 [12, 12, 12] := by
  intro s A
  kernel_rfl
theorem p12_5 : G_ tr2 TS12 5 [13, 13, 13] := by
  intro s A
  kernel_rfl
theorem p12_6 : G_ tr2 TS12 6 [13, 13, 13] := by
  intro s A
  kernel_rfl
theorem p12_7 : G_ tr2 TS12 7 [] := by
  intro s A
  kernel_rfl
theorem p12_8 : G_ tr2 TS12 8 [] := by
  intro s A
  kernel_rfl
theorem p13_0 : G_ tr4 TS13 0 [16, 16, 16] := by
  intro s A
  kernel_rfl
theorem p13_1 : G_ tr4 TS13 1 [13, 13, 13] := by
  intro s A
  kernel_rfl
theorem p13_2 : G_ tr4 TS13 2 [13, 13, 13] := by
  intro s A
  kernel_rfl
theorem p13_3 : G_ tr4 TS13 3 [16, 16, 16] := by
  intro s A
  kernel_rfl
theorem p13_4 : G_ tr4 TS13 4 [13, 13, 13] := by
  intro s A
  kernel_rfl
theorem p13_5 : G_ tr4 TS13 5 [13, 13, 13] := by
  intro s A
  kernel_rfl
theorem p13_6 : G_ tr4 TS13 6 [17, 17, 17] := by
  intro s A
  kernel_rfl
theorem p13_7 : G_ tr4 TS13 7 [16, 16, 16] := by
  intro s A
  kernel_rfl
theorem p13_8 : G_ tr4 TS13 8 [13, 13, 13] := by
  intro s A
  kernel_rfl
theorem p13_9 : G_ tr4 TS13 9 [13, 13, 13] := by
  intro s A
  kernel_rfl
theorem p13_10 : G_ tr4 TS13 10 [16, 16, 16] := by
  intro s A
  kernel_rfl
theorem p13_11 : G_ tr4 TS13 11 [13, 13, 13] := by
  intro s A
  kernel_rfl
theorem p13_12 : G_ tr4 TS13 12 [13, 13, 13] := by
  intro s A
  kernel_rfl
theorem p13_13 : G_ tr4 TS13 13 [] := by
  intro s A
  kernel_rfl
theorem p13_14 : G_ tr4 TS13 14 [] := by
  intro s A
  kernel_rfl
theorem p13_15 : G_ tr4 TS13 15 [] := by
  intro s A
  kernel_rfl
theorem p13_16 : G_ tr4 TS13 16 [] := by
  intro s A
  kernel_rfl
theorem p14_0 : G_ tr2 TS14 0 [18, 18, 18] := by
  intro s A
  kernel_rfl
theorem p14_1 : G_ tr2 TS14 1 [19, 19, 19] := by
  intro s A
  kernel_rfl
theorem p14_2 : G_ tr2 TS14 2 [19, 19, 19] := by
  intro s A
  kernel_rfl
theorem p14_3 : G_ tr2 TS14 3 [20, 20, 20] := by
  intro s A
  kernel_rfl
theorem p14_4 : G_ tr2 TS14 4 [18, 18, 18] := by
  intro s A
  kernel_rfl
theorem p14_5 : G_ tr2 TS14 5 [19, 19, 19] := by
  intro s A
  kernel_rfl
theorem p14_6 : G_ tr2 TS14 6 [19, 19, 19] := by
  intro s A
  kernel_rfl
theorem p14_7 : G_ tr2 TS14 7 [] := by
  intro s A
  kernel_rfl
theorem p14_8 : G_ tr2 TS14 8 [] := by
  intro s A
  kernel_rfl
theorem p15_0 : G_ tr2 TS15 0 [16, 16, 16] := by
  intro s A
  kernel_rfl
theorem p15_1 : G_ tr2 TS15 1 [13, 13, 13] := by
  intro s A
  kernel_rfl
theorem p15_2 : G_ tr2 TS15 2 [13, 13, 13] := by
  intro s A
  kernel_rfl
theorem p15_3 : G_ tr2 TS15 3 [21, 21, 21] := by
  intro s A
  kernel_rfl
theorem p15_4 : G_ tr2 TS15 4 [16, 16, 16] := by
  intro s A
  kernel_rfl
theorem p15_5 : G_ tr2 TS15 5 [13, 13, 13] := by
  intro s A
  kernel_rfl
theorem p15_6 : G_ tr2 TS15 6 [13, 13, 13] := by
  intro s A
  kernel_rfl
theorem p15_7 : G_ tr2 TS15 7 [] := by
  intro s A
  kernel_rfl
theorem p15_8 : G_ tr2 TS15 8 [] := by
  intro s A
  kernel_rfl
theorem p16_0 : G_ tr2 TS16 0 [16, 16, 16] := by
  intro s A
  kernel_rfl
theorem p16_1 : G_ tr2 TS16 1 [13, 13, 13] := by
  intro s A
  kernel_rfl
theorem p16_2 : G_ tr2 TS16 2 [13, 13, 13] := by
  intro s A
  kernel_rfl
theorem p16_3 : G_ tr2 TS16 3 [21, 21, 21] := by
  intro s A
  kernel_rfl
theorem p16_4 : G_ tr2 TS16 4 [16, 16, 16] := by
  intro s A
  kernel_rfl
end Go.Ev
