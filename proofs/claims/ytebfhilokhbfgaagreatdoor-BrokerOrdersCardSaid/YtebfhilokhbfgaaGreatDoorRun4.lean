/- Passes of BrokerOrders's loop, part 4. -/
import Derived.Test.YtebfhilokhbfgaaGreatDoorSt
namespace Go.Ev
open Go.Proofs
set_option maxRecDepth 1000000
theorem p21_1 : G_ tr2 TS21 1 [19, 19, 19] := by
  intro s A
  kernel_rfl
theorem p21_2 : G_ tr2 TS21 2 [19, 19, 19] := by
  intro s A
  kernel_rfl
theorem p21_3 : G_ tr2 TS21 3 [27, 27, 27] := by
  intro s A
  kernel_rfl
theorem p21_4 : G_ tr2 TS21 4 [22, 22, 22] := by
  intro s A
  kernel_rfl
theorem p21_5 : G_ tr2 TS21 5 [19, 19, 19] := by
  intro s A
  kernel_rfl
theorem p21_6 : G_ tr2 TS21 6 [19, 19, 19] := by
  intro s A
  kernel_rfl
theorem p21_7 : G_ tr2 TS21 7 [] := by
  intro s A
  kernel_rfl
theorem p21_8 : G_ tr2 TS21 8 [] := by
  intro s A
  kernel_rfl
theorem p22_0 : G_ tr2 TS22 0 [22, 22, 22] := by
  intro s A
  kernel_rfl
theorem p22_1 : G_ tr2 TS22 1 [19, 19, 19] := by
  intro s A
  kernel_rfl
theorem p22_2 : G_ tr2 TS22 2 [19, 19, 19] := by
  intro s A
  kernel_rfl
theorem p22_3 : G_ tr2 TS22 3 [27, 27, 27] := by
  intro s A
  kernel_rfl
theorem p22_4 : G_ tr2 TS22 4 [22, 22, 22] := by
  intro s A
  kernel_rfl
theorem p22_5 : G_ tr2 TS22 5 [19, 19, 19] := by
  intro s A
  kernel_rfl
theorem p22_6 : G_ tr2 TS22 6 [19, 19, 19] := by
  intro s A
  kernel_rfl
theorem p22_7 : G_ tr2 TS22 7 [] := by
  intro s A
  kernel_rfl
theorem p22_8 : G_ tr2 TS22 8 [] := by
  intro s A
  kernel_rfl
theorem p23_0 : G_ tr6 TS23 0 [28, 28, 28] := by
  intro s A
  kernel_rfl
theorem p23_1 : G_ tr6 TS23 1 [25, 25, 25] := by
  intro s A
  kernel_rfl
theorem p23_2 : G_ tr6 TS23 2 [25, 25, 25] := by
  intro s A
  kernel_rfl
theorem p23_3 : G_ tr6 TS23 3 [28, 28, 28] := by
  intro s A
  kernel_rfl
theorem p23_4 : G_ tr6 TS23 4 [25, 25, 25] := by
  intro s A
  kernel_rfl
theorem p23_5 : G_ tr6 TS23 5 [25, 25, 25] := by
  intro s A
  kernel_rfl
theorem p23_6 : G_ tr6 TS23 6 [29, 29, 29] := by
  intro s A
  kernel_rfl
theorem p23_7 : G_ tr6 TS23 7 [28, 28, 28] := by
  intro s A
  kernel_rfl
theorem p23_8 : G_ tr6 TS23 8 [25, 25, 25] := by
  intro s A
  kernel_rfl
theorem p23_9 : G_ tr6 TS23 9 [25, 25, 25] := by
  intro s A
  kernel_rfl
theorem p23_10 : G_ tr6 TS23 10 [28, 28, 28] := by
  intro s A
  kernel_rfl
theorem p23_11 : G_ tr6 TS23 11 [25, 25, 25] := by
  intro s A
  kernel_rfl
theorem p23_12 : G_ tr6 TS23 12 [25, 25, 25] := by
  intro s A
  kernel_rfl
theorem p23_13 : G_ tr6 TS23 13 [] := by
  intro s A
  kernel_rfl
theorem p23_14 : G_ tr6 TS23 14 [] := by
  intro s A
  kernel_rfl
theorem p23_15 : G_ tr6 TS23 15 [] := by
  intro s A
  kernel_rfl
theorem p23_16 : G_ tr6 TS23 16 [] := by
  intro s A
  kernel_rfl
theorem p24_0 : G_ tr2 TS24 0 [24, 24, 24] := by
  intro s A
  kernel_rfl
theorem p24_1 : G_ tr2 TS24 1 [25, 25, 25] := by
  intro s A
  kernel_rfl
theorem p24_2 : G_ tr2 TS24 2 [25, 25, 25] := by
  intro s A
  kernel_rfl
theorem p24_3 : G_ tr2 TS24 3 [26, 26, 26] := by
  intro s A
  kernel_rfl
theorem p24_4 : G_ tr2 TS24 4 [24, 24, 24] := by
  intro s A
  kernel_rfl
theorem p24_5 : G_ tr2 TS24 5 [25, 25, 25] := by
  intro s A
  kernel_rfl
theorem p24_6 : G_ tr2 TS24 6 [25, 25, 25] := by
  intro s A
  kernel_rfl
theorem p24_7 : G_ tr2 TS24 7 [] := by
  intro s A
  kernel_rfl
theorem p24_8 : G_ tr2 TS24 8 [] := by
  intro s A
  kernel_rfl
theorem p25_0 : G_ tr6 TS25 0 [28, 28, 28] := by
  intro s A
  kernel_rfl
theorem p25_1 : G_ tr6 TS25 1 [25, 25, 25] := by
  intro s A
  kernel_rfl
theorem p25_2 : G_ tr6 TS25 2 [25, 25, 25] := by
  intro s A
  kernel_rfl
theorem p25_3 : G_ tr6 TS25 3 [28, 28, 28] := by
  intro s A
  kernel_rfl
theorem p25_4 : G_ tr6 TS25 4 [25, 25, 25] := by
  intro s A
  kernel_rfl
theorem p25_5 : G_ tr6 TS25 5 [25, 25, 25] := by
  intro s A
  kernel_rfl
theorem p25_6 : G_ tr6 TS25 6 [29, 29, 29] := by
  intro s A
  kernel_rfl
theorem p25_7 : G_ tr6 TS25 7 [28, 28, 28] := by
  intro s A
  kernel_rfl
theorem p25_8 : G_ tr6 TS25 8 [25, 25, 25] := by
  intro s A
  kernel_rfl
theorem p25_9 : G_ tr6 TS25 9 [25, 25, 25] := by
  intro s A
  kernel_rfl
theorem p25_10 : G_ tr6 TS25 10 [28, 28, 28] := by
  intro s A
  kernel_rfl
theorem p25_11 : G_ tr6 TS25 11 [25, 25, 25] := by
  intro s A
  kernel_rfl
end Go.Ev
