/- Passes of BrokerDeals's loop, part 3. -/
import Derived.Test.YtpaliddghngcmaaGreatDoorSt
namespace Go.Ev
open Go.Proofs
set_option maxRecDepth 1000000
theorem p19_4 : G_ tr2 TS19 4 [] := by
  intro s A
  kernel_rfl
theorem p20_0 : G_ tr2 TS20 0 [20] := by
  intro s A
  kernel_rfl
theorem p20_1 : G_ tr2 TS20 1 [28] := by
  intro s A
  kernel_rfl
theorem p20_2 : G_ tr2 TS20 2 [20] := by
  intro s A
  kernel_rfl
theorem p20_3 : G_ tr2 TS20 3 [20] := by
  intro s A
  kernel_rfl
theorem p20_4 : G_ tr2 TS20 4 [] := by
  intro s A
  kernel_rfl
theorem p21_0 : G_ tr2 TS21 0 [28] := by
  intro s A
  kernel_rfl
theorem p21_1 : G_ tr2 TS21 1 [21] := by
  intro s A
  kernel_rfl
theorem p21_2 : G_ tr2 TS21 2 [21] := by
  intro s A
  kernel_rfl
theorem p21_3 : G_ tr2 TS21 3 [28] := by
  intro s A
  kernel_rfl
theorem p21_4 : G_ tr2 TS21 4 [] := by
  intro s A
  kernel_rfl
theorem p22_0 : G_ tr3 TS22 0 [22] := by
  intro s A
  kernel_rfl
theorem p22_1 : G_ tr3 TS22 1 [22] := by
  intro s A
  kernel_rfl
theorem p22_2 : G_ tr3 TS22 2 [29] := by
  intro s A
  kernel_rfl
theorem p22_3 : G_ tr3 TS22 3 [30] := by
  intro s A
  kernel_rfl
theorem p22_4 : G_ tr3 TS22 4 [22] := by
  intro s A
  kernel_rfl
theorem p22_5 : G_ tr3 TS22 5 [] := by
  intro s A
  kernel_rfl
theorem p23_0 : G_ tr3 TS23 0 [23] := by
  intro s A
  kernel_rfl
theorem p23_1 : G_ tr3 TS23 1 [29] := by
  intro s A
  kernel_rfl
theorem p23_2 : G_ tr3 TS23 2 [23] := by
  intro s A
  kernel_rfl
theorem p23_3 : G_ tr3 TS23 3 [31] := by
  intro s A
  kernel_rfl
theorem p23_4 : G_ tr3 TS23 4 [23] := by
  intro s A
  kernel_rfl
theorem p23_5 : G_ tr3 TS23 5 [] := by
  intro s A
  kernel_rfl
theorem p24_0 : G_ tr3 TS24 0 [24] := by
  intro s A
  kernel_rfl
theorem p24_1 : G_ tr3 TS24 1 [30] := by
  intro s A
  kernel_rfl
theorem p24_2 : G_ tr3 TS24 2 [31] := by
  intro s A
  kernel_rfl
theorem p24_3 : G_ tr3 TS24 3 [24] := by
  intro s A
  kernel_rfl
theorem p24_4 : G_ tr3 TS24 4 [24] := by
  intro s A
  kernel_rfl
theorem p24_5 : G_ tr3 TS24 5 [] := by
  intro s A
  kernel_rfl
theorem p25_0 : G_ tr3 TS25 0 [29] := by
  intro s A
  kernel_rfl
end Go.Ev
