/- Passes of BrokerDeals's loop, part 1. -/
import Derived.Test.YtpaliddghngcmaaGreatDoorSt
namespace Go.Ev
open Go.Proofs
set_option maxRecDepth 1000000
theorem p8_3 : G_ tr1 TS8 3 [] := by
  intro s A
  kernel_rfl
theorem p9_0 : G_ tr2 TS9 0 [9] := by
  intro s A
  kernel_rfl
theorem p9_1 : G_ tr2 TS9 1 [19] := by
  intro s A
  kernel_rfl
theorem p9_2 : G_ tr2 TS9 2 [20] := by
  intro s A
  kernel_rfl
theorem p9_3 : G_ tr2 TS9 3 [9] := by
  intro s A
  kernel_rfl
theorem p9_4 : G_ tr2 TS9 4 [] := by
  intro s A
  kernel_rfl
theorem p10_0 : G_ tr2 TS10 0 [19] := by
  intro s A
  kernel_rfl
theorem p10_1 : G_ tr2 TS10 1 [10] := by
  intro s A
  kernel_rfl
theorem p10_2 : G_ tr2 TS10 2 [21] := by
  intro s A
  kernel_rfl
theorem p10_3 : G_ tr2 TS10 3 [19] := by
  intro s A
  kernel_rfl
theorem p10_4 : G_ tr2 TS10 4 [] := by
  intro s A
  kernel_rfl
theorem p11_0 : G_ tr2 TS11 0 [20] := by
  intro s A
  kernel_rfl
theorem p11_1 : G_ tr2 TS11 1 [21] := by
  intro s A
  kernel_rfl
theorem p11_2 : G_ tr2 TS11 2 [11] := by
  intro s A
  kernel_rfl
theorem p11_3 : G_ tr2 TS11 3 [20] := by
  intro s A
  kernel_rfl
theorem p11_4 : G_ tr2 TS11 4 [] := by
  intro s A
  kernel_rfl
theorem p12_0 : G_ tr2 TS12 0 [9] := by
  intro s A
  kernel_rfl
theorem p12_1 : G_ tr2 TS12 1 [19] := by
  intro s A
  kernel_rfl
theorem p12_2 : G_ tr2 TS12 2 [20] := by
  intro s A
  kernel_rfl
theorem p12_3 : G_ tr2 TS12 3 [12] := by
  intro s A
  kernel_rfl
theorem p12_4 : G_ tr2 TS12 4 [] := by
  intro s A
  kernel_rfl
theorem p13_0 : G_ tr3 TS13 0 [13] := by
  intro s A
  kernel_rfl
theorem p13_1 : G_ tr3 TS13 1 [22] := by
  intro s A
  kernel_rfl
theorem p13_2 : G_ tr3 TS13 2 [23] := by
  intro s A
  kernel_rfl
theorem p13_3 : G_ tr3 TS13 3 [24] := by
  intro s A
  kernel_rfl
theorem p13_4 : G_ tr3 TS13 4 [13] := by
  intro s A
  kernel_rfl
theorem p13_5 : G_ tr3 TS13 5 [] := by
  intro s A
  kernel_rfl
theorem p14_0 : G_ tr3 TS14 0 [22] := by
  intro s A
  kernel_rfl
theorem p14_1 : G_ tr3 TS14 1 [14] := by
  intro s A
  kernel_rfl
theorem p14_2 : G_ tr3 TS14 2 [25] := by
  intro s A
  kernel_rfl
end Go.Ev
