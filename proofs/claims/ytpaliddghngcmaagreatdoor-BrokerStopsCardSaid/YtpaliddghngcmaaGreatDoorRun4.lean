/- Passes of BrokerStops's loop, part 4. -/
import Derived.Test.YtpaliddghngcmaaGreatDoorSt
namespace Go.Ev
open Go.Proofs
set_option maxRecDepth 1000000
theorem p10_12 : G_ tr0 TS10 12 [13, 13] := by
  intro s A
  kernel_rfl
theorem p10_13 : G_ tr0 TS10 13 [10] := by
  intro s A
  kernel_rfl
theorem p10_14 : G_ tr0 TS10 14 [10] := by
  intro s A
  kernel_rfl
theorem p10_15 : G_ tr0 TS10 15 [10] := by
  intro s A
  kernel_rfl
theorem p10_16 : G_ tr0 TS10 16 [15] := by
  intro s A
  kernel_rfl
theorem p10_17 : G_ tr0 TS10 17 [10] := by
  intro s A
  kernel_rfl
theorem p10_18 : G_ tr0 TS10 18 [10] := by
  intro s A
  kernel_rfl
theorem p10_19 : G_ tr0 TS10 19 [10] := by
  intro s A
  kernel_rfl
theorem p10_20 : G_ tr0 TS10 20 [] := by
  intro s A
  kernel_rfl
theorem p10_21 : G_ tr0 TS10 21 [] := by
  intro s A
  kernel_rfl
theorem p11_0 : G_ tr0 TS11 0 [5] := by
  intro s A
  kernel_rfl
theorem p11_1 : G_ tr0 TS11 1 [11] := by
  intro s A
  kernel_rfl
theorem p11_2 : G_ tr0 TS11 2 [11] := by
  intro s A
  kernel_rfl
theorem p11_3 : G_ tr0 TS11 3 [11] := by
  intro s A
  kernel_rfl
theorem p11_4 : G_ tr0 TS11 4 [8] := by
  intro s A
  kernel_rfl
theorem p11_5 : G_ tr0 TS11 5 [11] := by
  intro s A
  kernel_rfl
theorem p11_6 : G_ tr0 TS11 6 [11] := by
  intro s A
  kernel_rfl
theorem p11_7 : G_ tr0 TS11 7 [11] := by
  intro s A
  kernel_rfl
theorem p11_8 : G_ tr0 TS11 8 [10] := by
  intro s A
  kernel_rfl
theorem p11_9 : G_ tr0 TS11 9 [11] := by
  intro s A
  kernel_rfl
theorem p11_10 : G_ tr0 TS11 10 [11] := by
  intro s A
  kernel_rfl
theorem p11_11 : G_ tr0 TS11 11 [11] := by
  intro s A
  kernel_rfl
theorem p11_12 : G_ tr0 TS11 12 [5] := by
  intro s A
  kernel_rfl
theorem p11_13 : G_ tr0 TS11 13 [11] := by
  intro s A
  kernel_rfl
theorem p11_14 : G_ tr0 TS11 14 [11] := by
  intro s A
  kernel_rfl
theorem p11_15 : G_ tr0 TS11 15 [11] := by
  intro s A
  kernel_rfl
theorem p11_16 : G_ tr0 TS11 16 [8] := by
  intro s A
  kernel_rfl
theorem p11_17 : G_ tr0 TS11 17 [11] := by
  intro s A
  kernel_rfl
theorem p11_18 : G_ tr0 TS11 18 [11] := by
  intro s A
  kernel_rfl
theorem p11_19 : G_ tr0 TS11 19 [11] := by
  intro s A
  kernel_rfl
theorem p11_20 : G_ tr0 TS11 20 [] := by
  intro s A
  kernel_rfl
theorem p11_21 : G_ tr0 TS11 21 [] := by
  intro s A
  kernel_rfl
theorem p12_0 : G_ tr0 TS12 0 [12] := by
  intro s A
  kernel_rfl
theorem p12_1 : G_ tr0 TS12 1 [8] := by
  intro s A
  kernel_rfl
theorem p12_2 : G_ tr0 TS12 2 [12] := by
  intro s A
  kernel_rfl
theorem p12_3 : G_ tr0 TS12 3 [12] := by
  intro s A
  kernel_rfl
theorem p12_4 : G_ tr0 TS12 4 [12] := by
  intro s A
  kernel_rfl
theorem p12_5 : G_ tr0 TS12 5 [5] := by
  intro s A
  kernel_rfl
theorem p12_6 : G_ tr0 TS12 6 [12] := by
  intro s A
  kernel_rfl
theorem p12_7 : G_ tr0 TS12 7 [12] := by
  intro s A
  kernel_rfl
theorem p12_8 : G_ tr0 TS12 8 [16, 16] := by
  intro s A
  kernel_rfl
theorem p12_9 : G_ tr0 TS12 9 [12] := by
  intro s A
  kernel_rfl
theorem p12_10 : G_ tr0 TS12 10 [12] := by
  intro s A
  kernel_rfl
theorem p12_11 : G_ tr0 TS12 11 [12] := by
  intro s A
  kernel_rfl
theorem p12_12 : G_ tr0 TS12 12 [12] := by
  intro s A
  kernel_rfl
theorem p12_13 : G_ tr0 TS12 13 [8] := by
  intro s A
  kernel_rfl
theorem p12_14 : G_ tr0 TS12 14 [12] := by
  intro s A
  kernel_rfl
theorem p12_15 : G_ tr0 TS12 15 [12] := by
  intro s A
  kernel_rfl
theorem p12_16 : G_ tr0 TS12 16 [12] := by
  intro s A
  kernel_rfl
theorem p12_17 : G_ tr0 TS12 17 [5] := by
  intro s A
  kernel_rfl
theorem p12_18 : G_ tr0 TS12 18 [12] := by
  intro s A
  kernel_rfl
theorem p12_19 : G_ tr0 TS12 19 [12] := by
  intro s A
  kernel_rfl
theorem p12_20 : G_ tr0 TS12 20 [] := by
  intro s A
  kernel_rfl
theorem p12_21 : G_ tr0 TS12 21 [] := by
  intro s A
  kernel_rfl
theorem p13_0 : G_ tr0 TS13 0 [13] := by
  intro s A
  kernel_rfl
theorem p13_1 : G_ tr0 TS13 1 [10] := by
  intro s A
  kernel_rfl
end Go.Ev
