/- Passes of BrokerStops's loop, part 3. -/
import Derived.Test.YtpaliddghngcmaaGreatDoorSt
namespace Go.Ev
open Go.Proofs
set_option maxRecDepth 1000000
theorem p8_5 : G_ tr0 TS8 5 [11] := by
  intro s A
  kernel_rfl
theorem p8_6 : G_ tr0 TS8 6 [8] := by
  intro s A
  kernel_rfl
theorem p8_7 : G_ tr0 TS8 7 [8] := by
  intro s A
  kernel_rfl
theorem p8_8 : G_ tr0 TS8 8 [15, 15] := by
  intro s A
  kernel_rfl
theorem p8_9 : G_ tr0 TS8 9 [8] := by
  intro s A
  kernel_rfl
theorem p8_10 : G_ tr0 TS8 10 [8] := by
  intro s A
  kernel_rfl
theorem p8_11 : G_ tr0 TS8 11 [8] := by
  intro s A
  kernel_rfl
theorem p8_12 : G_ tr0 TS8 12 [12, 12] := by
  intro s A
  kernel_rfl
theorem p8_13 : G_ tr0 TS8 13 [8] := by
  intro s A
  kernel_rfl
theorem p8_14 : G_ tr0 TS8 14 [8] := by
  intro s A
  kernel_rfl
theorem p8_15 : G_ tr0 TS8 15 [8] := by
  intro s A
  kernel_rfl
theorem p8_16 : G_ tr0 TS8 16 [8] := by
  intro s A
  kernel_rfl
theorem p8_17 : G_ tr0 TS8 17 [11] := by
  intro s A
  kernel_rfl
theorem p8_18 : G_ tr0 TS8 18 [8] := by
  intro s A
  kernel_rfl
theorem p8_19 : G_ tr0 TS8 19 [8] := by
  intro s A
  kernel_rfl
theorem p8_20 : G_ tr0 TS8 20 [] := by
  intro s A
  kernel_rfl
theorem p8_21 : G_ tr0 TS8 21 [] := by
  intro s A
  kernel_rfl
theorem p9_0 : G_ tr0 TS9 0 [14, 14] := by
  intro s A
  kernel_rfl
theorem p9_1 : G_ tr0 TS9 1 [9] := by
  intro s A
  kernel_rfl
theorem p9_2 : G_ tr0 TS9 2 [9] := by
  intro s A
  kernel_rfl
theorem p9_3 : G_ tr0 TS9 3 [9] := by
  intro s A
  kernel_rfl
theorem p9_4 : G_ tr0 TS9 4 [9] := by
  intro s A
  kernel_rfl
theorem p9_5 : G_ tr0 TS9 5 [3] := by
  intro s A
  kernel_rfl
theorem p9_6 : G_ tr0 TS9 6 [15] := by
  intro s A
  kernel_rfl
theorem p9_7 : G_ tr0 TS9 7 [15] := by
  intro s A
  kernel_rfl
theorem p9_8 : G_ tr0 TS9 8 [9] := by
  intro s A
  kernel_rfl
theorem p9_9 : G_ tr0 TS9 9 [2] := by
  intro s A
  kernel_rfl
theorem p9_10 : G_ tr0 TS9 10 [15] := by
  intro s A
  kernel_rfl
theorem p9_11 : G_ tr0 TS9 11 [15] := by
  intro s A
  kernel_rfl
theorem p9_12 : G_ tr0 TS9 12 [14, 14] := by
  intro s A
  kernel_rfl
theorem p9_13 : G_ tr0 TS9 13 [9] := by
  intro s A
  kernel_rfl
theorem p9_14 : G_ tr0 TS9 14 [9] := by
  intro s A
  kernel_rfl
theorem p9_15 : G_ tr0 TS9 15 [9] := by
  intro s A
  kernel_rfl
theorem p9_16 : G_ tr0 TS9 16 [9] := by
  intro s A
  kernel_rfl
theorem p9_17 : G_ tr0 TS9 17 [3] := by
  intro s A
  kernel_rfl
theorem p9_18 : G_ tr0 TS9 18 [15] := by
  intro s A
  kernel_rfl
theorem p9_19 : G_ tr0 TS9 19 [15] := by
  intro s A
  kernel_rfl
theorem p9_20 : G_ tr0 TS9 20 [] := by
  intro s A
  kernel_rfl
theorem p9_21 : G_ tr0 TS9 21 [] := by
  intro s A
  kernel_rfl
theorem p10_0 : G_ tr0 TS10 0 [13, 13] := by
  intro s A
  kernel_rfl
theorem p10_1 : G_ tr0 TS10 1 [10] := by
  intro s A
  kernel_rfl
theorem p10_2 : G_ tr0 TS10 2 [10] := by
  intro s A
  kernel_rfl
theorem p10_3 : G_ tr0 TS10 3 [10] := by
  intro s A
  kernel_rfl
theorem p10_4 : G_ tr0 TS10 4 [15] := by
  intro s A
  kernel_rfl
theorem p10_5 : G_ tr0 TS10 5 [10] := by
  intro s A
  kernel_rfl
theorem p10_6 : G_ tr0 TS10 6 [10] := by
  intro s A
  kernel_rfl
theorem p10_7 : G_ tr0 TS10 7 [10] := by
  intro s A
  kernel_rfl
theorem p10_8 : G_ tr0 TS10 8 [10] := by
  intro s A
  kernel_rfl
theorem p10_9 : G_ tr0 TS10 9 [11] := by
  intro s A
  kernel_rfl
theorem p10_10 : G_ tr0 TS10 10 [10] := by
  intro s A
  kernel_rfl
theorem p10_11 : G_ tr0 TS10 11 [10] := by
  intro s A
  kernel_rfl
end Go.Ev
