/- Passes of BrokerStops's loop, part 5. -/
import Derived.Test.YtpaliddghngcmaaGreatDoorSt
namespace Go.Ev
open Go.Proofs
set_option maxRecDepth 1000000
theorem p13_2 : G_ tr0 TS13 2 [13] := by
  intro s A
  kernel_rfl
theorem p13_3 : G_ tr0 TS13 3 [13] := by
  intro s A
  kernel_rfl
theorem p13_4 : G_ tr0 TS13 4 [16] := by
  intro s A
  kernel_rfl
theorem p13_5 : G_ tr0 TS13 5 [13] := by
  intro s A
  kernel_rfl
theorem p13_6 : G_ tr0 TS13 6 [13] := by
  intro s A
  kernel_rfl
theorem p13_7 : G_ tr0 TS13 7 [13] := by
  intro s A
  kernel_rfl
theorem p13_8 : G_ tr0 TS13 8 [13] := by
  intro s A
  kernel_rfl
theorem p13_9 : G_ tr0 TS13 9 [5] := by
  intro s A
  kernel_rfl
theorem p13_10 : G_ tr0 TS13 10 [13] := by
  intro s A
  kernel_rfl
theorem p13_11 : G_ tr0 TS13 11 [13] := by
  intro s A
  kernel_rfl
theorem p13_12 : G_ tr0 TS13 12 [13] := by
  intro s A
  kernel_rfl
theorem p13_13 : G_ tr0 TS13 13 [10] := by
  intro s A
  kernel_rfl
theorem p13_14 : G_ tr0 TS13 14 [13] := by
  intro s A
  kernel_rfl
theorem p13_15 : G_ tr0 TS13 15 [13] := by
  intro s A
  kernel_rfl
theorem p13_16 : G_ tr0 TS13 16 [16] := by
  intro s A
  kernel_rfl
theorem p13_17 : G_ tr0 TS13 17 [13] := by
  intro s A
  kernel_rfl
theorem p13_18 : G_ tr0 TS13 18 [13] := by
  intro s A
  kernel_rfl
theorem p13_19 : G_ tr0 TS13 19 [13] := by
  intro s A
  kernel_rfl
theorem p13_20 : G_ tr0 TS13 20 [] := by
  intro s A
  kernel_rfl
theorem p13_21 : G_ tr0 TS13 21 [] := by
  intro s A
  kernel_rfl
theorem p14_0 : G_ tr0 TS14 0 [14] := by
  intro s A
  kernel_rfl
theorem p14_1 : G_ tr0 TS14 1 [9] := by
  intro s A
  kernel_rfl
theorem p14_2 : G_ tr0 TS14 2 [16] := by
  intro s A
  kernel_rfl
theorem p14_3 : G_ tr0 TS14 3 [16] := by
  intro s A
  kernel_rfl
theorem p14_4 : G_ tr0 TS14 4 [14] := by
  intro s A
  kernel_rfl
theorem p14_5 : G_ tr0 TS14 5 [7] := by
  intro s A
  kernel_rfl
theorem p14_6 : G_ tr0 TS14 6 [16] := by
  intro s A
  kernel_rfl
theorem p14_7 : G_ tr0 TS14 7 [16] := by
  intro s A
  kernel_rfl
theorem p14_8 : G_ tr0 TS14 8 [14] := by
  intro s A
  kernel_rfl
theorem p14_9 : G_ tr0 TS14 9 [6] := by
  intro s A
  kernel_rfl
theorem p14_10 : G_ tr0 TS14 10 [16] := by
  intro s A
  kernel_rfl
theorem p14_11 : G_ tr0 TS14 11 [16] := by
  intro s A
  kernel_rfl
theorem p14_12 : G_ tr0 TS14 12 [14] := by
  intro s A
  kernel_rfl
theorem p14_13 : G_ tr0 TS14 13 [9] := by
  intro s A
  kernel_rfl
theorem p14_14 : G_ tr0 TS14 14 [16] := by
  intro s A
  kernel_rfl
theorem p14_15 : G_ tr0 TS14 15 [16] := by
  intro s A
  kernel_rfl
theorem p14_16 : G_ tr0 TS14 16 [14] := by
  intro s A
  kernel_rfl
theorem p14_17 : G_ tr0 TS14 17 [7] := by
  intro s A
  kernel_rfl
theorem p14_18 : G_ tr0 TS14 18 [16] := by
  intro s A
  kernel_rfl
theorem p14_19 : G_ tr0 TS14 19 [16] := by
  intro s A
  kernel_rfl
theorem p14_20 : G_ tr0 TS14 20 [] := by
  intro s A
  kernel_rfl
theorem p14_21 : G_ tr0 TS14 21 [] := by
  intro s A
  kernel_rfl
theorem p15_0 : G_ tr0 TS15 0 [16, 16] := by
  intro s A
  kernel_rfl
theorem p15_1 : G_ tr0 TS15 1 [15] := by
  intro s A
  kernel_rfl
theorem p15_2 : G_ tr0 TS15 2 [15] := by
  intro s A
  kernel_rfl
theorem p15_3 : G_ tr0 TS15 3 [15] := by
  intro s A
  kernel_rfl
theorem p15_4 : G_ tr0 TS15 4 [15] := by
  intro s A
  kernel_rfl
theorem p15_5 : G_ tr0 TS15 5 [10] := by
  intro s A
  kernel_rfl
theorem p15_6 : G_ tr0 TS15 6 [15] := by
  intro s A
  kernel_rfl
end Go.Ev
