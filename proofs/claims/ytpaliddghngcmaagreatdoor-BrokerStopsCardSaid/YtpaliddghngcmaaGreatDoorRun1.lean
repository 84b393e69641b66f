/- Passes of BrokerStops's loop, part 1. -/
import Derived.Test.YtpaliddghngcmaaGreatDoorSt
namespace Go.Ev
open Go.Proofs
set_option maxRecDepth 1000000
theorem p2_19 : G_ tr0 TS2 19 [8] := by
  intro s A
  kernel_rfl
theorem p2_20 : G_ tr0 TS2 20 [] := by
  intro s A
  kernel_rfl
theorem p2_21 : G_ tr0 TS2 21 [] := by
  intro s A
  kernel_rfl
theorem p3_0 : G_ tr0 TS3 0 [7, 7] := by
  intro s A
  kernel_rfl
theorem p3_1 : G_ tr0 TS3 1 [3] := by
  intro s A
  kernel_rfl
theorem p3_2 : G_ tr0 TS3 2 [3] := by
  intro s A
  kernel_rfl
theorem p3_3 : G_ tr0 TS3 3 [3] := by
  intro s A
  kernel_rfl
theorem p3_4 : G_ tr0 TS3 4 [9] := by
  intro s A
  kernel_rfl
theorem p3_5 : G_ tr0 TS3 5 [3] := by
  intro s A
  kernel_rfl
theorem p3_6 : G_ tr0 TS3 6 [3] := by
  intro s A
  kernel_rfl
theorem p3_7 : G_ tr0 TS3 7 [3] := by
  intro s A
  kernel_rfl
theorem p3_8 : G_ tr0 TS3 8 [3] := by
  intro s A
  kernel_rfl
theorem p3_9 : G_ tr0 TS3 9 [4] := by
  intro s A
  kernel_rfl
theorem p3_10 : G_ tr0 TS3 10 [10] := by
  intro s A
  kernel_rfl
theorem p3_11 : G_ tr0 TS3 11 [10] := by
  intro s A
  kernel_rfl
theorem p3_12 : G_ tr0 TS3 12 [7, 7] := by
  intro s A
  kernel_rfl
theorem p3_13 : G_ tr0 TS3 13 [3] := by
  intro s A
  kernel_rfl
theorem p3_14 : G_ tr0 TS3 14 [3] := by
  intro s A
  kernel_rfl
theorem p3_15 : G_ tr0 TS3 15 [3] := by
  intro s A
  kernel_rfl
theorem p3_16 : G_ tr0 TS3 16 [9] := by
  intro s A
  kernel_rfl
theorem p3_17 : G_ tr0 TS3 17 [3] := by
  intro s A
  kernel_rfl
theorem p3_18 : G_ tr0 TS3 18 [3] := by
  intro s A
  kernel_rfl
theorem p3_19 : G_ tr0 TS3 19 [3] := by
  intro s A
  kernel_rfl
theorem p3_20 : G_ tr0 TS3 20 [] := by
  intro s A
  kernel_rfl
theorem p3_21 : G_ tr0 TS3 21 [] := by
  intro s A
  kernel_rfl
theorem p4_0 : G_ tr0 TS4 0 [1] := by
  intro s A
  kernel_rfl
theorem p4_1 : G_ tr0 TS4 1 [4] := by
  intro s A
  kernel_rfl
theorem p4_2 : G_ tr0 TS4 2 [4] := by
  intro s A
  kernel_rfl
theorem p4_3 : G_ tr0 TS4 3 [4] := by
  intro s A
  kernel_rfl
theorem p4_4 : G_ tr0 TS4 4 [2] := by
  intro s A
  kernel_rfl
theorem p4_5 : G_ tr0 TS4 5 [4] := by
  intro s A
  kernel_rfl
theorem p4_6 : G_ tr0 TS4 6 [4] := by
  intro s A
  kernel_rfl
theorem p4_7 : G_ tr0 TS4 7 [4] := by
  intro s A
  kernel_rfl
theorem p4_8 : G_ tr0 TS4 8 [3] := by
  intro s A
  kernel_rfl
theorem p4_9 : G_ tr0 TS4 9 [4] := by
  intro s A
  kernel_rfl
theorem p4_10 : G_ tr0 TS4 10 [4] := by
  intro s A
  kernel_rfl
theorem p4_11 : G_ tr0 TS4 11 [4] := by
  intro s A
  kernel_rfl
theorem p4_12 : G_ tr0 TS4 12 [1] := by
  intro s A
  kernel_rfl
theorem p4_13 : G_ tr0 TS4 13 [4] := by
  intro s A
  kernel_rfl
theorem p4_14 : G_ tr0 TS4 14 [4] := by
  intro s A
  kernel_rfl
theorem p4_15 : G_ tr0 TS4 15 [4] := by
  intro s A
  kernel_rfl
theorem p4_16 : G_ tr0 TS4 16 [2] := by
  intro s A
  kernel_rfl
theorem p4_17 : G_ tr0 TS4 17 [4] := by
  intro s A
  kernel_rfl
theorem p4_18 : G_ tr0 TS4 18 [4] := by
  intro s A
  kernel_rfl
theorem p4_19 : G_ tr0 TS4 19 [4] := by
  intro s A
  kernel_rfl
theorem p4_20 : G_ tr0 TS4 20 [] := by
  intro s A
  kernel_rfl
theorem p4_21 : G_ tr0 TS4 21 [] := by
  intro s A
  kernel_rfl
theorem p5_0 : G_ tr0 TS5 0 [5] := by
  intro s A
  kernel_rfl
theorem p5_1 : G_ tr0 TS5 1 [11] := by
  intro s A
  kernel_rfl
theorem p5_2 : G_ tr0 TS5 2 [5] := by
  intro s A
  kernel_rfl
theorem p5_3 : G_ tr0 TS5 3 [5] := by
  intro s A
  kernel_rfl
theorem p5_4 : G_ tr0 TS5 4 [12] := by
  intro s A
  kernel_rfl
theorem p5_5 : G_ tr0 TS5 5 [5] := by
  intro s A
  kernel_rfl
theorem p5_6 : G_ tr0 TS5 6 [5] := by
  intro s A
  kernel_rfl
theorem p5_7 : G_ tr0 TS5 7 [5] := by
  intro s A
  kernel_rfl
theorem p5_8 : G_ tr0 TS5 8 [13] := by
  intro s A
  kernel_rfl
theorem p5_9 : G_ tr0 TS5 9 [5] := by
  intro s A
  kernel_rfl
theorem p5_10 : G_ tr0 TS5 10 [5] := by
  intro s A
  kernel_rfl
theorem p5_11 : G_ tr0 TS5 11 [5] := by
  intro s A
  kernel_rfl
theorem p5_12 : G_ tr0 TS5 12 [5] := by
  intro s A
  kernel_rfl
theorem p5_13 : G_ tr0 TS5 13 [11] := by
  intro s A
  kernel_rfl
theorem p5_14 : G_ tr0 TS5 14 [5] := by
  intro s A
  kernel_rfl
theorem p5_15 : G_ tr0 TS5 15 [5] := by
  intro s A
  kernel_rfl
end Go.Ev
