/- Passes of BrokerStops's loop, part 0. -/
import Derived.Test.YtpaliddghngcmaaGreatDoorSt
namespace Go.Ev
open Go.Proofs
set_option maxRecDepth 1000000
theorem p0_0 : G_ tr0 TS0 0 [1] := by
  intro s A
  kernel_rfl
theorem p0_1 : G_ tr0 TS0 1 [0] := by
  intro s A
  kernel_rfl
theorem p0_2 : G_ tr0 TS0 2 [0] := by
  intro s A
  kernel_rfl
theorem p0_3 : G_ tr0 TS0 3 [0] := by
  intro s A
  kernel_rfl
theorem p0_4 : G_ tr0 TS0 4 [2] := by
  intro s A
  kernel_rfl
theorem p0_5 : G_ tr0 TS0 5 [0] := by
  intro s A
  kernel_rfl
theorem p0_6 : G_ tr0 TS0 6 [0] := by
  intro s A
  kernel_rfl
theorem p0_7 : G_ tr0 TS0 7 [0] := by
  intro s A
  kernel_rfl
theorem p0_8 : G_ tr0 TS0 8 [3] := by
  intro s A
  kernel_rfl
theorem p0_9 : G_ tr0 TS0 9 [0] := by
  intro s A
  kernel_rfl
theorem p0_10 : G_ tr0 TS0 10 [0] := by
  intro s A
  kernel_rfl
theorem p0_11 : G_ tr0 TS0 11 [0] := by
  intro s A
  kernel_rfl
theorem p0_12 : G_ tr0 TS0 12 [1] := by
  intro s A
  kernel_rfl
theorem p0_13 : G_ tr0 TS0 13 [0] := by
  intro s A
  kernel_rfl
theorem p0_14 : G_ tr0 TS0 14 [0] := by
  intro s A
  kernel_rfl
theorem p0_15 : G_ tr0 TS0 15 [0] := by
  intro s A
  kernel_rfl
theorem p0_16 : G_ tr0 TS0 16 [2] := by
  intro s A
  kernel_rfl
theorem p0_17 : G_ tr0 TS0 17 [0] := by
  intro s A
  kernel_rfl
theorem p0_18 : G_ tr0 TS0 18 [0] := by
  intro s A
  kernel_rfl
theorem p0_19 : G_ tr0 TS0 19 [0] := by
  intro s A
  kernel_rfl
theorem p0_20 : G_ tr0 TS0 20 [] := by
  intro s A
  kernel_rfl
theorem p0_21 : G_ tr0 TS0 21 [] := by
  intro s A
  kernel_rfl
theorem p1_0 : G_ tr0 TS1 0 [1] := by
  intro s A
  kernel_rfl
theorem p1_1 : G_ tr0 TS1 1 [4] := by
  intro s A
  kernel_rfl
theorem p1_2 : G_ tr0 TS1 2 [5] := by
  intro s A
  kernel_rfl
theorem p1_3 : G_ tr0 TS1 3 [5] := by
  intro s A
  kernel_rfl
theorem p1_4 : G_ tr0 TS1 4 [6] := by
  intro s A
  kernel_rfl
theorem p1_5 : G_ tr0 TS1 5 [1] := by
  intro s A
  kernel_rfl
theorem p1_6 : G_ tr0 TS1 6 [1] := by
  intro s A
  kernel_rfl
theorem p1_7 : G_ tr0 TS1 7 [1] := by
  intro s A
  kernel_rfl
theorem p1_8 : G_ tr0 TS1 8 [7] := by
  intro s A
  kernel_rfl
theorem p1_9 : G_ tr0 TS1 9 [1] := by
  intro s A
  kernel_rfl
theorem p1_10 : G_ tr0 TS1 10 [5] := by
  intro s A
  kernel_rfl
theorem p1_11 : G_ tr0 TS1 11 [5] := by
  intro s A
  kernel_rfl
theorem p1_12 : G_ tr0 TS1 12 [1] := by
  intro s A
  kernel_rfl
theorem p1_13 : G_ tr0 TS1 13 [4] := by
  intro s A
  kernel_rfl
theorem p1_14 : G_ tr0 TS1 14 [5] := by
  intro s A
  kernel_rfl
theorem p1_15 : G_ tr0 TS1 15 [5] := by
  intro s A
  kernel_rfl
theorem p1_16 : G_ tr0 TS1 16 [6] := by
  intro s A
  kernel_rfl
theorem p1_17 : G_ tr0 TS1 17 [1] := by
  intro s A
  kernel_rfl
theorem p1_18 : G_ tr0 TS1 18 [1] := by
  intro s A
  kernel_rfl
theorem p1_19 : G_ tr0 TS1 19 [1] := by
  intro s A
  kernel_rfl
theorem p1_20 : G_ tr0 TS1 20 [] := by
  intro s A
  kernel_rfl
theorem p1_21 : G_ tr0 TS1 21 [] := by
  intro s A
  kernel_rfl
theorem p2_0 : G_ tr0 TS2 0 [6, 6] := by
  intro s A
  kernel_rfl
theorem p2_1 : G_ tr0 TS2 1 [2] := by
  intro s A
  kernel_rfl
theorem p2_2 : G_ tr0 TS2 2 [2] := by
  intro s A
  kernel_rfl
theorem p2_3 : G_ tr0 TS2 3 [2] := by
  intro s A
  kernel_rfl
theorem p2_4 : G_ tr0 TS2 4 [2] := by
  intro s A
  kernel_rfl
theorem p2_5 : G_ tr0 TS2 5 [4] := by
  intro s A
  kernel_rfl
theorem p2_6 : G_ tr0 TS2 6 [8] := by
  intro s A
  kernel_rfl
theorem p2_7 : G_ tr0 TS2 7 [8] := by
  intro s A
  kernel_rfl
theorem p2_8 : G_ tr0 TS2 8 [9, 9] := by
  intro s A
  kernel_rfl
theorem p2_9 : G_ tr0 TS2 9 [2] := by
  intro s A
  kernel_rfl
theorem p2_10 : G_ tr0 TS2 10 [2] := by
  intro s A
  kernel_rfl
theorem p2_11 : G_ tr0 TS2 11 [2] := by
  intro s A
  kernel_rfl
theorem p2_12 : G_ tr0 TS2 12 [6, 6] := by
  intro s A
  kernel_rfl
theorem p2_13 : G_ tr0 TS2 13 [2] := by
  intro s A
  kernel_rfl
theorem p2_14 : G_ tr0 TS2 14 [2] := by
  intro s A
  kernel_rfl
theorem p2_15 : G_ tr0 TS2 15 [2] := by
  intro s A
  kernel_rfl
theorem p2_16 : G_ tr0 TS2 16 [2] := by
  intro s A
  kernel_rfl
theorem p2_17 : G_ tr0 TS2 17 [4] := by
  intro s A
  kernel_rfl
theorem p2_18 : G_ tr0 TS2 18 [8] := by
  intro s A
  kernel_rfl
end Go.Ev
