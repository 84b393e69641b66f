/- Passes of BrokerStops's loop, part 2. -/
import Derived.Test.YtpaliddghngcmaaGreatDoorSt
namespace Go.Ev
open Go.Proofs
set_option maxRecDepth 1000000
theorem p5_16 : G_ tr0 TS5 16 [12] := by
  intro s A
  kernel_rfl
theorem p5_17 : G_ tr0 TS5 17 [5] := by
  intro s A
  kernel_rfl
theorem p5_18 : G_ tr0 TS5 18 [5] := by
  intro s A
  kernel_rfl
theorem p5_19 : G_ tr0 TS5 19 [5] := by
  intro s A
  kernel_rfl
theorem p5_20 : G_ tr0 TS5 20 [] := by
  intro s A
  kernel_rfl
theorem p5_21 : G_ tr0 TS5 21 [] := by
  intro s A
  kernel_rfl
theorem p6_0 : G_ tr0 TS6 0 [6] := by
  intro s A
  kernel_rfl
theorem p6_1 : G_ tr0 TS6 1 [2] := by
  intro s A
  kernel_rfl
theorem p6_2 : G_ tr0 TS6 2 [12] := by
  intro s A
  kernel_rfl
theorem p6_3 : G_ tr0 TS6 3 [12] := by
  intro s A
  kernel_rfl
theorem p6_4 : G_ tr0 TS6 4 [6] := by
  intro s A
  kernel_rfl
theorem p6_5 : G_ tr0 TS6 5 [1] := by
  intro s A
  kernel_rfl
theorem p6_6 : G_ tr0 TS6 6 [12] := by
  intro s A
  kernel_rfl
theorem p6_7 : G_ tr0 TS6 7 [12] := by
  intro s A
  kernel_rfl
theorem p6_8 : G_ tr0 TS6 8 [14, 14] := by
  intro s A
  kernel_rfl
theorem p6_9 : G_ tr0 TS6 9 [6] := by
  intro s A
  kernel_rfl
theorem p6_10 : G_ tr0 TS6 10 [12] := by
  intro s A
  kernel_rfl
theorem p6_11 : G_ tr0 TS6 11 [12] := by
  intro s A
  kernel_rfl
theorem p6_12 : G_ tr0 TS6 12 [6] := by
  intro s A
  kernel_rfl
theorem p6_13 : G_ tr0 TS6 13 [2] := by
  intro s A
  kernel_rfl
theorem p6_14 : G_ tr0 TS6 14 [12] := by
  intro s A
  kernel_rfl
theorem p6_15 : G_ tr0 TS6 15 [12] := by
  intro s A
  kernel_rfl
theorem p6_16 : G_ tr0 TS6 16 [6] := by
  intro s A
  kernel_rfl
theorem p6_17 : G_ tr0 TS6 17 [1] := by
  intro s A
  kernel_rfl
theorem p6_18 : G_ tr0 TS6 18 [12] := by
  intro s A
  kernel_rfl
theorem p6_19 : G_ tr0 TS6 19 [12] := by
  intro s A
  kernel_rfl
theorem p6_20 : G_ tr0 TS6 20 [] := by
  intro s A
  kernel_rfl
theorem p6_21 : G_ tr0 TS6 21 [] := by
  intro s A
  kernel_rfl
theorem p7_0 : G_ tr0 TS7 0 [7] := by
  intro s A
  kernel_rfl
theorem p7_1 : G_ tr0 TS7 1 [3] := by
  intro s A
  kernel_rfl
theorem p7_2 : G_ tr0 TS7 2 [13] := by
  intro s A
  kernel_rfl
theorem p7_3 : G_ tr0 TS7 3 [13] := by
  intro s A
  kernel_rfl
theorem p7_4 : G_ tr0 TS7 4 [14] := by
  intro s A
  kernel_rfl
theorem p7_5 : G_ tr0 TS7 5 [7] := by
  intro s A
  kernel_rfl
theorem p7_6 : G_ tr0 TS7 6 [7] := by
  intro s A
  kernel_rfl
theorem p7_7 : G_ tr0 TS7 7 [7] := by
  intro s A
  kernel_rfl
theorem p7_8 : G_ tr0 TS7 8 [7] := by
  intro s A
  kernel_rfl
theorem p7_9 : G_ tr0 TS7 9 [1] := by
  intro s A
  kernel_rfl
theorem p7_10 : G_ tr0 TS7 10 [13] := by
  intro s A
  kernel_rfl
theorem p7_11 : G_ tr0 TS7 11 [13] := by
  intro s A
  kernel_rfl
theorem p7_12 : G_ tr0 TS7 12 [7] := by
  intro s A
  kernel_rfl
theorem p7_13 : G_ tr0 TS7 13 [3] := by
  intro s A
  kernel_rfl
theorem p7_14 : G_ tr0 TS7 14 [13] := by
  intro s A
  kernel_rfl
theorem p7_15 : G_ tr0 TS7 15 [13] := by
  intro s A
  kernel_rfl
theorem p7_16 : G_ tr0 TS7 16 [14] := by
  intro s A
  kernel_rfl
theorem p7_17 : G_ tr0 TS7 17 [7] := by
  intro s A
  kernel_rfl
theorem p7_18 : G_ tr0 TS7 18 [7] := by
  intro s A
  kernel_rfl
theorem p7_19 : G_ tr0 TS7 19 [7] := by
  intro s A
  kernel_rfl
theorem p7_20 : G_ tr0 TS7 20 [] := by
  intro s A
  kernel_rfl
theorem p7_21 : G_ tr0 TS7 21 [] := by
  intro s A
  kernel_rfl
theorem p8_0 : G_ tr0 TS8 0 [12, 12] := by
  intro s A
  kernel_rfl
theorem p8_1 : G_ tr0 TS8 1 [8] := by
  intro s A
  kernel_rfl
theorem p8_2 : G_ tr0 TS8 2 [8] := by
  intro s A
  kernel_rfl
theorem p8_3 : G_ tr0 TS8 3 [8] := by
  intro s A
  kernel_rfl
theorem p8_4 : G_ tr0 TS8 4 [8] := by
  intro s A
  kernel_rfl
end Go.Ev
