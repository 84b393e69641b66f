/- Passes of BrokerOrders's loop, part 0. -/
import Derived.Test.YtebfhilokhbfgaaGreatDoorSt
namespace Go.Ev
open Go.Proofs
set_option maxRecDepth 1000000
theorem p0_0 : G_ tr0 TS0 0 [1, 2, 2] := by
  intro s A
  kernel_rfl
theorem p0_1 : G_ tr0 TS0 1 [3, 3, 3] := by
  intro s A
  kernel_rfl
theorem p0_2 : G_ tr0 TS0 2 [1, 2, 2] := by
  intro s A
  kernel_rfl
theorem p0_3 : G_ tr0 TS0 3 [] := by
  intro s A
  kernel_rfl
theorem p0_4 : G_ tr0 TS0 4 [] := by
  intro s A
  kernel_rfl
theorem p1_0 : G_ tr0 TS1 0 [1, 2, 2] := by
  intro s A
  kernel_rfl
theorem p1_1 : G_ tr0 TS1 1 [3, 3, 3] := by
  intro s A
  kernel_rfl
theorem p1_2 : G_ tr0 TS1 2 [1, 2, 2] := by
  intro s A
  kernel_rfl
theorem p1_3 : G_ tr0 TS1 3 [] := by
  intro s A
  kernel_rfl
theorem p1_4 : G_ tr0 TS1 4 [] := by
  intro s A
  kernel_rfl
theorem p2_0 : G_ tr1 TS2 0 [4, 2, 2] := by
  intro s A
  kernel_rfl
theorem p2_1 : G_ tr1 TS2 1 [4, 2, 2] := by
  intro s A
  kernel_rfl
theorem p2_2 : G_ tr1 TS2 2 [5, 5, 5] := by
  intro s A
  kernel_rfl
theorem p2_3 : G_ tr1 TS2 3 [4, 2, 2] := by
  intro s A
  kernel_rfl
theorem p2_4 : G_ tr1 TS2 4 [4, 2, 2] := by
  intro s A
  kernel_rfl
theorem p2_5 : G_ tr1 TS2 5 [] := by
  intro s A
  kernel_rfl
theorem p2_6 : G_ tr1 TS2 6 [] := by
  intro s A
  kernel_rfl
theorem p2_7 : G_ tr1 TS2 7 [] := by
  intro s A
  kernel_rfl
theorem p2_8 : G_ tr1 TS2 8 [] := by
  intro s A
  kernel_rfl
theorem p3_0 : G_ tr2 TS3 0 [6, 6, 6] := by
  intro s A
  kernel_rfl
theorem p3_1 : G_ tr2 TS3 1 [7, 7, 7] := by
  intro s A
  kernel_rfl
theorem p3_2 : G_ tr2 TS3 2 [7, 7, 7] := by
  intro s A
  kernel_rfl
theorem p3_3 : G_ tr2 TS3 3 [8, 8, 8] := by
  intro s A
  kernel_rfl
theorem p3_4 : G_ tr2 TS3 4 [6, 6, 6] := by
  intro s A
  kernel_rfl
theorem p3_5 : G_ tr2 TS3 5 [7, 7, 7] := by
  intro s A
  kernel_rfl
theorem p3_6 : G_ tr2 TS3 6 [7, 7, 7] := by
  intro s A
  kernel_rfl
theorem p3_7 : G_ tr2 TS3 7 [] := by
  intro s A
  kernel_rfl
theorem p3_8 : G_ tr2 TS3 8 [] := by
  intro s A
  kernel_rfl
theorem p4_0 : G_ tr0 TS4 0 [4, 2, 2] := by
  intro s A
  kernel_rfl
theorem p4_1 : G_ tr0 TS4 1 [9, 9, 9] := by
  intro s A
  kernel_rfl
theorem p4_2 : G_ tr0 TS4 2 [4, 2, 2] := by
  intro s A
  kernel_rfl
theorem p4_3 : G_ tr0 TS4 3 [] := by
  intro s A
  kernel_rfl
theorem p4_4 : G_ tr0 TS4 4 [] := by
  intro s A
  kernel_rfl
theorem p5_0 : G_ tr3 TS5 0 [10, 10, 10] := by
  intro s A
  kernel_rfl
theorem p5_1 : G_ tr3 TS5 1 [7, 7, 7] := by
  intro s A
  kernel_rfl
theorem p5_2 : G_ tr3 TS5 2 [7, 7, 7] := by
  intro s A
  kernel_rfl
theorem p5_3 : G_ tr3 TS5 3 [10, 10, 10] := by
  intro s A
  kernel_rfl
theorem p5_4 : G_ tr3 TS5 4 [7, 7, 7] := by
  intro s A
  kernel_rfl
theorem p5_5 : G_ tr3 TS5 5 [7, 7, 7] := by
  intro s A
  kernel_rfl
theorem p5_6 : G_ tr3 TS5 6 [11, 11, 11] := by
  intro s A
  kernel_rfl
theorem p5_7 : G_ tr3 TS5 7 [10, 10, 10] := by
  intro s A
  kernel_rfl
theorem p5_8 : G_ tr3 TS5 8 [7, 7, 7] := by
  intro s A
  kernel_rfl
theorem p5_9 : G_ tr3 TS5 9 [7, 7, 7] := by
  intro s A
  kernel_rfl
theorem p5_10 : G_ tr3 TS5 10 [10, 10, 10] := by
  intro s A
  kernel_rfl
theorem p5_11 : G_ tr3 TS5 11 [7, 7, 7] := by
  intro s A
  kernel_rfl
theorem p5_12 : G_ tr3 TS5 12 [7, 7, 7] := by
  intro s A
  kernel_rfl
theorem p5_13 : G_ tr3 TS5 13 [] := by
  intro s A
  kernel_rfl
theorem p5_14 : G_ tr3 TS5 14 [] := by
  intro s A
  kernel_rfl
theorem p5_15 : G_ tr3 TS5 15 [] := by
  intro s A
  kernel_rfl
theorem p5_16 : G_ tr3 TS5 16 [] := by
  intro s A
  kernel_rfl
theorem p6_0 : G_ tr2 TS6 0 [6, 6, 6] := by
  intro s A
  kernel_rfl
theorem p6_1 : G_ tr2 TS6 1 [7, 7, 7] := by
  intro s A
  kernel_rfl
theorem p6_2 : G_ tr2 TS6 2 [7, 7, 7] := by
  intro s A
  kernel_rfl
theorem p6_3 : G_ tr2 TS6 3 [8, 8, 8] := by
  intro s A
  kernel_rfl
theorem p6_4 : G_ tr2 TS6 4 [6, 6, 6] := by
  intro s A
  kernel_rfl
theorem p6_5 : G_ tr2 TS6 5 [7, 7, 7] := by
  intro s A
  kernel_rfl
end Go.Ev
