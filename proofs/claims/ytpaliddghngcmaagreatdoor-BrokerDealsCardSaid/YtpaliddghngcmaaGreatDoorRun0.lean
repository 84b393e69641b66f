/- Passes of BrokerDeals's loop, part 0. -/
import Derived.Test.YtpaliddghngcmaaGreatDoorSt
namespace Go.Ev
open Go.Proofs
set_option maxRecDepth 1000000
theorem p0_0 : G_ tr0 TS0 0 [4] := by
  intro s A
  kernel_rfl
theorem p0_1 : G_ tr0 TS0 1 [5] := by
  intro s A
  kernel_rfl
theorem p0_2 : G_ tr0 TS0 2 [] := by
  intro s A
  kernel_rfl
theorem p1_0 : G_ tr1 TS1 0 [6] := by
  intro s A
  kernel_rfl
theorem p1_1 : G_ tr1 TS1 1 [7] := by
  intro s A
  kernel_rfl
theorem p1_2 : G_ tr1 TS1 2 [8] := by
  intro s A
  kernel_rfl
theorem p1_3 : G_ tr1 TS1 3 [] := by
  intro s A
  kernel_rfl
theorem p2_0 : G_ tr2 TS2 0 [9] := by
  intro s A
  kernel_rfl
theorem p2_1 : G_ tr2 TS2 1 [10] := by
  intro s A
  kernel_rfl
theorem p2_2 : G_ tr2 TS2 2 [11] := by
  intro s A
  kernel_rfl
theorem p2_3 : G_ tr2 TS2 3 [12] := by
  intro s A
  kernel_rfl
theorem p2_4 : G_ tr2 TS2 4 [] := by
  intro s A
  kernel_rfl
theorem p3_0 : G_ tr3 TS3 0 [13] := by
  intro s A
  kernel_rfl
theorem p3_1 : G_ tr3 TS3 1 [14] := by
  intro s A
  kernel_rfl
theorem p3_2 : G_ tr3 TS3 2 [15] := by
  intro s A
  kernel_rfl
theorem p3_3 : G_ tr3 TS3 3 [16] := by
  intro s A
  kernel_rfl
theorem p3_4 : G_ tr3 TS3 4 [17] := by
  intro s A
  kernel_rfl
theorem p3_5 : G_ tr3 TS3 5 [] := by
  intro s A
  kernel_rfl
theorem p4_0 : G_ tr0 TS4 0 [4] := by
  intro s A
  kernel_rfl
theorem p4_1 : G_ tr0 TS4 1 [4] := by
  intro s A
  kernel_rfl
theorem p4_2 : G_ tr0 TS4 2 [] := by
  intro s A
  kernel_rfl
theorem p5_0 : G_ tr0 TS5 0 [4] := by
  intro s A
  kernel_rfl
theorem p5_1 : G_ tr0 TS5 1 [5] := by
  intro s A
  kernel_rfl
theorem p5_2 : G_ tr0 TS5 2 [] := by
  intro s A
  kernel_rfl
theorem p6_0 : G_ tr1 TS6 0 [6] := by
  intro s A
  kernel_rfl
theorem p6_1 : G_ tr1 TS6 1 [18] := by
  intro s A
  kernel_rfl
theorem p6_2 : G_ tr1 TS6 2 [6] := by
  intro s A
  kernel_rfl
theorem p6_3 : G_ tr1 TS6 3 [] := by
  intro s A
  kernel_rfl
theorem p7_0 : G_ tr1 TS7 0 [18] := by
  intro s A
  kernel_rfl
theorem p7_1 : G_ tr1 TS7 1 [7] := by
  intro s A
  kernel_rfl
theorem p7_2 : G_ tr1 TS7 2 [18] := by
  intro s A
  kernel_rfl
theorem p7_3 : G_ tr1 TS7 3 [] := by
  intro s A
  kernel_rfl
theorem p8_0 : G_ tr1 TS8 0 [6] := by
  intro s A
  kernel_rfl
theorem p8_1 : G_ tr1 TS8 1 [18] := by
  intro s A
  kernel_rfl
theorem p8_2 : G_ tr1 TS8 2 [8] := by
  intro s A
  kernel_rfl
end Go.Ev
