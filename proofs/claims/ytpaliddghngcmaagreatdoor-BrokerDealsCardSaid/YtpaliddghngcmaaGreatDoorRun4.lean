/- Passes of BrokerDeals's loop, part 4. -/
import Derived.Test.YtpaliddghngcmaaGreatDoorSt
namespace Go.Ev
open Go.Proofs
set_option maxRecDepth 1000000
theorem p25_1 : G_ tr3 TS25 1 [25] := by
  intro s A
  kernel_rfl
theorem p25_2 : G_ tr3 TS25 2 [25] := by
  intro s A
  kernel_rfl
theorem p25_3 : G_ tr3 TS25 3 [32] := by
  intro s A
  kernel_rfl
theorem p25_4 : G_ tr3 TS25 4 [29] := by
  intro s A
  kernel_rfl
theorem p25_5 : G_ tr3 TS25 5 [] := by
  intro s A
  kernel_rfl
theorem p26_0 : G_ tr3 TS26 0 [30] := by
  intro s A
  kernel_rfl
theorem p26_1 : G_ tr3 TS26 1 [26] := by
  intro s A
  kernel_rfl
theorem p26_2 : G_ tr3 TS26 2 [32] := by
  intro s A
  kernel_rfl
theorem p26_3 : G_ tr3 TS26 3 [26] := by
  intro s A
  kernel_rfl
theorem p26_4 : G_ tr3 TS26 4 [30] := by
  intro s A
  kernel_rfl
theorem p26_5 : G_ tr3 TS26 5 [] := by
  intro s A
  kernel_rfl
theorem p27_0 : G_ tr3 TS27 0 [31] := by
  intro s A
  kernel_rfl
theorem p27_1 : G_ tr3 TS27 1 [32] := by
  intro s A
  kernel_rfl
theorem p27_2 : G_ tr3 TS27 2 [27] := by
  intro s A
  kernel_rfl
theorem p27_3 : G_ tr3 TS27 3 [27] := by
  intro s A
  kernel_rfl
theorem p27_4 : G_ tr3 TS27 4 [31] := by
  intro s A
  kernel_rfl
theorem p27_5 : G_ tr3 TS27 5 [] := by
  intro s A
  kernel_rfl
theorem p28_0 : G_ tr2 TS28 0 [28] := by
  intro s A
  kernel_rfl
theorem p28_1 : G_ tr2 TS28 1 [28] := by
  intro s A
  kernel_rfl
theorem p28_2 : G_ tr2 TS28 2 [28] := by
  intro s A
  kernel_rfl
theorem p28_3 : G_ tr2 TS28 3 [28] := by
  intro s A
  kernel_rfl
theorem p28_4 : G_ tr2 TS28 4 [] := by
  intro s A
  kernel_rfl
theorem p29_0 : G_ tr3 TS29 0 [29] := by
  intro s A
  kernel_rfl
theorem p29_1 : G_ tr3 TS29 1 [29] := by
  intro s A
  kernel_rfl
theorem p29_2 : G_ tr3 TS29 2 [29] := by
  intro s A
  kernel_rfl
theorem p29_3 : G_ tr3 TS29 3 [33] := by
  intro s A
  kernel_rfl
theorem p29_4 : G_ tr3 TS29 4 [29] := by
  intro s A
  kernel_rfl
theorem p29_5 : G_ tr3 TS29 5 [] := by
  intro s A
  kernel_rfl
theorem p30_0 : G_ tr3 TS30 0 [30] := by
  intro s A
  kernel_rfl
end Go.Ev
