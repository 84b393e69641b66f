/- Passes of BrokerOrders's loop, part 5. -/
import Derived.Test.YtebfhilokhbfgaaGreatDoorSt
namespace Go.Ev
open Go.Proofs
set_option maxRecDepth 1000000
theorem p25_12 : G_ tr6 TS25 12 [25, 25, 25] := by
  intro s A
  kernel_rfl
theorem p25_13 : G_ tr6 TS25 13 [] := by
  intro s A
  kernel_rfl
theorem p25_14 : G_ tr6 TS25 14 [] := by
  intro s A
  kernel_rfl
theorem p25_15 : G_ tr6 TS25 15 [] := by
  intro s A
  kernel_rfl
theorem p25_16 : G_ tr6 TS25 16 [] := by
  intro s A
  kernel_rfl
theorem p26_0 : G_ tr2 TS26 0 [30, 30, 30] := by
  intro s A
  kernel_rfl
theorem p26_1 : G_ tr2 TS26 1 [31, 31, 31] := by
  intro s A
  kernel_rfl
theorem p26_2 : G_ tr2 TS26 2 [31, 31, 31] := by
  intro s A
  kernel_rfl
theorem p26_3 : G_ tr2 TS26 3 [32, 32, 32] := by
  intro s A
  kernel_rfl
theorem p26_4 : G_ tr2 TS26 4 [30, 30, 30] := by
  intro s A
  kernel_rfl
theorem p26_5 : G_ tr2 TS26 5 [31, 31, 31] := by
  intro s A
  kernel_rfl
theorem p26_6 : G_ tr2 TS26 6 [31, 31, 31] := by
  intro s A
  kernel_rfl
theorem p26_7 : G_ tr2 TS26 7 [] := by
  intro s A
  kernel_rfl
theorem p26_8 : G_ tr2 TS26 8 [] := by
  intro s A
  kernel_rfl
theorem p27_0 : G_ tr2 TS27 0 [28, 28, 28] := by
  intro s A
  kernel_rfl
theorem p27_1 : G_ tr2 TS27 1 [25, 25, 25] := by
  intro s A
  kernel_rfl
theorem p27_2 : G_ tr2 TS27 2 [25, 25, 25] := by
  intro s A
  kernel_rfl
theorem p27_3 : G_ tr2 TS27 3 [33, 33, 33] := by
  intro s A
  kernel_rfl
theorem p27_4 : G_ tr2 TS27 4 [28, 28, 28] := by
  intro s A
  kernel_rfl
theorem p27_5 : G_ tr2 TS27 5 [25, 25, 25] := by
  intro s A
  kernel_rfl
theorem p27_6 : G_ tr2 TS27 6 [25, 25, 25] := by
  intro s A
  kernel_rfl
theorem p27_7 : G_ tr2 TS27 7 [] := by
  intro s A
  kernel_rfl
theorem p27_8 : G_ tr2 TS27 8 [] := by
  intro s A
  kernel_rfl
theorem p28_0 : G_ tr2 TS28 0 [28, 28, 28] := by
  intro s A
  kernel_rfl
theorem p28_1 : G_ tr2 TS28 1 [25, 25, 25] := by
  intro s A
  kernel_rfl
theorem p28_2 : G_ tr2 TS28 2 [25, 25, 25] := by
  intro s A
  kernel_rfl
theorem p28_3 : G_ tr2 TS28 3 [33, 33, 33] := by
  intro s A
  kernel_rfl
theorem p28_4 : G_ tr2 TS28 4 [28, 28, 28] := by
  intro s A
  kernel_rfl
theorem p28_5 : G_ tr2 TS28 5 [25, 25, 25] := by
  intro s A
  kernel_rfl
theorem p28_6 : G_ tr2 TS28 6 [25, 25, 25] := by
  intro s A
  kernel_rfl
theorem p28_7 : G_ tr2 TS28 7 [] := by
  intro s A
  kernel_rfl
theorem p28_8 : G_ tr2 TS28 8 [] := by
  intro s A
  kernel_rfl
theorem p29_0 : G_ tr7 TS29 0 [34, 34, 34] := by
  intro s A
  kernel_rfl
theorem p29_1 : G_ tr7 TS29 1 [31, 31, 31] := by
  intro s A
  kernel_rfl
theorem p29_2 : G_ tr7 TS29 2 [31, 31, 31] := by
  intro s A
  kernel_rfl
theorem p29_3 : G_ tr7 TS29 3 [34, 34, 34] := by
  intro s A
  kernel_rfl
theorem p29_4 : G_ tr7 TS29 4 [31, 31, 31] := by
  intro s A
  kernel_rfl
theorem p29_5 : G_ tr7 TS29 5 [31, 31, 31] := by
  intro s A
  kernel_rfl
theorem p29_6 : G_ tr7 TS29 6 [35, 35, 35] := by
  intro s A
  kernel_rfl
theorem p29_7 : G_ tr7 TS29 7 [34, 34, 34] := by
  intro s A
  kernel_rfl
theorem p29_8 : G_ tr7 TS29 8 [31, 31, 31] := by
  intro s A
  kernel_rfl
theorem p29_9 : G_ tr7 TS29 9 [31, 31, 31] := by
  intro s A
  kernel_rfl
theorem p29_10 : G_ tr7 TS29 10 [34, 34, 34] := by
  intro s A
  kernel_rfl
theorem p29_11 : G_ tr7 TS29 11 [31, 31, 31] := by
  intro s A
  kernel_rfl
theorem p29_12 : G_ tr7 TS29 12 [31, 31, 31] := by
  intro s A
  kernel_rfl
theorem p29_13 : G_ tr7 TS29 13 [] := by
  intro s A
  kernel_rfl
theorem p29_14 : G_ tr7 TS29 14 [] := by
  intro s A
  kernel_rfl
theorem p29_15 : G_ tr7 TS29 15 [] := by
  intro s A
  kernel_rfl
theorem p29_16 : G_ tr7 TS29 16 [] := by
  intro s A
  kernel_rfl
theorem p30_0 : G_ tr2 TS30 0 [30, 30, 30] := by
  intro s A
  kernel_rfl
theorem p30_1 : G_ tr2 TS30 1 [31, 31, 31] := by
  intro s A
  kernel_rfl
theorem p30_2 : G_ tr2 TS30 2 [31, 31, 31] := by
  intro s A
  kernel_rfl
theorem p30_3 : G_ tr2 TS30 3 [32, 32, 32] := by
  intro s A
  kernel_rfl
theorem p30_4 : G_ tr2 TS30 4 [30, 30, 30] := by
  intro s A
  kernel_rfl
theorem p30_5 : G_ tr2 TS30 5 [31, 31, 31] := by
  intro s A
  kernel_rfl
theorem p30_6 : G_ tr2 TS30 6 [31, 31, 31] := by
  intro s A
  kernel_rfl
theorem p30_7 : G_ tr2 TS30 7 [] := by
  intro s A
  kernel_rfl
theorem p30_8 : G_ tr2 TS30 8 [] := by
  intro s A
  kernel_rfl
theorem p31_0 : G_ tr7 TS31 0 [34, 34, 34] := by
  intro s A
  kernel_rfl
theorem p31_1 : G_ tr7 TS31 1 [31, 31, 31] := by
  intro s A
  kernel_rfl
end Go.Ev
