/- Passes of BrokerOrders's loop, part 6. -/
import Derived.Test.YtebfhilokhbfgaaGreatDoorSt
namespace Go.Ev
open Go.Proofs
set_option maxRecDepth 1000000
theorem p31_2 : G_ tr7 TS31 2 [31, 31, 31] := by
  intro s A
  kernel_rfl
theorem p31_3 : G_ tr7 TS31 3 [34, 34, 34] := by
  intro s A
  kernel_rfl
theorem p31_4 : G_ tr7 TS31 4 [31, 31, 31] := by
  intro s A
  kernel_rfl
theorem p31_5 : G_ tr7 TS31 5 [31, 31, 31] := by
  intro s A
  kernel_rfl
theorem p31_6 : G_ tr7 TS31 6 [35, 35, 35] := by
  intro s A
  kernel_rfl
theorem p31_7 : G_ tr7 TS31 7 [34, 34, 34] := by
  intro s A
  kernel_rfl
theorem p31_8 : G_ tr7 TS31 8 [31, 31, 31] := by
  intro s A
  kernel_rfl
theorem p31_9 : G_ tr7 TS31 9 [31, 31, 31] := by
  intro s A
  kernel_rfl
theorem p31_10 : G_ tr7 TS31 10 [34, 34, 34] := by
  intro s A
  kernel_rfl
theorem p31_11 : G_ tr7 TS31 11 [31, 31, 31] := by
  intro s A
  kernel_rfl
theorem p31_12 : G_ tr7 TS31 12 [31, 31, 31] := by
  intro s A
  kernel_rfl
theorem p31_13 : G_ tr7 TS31 13 [] := by
  intro s A
  kernel_rfl
theorem p31_14 : G_ tr7 TS31 14 [] := by
  intro s A
  kernel_rfl
theorem p31_15 : G_ tr7 TS31 15 [] := by
  intro s A
  kernel_rfl
theorem p31_16 : G_ tr7 TS31 16 [] := by
  intro s A
  kernel_rfl
theorem p32_0 : G_ tr2 TS32 0 [36, 36, 36] := by
  intro s A
  kernel_rfl
theorem p32_1 : G_ tr2 TS32 1 [37, 37, 37] := by
  intro s A
  kernel_rfl
theorem p32_2 : G_ tr2 TS32 2 [37, 37, 37] := by
  intro s A
  kernel_rfl
theorem p32_3 : G_ tr2 TS32 3 [38, 38, 38] := by
  intro s A
  kernel_rfl
theorem p32_4 : G_ tr2 TS32 4 [36, 36, 36] := by
  intro s A
  kernel_rfl
theorem p32_5 : G_ tr2 TS32 5 [37, 37, 37] := by
  intro s A
  kernel_rfl
theorem p32_6 : G_ tr2 TS32 6 [37, 37, 37] := by
  intro s A
  kernel_rfl
theorem p32_7 : G_ tr2 TS32 7 [] := by
  intro s A
  kernel_rfl
theorem p32_8 : G_ tr2 TS32 8 [] := by
  intro s A
  kernel_rfl
theorem p33_0 : G_ tr2 TS33 0 [34, 34, 34] := by
  intro s A
  kernel_rfl
theorem p33_1 : G_ tr2 TS33 1 [31, 31, 31] := by
  intro s A
  kernel_rfl
theorem p33_2 : G_ tr2 TS33 2 [31, 31, 31] := by
  intro s A
  kernel_rfl
theorem p33_3 : G_ tr2 TS33 3 [39, 39, 39] := by
  intro s A
  kernel_rfl
theorem p33_4 : G_ tr2 TS33 4 [34, 34, 34] := by
  intro s A
  kernel_rfl
theorem p33_5 : G_ tr2 TS33 5 [31, 31, 31] := by
  intro s A
  kernel_rfl
theorem p33_6 : G_ tr2 TS33 6 [31, 31, 31] := by
  intro s A
  kernel_rfl
theorem p33_7 : G_ tr2 TS33 7 [] := by
  intro s A
  kernel_rfl
theorem p33_8 : G_ tr2 TS33 8 [] := by
  intro s A
  kernel_rfl
theorem p34_0 : G_ tr2 TS34 0 [34, 34, 34] := by
  intro s A
  kernel_rfl
theorem p34_1 : G_ tr2 TS34 1 [31, 31, 31] := by
  intro s A
  kernel_rfl
theorem p34_2 : G_ tr2 TS34 2 [31, 31, 31] := by
  intro s A
  kernel_rfl
theorem p34_3 : G_ tr2 TS34 3 [39, 39, 39] := by
  intro s A
  kernel_rfl
theorem p34_4 : G_ tr2 TS34 4 [34, 34, 34] := by
  intro s A
  kernel_rfl
theorem p34_5 : G_ tr2 TS34 5 [31, 31, 31] := by
  intro s A
  kernel_rfl
theorem p34_6 : G_ tr2 TS34 6 [31, 31, 31] := by
  intro s A
  kernel_rfl
theorem p34_7 : G_ tr2 TS34 7 [] := by
  intro s A
  kernel_rfl
theorem p34_8 : G_ tr2 TS34 8 [] := by
  intro s A
  kernel_rfl
theorem p35_0 : G_ tr8 TS35 0 [40, 40, 40] := by
  intro s A
  kernel_rfl
theorem p35_1 : G_ tr8 TS35 1 [37, 37, 37] := by
  intro s A
  kernel_rfl
theorem p35_2 : G_ tr8 TS35 2 [37, 37, 37] := by
  intro s A
  kernel_rfl
theorem p35_3 : G_ tr8 TS35 3 [40, 40, 40] := by
  intro s A
  kernel_rfl
theorem p35_4 : G_ tr8 TS35 4 [37, 37, 37] := by
  intro s A
  kernel_rfl
theorem p35_5 : G_ tr8 TS35 5 [37, 37, 37] := by
  intro s A
  kernel_rfl
theorem p35_6 : G_ tr8 TS35 6 [41, 41, 41] := by
  intro s A
  kernel_rfl
theorem p35_7 : G_ tr8 TS35 7 [40, 40, 40] := by
  intro s A
  kernel_rfl
theorem p35_8 : G_ tr8 TS35 8 [37, 37, 37] := by
  intro s A
  kernel_rfl
theorem p35_9 : G_ tr8 TS35 9 [37, 37, 37] := by
  intro s A
  kernel_rfl
theorem p35_10 : G_ tr8 TS35 10 [40, 40, 40] := by
  intro s A
  kernel_rfl
theorem p35_11 : G_ tr8 TS35 11 [37, 37, 37] := by
  intro s A
  kernel_rfl
theorem p35_12 : G_ tr8 TS35 12 [37, 37, 37] := by
  intro s A
  kernel_rfl
end Go.Ev
