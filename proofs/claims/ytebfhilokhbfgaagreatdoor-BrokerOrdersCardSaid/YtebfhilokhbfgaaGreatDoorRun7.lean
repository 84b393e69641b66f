/- Passes of BrokerOrders's loop, part 7. -/
import Derived.Test.YtebfhilokhbfgaaGreatDoorSt
namespace Go.Ev
open Go.Proofs
set_option maxRecDepth 1000000
theorem p35_13 : G_ tr8 TS35 13 [] := by
  intro s A
  kernel_rfl
theorem p35_14 : G_ tr8 TS35 14 [] := by
  intro s A
  kernel_rfl
theorem p35_15 : G_ tr8 TS35 15 [] := by
  intro s A
  kernel_rfl
theorem p35_16 : G_ tr8 TS35 16 [] := by
  intro s A
  kernel_rfl
theorem p36_0 : G_ tr2 TS36 0 [36, 36, 36] := by
  intro s A
  kernel_rfl
theorem p36_1 : G_ tr2 TS36 1 [37, 37, 37] := by
  intro s A
  kernel_rfl
theorem p36_2 : G_ tr2 TS36 2 [37, 37, 37] := by
  intro s A
  kernel_rfl
theorem p36_3 : G_ tr2 TS36 3 [38, 38, 38] := by
  intro s A
  kernel_rfl
theorem p36_4 : G_ tr2 TS36 4 [36, 36, 36] := by
  intro s A
  kernel_rfl
theorem p36_5 : G_ tr2 TS36 5 [37, 37, 37] := by
  intro s A
  kernel_rfl
theorem p36_6 : G_ tr2 TS36 6 [37, 37, 37] := by
  intro s A
  kernel_rfl
theorem p36_7 : G_ tr2 TS36 7 [] := by
  intro s A
  kernel_rfl
theorem p36_8 : G_ tr2 TS36 8 [] := by
  intro s A
  kernel_rfl
theorem p37_0 : G_ tr8 TS37 0 [40, 40, 40] := by
  intro s A
  kernel_rfl
theorem p37_1 : G_ tr8 TS37 1 [37, 37, 37] := by
  intro s A
  kernel_rfl
theorem p37_2 : G_ tr8 TS37 2 [37, 37, 37] := by
  intro s A
  kernel_rfl
theorem p37_3 : G_ tr8 TS37 3 [40, 40, 40] := by
  intro s A
  kernel_rfl
theorem p37_4 : G_ tr8 TS37 4 [37, 37, 37] := by
  intro s A
  kernel_rfl
theorem p37_5 : G_ tr8 TS37 5 [37, 37, 37] := by
  intro s A
  kernel_rfl
theorem p37_6 : G_ tr8 TS37 6 [41, 41, 41] := by
  intro s A
  kernel_rfl
theorem p37_7 : G_ tr8 TS37 7 [40, 40, 40] := by
  intro s A
  kernel_rfl
theorem p37_8 : G_ tr8 TS37 8 [37, 37, 37] := by
  intro s A
  kernel_rfl
theorem p37_9 : G_ tr8 TS37 9 [37, 37, 37] := by
  intro s A
  kernel_rfl
theorem p37_10 : G_ tr8 TS37 10 [40, 40, 40] := by
  intro s A
  kernel_rfl
theorem p37_11 : G_ tr8 TS37 11 [37, 37, 37] := by
  intro s A
  kernel_rfl
theorem p37_12 : G_ tr8 TS37 12 [37, 37, 37] := by
  intro s A
  kernel_rfl
theorem p37_13 : G_ tr8 TS37 13 [] := by
  intro s A
  kernel_rfl
theorem p37_14 : G_ tr8 TS37 14 [] := by
  intro s A
  kernel_rfl
theorem p37_15 : G_ tr8 TS37 15 [] := by
  intro s A
  kernel_rfl
theorem p37_16 : G_ tr8 TS37 16 [] := by
  intro s A
  kernel_rfl
theorem p38_0 : G_ tr2 TS38 0 [42, 42, 42] := by
  intro s A
  kernel_rfl
theorem p38_1 : G_ tr2 TS38 1 [43, 43, 43] := by
  intro s A
  kernel_rfl
theorem p38_2 : G_ tr2 TS38 2 [43, 43, 43] := by
  intro s A
  kernel_rfl
theorem p38_3 : G_ tr2 TS38 3 [44, 44, 44] := by
  intro s A
  kernel_rfl
theorem p38_4 : G_ tr2 TS38 4 [42, 42, 42] := by
  intro s A
  kernel_rfl
theorem p38_5 : G_ tr2 TS38 5 [43, 43, 43] := by
  intro s A
  kernel_rfl
theorem p38_6 : G_ tr2 TS38 6 [43, 43, 43] := by
  intro s A
  kernel_rfl
theorem p38_7 : G_ tr2 TS38 7 [] := by
  intro s A
  kernel_rfl
theorem p38_8 : G_ tr2 TS38 8 [] := by
  intro s A
  kernel_rfl
theorem p39_0 : G_ tr2 TS39 0 [40, 40, 40] := by
  intro s A
  kernel_rfl
theorem p39_1 : G_ tr2 TS39 1 [37, 37, 37] := by
  intro s A
  kernel_rfl
theorem p39_2 : G_ tr2 TS39 2 [37, 37, 37] := by
  intro s A
  kernel_rfl
theorem p39_3 : G_ tr2 TS39 3 [45, 45, 45] := by
  intro s A
  kernel_rfl
theorem p39_4 : G_ tr2 TS39 4 [40, 40, 40] := by
  intro s A
  kernel_rfl
theorem p39_5 : G_ tr2 TS39 5 [37, 37, 37] := by
  intro s A
  kernel_rfl
theorem p39_6 : G_ tr2 TS39 6 [37, 37, 37] := by
  intro s A
  kernel_rfl
theorem p39_7 : G_ tr2 TS39 7 [] := by
  intro s A
  kernel_rfl
theorem p39_8 : G_ tr2 TS39 8 [] := by
  intro s A
  kernel_rfl
theorem p40_0 : G_ tr2 TS40 0 [40, 40, 40] := by
  intro s A
  kernel_rfl
theorem p40_1 : G_ tr2 TS40 1 [37, 37, 37] := by
  intro s A
  kernel_rfl
theorem p40_2 : G_ tr2 TS40 2 [37, 37, 37] := by
  intro s A
  kernel_rfl
theorem p40_3 : G_ tr2 TS40 3 [45, 45, 45] := by
  intro s A
  kernel_rfl
theorem p40_4 : G_ tr2 TS40 4 [40, 40, 40] := by
  intro s A
  kernel_rfl
theorem p40_5 : G_ tr2 TS40 5 [37, 37, 37] := by
  intro s A
  kernel_rfl
theorem p40_6 : G_ tr2 TS40 6 [37, 37, 37] := by
  intro s A
  kernel_rfl
theorem p40_7 : G_ tr2 TS40 7 [] := by
  intro s A
  kernel_rfl
theorem p40_8 : G_ tr2 TS40 8 [] := by
  intro s A
  kernel_rfl
theorem p41_0 : G_ tr9 TS41 0 [46, 46, 46] := by
  intro s A
  kernel_rfl
theorem p41_1 : G_ tr9 TS41 1 [43, 43, 43] := by
  intro s A
  kernel_rfl
theorem p41_2 : G_ tr9 TS41 2 [43, 43, 43] := by
  intro s A
  kernel_rfl
end Go.Ev
