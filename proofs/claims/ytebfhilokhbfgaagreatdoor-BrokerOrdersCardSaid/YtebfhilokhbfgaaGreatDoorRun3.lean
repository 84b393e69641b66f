/- Passes of BrokerOrders's loop, part 3. -/
import Derived.Test.YtebfhilokhbfgaaGreatDoorSt
namespace Go.Ev
open Go.Proofs
set_option maxRecDepth 1000000
theorem p16_5 : G_ tr2 TS16 5 [13, 13, 13] := by
  intro s A
  kernel_rfl
theorem p16_6 : G_ tr2 TS16 6 [13, 13, 13] := by
  intro s A
  kernel_rfl
theorem p16_7 : G_ tr2 TS16 7 [] := by
  intro s A
  kernel_rfl
theorem p16_8 : G_ tr2 TS16 8 [] := by
  intro s A
  kernel_rfl
theorem p17_0 : G_ tr5 TS17 0 [22, 22, 22] := by
  intro s A
  kernel_rfl
theorem p17_1 : G_ tr5 TS17 1 [19, 19, 19] := by
  intro s A
  kernel_rfl
theorem p17_2 : G_ tr5 TS17 2 [19, 19, 19] := by
  intro s A
  kernel_rfl
theorem p17_3 : G_ tr5 TS17 3 [22, 22, 22] := by
  intro s A
  kernel_rfl
theorem p17_4 : G_ tr5 TS17 4 [19, 19, 19] := by
  intro s A
  kernel_rfl
theorem p17_5 : G_ tr5 TS17 5 [19, 19, 19] := by
  intro s A
  kernel_rfl
theorem p17_6 : G_ tr5 TS17 6 [23, 23, 23] := by
  intro s A
  kernel_rfl
theorem p17_7 : G_ tr5 TS17 7 [22, 22, 22] := by
  intro s A
  kernel_rfl
theorem p17_8 : G_ tr5 TS17 8 [19, 19, 19] := by
  intro s A
  kernel_rfl
theorem p17_9 : G_ tr5 TS17 9 [19, 19, 19] := by
  intro s A
  kernel_rfl
theorem p17_10 : G_ tr5 TS17 10 [22, 22, 22] := by
  intro s A
  kernel_rfl
theorem p17_11 : G_ tr5 TS17 11 [19, 19, 19] := by
  intro s A
  kernel_rfl
theorem p17_12 : G_ tr5 TS17 12 [19, 19, 19] := by
  intro s A
  kernel_rfl
theorem p17_13 : G_ tr5 TS17 13 [] := by
  intro s A
  kernel_rfl
theorem p17_14 : G_ tr5 TS17 14 [] := by
  intro s A
  kernel_rfl
theorem p17_15 : G_ tr5 TS17 15 [] := by
  intro s A
  kernel_rfl
theorem p17_16 : G_ tr5 TS17 16 [] := by
  intro s A
  kernel_rfl
theorem p18_0 : G_ tr2 TS18 0 [18, 18, 18] := by
  intro s A
  kernel_rfl
theorem p18_1 : G_ tr2 TS18 1 [19, 19, 19] := by
  intro s A
  kernel_rfl
theorem p18_2 : G_ tr2 TS18 2 [19, 19, 19] := by
  intro s A
  kernel_rfl
theorem p18_3 : G_ tr2 TS18 3 [20, 20, 20] := by
  intro s A
  kernel_rfl
theorem p18_4 : G_ tr2 TS18 4 [18, 18, 18] := by
  intro s A
  kernel_rfl
theorem p18_5 : G_ tr2 TS18 5 [19, 19, 19] := by
  intro s A
  kernel_rfl
theorem p18_6 : G_ tr2 TS18 6 [19, 19, 19] := by
  intro s A
  kernel_rfl
theorem p18_7 : G_ tr2 TS18 7 [] := by
  intro s A
  kernel_rfl
theorem p18_8 : G_ tr2 TS18 8 [] := by
  intro s A
  kernel_rfl
theorem p19_0 : G_ tr5 TS19 0 [22, 22, 22] := by
  intro s A
  kernel_rfl
theorem p19_1 : G_ tr5 TS19 1 [19, 19, 19] := by
  intro s A
  kernel_rfl
theorem p19_2 : G_ tr5 TS19 2 [19, 19, 19] := by
  intro s A
  kernel_rfl
theorem p19_3 : G_ tr5 TS19 3 [22, 22, 22] := by
  intro s A
  kernel_rfl
theorem p19_4 : G_ tr5 TS19 4 [19, 19, 19] := by
  intro s A
  kernel_rfl
theorem p19_5 : G_ tr5 TS19 5 [19, 19, 19] := by
  intro s A
  kernel_rfl
theorem p19_6 : G_ tr5 TS19 6 [23, 23, 23] := by
  intro s A
  kernel_rfl
theorem p19_7 : G_ tr5 TS19 7 [22, 22, 22] := by
  intro s A
  kernel_rfl
theorem p19_8 : G_ tr5 TS19 8 [19, 19, 19] := by
  intro s A
  kernel_rfl
theorem p19_9 : G_ tr5 TS19 9 [19, 19, 19] := by
  intro s A
  kernel_rfl
theorem p19_10 : G_ tr5 TS19 10 [22, 22, 22] := by
  intro s A
  kernel_rfl
theorem p19_11 : G_ tr5 TS19 11 [19, 19, 19] := by
  intro s A
  kernel_rfl
theorem p19_12 : G_ tr5 TS19 12 [19, 19, 19] := by
  intro s A
  kernel_rfl
theorem p19_13 : G_ tr5 TS19 13 [] := by
  intro s A
  kernel_rfl
theorem p19_14 : G_ tr5 TS19 14 [] := by
  intro s A
  kernel_rfl
theorem p19_15 : G_ tr5 TS19 15 [] := by
  intro s A
  kernel_rfl
theorem p19_16 : G_ tr5 TS19 16 [] := by
  intro s A
  kernel_rfl
theorem p20_0 : G_ tr2 TS20 0 [24, 24, 24] := by
  intro s A
  kernel_rfl
theorem p20_1 : G_ tr2 TS20 1 [25, 25, 25] := by
  intro s A
  kernel_rfl
theorem p20_2 : G_ tr2 TS20 2 [25, 25, 25] := by
  intro s A
  kernel_rfl
theorem p20_3 : G_ tr2 TS20 3 [26, 26, 26] := by
  intro s A
  kernel_rfl
theorem p20_4 : G_ tr2 TS20 4 [24, 24, 24] := by
  intro s A
  kernel_rfl
theorem p20_5 : G_ tr2 TS20 5 [25, 25, 25] := by
  intro s A
  kernel_rfl
theorem p20_6 : G_ tr2 TS20 6 [25, 25, 25] := by
  intro s A
  kernel_rfl
theorem p20_7 : G_ tr2 TS20 7 [] := by
  intro s A
  kernel_rfl
theorem p20_8 : G_ tr2 TS20 8 [] := by
  intro s A
  kernel_rfl
theorem p21_0 : G_ tr2 TS21 0 [22, 22, 22] := by
  intro s A
  kernel_rfl
end Go.Ev
