/- Passes of BrokerOrders's loop, part 8. -/
import Derived.Test.YtebfhilokhbfgaaGreatDoorSt
namespace Go.Ev
open Go.Proofs
set_option maxRecDepth 1000000
theorem p41_3 : G_ tr9 TS41 3 [46, 46, 46] := by
  intro s A
  kernel_rfl
theorem p41_4 : G_ tr9 TS41 4 [43, 43, 43] := by
  intro s A
  kernel_rfl
theorem p41_5 : G_ tr9 TS41 5 [43, 43, 43] := by
  intro s A
  kernel_rfl
theorem p41_6 : G_ tr9 TS41 6 [47, 47, 47] := by
  intro s A
  kernel_rfl
theorem p41_7 : G_ tr9 TS41 7 [46, 46, 46] := by
  intro s A
  kernel_rfl
theorem p41_8 : G_ tr9 TS41 8 [43, 43, 43] := by
  intro s A
  kernel_rfl
theorem p41_9 : G_ tr9 TS41 9 [43, 43, 43] := by
  intro s A
  kernel_rfl
theorem p41_10 : G_ tr9 TS41 10 [46, 46, 46] := by
  intro s A
  kernel_rfl
theorem p41_11 : G_ tr9 TS41 11 [43, 43, 43] := by
  intro s A
  kernel_rfl
theorem p41_12 : G_ tr9 TS41 12 [43, 43, 43] := by
  intro s A
  kernel_rfl
theorem p41_13 : G_ tr9 TS41 13 [] := by
  intro s A
  kernel_rfl
theorem p41_14 : G_ tr9 TS41 14 [] := by
  intro s A
  kernel_rfl
theorem p41_15 : G_ tr9 TS41 15 [] := by
  intro s A
  kernel_rfl
theorem p41_16 : G_ tr9 TS41 16 [] := by
  intro s A
  kernel_rfl
theorem p42_0 : G_ tr2 TS42 0 [42, 42, 42] := by
  intro s A
  kernel_rfl
theorem p42_1 : G_ tr2 TS42 1 [43, 43, 43] := by
  intro s A
  kernel_rfl
theorem p42_2 : G_ tr2 TS42 2 [43, 43, 43] := by
  intro s A
  kernel_rfl
theorem p42_3 : G_ tr2 TS42 3 [44, 44, 44] := by
  intro s A
  kernel_rfl
theorem p42_4 : G_ tr2 TS42 4 [42, 42, 42] := by
  intro s A
  kernel_rfl
theorem p42_5 : G_ tr2 TS42 5 [43, 43, 43] := by
  intro s A
  kernel_rfl
theorem p42_6 : G_ tr2 TS42 6 [43, 43, 43] := by
  intro s A
  kernel_rfl
theorem p42_7 : G_ tr2 TS42 7 [] := by
  intro s A
  kernel_rfl
theorem p42_8 : G_ tr2 TS42 8 [] := by
  intro s A
  kernel_rfl
theorem p43_0 : G_ tr9 TS43 0 [46, 46, 46] := by
  intro s A
  kernel_rfl
theorem p43_1 : G_ tr9 TS43 1 [43, 43, 43] := by
  intro s A
  kernel_rfl
theorem p43_2 : G_ tr9 TS43 2 [43, 43, 43] := by
  intro s A
  kernel_rfl
theorem p43_3 : G_ tr9 TS43 3 [46, 46, 46] := by
  intro s A
  kernel_rfl
theorem p43_4 : G_ tr9 TS43 4 [43, 43, 43] := by
  intro s A
  kernel_rfl
theorem p43_5 : G_ tr9 TS43 5 [43, 43, 43] := by
  intro s A
  kernel_rfl
theorem p43_6 : G_ tr9 TS43 6 [47, 47, 47] := by
  intro s A
  kernel_rfl
theorem p43_7 : G_ tr9 TS43 7 [46, 46, 46] := by
  intro s A
  kernel_rfl
theorem p43_8 : G_ tr9 TS43 8 [43, 43, 43] := by
  intro s A
  kernel_rfl
theorem p43_9 : G_ tr9 TS43 9 [43, 43, 43] := by
  intro s A
  kernel_rfl
theorem p43_10 : G_ tr9 TS43 10 [46, 46, 46] := by
  intro s A
  kernel_rfl
theorem p43_11 : G_ tr9 TS43 11 [43, 43, 43] := by
  intro s A
  kernel_rfl
theorem p43_12 : G_ tr9 TS43 12 [43, 43, 43] := by
  intro s A
  kernel_rfl
theorem p43_13 : G_ tr9 TS43 13 [] := by
  intro s A
  kernel_rfl
theorem p43_14 : G_ tr9 TS43 14 [] := by
  intro s A
  kernel_rfl
theorem p43_15 : G_ tr9 TS43 15 [] := by
  intro s A
  kernel_rfl
theorem p43_16 : G_ tr9 TS43 16 [] := by
  intro s A
  kernel_rfl
theorem p44_0 : G_ tr10 TS44 0 [42] := by
  intro s A
  kernel_rfl
theorem p44_1 : G_ tr10 TS44 1 [43] := by
  intro s A
  kernel_rfl
theorem p44_2 : G_ tr10 TS44 2 [43] := by
  intro s A
  kernel_rfl
theorem p44_3 : G_ tr10 TS44 3 [44] := by
  intro s A
  kernel_rfl
theorem p44_4 : G_ tr10 TS44 4 [42] := by
  intro s A
  kernel_rfl
theorem p44_5 : G_ tr10 TS44 5 [43] := by
  intro s A
  kernel_rfl
theorem p44_6 : G_ tr10 TS44 6 [43] := by
  intro s A
  kernel_rfl
theorem p44_7 : G_ tr10 TS44 7 [] := by
  intro s A
  kernel_rfl
theorem p44_8 : G_ tr10 TS44 8 [] := by
  intro s A
  kernel_rfl
theorem p45_0 : G_ tr2 TS45 0 [46, 46, 46] := by
  intro s A
  kernel_rfl
theorem p45_1 : G_ tr2 TS45 1 [43, 43, 43] := by
  intro s A
  kernel_rfl
theorem p45_2 : G_ tr2 TS45 2 [43, 43, 43] := by
  intro s A
  kernel_rfl
theorem p45_3 : G_ tr2 TS45 3 [48, 48, 48] := by
  intro s A
  kernel_rfl
theorem p45_4 : G_ tr2 TS45 4 [46, 46, 46] := by
  intro s A
  kernel_rfl
theorem p45_5 : G_ tr2 TS45 5 [43, 43, 43] := by
  intro s A
  kernel_rfl
theorem p45_6 : G_ tr2 TS45 6 [43, 43, 43] := by
  intro s A
  kernel_rfl
theorem p45_7 : G_ tr2 TS45 7 [] := by
  intro s A
  kernel_rfl
theorem p45_8 : G_ tr2 TS45 8 [] := by
  intro s A
  kernel_rfl
theorem p46_0 : G_ tr2 TS46 0 [46, 46, 46] := by
  intro s A
  kernel_rfl
theorem p46_1 : G_ tr2 TS46 1 [43, 43, 43] := by
  intro s A
  kernel_rfl
theorem p46_2 : G_ tr2 TS46 2 [43, 43, 43] := by
  intro s A
  kernel_rfl
end Go.Ev
