/- Passes of BrokerOrders's loop, part 9. -/
import Derived.Test.YtebfhilokhbfgaaGreatDoorSt
namespace Go.Ev
open Go.Proofs
set_option maxRecDepth 1000000
theorem p46_3 : G_ tr2 TS46 3 [48, 48, 48] := by
  intro s A
  kernel_rfl
theorem p46_4 : G_ tr2 TS46 4 [46, 46, 46] := by
  intro s A
  kernel_rfl
theorem p46_5 : G_ tr2 TS46 5 [43, 43, 43] := by
  intro s A
  kernel_rfl
theorem p46_6 : G_ tr2 TS46 6 [43, 43, 43] := by
  intro s A
  kernel_rfl
theorem p46_7 : G_ tr2 TS46 7 [] := by
  intro s A
  kernel_rfl
theorem p46_8 : G_ tr2 TS46 8 [] := by
  intro s A
  kernel_rfl
theorem p47_0 : G_ tr11 TS47 0 [46] := by
  intro s A
  kernel_rfl
theorem p47_1 : G_ tr11 TS47 1 [43] := by
  intro s A
  kernel_rfl
theorem p47_2 : G_ tr11 TS47 2 [43] := by
  intro s A
  kernel_rfl
theorem p47_3 : G_ tr11 TS47 3 [46] := by
  intro s A
  kernel_rfl
theorem p47_4 : G_ tr11 TS47 4 [43] := by
  intro s A
  kernel_rfl
theorem p47_5 : G_ tr11 TS47 5 [43] := by
  intro s A
  kernel_rfl
theorem p47_6 : G_ tr11 TS47 6 [47] := by
  intro s A
  kernel_rfl
theorem p47_7 : G_ tr11 TS47 7 [46] := by
  intro s A
  kernel_rfl
theorem p47_8 : G_ tr11 TS47 8 [43] := by
  intro s A
  kernel_rfl
theorem p47_9 : G_ tr11 TS47 9 [43] := by
  intro s A
  kernel_rfl
theorem p47_10 : G_ tr11 TS47 10 [46] := by
  intro s A
  kernel_rfl
theorem p47_11 : G_ tr11 TS47 11 [43] := by
  intro s A
  kernel_rfl
theorem p47_12 : G_ tr11 TS47 12 [43] := by
  intro s A
  kernel_rfl
theorem p47_13 : G_ tr11 TS47 13 [] := by
  intro s A
  kernel_rfl
theorem p47_14 : G_ tr11 TS47 14 [] := by
  intro s A
  kernel_rfl
theorem p47_15 : G_ tr11 TS47 15 [] := by
  intro s A
  kernel_rfl
theorem p47_16 : G_ tr11 TS47 16 [] := by
  intro s A
  kernel_rfl
theorem p48_0 : G_ tr10 TS48 0 [46] := by
  intro s A
  kernel_rfl
theorem p48_1 : G_ tr10 TS48 1 [43] := by
  intro s A
  kernel_rfl
theorem p48_2 : G_ tr10 TS48 2 [43] := by
  intro s A
  kernel_rfl
theorem p48_3 : G_ tr10 TS48 3 [48] := by
  intro s A
  kernel_rfl
theorem p48_4 : G_ tr10 TS48 4 [46] := by
  intro s A
  kernel_rfl
theorem p48_5 : G_ tr10 TS48 5 [43] := by
  intro s A
  kernel_rfl
theorem p48_6 : G_ tr10 TS48 6 [43] := by
  intro s A
  kernel_rfl
theorem p48_7 : G_ tr10 TS48 7 [] := by
  intro s A
  kernel_rfl
theorem p48_8 : G_ tr10 TS48 8 [] := by
  intro s A
  kernel_rfl
theorem q0 : S_ 0 [0] := by
  intro s A
  kernel_rfl
end Go.Ev
