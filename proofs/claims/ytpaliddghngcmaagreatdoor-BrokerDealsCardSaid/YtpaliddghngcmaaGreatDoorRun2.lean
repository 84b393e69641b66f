/- Passes of BrokerDeals's loop, part 2. -/
import Derived.Test.YtpaliddghngcmaaGreatDoorSt
namespace Go.Ev
open Go.Proofs
set_option maxRecDepth 1000000
theorem p14_3 : G_ tr3 TS14 3 [26] := by
  intro s A
  kernel_rfl
theorem p14_4 : G_ tr3 TS14 4 [22] := by
  intro s A
  kernel_rfl
theorem p14_5 : G_ tr3 TS14 5 [] := by
  intro s A
  kernel_rfl
theorem p15_0 : G_ tr3 TS15 0 [23] := by
  intro s A
  kernel_rfl
theorem p15_1 : G_ tr3 TS15 1 [25] := by
  intro s A
  kernel_rfl
theorem p15_2 : G_ tr3 TS15 2 [15] := by
  intro s A
  kernel_rfl
theorem p15_3 : G_ tr3 TS15 3 [27] := by
  intro s A
  kernel_rfl
theorem p15_4 : G_ tr3 TS15 4 [23] := by
  intro s A
  kernel_rfl
theorem p15_5 : G_ tr3 TS15 5 [] := by
  intro s A
  kernel_rfl
theorem p16_0 : G_ tr3 TS16 0 [24] := by
  intro s A
  kernel_rfl
theorem p16_1 : G_ tr3 TS16 1 [26] := by
  intro s A
  kernel_rfl
theorem p16_2 : G_ tr3 TS16 2 [27] := by
  intro s A
  kernel_rfl
theorem p16_3 : G_ tr3 TS16 3 [16] := by
  intro s A
  kernel_rfl
theorem p16_4 : G_ tr3 TS16 4 [24] := by
  intro s A
  kernel_rfl
theorem p16_5 : G_ tr3 TS16 5 [] := by
  intro s A
  kernel_rfl
theorem p17_0 : G_ tr3 TS17 0 [13] := by
  intro s A
  kernel_rfl
theorem p17_1 : G_ tr3 TS17 1 [22] := by
  intro s A
  kernel_rfl
theorem p17_2 : G_ tr3 TS17 2 [23] := by
  intro s A
  kernel_rfl
theorem p17_3 : G_ tr3 TS17 3 [24] := by
  intro s A
  kernel_rfl
theorem p17_4 : G_ tr3 TS17 4 [17] := by
  intro s A
  kernel_rfl
theorem p17_5 : G_ tr3 TS17 5 [] := by
  intro s A
  kernel_rfl
theorem p18_0 : G_ tr1 TS18 0 [18] := by
  intro s A
  kernel_rfl
theorem p18_1 : G_ tr1 TS18 1 [18] := by
  intro s A
  kernel_rfl
theorem p18_2 : G_ tr1 TS18 2 [18] := by
  intro s A
  kernel_rfl
theorem p18_3 : G_ tr1 TS18 3 [] := by
  intro s A
  kernel_rfl
theorem p19_0 : G_ tr2 TS19 0 [19] := by
  intro s A
  kernel_rfl
theorem p19_1 : G_ tr2 TS19 1 [19] := by
  intro s A
  kernel_rfl
theorem p19_2 : G_ tr2 TS19 2 [28] := by
  intro s A
  kernel_rfl
theorem p19_3 : G_ tr2 TS19 3 [19] := by
  intro s A
  kernel_rfl
end Go.Ev
