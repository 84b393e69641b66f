/- Passes of BrokerStops's loop, part 6. -/
import Derived.Test.YtpaliddghngcmaaGreatDoorSt
namespace Go.Ev
open Go.Proofs
set_option maxRecDepth 1000000
theorem p15_7 : G_ tr0 TS15 7 [15] := by
  intro s A
  kernel_rfl
theorem p15_8 : G_ tr0 TS15 8 [15] := by
  intro s A
  kernel_rfl
theorem p15_9 : G_ tr0 TS15 9 [8] := by
  intro s A
  kernel_rfl
theorem p15_10 : G_ tr0 TS15 10 [15] := by
  intro s A
  kernel_rfl
theorem p15_11 : G_ tr0 TS15 11 [15] := by
  intro s A
  kernel_rfl
theorem p15_12 : G_ tr0 TS15 12 [16, 16] := by
  intro s A
  kernel_rfl
theorem p15_13 : G_ tr0 TS15 13 [15] := by
  intro s A
  kernel_rfl
theorem p15_14 : G_ tr0 TS15 14 [15] := by
  intro s A
  kernel_rfl
theorem p15_15 : G_ tr0 TS15 15 [15] := by
  intro s A
  kernel_rfl
theorem p15_16 : G_ tr0 TS15 16 [15] := by
  intro s A
  kernel_rfl
theorem p15_17 : G_ tr0 TS15 17 [10] := by
  intro s A
  kernel_rfl
theorem p15_18 : G_ tr0 TS15 18 [15] := by
  intro s A
  kernel_rfl
theorem p15_19 : G_ tr0 TS15 19 [15] := by
  intro s A
  kernel_rfl
theorem p15_20 : G_ tr0 TS15 20 [] := by
  intro s A
  kernel_rfl
theorem p15_21 : G_ tr0 TS15 21 [] := by
  intro s A
  kernel_rfl
theorem p16_0 : G_ tr0 TS16 0 [16] := by
  intro s A
  kernel_rfl
theorem p16_1 : G_ tr0 TS16 1 [15] := by
  intro s A
  kernel_rfl
theorem p16_2 : G_ tr0 TS16 2 [16] := by
  intro s A
  kernel_rfl
theorem p16_3 : G_ tr0 TS16 3 [16] := by
  intro s A
  kernel_rfl
theorem p16_4 : G_ tr0 TS16 4 [16] := by
  intro s A
  kernel_rfl
theorem p16_5 : G_ tr0 TS16 5 [13] := by
  intro s A
  kernel_rfl
theorem p16_6 : G_ tr0 TS16 6 [16] := by
  intro s A
  kernel_rfl
theorem p16_7 : G_ tr0 TS16 7 [16] := by
  intro s A
  kernel_rfl
theorem p16_8 : G_ tr0 TS16 8 [16] := by
  intro s A
  kernel_rfl
theorem p16_9 : G_ tr0 TS16 9 [12] := by
  intro s A
  kernel_rfl
theorem p16_10 : G_ tr0 TS16 10 [16] := by
  intro s A
  kernel_rfl
theorem p16_11 : G_ tr0 TS16 11 [16] := by
  intro s A
  kernel_rfl
theorem p16_12 : G_ tr0 TS16 12 [16] := by
  intro s A
  kernel_rfl
theorem p16_13 : G_ tr0 TS16 13 [15] := by
  intro s A
  kernel_rfl
theorem p16_14 : G_ tr0 TS16 14 [16] := by
  intro s A
  kernel_rfl
theorem p16_15 : G_ tr0 TS16 15 [16] := by
  intro s A
  kernel_rfl
theorem p16_16 : G_ tr0 TS16 16 [16] := by
  intro s A
  kernel_rfl
theorem p16_17 : G_ tr0 TS16 17 [13] := by
  intro s A
  kernel_rfl
theorem p16_18 : G_ tr0 TS16 18 [16] := by
  intro s A
  kernel_rfl
theorem p16_19 : G_ tr0 TS16 19 [16] := by
  intro s A
  kernel_rfl
theorem p16_20 : G_ tr0 TS16 20 [] := by
  intro s A
  kernel_rfl
theorem p16_21 : G_ tr0 TS16 21 [] := by
  intro s A
  kernel_rfl
theorem q0 : S_ 0 [0] := by
  intro s A
  kernel_rfl
end Go.Ev
