/- Passes of BrokerSmall's loop, part 0. -/
import Derived.Test.YtglaococfplhpaaGreatDoorSt
namespace Go.Ev
open Go.Proofs
set_option maxRecDepth 1000000
theorem p0_0 : G_ tr0 TS0 0 [3] := by
  intro s A
  kernel_rfl
theorem p0_1 : G_ tr0 TS0 1 [3] := by
  intro s A
  kernel_rfl
theorem p0_2 : G_ tr0 TS0 2 [3] := by
  intro s A
  kernel_rfl
theorem p0_3 : G_ tr0 TS0 3 [3] := by
  intro s A
  kernel_rfl
theorem p0_4 : G_ tr0 TS0 4 [3] := by
  intro s A
  kernel_rfl
theorem p0_5 : G_ tr0 TS0 5 [3] := by
  intro s A
  kernel_rfl
theorem p0_6 : G_ tr0 TS0 6 [3] := by
  intro s A
  kernel_rfl
theorem p0_7 : G_ tr0 TS0 7 [3] := by
  intro s A
  kernel_rfl
theorem p0_8 : G_ tr0 TS0 8 [3] := by
  intro s A
  kernel_rfl
theorem p0_9 : G_ tr0 TS0 9 [3] := by
  intro s A
  kernel_rfl
theorem p0_10 : G_ tr0 TS0 10 [3] := by
  intro s A
  kernel_rfl
theorem p0_11 : G_ tr0 TS0 11 [3] := by
  intro s A
  kernel_rfl
theorem p0_12 : G_ tr0 TS0 12 [3] := by
  intro s A
  kernel_rfl
theorem p0_13 : G_ tr0 TS0 13 [3] := by
  intro s A
  kernel_rfl
theorem p0_14 : G_ tr0 TS0 14 [3] := by
  intro s A
  kernel_rfl
theorem p0_15 : G_ tr0 TS0 15 [3] := by
  intro s A
  kernel_rfl
theorem p0_16 : G_ tr0 TS0 16 [3] := by
  intro s A
  kernel_rfl
theorem p0_17 : G_ tr0 TS0 17 [3] := by
  intro s A
  kernel_rfl
theorem p0_18 : G_ tr0 TS0 18 [3] := by
  intro s A
  kernel_rfl
theorem p0_19 : G_ tr0 TS0 19 [3] := by
  intro s A
  kernel_rfl
theorem p0_20 : G_ tr0 TS0 20 [3] := by
  intro s A
  kernel_rfl
theorem p0_21 : G_ tr0 TS0 21 [3] := by
  intro s A
  kernel_rfl
theorem p0_22 : G_ tr0 TS0 22 [3] := by
  intro s A
  kernel_rfl
theorem p0_23 : G_ tr0 TS0 23 [3] := by
  intro s A
  kernel_rfl
theorem p0_24 : G_ tr0 TS0 24 [3] := by
  intro s A
  kernel_rfl
theorem p0_25 : G_ tr0 TS0 25 [3] := by
  intro s A
  kernel_rfl
theorem p0_26 : G_ tr0 TS0 26 [3] := by
  intro s A
  kernel_rfl
theorem p0_27 : G_ tr0 TS0 27 [3] := by
  intro s A
  kernel_rfl
theorem p0_28 : G_ tr0 TS0 28 [3] := by
  intro s A
  kernel_rfl
theorem p0_29 : G_ tr0 TS0 29 [3] := by
  intro s A
  kernel_rfl
theorem p0_30 : G_ tr0 TS0 30 [3] := by
  intro s A
  kernel_rfl
theorem p0_31 : G_ tr0 TS0 31 [3] := by
  intro s A
  kernel_rfl
theorem p0_32 : G_ tr0 TS0 32 [3] := by
  intro s A
  kernel_rfl
theorem p0_33 : G_ tr0 TS0 33 [3] := by
  intro s A
  kernel_rfl
theorem p0_34 : G_ tr0 TS0 34 [3] := by
  intro s A
  kernel_rfl
theorem p0_35 : G_ tr0 TS0 35 [3] := by
  intro s A
  kernel_rfl
theorem p0_36 : G_ tr0 TS0 36 [3] := by
  intro s A
  kernel_rfl
theorem p0_37 : G_ tr0 TS0 37 [3] := by
  intro s A
  kernel_rfl
theorem p0_38 : G_ tr0 TS0 38 [3] := by
  intro s A
  kernel_rfl
theorem p0_39 : G_ tr0 TS0 39 [3] := by
  intro s A
  kernel_rfl
end Go.Ev
