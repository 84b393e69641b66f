/- Passes of BrokerSmall's loop, part 18. -/
import Derived.Test.YtglaococfplhpaaGreatDoorSt
namespace Go.Ev
open Go.Proofs
set_option maxRecDepth 1000000
theorem p3_190 : G_ tr0 TS3 190 [3] := by
  intro s A
  kernel_rfl
theorem p3_191 : G_ tr0 TS3 191 [] := by
  intro s A
  kernel_rfl
theorem p3_192 : G_ tr0 TS3 192 [] := by
  intro s A
  kernel_rfl
theorem p4_0 : G_ tr0 TS4 0 [4] := by
  intro s A
  kernel_rfl
theorem p4_1 : G_ tr0 TS4 1 [4] := by
  intro s A
  kernel_rfl
theorem p4_2 : G_ tr0 TS4 2 [4] := by
  intro s A
  kernel_rfl
theorem p4_3 : G_ tr0 TS4 3 [4] := by
  intro s A
  kernel_rfl
theorem p4_4 : G_ tr0 TS4 4 [4] := by
  intro s A
  kernel_rfl
theorem p4_5 : G_ tr0 TS4 5 [4] := by
  intro s A
  kernel_rfl
theorem p4_6 : G_ tr0 TS4 6 [4] := by
  intro s A
  kernel_rfl
theorem p4_7 : G_ tr0 TS4 7 [4] := by
  intro s A
  kernel_rfl
theorem p4_8 : G_ tr0 TS4 8 [4] := by
  intro s A
  kernel_rfl
theorem p4_9 : G_ tr0 TS4 9 [4] := by
  intro s A
  kernel_rfl
theorem p4_10 : G_ tr0 TS4 10 [4] := by
  intro s A
  kernel_rfl
theorem p4_11 : G_ tr0 TS4 11 [4] := by
  intro s A
  kernel_rfl
theorem p4_12 : G_ tr0 TS4 12 [4] := by
  intro s A
  kernel_rfl
theorem p4_13 : G_ tr0 TS4 13 [4] := by
  intro s A
  kernel_rfl
theorem p4_14 : G_ tr0 TS4 14 [4] := by
  intro s A
  kernel_rfl
theorem p4_15 : G_ tr0 TS4 15 [4] := by
  intro s A
  kernel_rfl
theorem p4_16 : G_ tr0 TS4 16 [4] := by
  intro s A
  kernel_rfl
theorem p4_17 : G_ tr0 TS4 17 [4] := by
  intro s A
  kernel_rfl
theorem p4_18 : G_ tr0 TS4 18 [4] := by
  intro s A
  kernel_rfl
theorem p4_19 : G_ tr0 TS4 19 [4] := by
  intro s A
  kernel_rfl
theorem p4_20 : G_ tr0 TS4 20 [4] := by
  intro s A
  kernel_rfl
theorem p4_21 : G_ tr0 TS4 21 [4] := by
  intro s A
  kernel_rfl
theorem p4_22 : G_ tr0 TS4 22 [4] := by
  intro s A
  kernel_rfl
theorem p4_23 : G_ tr0 TS4 23 [4] := by
  intro s A
  kernel_rfl
theorem p4_24 : G_ tr0 TS4 24 [4] := by
  intro s A
  kernel_rfl
theorem p4_25 : G_ tr0 TS4 25 [4] := by
  intro s A
  kernel_rfl
theorem p4_26 : G_ tr0 TS4 26 [4] := by
  intro s A
  kernel_rfl
theorem p4_27 : G_ tr0 TS4 27 [4] := by
  intro s A
  kernel_rfl
theorem p4_28 : G_ tr0 TS4 28 [4] := by
  intro s A
  kernel_rfl
theorem p4_29 : G_ tr0 TS4 29 [4] := by
  intro s A
  kernel_rfl
end Go.Ev
