/- Passes of BrokerSmall's loop, part 14. -/
import Derived.Test.YtglaococfplhpaaGreatDoorSt
namespace Go.Ev
open Go.Proofs
set_option maxRecDepth 1000000
theorem p3_16 : G_ tr0 TS3 16 [3] := by
  intro s A
  kernel_rfl
theorem p3_17 : G_ tr0 TS3 17 [3] := by
  intro s A
  kernel_rfl
theorem p3_18 : G_ tr0 TS3 18 [3] := by
  intro s A
  kernel_rfl
theorem p3_19 : G_ tr0 TS3 19 [3] := by
  intro s A
  kernel_rfl
theorem p3_20 : G_ tr0 TS3 20 [3] := by
  intro s A
  kernel_rfl
theorem p3_21 : G_ tr0 TS3 21 [3] := by
  intro s A
  kernel_rfl
theorem p3_22 : G_ tr0 TS3 22 [3] := by
  intro s A
  kernel_rfl
theorem p3_23 : G_ tr0 TS3 23 [3] := by
  intro s A
  kernel_rfl
theorem p3_24 : G_ tr0 TS3 24 [3] := by
  intro s A
  kernel_rfl
theorem p3_25 : G_ tr0 TS3 25 [3] := by
  intro s A
  kernel_rfl
theorem p3_26 : G_ tr0 TS3 26 [3] := by
  intro s A
  kernel_rfl
theorem p3_27 : G_ tr0 TS3 27 [3] := by
  intro s A
  kernel_rfl
theorem p3_28 : G_ tr0 TS3 28 [3] := by
  intro s A
  kernel_rfl
theorem p3_29 : G_ tr0 TS3 29 [3] := by
  intro s A
  kernel_rfl
theorem p3_30 : G_ tr0 TS3 30 [3] := by
  intro s A
  kernel_rfl
theorem p3_31 : G_ tr0 TS3 31 [3] := by
  intro s A
  kernel_rfl
theorem p3_32 : G_ tr0 TS3 32 [3] := by
  intro s A
  kernel_rfl
theorem p3_33 : G_ tr0 TS3 33 [3] := by
  intro s A
  kernel_rfl
theorem p3_34 : G_ tr0 TS3 34 [3] := by
  intro s A
  kernel_rfl
theorem p3_35 : G_ tr0 TS3 35 [3] := by
  intro s A
  kernel_rfl
theorem p3_36 : G_ tr0 TS3 36 [3] := by
  intro s A
  kernel_rfl
theorem p3_37 : G_ tr0 TS3 37 [3] := by
  intro s A
  kernel_rfl
theorem p3_38 : G_ tr0 TS3 38 [3] := by
  intro s A
  kernel_rfl
theorem p3_39 : G_ tr0 TS3 39 [3] := by
  intro s A
  kernel_rfl
theorem p3_40 : G_ tr0 TS3 40 [3] := by
  intro s A
  kernel_rfl
theorem p3_41 : G_ tr0 TS3 41 [3] := by
  intro s A
  kernel_rfl
theorem p3_42 : G_ tr0 TS3 42 [3] := by
  intro s A
  kernel_rfl
theorem p3_43 : G_ tr0 TS3 43 [3] := by
  intro s A
  kernel_rfl
theorem p3_44 : G_ tr0 TS3 44 [3] := by
  intro s A
  kernel_rfl
theorem p3_45 : G_ tr0 TS3 45 [3] := by
  intro s A
  kernel_rfl
theorem p3_46 : G_ tr0 TS3 46 [3] := by
  intro s A
  kernel_rfl
theorem p3_47 : G_ tr0 TS3 47 [3] := by
  intro s A
  kernel_rfl
theorem p3_48 : G_ tr0 TS3 48 [3] := by
  intro s A
  kernel_rfl
theorem p3_49 : G_ tr0 TS3 49 [3] := by
  intro s A
  kernel_rfl
theorem p3_50 : G_ tr0 TS3 50 [3] := by
  intro s A
  kernel_rfl
theorem p3_51 : G_ tr0 TS3 51 [3] := by
  intro s A
  kernel_rfl
theorem p3_52 : G_ tr0 TS3 52 [3] := by
  intro s A
  kernel_rfl
theorem p3_53 : G_ tr0 TS3 53 [3] := by
  intro s A
  kernel_rfl
theorem p3_54 : G_ tr0 TS3 54 [3] := by
  intro s A
  kernel_rfl
theorem p3_55 : G_ tr0 TS3 55 [3] := by
  intro s A
  kernel_rfl
theorem p3_56 : G_ tr0 TS3 56 [3] := by
  intro s A
  kernel_rfl
theorem p3_57 : G_ tr0 TS3 57 [3] := by
  intro s A
  kernel_rfl
theorem p3_58 : G_ tr0 TS3 58 [3] := by
  intro s A
  kernel_rfl
end Go.Ev
