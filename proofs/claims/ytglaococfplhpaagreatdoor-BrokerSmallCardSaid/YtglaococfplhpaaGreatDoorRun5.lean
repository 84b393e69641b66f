/- Passes of BrokerSmall's loop, part 5. -/
import Derived.Test.YtglaococfplhpaaGreatDoorSt
namespace Go.Ev
open Go.Proofs
set_option maxRecDepth 1000000
theorem p1_16 : G_ tr0 TS1 16 [4] := by
  intro s A
  kernel_rfl
theorem p1_17 : G_ tr0 TS1 17 [4] := by
  intro s A
  kernel_rfl
theorem p1_18 : G_ tr0 TS1 18 [4] := by
  intro s A
  kernel_rfl
theorem p1_19 : G_ tr0 TS1 19 [4] := by
  intro s A
  kernel_rfl
theorem p1_20 : G_ tr0 TS1 20 [4] := by
  intro s A
  kernel_rfl
theorem p1_21 : G_ tr0 TS1 21 [4] := by
  intro s A
  kernel_rfl
theorem p1_22 : G_ tr0 TS1 22 [4] := by
  intro s A
  kernel_rfl
theorem p1_23 : G_ tr0 TS1 23 [4] := by
  intro s A
  kernel_rfl
theorem p1_24 : G_ tr0 TS1 24 [4] := by
  intro s A
  kernel_rfl
theorem p1_25 : G_ tr0 TS1 25 [4] := by
  intro s A
  kernel_rfl
theorem p1_26 : G_ tr0 TS1 26 [4] := by
  intro s A
  kernel_rfl
theorem p1_27 : G_ tr0 TS1 27 [4] := by
  intro s A
  kernel_rfl
theorem p1_28 : G_ tr0 TS1 28 [4] := by
  intro s A
  kernel_rfl
theorem p1_29 : G_ tr0 TS1 29 [4] := by
  intro s A
  kernel_rfl
theorem p1_30 : G_ tr0 TS1 30 [4] := by
  intro s A
  kernel_rfl
theorem p1_31 : G_ tr0 TS1 31 [4] := by
  intro s A
  kernel_rfl
theorem p1_32 : G_ tr0 TS1 32 [4] := by
  intro s A
  kernel_rfl
theorem p1_33 : G_ tr0 TS1 33 [4] := by
  intro s A
  kernel_rfl
theorem p1_34 : G_ tr0 TS1 34 [4] := by
  intro s A
  kernel_rfl
theorem p1_35 : G_ tr0 TS1 35 [4] := by
  intro s A
  kernel_rfl
theorem p1_36 : G_ tr0 TS1 36 [4] := by
  intro s A
  kernel_rfl
theorem p1_37 : G_ tr0 TS1 37 [4] := by
  intro s A
  kernel_rfl
theorem p1_38 : G_ tr0 TS1 38 [4] := by
  intro s A
  kernel_rfl
theorem p1_39 : G_ tr0 TS1 39 [4] := by
  intro s A
  kernel_rfl
theorem p1_40 : G_ tr0 TS1 40 [4] := by
  intro s A
  kernel_rfl
theorem p1_41 : G_ tr0 TS1 41 [4] := by
  intro s A
  kernel_rfl
theorem p1_42 : G_ tr0 TS1 42 [4] := by
  intro s A
  kernel_rfl
theorem p1_43 : G_ tr0 TS1 43 [4] := by
  intro s A
  kernel_rfl
theorem p1_44 : G_ tr0 TS1 44 [4] := by
  intro s A
  kernel_rfl
theorem p1_45 : G_ tr0 TS1 45 [4] := by
  intro s A
  kernel_rfl
theorem p1_46 : G_ tr0 TS1 46 [4] := by
  intro s A
  kernel_rfl
theorem p1_47 : G_ tr0 TS1 47 [4] := by
  intro s A
  kernel_rfl
theorem p1_48 : G_ tr0 TS1 48 [4] := by
  intro s A
  kernel_rfl
end Go.Ev
