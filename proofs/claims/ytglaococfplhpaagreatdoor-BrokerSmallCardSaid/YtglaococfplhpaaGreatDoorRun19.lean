/- Passes of BrokerSmall's loop, part 19. -/
import Derived.Test.YtglaococfplhpaaGreatDoorSt
namespace Go.Ev
open Go.Proofs
set_option maxRecDepth 1000000
theorem p4_30 : G_ tr0 TS4 30 [4] := by
  intro s A
  kernel_rfl
theorem p4_31 : G_ tr0 TS4 31 [4] := by
  intro s A
  kernel_rfl
theorem p4_32 : G_ tr0 TS4 32 [4] := by
  intro s A
  kernel_rfl
theorem p4_33 : G_ tr0 TS4 33 [4] := by
  intro s A
  kernel_rfl
theorem p4_34 : G_ tr0 TS4 34 [4] := by
  intro s A
  kernel_rfl
theorem p4_35 : G_ tr0 TS4 35 [4] := by
  intro s A
  kernel_rfl
theorem p4_36 : G_ tr0 TS4 36 [4] := by
  intro s A
  kernel_rfl
theorem p4_37 : G_ tr0 TS4 37 [4] := by
  intro s A
  kernel_rfl
theorem p4_38 : G_ tr0 TS4 38 [4] := by
  intro s A
  kernel_rfl
theorem p4_39 : G_ tr0 TS4 39 [4] := by
  intro s A
  kernel_rfl
theorem p4_40 : G_ tr0 TS4 40 [4] := by
  intro s A
  kernel_rfl
theorem p4_41 : G_ tr0 TS4 41 [4] := by
  intro s A
  kernel_rfl
theorem p4_42 : G_ tr0 TS4 42 [4] := by
  intro s A
  kernel_rfl
theorem p4_43 : G_ tr0 TS4 43 [4] := by
  intro s A
  kernel_rfl
theorem p4_44 : G_ tr0 TS4 44 [4] := by
  intro s A
  kernel_rfl
theorem p4_45 : G_ tr0 TS4 45 [4] := by
  intro s A
  kernel_rfl
theorem p4_46 : G_ tr0 TS4 46 [4] := by
  intro s A
  kernel_rfl
theorem p4_47 : G_ tr0 TS4 47 [4] := by
  intro s A
  kernel_rfl
theorem p4_48 : G_ tr0 TS4 48 [4] := by
  intro s A
  kernel_rfl
theorem p4_49 : G_ tr0 TS4 49 [4] := by
  intro s A
  kernel_rfl
theorem p4_50 : G_ tr0 TS4 50 [4] := by
  intro s A
  kernel_rfl
theorem p4_51 : G_ tr0 TS4 51 [4] := by
  intro s A
  kernel_rfl
theorem p4_52 : G_ tr0 TS4 52 [4] := by
  intro s A
  kernel_rfl
theorem p4_53 : G_ tr0 TS4 53 [4] := by
  intro s A
  kernel_rfl
theorem p4_54 : G_ tr0 TS4 54 [4] := by
  intro s A
  kernel_rfl
theorem p4_55 : G_ tr0 TS4 55 [4] := by
  intro s A
  kernel_rfl
theorem p4_56 : G_ tr0 TS4 56 [4] := by
  intro s A
  kernel_rfl
theorem p4_57 : G_ tr0 TS4 57 [4] := by
  intro s A
  kernel_rfl
theorem p4_58 : G_ tr0 TS4 58 [4] := by
  intro s A
  kernel_rfl
theorem p4_59 : G_ tr0 TS4 59 [4] := by
  intro s A
  kernel_rfl
theorem p4_60 : G_ tr0 TS4 60 [4] := by
  intro s A
  kernel_rfl
theorem p4_61 : G_ tr0 TS4 61 [4] := by
  intro s A
  kernel_rfl
theorem p4_62 : G_ tr0 TS4 62 [4] := by
  intro s A
  kernel_rfl
end Go.Ev
