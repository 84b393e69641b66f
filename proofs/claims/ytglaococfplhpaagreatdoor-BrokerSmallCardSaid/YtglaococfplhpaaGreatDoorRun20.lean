/- Passes of BrokerSmall's loop, part 20. -/
import Derived.Test.YtglaococfplhpaaGreatDoorSt
namespace Go.Ev
open Go.Proofs
set_option maxRecDepth 1000000
theorem p4_63 : G_ tr0 TS4 63 [4] := by
  intro s A
  kernel_rfl
theorem p4_64 : G_ tr0 TS4 64 [4] := by
  intro s A
  kernel_rfl
theorem p4_65 : G_ tr0 TS4 65 [4] := by
  intro s A
  kernel_rfl
theorem p4_66 : G_ tr0 TS4 66 [4] := by
  intro s A
  kernel_rfl
theorem p4_67 : G_ tr0 TS4 67 [4] := by
  intro s A
  kernel_rfl
theorem p4_68 : G_ tr0 TS4 68 [4] := by
  intro s A
  kernel_rfl
theorem p4_69 : G_ tr0 TS4 69 [4] := by
  intro s A
  kernel_rfl
theorem p4_70 : G_ tr0 TS4 70 [4] := by
  intro s A
  kernel_rfl
theorem p4_71 : G_ tr0 TS4 71 [4] := by
  intro s A
  kernel_rfl
theorem p4_72 : G_ tr0 TS4 72 [4] := by
  intro s A
  kernel_rfl
theorem p4_73 : G_ tr0 TS4 73 [4] := by
  intro s A
  kernel_rfl
theorem p4_74 : G_ tr0 TS4 74 [4] := by
  intro s A
  kernel_rfl
theorem p4_75 : G_ tr0 TS4 75 [4] := by
  intro s A
  kernel_rfl
theorem p4_76 : G_ tr0 TS4 76 [4] := by
  intro s A
  kernel_rfl
theorem p4_77 : G_ tr0 TS4 77 [4] := by
  intro s A
  kernel_rfl
theorem p4_78 : G_ tr0 TS4 78 [4] := by
  intro s A
  kernel_rfl
theorem p4_79 : G_ tr0 TS4 79 [4] := by
  intro s A
  kernel_rfl
theorem p4_80 : G_ tr0 TS4 80 [4] := by
  intro s A
  kernel_rfl
theorem p4_81 : G_ tr0 TS4 81 [4] := by
  intro s A
  kernel_rfl
theorem p4_82 : G_ tr0 TS4 82 [4] := by
  intro s A
  kernel_rfl
theorem p4_83 : G_ tr0 TS4 83 [4] := by
  intro s A
  kernel_rfl
theorem p4_84 : G_ tr0 TS4 84 [4] := by
  intro s A
  kernel_rfl
theorem p4_85 : G_ tr0 TS4 85 [4] := by
  intro s A
  kernel_rfl
theorem p4_86 : G_ tr0 TS4 86 [4] := by
  intro s A
  kernel_rfl
theorem p4_87 : G_ tr0 TS4 87 [4] := by
  intro s A
  kernel_rfl
theorem p4_88 : G_ tr0 TS4 88 [4] := by
  intro s A
  kernel_rfl
theorem p4_89 : G_ tr0 TS4 89 [4] := by
  intro s A
  kernel_rfl
theorem p4_90 : G_ tr0 TS4 90 [4] := by
  intro s A
  kernel_rfl
theorem p4_91 : G_ tr0 TS4 91 [4] := by
  intro s A
  kernel_rfl
theorem p4_92 : G_ tr0 TS4 92 [4] := by
  intro s A
  kernel_rfl
theorem p4_93 : G_ tr0 TS4 93 [4] := by
  intro s A
  kernel_rfl
theorem p4_94 : G_ tr0 TS4 94 [4] := by
  intro s A
  kernel_rfl
end Go.Ev
