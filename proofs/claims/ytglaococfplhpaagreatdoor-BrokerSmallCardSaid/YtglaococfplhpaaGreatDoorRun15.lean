/- Passes of BrokerSmall's loop, part 15. -/
import Derived.Test.YtglaococfplhpaaGreatDoorSt
namespace Go.Ev
open Go.Proofs
set_option maxRecDepth 1000000
theorem p3_59 : G_ tr0 TS3 59 [3] := by
  intro s A
  kernel_rfl
theorem p3_60 : G_ tr0 TS3 60 [3] := by
  intro s A
  kernel_rfl
theorem p3_61 : G_ tr0 TS3 61 [3] := by
  intro s A
  kernel_rfl
theorem p3_62 : G_ tr0 TS3 62 [3] := by
  intro s A
  kernel_rfl
theorem p3_63 : G_ tr0 TS3 63 [3] := by
  intro s A
  kernel_rfl
theorem p3_64 : G_ tr0 TS3 64 [3] := by
  intro s A
  kernel_rfl
theorem p3_65 : G_ tr0 TS3 65 [3] := by
  intro s A
  kernel_rfl
theorem p3_66 : G_ tr0 TS3 66 [3] := by
  intro s A
  kernel_rfl
theorem p3_67 : G_ tr0 TS3 67 [3] := by
  intro s A
  kernel_rfl
theorem p3_68 : G_ tr0 TS3 68 [3] := by
  intro s A
  kernel_rfl
theorem p3_69 : G_ tr0 TS3 69 [3] := by
  intro s A
  kernel_rfl
theorem p3_70 : G_ tr0 TS3 70 [3] := by
  intro s A
  kernel_rfl
theorem p3_71 : G_ tr0 TS3 71 [3] := by
  intro s A
  kernel_rfl
theorem p3_72 : G_ tr0 TS3 72 [3] := by
  intro s A
  kernel_rfl
theorem p3_73 : G_ tr0 TS3 73 [3] := by
  intro s A
  kernel_rfl
theorem p3_74 : G_ tr0 TS3 74 [3] := by
  intro s A
  kernel_rfl
theorem p3_75 : G_ tr0 TS3 75 [3] := by
  intro s A
  kernel_rfl
theorem p3_76 : G_ tr0 TS3 76 [3] := by
  intro s A
  kernel_rfl
theorem p3_77 : G_ tr0 TS3 77 [3] := by
  intro s A
  kernel_rfl
theorem p3_78 : G_ tr0 TS3 78 [3] := by
  intro s A
  kernel_rfl
theorem p3_79 : G_ tr0 TS3 79 [3] := by
  intro s A
  kernel_rfl
theorem p3_80 : G_ tr0 TS3 80 [3] := by
  intro s A
  kernel_rfl
theorem p3_81 : G_ tr0 TS3 81 [3] := by
  intro s A
  kernel_rfl
theorem p3_82 : G_ tr0 TS3 82 [3] := by
  intro s A
  kernel_rfl
theorem p3_83 : G_ tr0 TS3 83 [3] := by
  intro s A
  kernel_rfl
theorem p3_84 : G_ tr0 TS3 84 [3] := by
  intro s A
  kernel_rfl
theorem p3_85 : G_ tr0 TS3 85 [3] := by
  intro s A
  kernel_rfl
theorem p3_86 : G_ tr0 TS3 86 [3] := by
  intro s A
  kernel_rfl
theorem p3_87 : G_ tr0 TS3 87 [3] := by
  intro s A
  kernel_rfl
theorem p3_88 : G_ tr0 TS3 88 [3] := by
  intro s A
  kernel_rfl
theorem p3_89 : G_ tr0 TS3 89 [3] := by
  intro s A
  kernel_rfl
theorem p3_90 : G_ tr0 TS3 90 [3] := by
  intro s A
  kernel_rfl
theorem p3_91 : G_ tr0 TS3 91 [3] := by
  intro s A
  kernel_rfl
theorem p3_92 : G_ tr0 TS3 92 [3] := by
  intro s A
  kernel_rfl
theorem p3_93 : G_ tr0 TS3 93 [3] := by
  intro s A
  kernel_rfl
theorem p3_94 : G_ tr0 TS3 94 [3] := by
  intro s A
  kernel_rfl
theorem p3_95 : G_ tr0 TS3 95 [3] := by
  intro s A
  kernel_rfl
theorem p3_96 : G_ tr0 TS3 96 [3] := by
  intro s A
  kernel_rfl
theorem p3_97 : G_ tr0 TS3 97 [3] := by
  intro s A
  kernel_rfl
theorem p3_98 : G_ tr0 TS3 98 [3] := by
  intro s A
  kernel_rfl
theorem p3_99 : G_ tr0 TS3 99 [3] := by
  intro s A
  kernel_rfl
theorem p3_100 : G_ tr0 TS3 100 [3] := by
  intro s A
  kernel_rfl
theorem p3_101 : G_ tr0 TS3 101 [3] := by
  intro s A
  kernel_rfl
end Go.Ev
