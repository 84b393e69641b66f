/- Passes of BrokerSmall's loop, part 2. -/
import Derived.Test.YtglaococfplhpaaGreatDoorSt
namespace Go.Ev
open Go.Proofs
set_option maxRecDepth 1000000
theorem p0_83 : G_ tr0 TS0 83 [3] := by
  intro s A
  kernel_rfl
theorem p0_84 : G_ tr0 TS0 84 [3] := by
  intro s A
  kernel_rfl
theorem p0_85 : G_ tr0 TS0 85 [3] := by
  intro s A
  kernel_rfl
theorem p0_86 : G_ tr0 TS0 86 [3] := by
  intro s A
  kernel_rfl
theorem p0_87 : G_ tr0 TS0 87 [3] := by
  intro s A
  kernel_rfl
theorem p0_88 : G_ tr0 TS0 88 [3] := by
  intro s A
  kernel_rfl
theorem p0_89 : G_ tr0 TS0 89 [3] := by
  intro s A
  kernel_rfl
theorem p0_90 : G_ tr0 TS0 90 [3] := by
  intro s A
  kernel_rfl
theorem p0_91 : G_ tr0 TS0 91 [3] := by
  intro s A
  kernel_rfl
theorem p0_92 : G_ tr0 TS0 92 [3] := by
  intro s A
  kernel_rfl
theorem p0_93 : G_ tr0 TS0 93 [3] := by
  intro s A
  kernel_rfl
theorem p0_94 : G_ tr0 TS0 94 [3] := by
  intro s A
  kernel_rfl
theorem p0_95 : G_ tr0 TS0 95 [3] := by
  intro s A
  kernel_rfl
theorem p0_96 : G_ tr0 TS0 96 [3] := by
  intro s A
  kernel_rfl
theorem p0_97 : G_ tr0 TS0 97 [3] := by
  intro s A
  kernel_rfl
theorem p0_98 : G_ tr0 TS0 98 [3] := by
  intro s A
  kernel_rfl
theorem p0_99 : G_ tr0 TS0 99 [3] := by
  intro s A
  kernel_rfl
theorem p0_100 : G_ tr0 TS0 100 [3] := by
  intro s A
  kernel_rfl
theorem p0_101 : G_ tr0 TS0 101 [3] := by
  intro s A
  kernel_rfl
theorem p0_102 : G_ tr0 TS0 102 [3] := by
  intro s A
  kernel_rfl
theorem p0_103 : G_ tr0 TS0 103 [3] := by
  intro s A
  kernel_rfl
theorem p0_104 : G_ tr0 TS0 104 [3] := by
  intro s A
  kernel_rfl
theorem p0_105 : G_ tr0 TS0 105 [3] := by
  intro s A
  kernel_rfl
theorem p0_106 : G_ tr0 TS0 106 [3] := by
  intro s A
  kernel_rfl
theorem p0_107 : G_ tr0 TS0 107 [3] := by
  intro s A
  kernel_rfl
theorem p0_108 : G_ tr0 TS0 108 [3] := by
  intro s A
  kernel_rfl
theorem p0_109 : G_ tr0 TS0 109 [3] := by
  intro s A
  kernel_rfl
theorem p0_110 : G_ tr0 TS0 110 [3] := by
  intro s A
  kernel_rfl
theorem p0_111 : G_ tr0 TS0 111 [3] := by
  intro s A
  kernel_rfl
theorem p0_112 : G_ tr0 TS0 112 [3] := by
  intro s A
  kernel_rfl
theorem p0_113 : G_ tr0 TS0 113 [3] := by
  intro s A
  kernel_rfl
theorem p0_114 : G_ tr0 TS0 114 [3] := by
  intro s A
  kernel_rfl
theorem p0_115 : G_ tr0 TS0 115 [3] := by
  intro s A
  kernel_rfl
theorem p0_116 : G_ tr0 TS0 116 [3] := by
  intro s A
  kernel_rfl
theorem p0_117 : G_ tr0 TS0 117 [3] := by
  intro s A
  kernel_rfl
theorem p0_118 : G_ tr0 TS0 118 [3] := by
  intro s A
  kernel_rfl
theorem p0_119 : G_ tr0 TS0 119 [3] := by
  intro s A
  kernel_rfl
theorem p0_120 : G_ tr0 TS0 120 [3] := by
  intro s A
  kernel_rfl
theorem p0_121 : G_ tr0 TS0 121 [3] := by
  intro s A
  kernel_rfl
theorem p0_122 : G_ tr0 TS0 122 [3] := by
  intro s A
  kernel_rfl
theorem p0_123 : G_ tr0 TS0 123 [3] := by
  intro s A
  kernel_rfl
theorem p0_124 : G_ tr0 TS0 124 [3] := by
  intro s A
  kernel_rfl
end Go.Ev
