/- Passes of BrokerSmall's loop, part 16. -/
import Derived.Test.YtglaococfplhpaaGreatDoorSt
namespace Go.Ev
open Go.Proofs
set_option maxRecDepth 1000000
theorem p3_102 : G_ tr0 TS3 102 [3] := by
  intro s A
  kernel_rfl
theorem p3_103 : G_ tr0 TS3 103 [3] := by
  intro s A
  kernel_rfl
theorem p3_104 : G_ tr0 TS3 104 [3] := by
  intro s A
  kernel_rfl
theorem p3_105 : G_ tr0 TS3 105 [3] := by
  intro s A
  kernel_rfl
theorem p3_106 : G_ tr0 TS3 106 [3] := by
  intro s A
  kernel_rfl
theorem p3_107 : G_ tr0 TS3 107 [3] := by
  intro s A
  kernel_rfl
theorem p3_108 : G_ tr0 TS3 108 [3] := by
  intro s A
  kernel_rfl
theorem p3_109 : G_ tr0 TS3 109 [3] := by
  intro s A
  kernel_rfl
theorem p3_110 : G_ tr0 TS3 110 [3] := by
  intro s A
  kernel_rfl
theorem p3_111 : G_ tr0 TS3 111 [3] := by
  intro s A
  kernel_rfl
theorem p3_112 : G_ tr0 TS3 112 [3] := by
  intro s A
  kernel_rfl
theorem p3_113 : G_ tr0 TS3 113 [3] := by
  intro s A
  kernel_rfl
theorem p3_114 : G_ tr0 TS3 114 [3] := by
  intro s A
  kernel_rfl
theorem p3_115 : G_ tr0 TS3 115 [3] := by
  intro s A
  kernel_rfl
theorem p3_116 : G_ tr0 TS3 116 [3] := by
  intro s A
  kernel_rfl
theorem p3_117 : G_ tr0 TS3 117 [3] := by
  intro s A
  kernel_rfl
theorem p3_118 : G_ tr0 TS3 118 [3] := by
  intro s A
  kernel_rfl
theorem p3_119 : G_ tr0 TS3 119 [3] := by
  intro s A
  kernel_rfl
theorem p3_120 : G_ tr0 TS3 120 [3] := by
  intro s A
  kernel_rfl
theorem p3_121 : G_ tr0 TS3 121 [3] := by
  intro s A
  kernel_rfl
theorem p3_122 : G_ tr0 TS3 122 [3] := by
  intro s A
  kernel_rfl
theorem p3_123 : G_ tr0 TS3 123 [3] := by
  intro s A
  kernel_rfl
theorem p3_124 : G_ tr0 TS3 124 [3] := by
  intro s A
  kernel_rfl
theorem p3_125 : G_ tr0 TS3 125 [3] := by
  intro s A
  kernel_rfl
theorem p3_126 : G_ tr0 TS3 126 [3] := by
  intro s A
  kernel_rfl
theorem p3_127 : G_ tr0 TS3 127 [3] := by
  intro s A
  kernel_rfl
theorem p3_128 : G_ tr0 TS3 128 [3] := by
  intro s A
  kernel_rfl
theorem p3_129 : G_ tr0 TS3 129 [3] := by
  intro s A
  kernel_rfl
theorem p3_130 : G_ tr0 TS3 130 [3] := by
  intro s A
  kernel_rfl
theorem p3_131 : G_ tr0 TS3 131 [3] := by
  intro s A
  kernel_rfl
theorem p3_132 : G_ tr0 TS3 132 [3] := by
  intro s A
  kernel_rfl
theorem p3_133 : G_ tr0 TS3 133 [3] := by
  intro s A
  kernel_rfl
theorem p3_134 : G_ tr0 TS3 134 [3] := by
  intro s A
  kernel_rfl
theorem p3_135 : G_ tr0 TS3 135 [3] := by
  intro s A
  kernel_rfl
theorem p3_136 : G_ tr0 TS3 136 [3] := by
  intro s A
  kernel_rfl
theorem p3_137 : G_ tr0 TS3 137 [3] := by
  intro s A
  kernel_rfl
theorem p3_138 : G_ tr0 TS3 138 [3] := by
  intro s A
  kernel_rfl
theorem p3_139 : G_ tr0 TS3 139 [3] := by
  intro s A
  kernel_rfl
theorem p3_140 : G_ tr0 TS3 140 [3] := by
  intro s A
  kernel_rfl
theorem p3_141 : G_ tr0 TS3 141 [3] := by
  intro s A
  kernel_rfl
theorem p3_142 : G_ tr0 TS3 142 [3] := by
  intro s A
  kernel_rfl
end Go.Ev
