/- Passes of BrokerSmall's loop, part 12. -/
import Derived.Test.YtglaococfplhpaaGreatDoorSt
namespace Go.Ev
open Go.Proofs
set_option maxRecDepth 1000000
theorem p2_103 : G_ tr1 TS2 103 [5] := by
  intro s A
  kernel_rfl
theorem p2_104 : G_ tr1 TS2 104 [5] := by
  intro s A
  kernel_rfl
theorem p2_105 : G_ tr1 TS2 105 [5] := by
  intro s A
  kernel_rfl
theorem p2_106 : G_ tr1 TS2 106 [5] := by
  intro s A
  kernel_rfl
theorem p2_107 : G_ tr1 TS2 107 [5] := by
  intro s A
  kernel_rfl
theorem p2_108 : G_ tr1 TS2 108 [5] := by
  intro s A
  kernel_rfl
theorem p2_109 : G_ tr1 TS2 109 [5] := by
  intro s A
  kernel_rfl
theorem p2_110 : G_ tr1 TS2 110 [5] := by
  intro s A
  kernel_rfl
theorem p2_111 : G_ tr1 TS2 111 [5] := by
  intro s A
  kernel_rfl
theorem p2_112 : G_ tr1 TS2 112 [5] := by
  intro s A
  kernel_rfl
theorem p2_113 : G_ tr1 TS2 113 [5] := by
  intro s A
  kernel_rfl
theorem p2_114 : G_ tr1 TS2 114 [5] := by
  intro s A
  kernel_rfl
theorem p2_115 : G_ tr1 TS2 115 [5] := by
  intro s A
  kernel_rfl
theorem p2_116 : G_ tr1 TS2 116 [5] := by
  intro s A
  kernel_rfl
theorem p2_117 : G_ tr1 TS2 117 [5] := by
  intro s A
  kernel_rfl
theorem p2_118 : G_ tr1 TS2 118 [5] := by
  intro s A
  kernel_rfl
theorem p2_119 : G_ tr1 TS2 119 [5] := by
  intro s A
  kernel_rfl
theorem p2_120 : G_ tr1 TS2 120 [5] := by
  intro s A
  kernel_rfl
theorem p2_121 : G_ tr1 TS2 121 [5] := by
  intro s A
  kernel_rfl
theorem p2_122 : G_ tr1 TS2 122 [5] := by
  intro s A
  kernel_rfl
theorem p2_123 : G_ tr1 TS2 123 [5] := by
  intro s A
  kernel_rfl
theorem p2_124 : G_ tr1 TS2 124 [5] := by
  intro s A
  kernel_rfl
theorem p2_125 : G_ tr1 TS2 125 [5] := by
  intro s A
  kernel_rfl
theorem p2_126 : G_ tr1 TS2 126 [5] := by
  intro s A
  kernel_rfl
theorem p2_127 : G_ tr1 TS2 127 [5] := by
  intro s A
  kernel_rfl
theorem p2_128 : G_ tr1 TS2 128 [5] := by
  intro s A
  kernel_rfl
theorem p2_129 : G_ tr1 TS2 129 [5] := by
  intro s A
  kernel_rfl
theorem p2_130 : G_ tr1 TS2 130 [5] := by
  intro s A
  kernel_rfl
theorem p2_131 : G_ tr1 TS2 131 [5] := by
  intro s A
  kernel_rfl
theorem p2_132 : G_ tr1 TS2 132 [5] := by
  intro s A
  kernel_rfl
theorem p2_133 : G_ tr1 TS2 133 [5] := by
  intro s A
  kernel_rfl
theorem p2_134 : G_ tr1 TS2 134 [5] := by
  intro s A
  kernel_rfl
theorem p2_135 : G_ tr1 TS2 135 [5] := by
  intro s A
  kernel_rfl
theorem p2_136 : G_ tr1 TS2 136 [5] := by
  intro s A
  kernel_rfl
theorem p2_137 : G_ tr1 TS2 137 [5] := by
  intro s A
  kernel_rfl
theorem p2_138 : G_ tr1 TS2 138 [5] := by
  intro s A
  kernel_rfl
theorem p2_139 : G_ tr1 TS2 139 [5] := by
  intro s A
  kernel_rfl
theorem p2_140 : G_ tr1 TS2 140 [5] := by
  intro s A
  kernel_rfl
theorem p2_141 : G_ tr1 TS2 141 [5] := by
  intro s A
  kernel_rfl
theorem p2_142 : G_ tr1 TS2 142 [5] := by
  intro s A
  kernel_rfl
theorem p2_143 : G_ tr1 TS2 143 [5] := by
  intro s A
  kernel_rfl
theorem p2_144 : G_ tr1 TS2 144 [5] := by
  intro s A
  kernel_rfl
theorem p2_145 : G_ tr1 TS2 145 [5] := by
  intro s A
  kernel_rfl
theorem p2_146 : G_ tr1 TS2 146 [5] := by
  intro s A
  kernel_rfl
theorem p2_147 : G_ tr1 TS2 147 [5] := by
  intro s A
  kernel_rfl
theorem p2_148 : G_ tr1 TS2 148 [5] := by
  intro s A
  kernel_rfl
theorem p2_149 : G_ tr1 TS2 149 [5] := by
  intro s A
  kernel_rfl
theorem p2_150 : G_ tr1 TS2 150 [5] := by
  intro s A
  kernel_rfl
theorem p2_151 : G_ tr1 TS2 151 [5] := by
  intro s A
  kernel_rfl
theorem p2_152 : G_ tr1 TS2 152 [5] := by
  intro s A
  kernel_rfl
theorem p2_153 : G_ tr1 TS2 153 [5] := by
  intro s A
  kernel_rfl
theorem p2_154 : G_ tr1 TS2 154 [5] := by
  intro s A
  kernel_rfl
theorem p2_155 : G_ tr1 TS2 155 [5] := by
  intro s A
  kernel_rfl
theorem p2_156 : G_ tr1 TS2 156 [5] := by
  intro s A
  kernel_rfl
theorem p2_157 : G_ tr1 TS2 157 [5] := by
  intro s A
  kernel_rfl
theorem p2_158 : G_ tr1 TS2 158 [5] := by
  intro s A
  kernel_rfl
end Go.Ev
