/- Passes of BrokerSmall's loop, part 3. -/
import Derived.Test.YtglaococfplhpaaGreatDoorSt
namespace Go.Ev
open Go.Proofs
set_option maxRecDepth 1000000
theorem p0_125 : G_ tr0 TS0 125 [3] := by
  intro s A
  kernel_rfl
theorem p0_126 : G_ tr0 TS0 126 [3] := by
  intro s A
  kernel_rfl
theorem p0_127 : G_ tr0 TS0 127 [3] := by
  intro s A
  kernel_rfl
theorem p0_128 : G_ tr0 TS0 128 [3] := by
  intro s A
  kernel_rfl
theorem p0_129 : G_ tr0 TS0 129 [3] := by
  intro s A
  kernel_rfl
theorem p0_130 : G_ tr0 TS0 130 [3] := by
  intro s A
  kernel_rfl
theorem p0_131 : G_ tr0 TS0 131 [3] := by
  intro s A
  kernel_rfl
theorem p0_132 : G_ tr0 TS0 132 [3] := by
  intro s A
  kernel_rfl
theorem p0_133 : G_ tr0 TS0 133 [3] := by
  intro s A
  kernel_rfl
theorem p0_134 : G_ tr0 TS0 134 [3] := by
  intro s A
  kernel_rfl
theorem p0_135 : G_ tr0 TS0 135 [3] := by
  intro s A
  kernel_rfl
theorem p0_136 : G_ tr0 TS0 136 [3] := by
  intro s A
  kernel_rfl
theorem p0_137 : G_ tr0 TS0 137 [3] := by
  intro s A
  kernel_rfl
theorem p0_138 : G_ tr0 TS0 138 [3] := by
  intro s A
  kernel_rfl
theorem p0_139 : G_ tr0 TS0 139 [3] := by
  intro s A
  kernel_rfl
theorem p0_140 : G_ tr0 TS0 140 [3] := by
  intro s A
  kernel_rfl
theorem p0_141 : G_ tr0 TS0 141 [3] := by
  intro s A
  kernel_rfl
theorem p0_142 : G_ tr0 TS0 142 [3] := by
  intro s A
  kernel_rfl
theorem p0_143 : G_ tr0 TS0 143 [3] := by
  intro s A
  kernel_rfl
theorem p0_144 : G_ tr0 TS0 144 [3] := by
  intro s A
  kernel_rfl
theorem p0_145 : G_ tr0 TS0 145 [3] := by
  intro s A
  kernel_rfl
theorem p0_146 : G_ tr0 TS0 146 [3] := by
  intro s A
  kernel_rfl
theorem p0_147 : G_ tr0 TS0 147 [3] := by
  intro s A
  kernel_rfl
theorem p0_148 : G_ tr0 TS0 148 [3] := by
  intro s A
  kernel_rfl
theorem p0_149 : G_ tr0 TS0 149 [3] := by
  intro s A
  kernel_rfl
theorem p0_150 : G_ tr0 TS0 150 [3] := by
  intro s A
  kernel_rfl
theorem p0_151 : G_ tr0 TS0 151 [3] := by
  intro s A
  kernel_rfl
theorem p0_152 : G_ tr0 TS0 152 [3] := by
  intro s A
  kernel_rfl
theorem p0_153 : G_ tr0 TS0 153 [3] := by
  intro s A
  kernel_rfl
theorem p0_154 : G_ tr0 TS0 154 [3] := by
  intro s A
  kernel_rfl
theorem p0_155 : G_ tr0 TS0 155 [3] := by
  intro s A
  kernel_rfl
theorem p0_156 : G_ tr0 TS0 156 [3] := by
  intro s A
  kernel_rfl
theorem p0_157 : G_ tr0 TS0 157 [3] := by
  intro s A
  kernel_rfl
theorem p0_158 : G_ tr0 TS0 158 [3] := by
  intro s A
  kernel_rfl
theorem p0_159 : G_ tr0 TS0 159 [3] := by
  intro s A
  kernel_rfl
theorem p0_160 : G_ tr0 TS0 160 [3] := by
  intro s A
  kernel_rfl
theorem p0_161 : G_ tr0 TS0 161 [3] := by
  intro s A
  kernel_rfl
theorem p0_162 : G_ tr0 TS0 162 [3] := by
  intro s A
  kernel_rfl
theorem p0_163 : G_ tr0 TS0 163 [3] := by
  intro s A
  kernel_rfl
theorem p0_164 : G_ tr0 TS0 164 [3] := by
  intro s A
  kernel_rfl
theorem p0_165 : G_ tr0 TS0 165 [3] := by
  intro s A
  kernel_rfl
theorem p0_166 : G_ tr0 TS0 166 [3] := by
  intro s A
  kernel_rfl
theorem p0_167 : G_ tr0 TS0 167 [3] := by
  intro s A
  kernel_rfl
theorem p0_168 : G_ tr0 TS0 168 [3] := by
  intro s A
  kernel_rfl
theorem p0_169 : G_ tr0 TS0 169 [3] := by
  intro s A
  kernel_rfl
end Go.Ev
