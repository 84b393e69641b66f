/- Passes of BrokerSmall's loop, part 26. -/
import Derived.Test.YtglaococfplhpaaGreatDoorSt
namespace Go.Ev
open Go.Proofs
set_option maxRecDepth 1000000
theorem p5_125 : G_ tr1 TS5 125 [5] := by
  intro s A
  kernel_rfl
theorem p5_126 : G_ tr1 TS5 126 [5] := by
  intro s A
  kernel_rfl
theorem p5_127 : G_ tr1 TS5 127 [5] := by
  intro s A
  kernel_rfl
theorem p5_128 : G_ tr1 TS5 128 [5] := by
  intro s A
  kernel_rfl
theorem p5_129 : G_ tr1 TS5 129 [5] := by
  intro s A
  kernel_rfl
theorem p5_130 : G_ tr1 TS5 130 [5] := by
  intro s A
  kernel_rfl
theorem p5_131 : G_ tr1 TS5 131 [5] := by
  intro s A
  kernel_rfl
theorem p5_132 : G_ tr1 TS5 132 [5] := by
  intro s A
  kernel_rfl
theorem p5_133 : G_ tr1 TS5 133 [5] := by
  intro s A
  kernel_rfl
theorem p5_134 : G_ tr1 TS5 134 [5] := by
  intro s A
  kernel_rfl
theorem p5_135 : G_ tr1 TS5 135 [5] := by
  intro s A
  kernel_rfl
theorem p5_136 : G_ tr1 TS5 136 [5] := by
  intro s A
  kernel_rfl
theorem p5_137 : G_ tr1 TS5 137 [5] := by
  intro s A
  kernel_rfl
theorem p5_138 : G_ tr1 TS5 138 [5] := by
  intro s A
  kernel_rfl
theorem p5_139 : G_ tr1 TS5 139 [5] := by
  intro s A
  kernel_rfl
theorem p5_140 : G_ tr1 TS5 140 [5] := by
  intro s A
  kernel_rfl
theorem p5_141 : G_ tr1 TS5 141 [5] := by
  intro s A
  kernel_rfl
theorem p5_142 : G_ tr1 TS5 142 [5] := by
  intro s A
  kernel_rfl
theorem p5_143 : G_ tr1 TS5 143 [5] := by
  intro s A
  kernel_rfl
theorem p5_144 : G_ tr1 TS5 144 [5] := by
  intro s A
  kernel_rfl
theorem p5_145 : G_ tr1 TS5 145 [5] := by
  intro s A
  kernel_rfl
theorem p5_146 : G_ tr1 TS5 146 [5] := by
  intro s A
  kernel_rfl
theorem p5_147 : G_ tr1 TS5 147 [5] := by
  intro s A
  kernel_rfl
theorem p5_148 : G_ tr1 TS5 148 [5] := by
  intro s A
  kernel_rfl
theorem p5_149 : G_ tr1 TS5 149 [5] := by
  intro s A
  kernel_rfl
theorem p5_150 : G_ tr1 TS5 150 [5] := by
  intro s A
  kernel_rfl
theorem p5_151 : G_ tr1 TS5 151 [5] := by
  intro s A
  kernel_rfl
theorem p5_152 : G_ tr1 TS5 152 [5] := by
  intro s A
  kernel_rfl
theorem p5_153 : G_ tr1 TS5 153 [5] := by
  intro s A
  kernel_rfl
theorem p5_154 : G_ tr1 TS5 154 [5] := by
  intro s A
  kernel_rfl
theorem p5_155 : G_ tr1 TS5 155 [5] := by
  intro s A
  kernel_rfl
theorem p5_156 : G_ tr1 TS5 156 [5] := by
  intro s A
  kernel_rfl
theorem p5_157 : G_ tr1 TS5 157 [5] := by
  intro s A
  kernel_rfl
theorem p5_158 : G_ tr1 TS5 158 [5] := by
  intro s A
  kernel_rfl
theorem p5_159 : G_ tr1 TS5 159 [5] := by
  intro s A
  kernel_rfl
theorem p5_160 : G_ tr1 TS5 160 [5] := by
  intro s A
  kernel_rfl
theorem p5_161 : G_ tr1 TS5 161 [5] := by
  intro s A
  kernel_rfl
theorem p5_162 : G_ tr1 TS5 162 [5] := by
  intro s A
  kernel_rfl
theorem p5_163 : G_ tr1 TS5 163 [5] := by
  intro s A
  kernel_rfl
theorem p5_164 : G_ tr1 TS5 164 [5] := by
  intro s A
  kernel_rfl
theorem p5_165 : G_ tr1 TS5 165 [5] := by
  intro s A
  kernel_rfl
theorem p5_166 : G_ tr1 TS5 166 [5] := by
  intro s A
  kernel_rfl
theorem p5_167 : G_ tr1 TS5 167 [5] := by
  intro s A
  kernel_rfl
theorem p5_168 : G_ tr1 TS5 168 [5] := by
  intro s A
  kernel_rfl
theorem p5_169 : G_ tr1 TS5 169 [5] := by
  intro s A
  kernel_rfl
theorem p5_170 : G_ tr1 TS5 170 [5] := by
  intro s A
  kernel_rfl
theorem p5_171 : G_ tr1 TS5 171 [5] := by
  intro s A
  kernel_rfl
theorem p5_172 : G_ tr1 TS5 172 [5] := by
  intro s A
  kernel_rfl
theorem p5_173 : G_ tr1 TS5 173 [5] := by
  intro s A
  kernel_rfl
theorem p5_174 : G_ tr1 TS5 174 [5] := by
  intro s A
  kernel_rfl
theorem p5_175 : G_ tr1 TS5 175 [5] := by
  intro s A
  kernel_rfl
theorem p5_176 : G_ tr1 TS5 176 [5] := by
  intro s A
  kernel_rfl
theorem p5_177 : G_ tr1 TS5 177 [5] := by
  intro s A
  kernel_rfl
theorem p5_178 : G_ tr1 TS5 178 [5] := by
  intro s A
  kernel_rfl
theorem p5_179 : G_ tr1 TS5 179 [5] := by
  intro s A
  kernel_rfl
theorem p5_180 : G_ tr1 TS5 180 [5] := by
  intro s A
  kernel_rfl
theorem p5_181 : G_ tr1 TS5 181 [5] := by
  intro s A
  kernel_rfl
theorem p5_182 : G_ tr1 TS5 182 [5] := by
  intro s A
  kernel_rfl
end Go.Ev
