/- Passes of BrokerSmall's loop, part 17. -/
import Derived.Test.YtglaococfplhpaaGreatDoorSt
namespace Go.Ev
open Go.Proofs
set_option maxRecDepth 1000000
theorem p3_143 : G_ tr0 TS3 143 [3] := by
  intro s A
  kernel_rfl
theorem p3_144 : G_ tr0 TS3 144 [3] := by
  intro s A
  kernel_rfl
theorem p3_145 : G_ tr0 TS3 145 [3] := by
  intro s A
  kernel_rfl
theorem p3_146 : G_ tr0 TS3 146 [3] := by
  intro s A
  kernel_rfl
theorem p3_147 : G_ tr0 TS3 147 [3] := by
  intro s A
  kernel_rfl
theorem p3_148 : G_ tr0 TS3 148 [3] := by
  intro s A
  kernel_rfl
theorem p3_149 : G_ tr0 TS3 149 [3] := by
  intro s A
  kernel_rfl
theorem p3_150 : G_ tr0 TS3 150 [3] := by
  intro s A
  kernel_rfl
theorem p3_151 : G_ tr0 TS3 151 [3] := by
  intro s A
  kernel_rfl
theorem p3_152 : G_ tr0 TS3 152 [3] := by
  intro s A
  kernel_rfl
theorem p3_153 : G_ tr0 TS3 153 [3] := by
  intro s A
  kernel_rfl
theorem p3_154 : G_ tr0 TS3 154 [3] := by
  intro s A
  kernel_rfl
theorem p3_155 : G_ tr0 TS3 155 [3] := by
  intro s A
  kernel_rfl
theorem p3_156 : G_ tr0 TS3 156 [3] := by
  intro s A
  kernel_rfl
theorem p3_157 : G_ tr0 TS3 157 [3] := by
  intro s A
  kernel_rfl
theorem p3_158 : G_ tr0 TS3 158 [3] := by
  intro s A
  kernel_rfl
theorem p3_159 : G_ tr0 TS3 159 [3] := by
  intro s A
  kernel_rfl
theorem p3_160 : G_ tr0 TS3 160 [3] := by
  intro s A
  kernel_rfl
theorem p3_161 : G_ tr0 TS3 161 [3] := by
  intro s A
  kernel_rfl
theorem p3_162 : G_ tr0 TS3 162 [3] := by
  intro s A
  kernel_rfl
theorem p3_163 : G_ tr0 TS3 163 [3] := by
  intro s A
  kernel_rfl
theorem p3_164 : G_ tr0 TS3 164 [3] := by
  intro s A
  kernel_rfl
theorem p3_165 : G_ tr0 TS3 165 [3] := by
  intro s A
  kernel_rfl
theorem p3_166 : G_ tr0 TS3 166 [3] := by
  intro s A
  kernel_rfl
theorem p3_167 : G_ tr0 TS3 167 [3] := by
  intro s A
  kernel_rfl
theorem p3_168 : G_ tr0 TS3 168 [3] := by
  intro s A
  kernel_rfl
theorem p3_169 : G_ tr0 TS3 169 [3] := by
  intro s A
  kernel_rfl
theorem p3_170 : G_ tr0 TS3 170 [3] := by
  intro s A
  kernel_rfl
theorem p3_171 : G_ tr0 TS3 171 [3] := by
  intro s A
  kernel_rfl
theorem p3_172 : G_ tr0 TS3 172 [3] := by
  intro s A
  kernel_rfl
theorem p3_173 : G_ tr0 TS3 173 [3] := by
  intro s A
  kernel_rfl
theorem p3_174 : G_ tr0 TS3 174 [3] := by
  intro s A
  kernel_rfl
theorem p3_175 : G_ tr0 TS3 175 [3] := by
  intro s A
  kernel_rfl
theorem p3_176 : G_ tr0 TS3 176 [3] := by
  intro s A
  kernel_rfl
theorem p3_177 : G_ tr0 TS3 177 [3] := by
  intro s A
  kernel_rfl
theorem p3_178 : G_ tr0 TS3 178 [3] := by
  intro s A
  kernel_rfl
theorem p3_179 : G_ tr0 TS3 179 [3] := by
  intro s A
  kernel_rfl
theorem p3_180 : G_ tr0 TS3 180 [3] := by
  intro s A
  kernel_rfl
theorem p3_181 : G_ tr0 TS3 181 [3] := by
  intro s A
  kernel_rfl
theorem p3_182 : G_ tr0 TS3 182 [3] := by
  intro s A
  kernel_rfl
theorem p3_183 : G_ tr0 TS3 183 [3] := by
  intro s A
  kernel_rfl
theorem p3_184 : G_ tr0 TS3 184 [3] := by
  intro s A
  kernel_rfl
theorem p3_185 : G_ tr0 TS3 185 [3] := by
  intro s A
  kernel_rfl
theorem p3_186 : G_ tr0 TS3 186 [3] := by
  intro s A
  kernel_rfl
theorem p3_187 : G_ tr0 TS3 187 [3] := by
  intro s A
  kernel_rfl
theorem p3_188 : G_ tr0 TS3 188 [3] := by
  intro s A
  kernel_rfl
theorem p3_189 : G_ tr0 TS3 189 [3] := by
  intro s A
  kernel_rfl
end Go.Ev
