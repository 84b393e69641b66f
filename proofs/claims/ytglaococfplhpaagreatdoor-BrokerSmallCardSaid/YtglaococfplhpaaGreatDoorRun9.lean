/- Passes of BrokerSmall's loop, part 9. -/
import Derived.Test.YtglaococfplhpaaGreatDoorSt
namespace Go.Ev
open Go.Proofs
set_option maxRecDepth 1000000
theorem p1_147 : G_ tr0 TS1 147 [4] := by
  intro s A
  kernel_rfl
theorem p1_148 : G_ tr0 TS1 148 [4] := by
  intro s A
  kernel_rfl
theorem p1_149 : G_ tr0 TS1 149 [4] := by
  intro s A
  kernel_rfl
theorem p1_150 : G_ tr0 TS1 150 [4] := by
  intro s A
  kernel_rfl
theorem p1_151 : G_ tr0 TS1 151 [4] := by
  intro s A
  kernel_rfl
theorem p1_152 : G_ tr0 TS1 152 [4] := by
  intro s A
  kernel_rfl
theorem p1_153 : G_ tr0 TS1 153 [4] := by
  intro s A
  kernel_rfl
theorem p1_154 : G_ tr0 TS1 154 [4] := by
  intro s A
  kernel_rfl
theorem p1_155 : G_ tr0 TS1 155 [4] := by
  intro s A
  kernel_rfl
theorem p1_156 : G_ tr0 TS1 156 [4] := by
  intro s A
  kernel_rfl
theorem p1_157 : G_ tr0 TS1 157 [4] := by
  intro s A
  kernel_rfl
theorem p1_158 : G_ tr0 TS1 158 [4] := by
  intro s A
  kernel_rfl
theorem p1_159 : G_ tr0 TS1 159 [4] := by
  intro s A
  kernel_rfl
theorem p1_160 : G_ tr0 TS1 160 [4] := by
  intro s A
  kernel_rfl
theorem p1_161 : G_ tr0 TS1 161 [4] := by
  intro s A
  kernel_rfl
theorem p1_162 : G_ tr0 TS1 162 [4] := by
  intro s A
  kernel_rfl
theorem p1_163 : G_ tr0 TS1 163 [4] := by
  intro s A
  kernel_rfl
theorem p1_164 : G_ tr0 TS1 164 [4] := by
  intro s A
  kernel_rfl
theorem p1_165 : G_ tr0 TS1 165 [4] := by
  intro s A
  kernel_rfl
theorem p1_166 : G_ tr0 TS1 166 [4] := by
  intro s A
  kernel_rfl
theorem p1_167 : G_ tr0 TS1 167 [4] := by
  intro s A
  kernel_rfl
theorem p1_168 : G_ tr0 TS1 168 [4] := by
  intro s A
  kernel_rfl
theorem p1_169 : G_ tr0 TS1 169 [4] := by
  intro s A
  kernel_rfl
theorem p1_170 : G_ tr0 TS1 170 [4] := by
  intro s A
  kernel_rfl
theorem p1_171 : G_ tr0 TS1 171 [4] := by
  intro s A
  kernel_rfl
theorem p1_172 : G_ tr0 TS1 172 [4] := by
  intro s A
  kernel_rfl
theorem p1_173 : G_ tr0 TS1 173 [4] := by
  intro s A
  kernel_rfl
theorem p1_174 : G_ tr0 TS1 174 [4] := by
  intro s A
  kernel_rfl
theorem p1_175 : G_ tr0 TS1 175 [4] := by
  intro s A
  kernel_rfl
theorem p1_176 : G_ tr0 TS1 176 [4] := by
  intro s A
  kernel_rfl
theorem p1_177 : G_ tr0 TS1 177 [4] := by
  intro s A
  kernel_rfl
theorem p1_178 : G_ tr0 TS1 178 [4] := by
  intro s A
  kernel_rfl
theorem p1_179 : G_ tr0 TS1 179 [4] := by
  intro s A
  kernel_rfl
theorem p1_180 : G_ tr0 TS1 180 [4] := by
  intro s A
  kernel_rfl
theorem p1_181 : G_ tr0 TS1 181 [4] := by
  intro s A
  kernel_rfl
theorem p1_182 : G_ tr0 TS1 182 [4] := by
  intro s A
  kernel_rfl
theorem p1_183 : G_ tr0 TS1 183 [4] := by
  intro s A
  kernel_rfl
theorem p1_184 : G_ tr0 TS1 184 [4] := by
  intro s A
  kernel_rfl
theorem p1_185 : G_ tr0 TS1 185 [4] := by
  intro s A
  kernel_rfl
end Go.Ev
