/- Passes of BrokerSmall's loop, part 13. -/
import Derived.Test.YtglaococfplhpaaGreatDoorSt
namespace Go.Ev
open Go.Proofs
set_option maxRecDepth 1000000
theorem p2_159 : G_ tr1 TS2 159 [5] := by
  intro s A
  kernel_rfl
theorem p2_160 : G_ tr1 TS2 160 [5] := by
  intro s A
  kernel_rfl
theorem p2_161 : G_ tr1 TS2 161 [5] := by
  intro s A
  kernel_rfl
theorem p2_162 : G_ tr1 TS2 162 [5] := by
  intro s A
  kernel_rfl
theorem p2_163 : G_ tr1 TS2 163 [5] := by
  intro s A
  kernel_rfl
theorem p2_164 : G_ tr1 TS2 164 [5] := by
  intro s A
  kernel_rfl
theorem p2_165 : G_ tr1 TS2 165 [5] := by
  intro s A
  kernel_rfl
theorem p2_166 : G_ tr1 TS2 166 [5] := by
  intro s A
  kernel_rfl
theorem p2_167 : G_ tr1 TS2 167 [5] := by
  intro s A
  kernel_rfl
theorem p2_168 : G_ tr1 TS2 168 [5] := by
  intro s A
  kernel_rfl
theorem p2_169 : G_ tr1 TS2 169 [5] := by
  intro s A
  kernel_rfl
theorem p2_170 : G_ tr1 TS2 170 [5] := by
  intro s A
  kernel_rfl
theorem p2_171 : G_ tr1 TS2 171 [5] := by
  intro s A
  kernel_rfl
theorem p2_172 : G_ tr1 TS2 172 [5] := by
  intro s A
  kernel_rfl
theorem p2_173 : G_ tr1 TS2 173 [5] := by
  intro s A
  kernel_rfl
theorem p2_174 : G_ tr1 TS2 174 [5] := by
  intro s A
  kernel_rfl
theorem p2_175 : G_ tr1 TS2 175 [5] := by
  intro s A
  kernel_rfl
theorem p2_176 : G_ tr1 TS2 176 [5] := by
  intro s A
  kernel_rfl
theorem p2_177 : G_ tr1 TS2 177 [5] := by
  intro s A
  kernel_rfl
theorem p2_178 : G_ tr1 TS2 178 [5] := by
  intro s A
  kernel_rfl
theorem p2_179 : G_ tr1 TS2 179 [5] := by
  intro s A
  kernel_rfl
theorem p2_180 : G_ tr1 TS2 180 [5] := by
  intro s A
  kernel_rfl
theorem p2_181 : G_ tr1 TS2 181 [5] := by
  intro s A
  kernel_rfl
theorem p2_182 : G_ tr1 TS2 182 [5] := by
  intro s A
  kernel_rfl
theorem p2_183 : G_ tr1 TS2 183 [5] := by
  intro s A
  kernel_rfl
theorem p2_184 : G_ tr1 TS2 184 [5] := by
  intro s A
  kernel_rfl
theorem p2_185 : G_ tr1 TS2 185 [5] := by
  intro s A
  kernel_rfl
theorem p2_186 : G_ tr1 TS2 186 [5] := by
  intro s A
  kernel_rfl
theorem p2_187 : G_ tr1 TS2 187 [5] := by
  intro s A
  kernel_rfl
theorem p2_188 : G_ tr1 TS2 188 [5] := by
  intro s A
  kernel_rfl
theorem p2_189 : G_ tr1 TS2 189 [5] := by
  intro s A
  kernel_rfl
theorem p2_190 : G_ tr1 TS2 190 [5] := by
  intro s A
  kernel_rfl
theorem p2_191 : G_ tr1 TS2 191 [] := by
  intro s A
  kernel_rfl
theorem p2_192 : G_ tr1 TS2 192 [] := by
  intro s A
  kernel_rfl
theorem p3_0 : G_ tr0 TS3 0 [3] := by
  intro s A
  kernel_rfl
theorem p3_1 : G_ tr0 TS3 1 [3] := by
  intro s A
  kernel_rfl
theorem p3_2 : G_ tr0 TS3 2 [3] := by
  intro s A
  kernel_rfl
theorem p3_3 : G_ tr0 TS3 3 [3] := by
  intro s A
  kernel_rfl
theorem p3_4 : G_ tr0 TS3 4 [3] := by
  intro s A
  kernel_rfl
theorem p3_5 : G_ tr0 TS3 5 [3] := by
  intro s A
  kernel_rfl
theorem p3_6 : G_ tr0 TS3 6 [3] := by
  intro s A
  kernel_rfl
theorem p3_7 : G_ tr0 TS3 7 [3] := by
  intro s A
  kernel_rfl
theorem p3_8 : G_ tr0 TS3 8 [3] := by
  intro s A
  kernel_rfl
theorem p3_9 : G_ tr0 TS3 9 [3] := by
  intro s A
  kernel_rfl
theorem p3_10 : G_ tr0 TS3 10 [3] := by
  intro s A
  kernel_rfl
theorem p3_11 : G_ tr0 TS3 11 [3] := by
  intro s A
  kernel_rfl
theorem p3_12 : G_ tr0 TS3 12 [3] := by
  intro s A
  kernel_rfl
theorem p3_13 : G_ tr0 TS3 13 [3] := by
  intro s A
  kernel_rfl
theorem p3_14 : G_ tr0 TS3 14 [3] := by
  intro s A
  kernel_rfl
theorem p3_15 : G_ tr0 TS3 15 [3] := by
  intro s A
  kernel_rfl
end Go.Ev
