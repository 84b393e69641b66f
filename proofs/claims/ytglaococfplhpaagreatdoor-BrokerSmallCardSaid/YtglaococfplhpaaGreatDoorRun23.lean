/- Passes of BrokerSmall's loop, part 23. -/
import Derived.Test.YtglaococfplhpaaGreatDoorSt
namespace Go.Ev
open Go.Proofs
set_option maxRecDepth 1000000
theorem p4_163 : G_ tr0 TS4 163 [4] := by
  intro s A
  kernel_rfl
theorem p4_164 : G_ tr0 TS4 164 [4] := by
  intro s A
  kernel_rfl
theorem p4_165 : G_ tr0 TS4 165 [4] := by
  intro s A
  kernel_rfl
theorem p4_166 : G_ tr0 TS4 166 [4] := by
  intro s A
  kernel_rfl
theorem p4_167 : G_ tr0 TS4 167 [4] := by
  intro s A
  kernel_rfl
theorem p4_168 : G_ tr0 TS4 168 [4] := by
  intro s A
  kernel_rfl
theorem p4_169 : G_ tr0 TS4 169 [4] := by
  intro s A
  kernel_rfl
theorem p4_170 : G_ tr0 TS4 170 [4] := by
  intro s A
  kernel_rfl
theorem p4_171 : G_ tr0 TS4 171 [4] := by
  intro s A
  kernel_rfl
theorem p4_172 : G_ tr0 TS4 172 [4] := by
  intro s A
  kernel_rfl
theorem p4_173 : G_ tr0 TS4 173 [4] := by
  intro s A
  kernel_rfl
theorem p4_174 : G_ tr0 TS4 174 [4] := by
  intro s A
  kernel_rfl
theorem p4_175 : G_ tr0 TS4 175 [4] := by
  intro s A
  kernel_rfl
theorem p4_176 : G_ tr0 TS4 176 [4] := by
  intro s A
  kernel_rfl
theorem p4_177 : G_ tr0 TS4 177 [4] := by
  intro s A
  kernel_rfl
theorem p4_178 : G_ tr0 TS4 178 [4] := by
  intro s A
  kernel_rfl
theorem p4_179 : G_ tr0 TS4 179 [4] := by
  intro s A
  kernel_rfl
theorem p4_180 : G_ tr0 TS4 180 [4] := by
  intro s A
  kernel_rfl
theorem p4_181 : G_ tr0 TS4 181 [4] := by
  intro s A
  kernel_rfl
theorem p4_182 : G_ tr0 TS4 182 [4] := by
  intro s A
  kernel_rfl
theorem p4_183 : G_ tr0 TS4 183 [4] := by
  intro s A
  kernel_rfl
theorem p4_184 : G_ tr0 TS4 184 [4] := by
  intro s A
  kernel_rfl
theorem p4_185 : G_ tr0 TS4 185 [4] := by
  intro s A
  kernel_rfl
theorem p4_186 : G_ tr0 TS4 186 [4] := by
  intro s A
  kernel_rfl
theorem p4_187 : G_ tr0 TS4 187 [4] := by
  intro s A
  kernel_rfl
theorem p4_188 : G_ tr0 TS4 188 [4] := by
  intro s A
  kernel_rfl
theorem p4_189 : G_ tr0 TS4 189 [4] := by
  intro s A
  kernel_rfl
theorem p4_190 : G_ tr0 TS4 190 [4] := by
  intro s A
  kernel_rfl
theorem p4_191 : G_ tr0 TS4 191 [] := by
  intro s A
  kernel_rfl
theorem p4_192 : G_ tr0 TS4 192 [] := by
  intro s A
  kernel_rfl
theorem p5_0 : G_ tr1 TS5 0 [5] := by
  intro s A
  kernel_rfl
theorem p5_1 : G_ tr1 TS5 1 [5] := by
  intro s A
  kernel_rfl
theorem p5_2 : G_ tr1 TS5 2 [5] := by
  intro s A
  kernel_rfl
theorem p5_3 : G_ tr1 TS5 3 [5] := by
  intro s A
  kernel_rfl
theorem p5_4 : G_ tr1 TS5 4 [5] := by
  intro s A
  kernel_rfl
theorem p5_5 : G_ tr1 TS5 5 [5] := by
  intro s A
  kernel_rfl
theorem p5_6 : G_ tr1 TS5 6 [5] := by
  intro s A
  kernel_rfl
theorem p5_7 : G_ tr1 TS5 7 [5] := by
  intro s A
  kernel_rfl
theorem p5_8 : G_ tr1 TS5 8 [5] := by
  intro s A
  kernel_rfl
theorem p5_9 : G_ tr1 TS5 9 [5] := by
  intro s A
  kernel_rfl
theorem p5_10 : G_ tr1 TS5 10 [5] := by
  intro s A
  kernel_rfl
theorem p5_11 : G_ tr1 TS5 11 [5] := by
  intro s A
  kernel_rfl
theorem p5_12 : G_ tr1 TS5 12 [5] := by
  intro s A
  kernel_rfl
end Go.Ev
