/- Passes of BrokerSmall's loop, part 4. -/
import Derived.Test.YtglaococfplhpaaGreatDoorSt
namespace Go.Ev
open Go.Proofs
set_option maxRecDepth 1000000
theorem p0_170 : G_ tr0 TS0 170 [3] := by
  intro s A
  kernel_rfl
theorem p0_171 : G_ tr0 TS0 171 [3] := by
  intro s A
  kernel_rfl
theorem p0_172 : G_ tr0 TS0 172 [3] := by
  intro s A
  kernel_rfl
theorem p0_173 : G_ tr0 TS0 173 [3] := by
  intro s A
  kernel_rfl
theorem p0_174 : G_ tr0 TS0 174 [3] := by
  intro s A
  kernel_rfl
theorem p0_175 : G_ tr0 TS0 175 [3] := by
  intro s A
  kernel_rfl
theorem p0_176 : G_ tr0 TS0 176 [3] := by
  intro s A
  kernel_rfl
theorem p0_177 : G_ tr0 TS0 177 [3] := by
  intro s A
  kernel_rfl
theorem p0_178 : G_ tr0 TS0 178 [3] := by
  intro s A
  kernel_rfl
theorem p0_179 : G_ tr0 TS0 179 [3] := by
  intro s A
  kernel_rfl
theorem p0_180 : G_ tr0 TS0 180 [3] := by
  intro s A
  kernel_rfl
theorem p0_181 : G_ tr0 TS0 181 [3] := by
  intro s A
  kernel_rfl
theorem p0_182 : G_ tr0 TS0 182 [3] := by
  intro s A
  kernel_rfl
theorem p0_183 : G_ tr0 TS0 183 [3] := by
  intro s A
  kernel_rfl
theorem p0_184 : G_ tr0 TS0 184 [3] := by
  intro s A
  kernel_rfl
theorem p0_185 : G_ tr0 TS0 185 [3] := by
  intro s A
  kernel_rfl
theorem p0_186 : G_ tr0 TS0 186 [3] := by
  intro s A
  kernel_rfl
theorem p0_187 : G_ tr0 TS0 187 [3] := by
  intro s A
  kernel_rfl
theorem p0_188 : G_ tr0 TS0 188 [3] := by
  intro s A
  kernel_rfl
theorem p0_189 : G_ tr0 TS0 189 [3] := by
  intro s A
  kernel_rfl
theorem p0_190 : G_ tr0 TS0 190 [3] := by
  intro s A
  kernel_rfl
theorem p0_191 : G_ tr0 TS0 191 [] := by
  intro s A
  kernel_rfl
theorem p0_192 : G_ tr0 TS0 192 [] := by
  intro s A
  kernel_rfl
theorem p1_0 : G_ tr0 TS1 0 [4] := by
  intro s A
  kernel_rfl
theorem p1_1 : G_ tr0 TS1 1 [4] := by
  intro s A
  kernel_rfl
theorem p1_2 : G_ tr0 TS1 2 [4] := by
  intro s A
  kernel_rfl
theorem p1_3 : G_ tr0 TS1 3 [4] := by
  intro s A
  kernel_rfl
theorem p1_4 : G_ tr0 TS1 4 [4] := by
  intro s A
  kernel_rfl
theorem p1_5 : G_ tr0 TS1 5 [4] := by
  intro s A
  kernel_rfl
theorem p1_6 : G_ tr0 TS1 6 [4] := by
  intro s A
  kernel_rfl
theorem p1_7 : G_ tr0 TS1 7 [4] := by
  intro s A
  kernel_rfl
theorem p1_8 : G_ tr0 TS1 8 [4] := by
  intro s A
  kernel_rfl
theorem p1_9 : G_ tr0 TS1 9 [4] := by
  intro s A
  kernel_rfl
theorem p1_10 : G_ tr0 TS1 10 [4] := by
  intro s A
  kernel_rfl
theorem p1_11 : G_ tr0 TS1 11 [4] := by
  intro s A
  kernel_rfl
theorem p1_12 : G_ tr0 TS1 12 [4] := by
  intro s A
  kernel_rfl
theorem p1_13 : G_ tr0 TS1 13 [4] := by
  intro s A
  kernel_rfl
theorem p1_14 : G_ tr0 TS1 14 [4] := by
  intro s A
  kernel_rfl
theorem p1_15 : G_ tr0 TS1 15 [4] := by
  intro s A
  kernel_rfl
end Go.Ev
