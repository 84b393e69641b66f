/- Passes of BrokerSmall's loop, part 27. -/
import Derived.Test.YtglaococfplhpaaGreatDoorSt
namespace Go.Ev
open Go.Proofs
set_option maxRecDepth 1000000
theorem p5_183 : G_ tr1 TS5 183 [5] := by
  intro s A
  kernel_rfl
theorem p5_184 : G_ tr1 TS5 184 [5] := by
  intro s A
  kernel_rfl
theorem p5_185 : G_ tr1 TS5 185 [5] := by
  intro s A
  kernel_rfl
theorem p5_186 : G_ tr1 TS5 186 [5] := by
  intro s A
  kernel_rfl
theorem p5_187 : G_ tr1 TS5 187 [5] := by
  intro s A
  kernel_rfl
theorem p5_188 : G_ tr1 TS5 188 [5] := by
  intro s A
  kernel_rfl
theorem p5_189 : G_ tr1 TS5 189 [5] := by
  intro s A
  kernel_rfl
theorem p5_190 : G_ tr1 TS5 190 [5] := by
  intro s A
  kernel_rfl
theorem p5_191 : G_ tr1 TS5 191 [] := by
  intro s A
  kernel_rfl
theorem p5_192 : G_ tr1 TS5 192 [] := by
  intro s A
  kernel_rfl
theorem q0 : S_ 0 [0] := by
  intro s A
  kernel_rfl
theorem q1 : S_ 1 [1] := by
  intro s A
  kernel_rfl
theorem q2 : S_ 2 [2] := by
  intro s A
  kernel_rfl
theorem q3 : S_ 3 [0] := by
  intro s A
  kernel_rfl
theorem q4 : S_ 4 [1] := by
  intro s A
  kernel_rfl
end Go.Ev
