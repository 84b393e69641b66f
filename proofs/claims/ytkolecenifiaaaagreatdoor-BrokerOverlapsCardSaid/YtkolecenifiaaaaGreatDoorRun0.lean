/- Passes of the loops, rounds, ends. -/
import Derived.Test.YtkolecenifiaaaaGreatDoorSt
namespace Go.Ev
open Go.Proofs
set_option maxRecDepth 1000000
set_option linter.unusedVariables false
theorem rA0:RA 0 2:=by
 intro s A
 kernel_rfl
theorem rA2:RA 2 2:=by
 intro s A
 kernel_rfl
theorem rA72:RA 72 4:=by
 intro s A
 kernel_rfl
theorem rT107_0:RT 107 0 22:=by
 intro s A
 kernel_rfl
theorem rT213_0:RT 213 0 22:=by
 intro s A
 kernel_rfl
theorem rT188_0:RT 188 0 9:=by
 intro s A
 kernel_rfl
theorem rS189:RS 189 4:=by
 intro s A
 kernel_rfl
theorem rN23_4:RN 23 4 4:=by
 intro s A
 kernel_rfl
theorem rN47_0:RN 47 0 4:=by
 intro s A
 kernel_rfl
theorem rN63_8:RN 63 8 4:=by
 intro s A
 kernel_rfl
theorem rN93_0:RN 93 0 4:=by
 intro s A
 kernel_rfl
theorem rN119_4:RN 119 4 4:=by
 intro s A
 kernel_rfl
theorem rT188_9:RT 188 9 12:=by
 intro s A
 kernel_rfl
theorem rS24:RS 24 2:=by
 intro s A
 kernel_rfl
theorem rS183:RS 183 2:=by
 intro s A
 kernel_rfl
theorem rT242_3:RT 242 3 5:=by
 intro s A
 kernel_rfl
theorem rX707:RX 707 32:=by
 intro s A
 kernel_rfl
theorem rT80_21:RT 80 21 10:=by
 intro s A
 kernel_rfl
theorem rT236_21:RT 236 21 10:=by
 intro s A
 kernel_rfl
theorem rT78_22:RT 78 22 3:=by
 intro s A
 kernel_rfl
theorem rT158_22:RT 158 22 3:=by
 intro s A
 kernel_rfl
theorem rT186_22:RT 186 22 3:=by
 intro s A
 kernel_rfl
theorem rT214_22:RT 214 22 3:=by
 intro s A
 kernel_rfl
theorem rT235_22:RT 235 22 3:=by
 intro s A
 kernel_rfl
end Go.Ev
