/- Passes of the loops, rounds, ends. -/
import Derived.Test.YtkolecenifiaaaaGreatDoorSt
namespace Go.Ev
open Go.Proofs
set_option maxRecDepth 1000000
set_option linter.unusedVariables false
theorem rA8:RA 8 2:=by
 intro s A
 kernel_rfl
theorem rA10:RA 10 2:=by
 intro s A
 kernel_rfl
theorem rA80:RA 80 4:=by
 intro s A
 kernel_rfl
theorem rT143_0:RT 143 0 22:=by
 intro s A
 kernel_rfl
theorem rT218_0:RT 218 0 22:=by
 intro s A
 kernel_rfl
theorem rT224_0:RT 224 0 9:=by
 intro s A
 kernel_rfl
theorem rT242_13:RT 242 13 4:=by
 intro s A
 kernel_rfl
theorem rM26:RM 26 1:=by
 intro s A
 kernel_rfl
theorem rM51:RM 51 1:=by
 intro s A
 kernel_rfl
theorem rM71:RM 71 1:=by
 intro s A
 kernel_rfl
theorem rN94_0:RN 94 0 4:=by
 intro s A
 kernel_rfl
theorem rM122:RM 122 1:=by
 intro s A
 kernel_rfl
theorem rT224_9:RT 224 9 12:=by
 intro s A
 kernel_rfl
theorem rS60:RS 60 2:=by
 intro s A
 kernel_rfl
theorem rS204:RS 204 2:=by
 intro s A
 kernel_rfl
theorem rT242_8:RT 242 8 5:=by
 intro s A
 kernel_rfl
theorem rX315:RX 315 36:=by
 intro s A
 kernel_rfl
theorem rM0:RM 0 3:=by
 intro s A
 kernel_rfl
theorem rT239_21:RT 239 21 10:=by
 intro s A
 kernel_rfl
theorem rT79_22:RT 79 22 3:=by
 intro s A
 kernel_rfl
theorem rT159_22:RT 159 22 3:=by
 intro s A
 kernel_rfl
theorem rT187_22:RT 187 22 3:=by
 intro s A
 kernel_rfl
theorem rT218_22:RT 218 22 3:=by
 intro s A
 kernel_rfl
theorem rT237_22:RT 237 22 3:=by
 intro s A
 kernel_rfl
end Go.Ev
