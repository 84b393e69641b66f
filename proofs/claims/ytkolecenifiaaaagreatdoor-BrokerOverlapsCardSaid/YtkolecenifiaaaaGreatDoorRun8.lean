/- Passes of the loops, rounds, ends. -/
import Derived.Test.YtkolecenifiaaaaGreatDoorSt
namespace Go.Ev
open Go.Proofs
set_option maxRecDepth 1000000
set_option linter.unusedVariables false
theorem rA32:RA 32 2:=by
 intro s A
 kernel_rfl
theorem rA34:RA 34 2:=by
 intro s A
 kernel_rfl
theorem rA104:RA 104 2:=by
 intro s A
 kernel_rfl
theorem rA106:RA 106 2:=by
 intro s A
 kernel_rfl
theorem rT170_0:RT 170 0 22:=by
 intro s A
 kernel_rfl
theorem rT231_0:RT 231 0 22:=by
 intro s A
 kernel_rfl
theorem rL62:RL 62 11:=by
 intro s A
 kernel_rfl
theorem rS171:RS 171 4:=by
 intro s A
 kernel_rfl
theorem rN15_4:RN 15 4 4:=by
 intro s A
 kernel_rfl
theorem rN31_12:RN 31 12 4:=by
 intro s A
 kernel_rfl
theorem rN61_4:RN 61 4 4:=by
 intro s A
 kernel_rfl
theorem rM89:RM 89 1:=by
 intro s A
 kernel_rfl
theorem rN111_4:RN 111 4 4:=by
 intro s A
 kernel_rfl
theorem rN127_12:RN 127 12 4:=by
 intro s A
 kernel_rfl
theorem rS153:RS 153 2:=by
 intro s A
 kernel_rfl
theorem rT242_0:RT 242 0 3:=by
 intro s A
 kernel_rfl
theorem rM3:RM 3 2:=by
 intro s A
 kernel_rfl
theorem rX267:RX 267 48:=by
 intro s A
 kernel_rfl
theorem rS130:RS 130 2:=by
 intro s A
 kernel_rfl
theorem rM18:RM 18 1:=by
 intro s A
 kernel_rfl
theorem rM108:RM 108 1:=by
 intro s A
 kernel_rfl
end Go.Ev
