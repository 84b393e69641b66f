/- Passes of the loops, rounds, ends. -/
import Derived.Test.YtkolecenifiaaaaGreatDoorSt
namespace Go.Ev
open Go.Proofs
set_option maxRecDepth 1000000
set_option linter.unusedVariables false
theorem rA52:RA 52 4:=by
 intro s A
 kernel_rfl
theorem rA124:RA 124 4:=by
 intro s A
 kernel_rfl
theorem rT187_0:RT 187 0 22:=by
 intro s A
 kernel_rfl
theorem rT238_0:RT 238 0 22:=by
 intro s A
 kernel_rfl
theorem rS45:RS 45 4:=by
 intro s A
 kernel_rfl
theorem rS144:RS 144 4:=by
 intro s A
 kernel_rfl
theorem rM14:RM 14 1:=by
 intro s A
 kernel_rfl
theorem rN31_0:RN 31 0 4:=by
 intro s A
 kernel_rfl
theorem rN59_4:RN 59 4 4:=by
 intro s A
 kernel_rfl
theorem rM86:RM 86 1:=by
 intro s A
 kernel_rfl
theorem rM109:RM 109 1:=by
 intro s A
 kernel_rfl
theorem rN127_0:RN 127 0 4:=by
 intro s A
 kernel_rfl
theorem rS132:RS 132 2:=by
 intro s A
 kernel_rfl
theorem rS225:RS 225 2:=by
 intro s A
 kernel_rfl
theorem rM48:RM 48 2:=by
 intro s A
 kernel_rfl
theorem rX543:RX 543 40:=by
 intro s A
 kernel_rfl
theorem rS166:RS 166 2:=by
 intro s A
 kernel_rfl
theorem rM44:RM 44 1:=by
 intro s A
 kernel_rfl
theorem rL127:RL 127 1:=by
 intro s A
 kernel_rfl
end Go.Ev
