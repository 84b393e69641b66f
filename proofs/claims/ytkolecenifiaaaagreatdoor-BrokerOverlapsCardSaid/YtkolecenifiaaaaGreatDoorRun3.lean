/- Passes of the loops, rounds, ends. -/
import Derived.Test.YtkolecenifiaaaaGreatDoorSt
namespace Go.Ev
open Go.Proofs
set_option maxRecDepth 1000000
set_option linter.unusedVariables false
theorem rA12:RA 12 4:=by
 intro s A
 kernel_rfl
theorem rA84:RA 84 4:=by
 intro s A
 kernel_rfl
theorem rT152_0:RT 152 0 22:=by
 intro s A
 kernel_rfl
theorem rT221_0:RT 221 0 22:=by
 intro s A
 kernel_rfl
theorem rT233_0:RT 233 0 9:=by
 intro s A
 kernel_rfl
theorem rM5:RM 5 2:=by
 intro s A
 kernel_rfl
theorem rM19:RM 19 1:=by
 intro s A
 kernel_rfl
theorem rM39:RM 39 1:=by
 intro s A
 kernel_rfl
theorem rN62_0:RN 62 0 4:=by
 intro s A
 kernel_rfl
theorem rM90:RM 90 1:=by
 intro s A
 kernel_rfl
theorem rM115:RM 115 1:=by
 intro s A
 kernel_rfl
theorem rL73:RL 73 12:=by
 intro s A
 kernel_rfl
theorem rS69:RS 69 2:=by
 intro s A
 kernel_rfl
theorem rS207:RS 207 2:=by
 intro s A
 kernel_rfl
theorem rM8:RM 8 2:=by
 intro s A
 kernel_rfl
theorem rX459:RX 459 48:=by
 intro s A
 kernel_rfl
theorem rS139:RS 139 2:=by
 intro s A
 kernel_rfl
theorem rM20:RM 20 1:=by
 intro s A
 kernel_rfl
theorem rM114:RM 114 1:=by
 intro s A
 kernel_rfl
end Go.Ev
