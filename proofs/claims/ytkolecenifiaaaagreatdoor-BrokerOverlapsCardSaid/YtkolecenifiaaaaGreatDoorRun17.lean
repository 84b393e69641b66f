/- Passes of the loops, rounds, ends. -/
import Derived.Test.YtkolecenifiaaaaGreatDoorSt
namespace Go.Ev
open Go.Proofs
set_option maxRecDepth 1000000
set_option linter.unusedVariables false
theorem rA68:RA 68 4:=by
 intro s A
 kernel_rfl
theorem rT71_0:RT 71 0 22:=by
 intro s A
 kernel_rfl
theorem rT79_0:RT 79 0 22:=by
 intro s A
 kernel_rfl
theorem rT212_0:RT 212 0 22:=by
 intro s A
 kernel_rfl
theorem rT161_0:RT 161 0 9:=by
 intro s A
 kernel_rfl
theorem rS63:RS 63 4:=by
 intro s A
 kernel_rfl
theorem rS81:RS 81 8:=by
 intro s A
 kernel_rfl
theorem rN27_4:RN 27 4 4:=by
 intro s A
 kernel_rfl
theorem rM54:RM 54 1:=by
 intro s A
 kernel_rfl
theorem rM77:RM 77 1:=by
 intro s A
 kernel_rfl
theorem rN95_0:RN 95 0 4:=by
 intro s A
 kernel_rfl
theorem rN123_4:RN 123 4 4:=by
 intro s A
 kernel_rfl
theorem rT236_9:RT 236 9 12:=by
 intro s A
 kernel_rfl
theorem rS168:RS 168 2:=by
 intro s A
 kernel_rfl
theorem rL0:RL 0 15:=by
 intro s A
 kernel_rfl
theorem rX199:RX 199 68:=by
 intro s A
 kernel_rfl
theorem rS58:RS 58 2:=by
 intro s A
 kernel_rfl
theorem rT224_21:RT 224 21 10:=by
 intro s A
 kernel_rfl
theorem rM82:RM 82 1:=by
 intro s A
 kernel_rfl
theorem rT230_22:RT 230 22 3:=by
 intro s A
 kernel_rfl
end Go.Ev
