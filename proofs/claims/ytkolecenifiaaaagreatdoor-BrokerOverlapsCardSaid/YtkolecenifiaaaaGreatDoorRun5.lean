/- Passes of the loops, rounds, ends. -/
import Derived.Test.YtkolecenifiaaaaGreatDoorSt
namespace Go.Ev
open Go.Proofs
set_option maxRecDepth 1000000
set_option linter.unusedVariables false
theorem rA20:RA 20 4:=by
 intro s A
 kernel_rfl
theorem rA92:RA 92 4:=by
 intro s A
 kernel_rfl
theorem rT158_0:RT 158 0 22:=by
 intro s A
 kernel_rfl
theorem rT223_0:RT 223 0 22:=by
 intro s A
 kernel_rfl
theorem rT239_0:RT 239 0 9:=by
 intro s A
 kernel_rfl
theorem rM69:RM 69 2:=by
 intro s A
 kernel_rfl
theorem rM22:RM 22 1:=by
 intro s A
 kernel_rfl
theorem rM45:RM 45 1:=by
 intro s A
 kernel_rfl
theorem rN63_0:RN 63 0 4:=by
 intro s A
 kernel_rfl
theorem rN91_4:RN 91 4 4:=by
 intro s A
 kernel_rfl
theorem rM118:RM 118 1:=by
 intro s A
 kernel_rfl
theorem rT80_9:RT 80 9 12:=by
 intro s A
 kernel_rfl
theorem rT241_9:RT 241 9 12:=by
 intro s A
 kernel_rfl
theorem rS89:RS 89 6:=by
 intro s A
 kernel_rfl
theorem rM104:RM 104 2:=by
 intro s A
 kernel_rfl
theorem rX739:RX 739 29:=by
 intro s A
 kernel_rfl
theorem rS103:RS 103 2:=by
 intro s A
 kernel_rfl
theorem rM12:RM 12 1:=by
 intro s A
 kernel_rfl
theorem rM106:RM 106 1:=by
 intro s A
 kernel_rfl
end Go.Ev
