/- Passes of the loops, rounds, ends. -/
import Derived.Test.YtkolecenifiaaaaGreatDoorSt
namespace Go.Ev
open Go.Proofs
set_option maxRecDepth 1000000
set_option linter.unusedVariables false
theorem rA4:RA 4 4:=by
 intro s A
 kernel_rfl
theorem rA76:RA 76 4:=by
 intro s A
 kernel_rfl
theorem rT134_0:RT 134 0 22:=by
 intro s A
 kernel_rfl
theorem rT214_0:RT 214 0 22:=by
 intro s A
 kernel_rfl
theorem rT215_0:RT 215 0 9:=by
 intro s A
 kernel_rfl
theorem rS198:RS 198 4:=by
 intro s A
 kernel_rfl
theorem rM25:RM 25 1:=by
 intro s A
 kernel_rfl
theorem rN47_4:RN 47 4 4:=by
 intro s A
 kernel_rfl
theorem rN63_12:RN 63 12 4:=by
 intro s A
 kernel_rfl
theorem rN93_4:RN 93 4 4:=by
 intro s A
 kernel_rfl
theorem rM121:RM 121 1:=by
 intro s A
 kernel_rfl
theorem rT215_9:RT 215 9 12:=by
 intro s A
 kernel_rfl
theorem rS51:RS 51 2:=by
 intro s A
 kernel_rfl
theorem rS195:RS 195 2:=by
 intro s A
 kernel_rfl
theorem rT242_27:RT 242 27 10:=by
 intro s A
 kernel_rfl
theorem rL123:RL 123 4:=by
 intro s A
 kernel_rfl
theorem rM96:RM 96 3:=by
 intro s A
 kernel_rfl
theorem rM10:RM 10 1:=by
 intro s A
 kernel_rfl
theorem rM88:RM 88 1:=by
 intro s A
 kernel_rfl
end Go.Ev
