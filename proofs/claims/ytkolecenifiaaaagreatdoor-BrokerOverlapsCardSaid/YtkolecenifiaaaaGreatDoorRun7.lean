/- Passes of the loops, rounds, ends. -/
import Derived.Test.YtkolecenifiaaaaGreatDoorSt
namespace Go.Ev
open Go.Proofs
set_option maxRecDepth 1000000
set_option linter.unusedVariables false
theorem rA28:RA 28 4:=by
 intro s A
 kernel_rfl
theorem rA100:RA 100 4:=by
 intro s A
 kernel_rfl
theorem rT160_0:RT 160 0 22:=by
 intro s A
 kernel_rfl
theorem rT230_0:RT 230 0 22:=by
 intro s A
 kernel_rfl
theorem rT241_0:RT 241 0 9:=by
 intro s A
 kernel_rfl
theorem rS0:RS 0 8:=by
 intro s A
 kernel_rfl
theorem rL55:RL 55 7:=by
 intro s A
 kernel_rfl
theorem rN31_4:RN 31 4 4:=by
 intro s A
 kernel_rfl
theorem rM60:RM 60 1:=by
 intro s A
 kernel_rfl
theorem rN87_0:RN 87 0 4:=by
 intro s A
 kernel_rfl
theorem rM110:RM 110 1:=by
 intro s A
 kernel_rfl
theorem rN127_4:RN 127 4 4:=by
 intro s A
 kernel_rfl
theorem rS141:RS 141 2:=by
 intro s A
 kernel_rfl
theorem rS228:RS 228 2:=by
 intro s A
 kernel_rfl
theorem rM67:RM 67 2:=by
 intro s A
 kernel_rfl
theorem rX667:RX 667 40:=by
 intro s A
 kernel_rfl
theorem rS175:RS 175 2:=by
 intro s A
 kernel_rfl
theorem rM50:RM 50 1:=by
 intro s A
 kernel_rfl
theorem rT26_22:RT 26 22 3:=by
 intro s A
 kernel_rfl
theorem rT71_22:RT 71 22 3:=by
 intro s A
 kernel_rfl
theorem rT143_22:RT 143 22 3:=by
 intro s A
 kernel_rfl
theorem rT179_22:RT 179 22 3:=by
 intro s A
 kernel_rfl
theorem rT209_22:RT 209 22 3:=by
 intro s A
 kernel_rfl
theorem rT231_22:RT 231 22 3:=by
 intro s A
 kernel_rfl
end Go.Ev
