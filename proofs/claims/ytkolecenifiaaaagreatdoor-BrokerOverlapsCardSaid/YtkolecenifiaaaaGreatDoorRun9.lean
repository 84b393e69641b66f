/- Passes of the loops, rounds, ends. -/
import Derived.Test.YtkolecenifiaaaaGreatDoorSt
namespace Go.Ev
open Go.Proofs
set_option maxRecDepth 1000000
set_option linter.unusedVariables false
theorem rA36:RA 36 2:=by
 intro s A
 kernel_rfl
theorem rA38:RA 38 2:=by
 intro s A
 kernel_rfl
theorem rA108:RA 108 4:=by
 intro s A
 kernel_rfl
theorem rT179_0:RT 179 0 22:=by
 intro s A
 kernel_rfl
theorem rT232_0:RT 232 0 22:=by
 intro s A
 kernel_rfl
theorem rL102:RL 102 13:=by
 intro s A
 kernel_rfl
theorem rS162:RS 162 4:=by
 intro s A
 kernel_rfl
theorem rN15_0:RN 15 0 4:=by
 intro s A
 kernel_rfl
theorem rN31_8:RN 31 8 4:=by
 intro s A
 kernel_rfl
theorem rN61_0:RN 61 0 4:=by
 intro s A
 kernel_rfl
theorem rN87_4:RN 87 4 4:=by
 intro s A
 kernel_rfl
theorem rN111_0:RN 111 0 4:=by
 intro s A
 kernel_rfl
theorem rN127_8:RN 127 8 4:=by
 intro s A
 kernel_rfl
theorem rS150:RS 150 2:=by
 intro s A
 kernel_rfl
theorem rT242_17:RT 242 17 5:=by
 intro s A
 kernel_rfl
theorem rM72:RM 72 2:=by
 intro s A
 kernel_rfl
theorem rX507:RX 507 36:=by
 intro s A
 kernel_rfl
theorem rM32:RM 32 3:=by
 intro s A
 kernel_rfl
theorem rT240_21:RT 240 21 10:=by
 intro s A
 kernel_rfl
theorem rT107_22:RT 107 22 3:=by
 intro s A
 kernel_rfl
theorem rT160_22:RT 160 22 3:=by
 intro s A
 kernel_rfl
theorem rT197_22:RT 197 22 3:=by
 intro s A
 kernel_rfl
theorem rT221_22:RT 221 22 3:=by
 intro s A
 kernel_rfl
theorem rT238_22:RT 238 22 3:=by
 intro s A
 kernel_rfl
end Go.Ev
