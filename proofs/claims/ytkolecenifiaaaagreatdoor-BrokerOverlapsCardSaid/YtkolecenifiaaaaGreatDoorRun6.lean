/- Passes of the loops, rounds, ends. -/
import Derived.Test.YtkolecenifiaaaaGreatDoorSt
namespace Go.Ev
open Go.Proofs
set_option maxRecDepth 1000000
set_option linter.unusedVariables false
theorem rA24:RA 24 4:=by
 intro s A
 kernel_rfl
theorem rA96:RA 96 2:=by
 intro s A
 kernel_rfl
theorem rA98:RA 98 2:=by
 intro s A
 kernel_rfl
theorem rT159_0:RT 159 0 22:=by
 intro s A
 kernel_rfl
theorem rT227_0:RT 227 0 22:=by
 intro s A
 kernel_rfl
theorem rT240_0:RT 240 0 9:=by
 intro s A
 kernel_rfl
theorem rM101:RM 101 2:=by
 intro s A
 kernel_rfl
theorem rN23_0:RN 23 0 4:=by
 intro s A
 kernel_rfl
theorem rM46:RM 46 1:=by
 intro s A
 kernel_rfl
theorem rN63_4:RN 63 4 4:=by
 intro s A
 kernel_rfl
theorem rM92:RM 92 1:=by
 intro s A
 kernel_rfl
theorem rN119_0:RN 119 0 4:=by
 intro s A
 kernel_rfl
theorem rT161_9:RT 161 9 12:=by
 intro s A
 kernel_rfl
theorem rL15:RL 15 10:=by
 intro s A
 kernel_rfl
theorem rS35:RS 35 6:=by
 intro s A
 kernel_rfl
theorem rM99:RM 99 2:=by
 intro s A
 kernel_rfl
theorem rX0:RX 0 83:=by
 intro s A
 kernel_rfl
theorem rT161_21:RT 161 21 10:=by
 intro s A
 kernel_rfl
theorem rM24:RM 24 1:=by
 intro s A
 kernel_rfl
theorem rM116:RM 116 1:=by
 intro s A
 kernel_rfl
end Go.Ev
