/- Passes of the loops, rounds, ends. -/
import Derived.Test.YtkolecenifiaaaaGreatDoorSt
namespace Go.Ev
open Go.Proofs
set_option maxRecDepth 1000000
set_option linter.unusedVariables false
theorem rA56:RA 56 4:=by
 intro s A
 kernel_rfl
theorem rT26_0:RT 26 0 22:=by
 intro s A
 kernel_rfl
theorem rT74_0:RT 74 0 22:=by
 intro s A
 kernel_rfl
theorem rT197_0:RT 197 0 22:=by
 intro s A
 kernel_rfl
theorem rL93:RL 93 9:=by
 intro s A
 kernel_rfl
theorem rS99:RS 99 4:=by
 intro s A
 kernel_rfl
theorem rL85:RL 85 8:=by
 intro s A
 kernel_rfl
theorem rN29_0:RN 29 0 4:=by
 intro s A
 kernel_rfl
theorem rN55_4:RN 55 4 4:=by
 intro s A
 kernel_rfl
theorem rN79_0:RN 79 0 4:=by
 intro s A
 kernel_rfl
theorem rN95_8:RN 95 8 4:=by
 intro s A
 kernel_rfl
theorem rN125_0:RN 125 0 4:=by
 intro s A
 kernel_rfl
theorem rT240_9:RT 240 9 12:=by
 intro s A
 kernel_rfl
theorem rS180:RS 180 2:=by
 intro s A
 kernel_rfl
theorem rT242_22:RT 242 22 5:=by
 intro s A
 kernel_rfl
theorem rM112:RM 112 2:=by
 intro s A
 kernel_rfl
theorem rS49:RS 49 2:=by
 intro s A
 kernel_rfl
theorem rT215_21:RT 215 21 10:=by
 intro s A
 kernel_rfl
theorem rM76:RM 76 1:=by
 intro s A
 kernel_rfl
theorem rT227_22:RT 227 22 3:=by
 intro s A
 kernel_rfl
end Go.Ev
