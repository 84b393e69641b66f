/- Passes of the loops, rounds, ends. -/
import Derived.Test.YtkolecenifiaaaaGreatDoorSt
namespace Go.Ev
open Go.Proofs
set_option maxRecDepth 1000000
set_option linter.unusedVariables false
theorem rA64:RA 64 4:=by
 intro s A
 kernel_rfl
theorem rT62_0:RT 62 0 22:=by
 intro s A
 kernel_rfl
theorem rT78_0:RT 78 0 22:=by
 intro s A
 kernel_rfl
theorem rT209_0:RT 209 0 22:=by
 intro s A
 kernel_rfl
theorem rT80_0:RT 80 0 9:=by
 intro s A
 kernel_rfl
theorem rS54:RS 54 4:=by
 intro s A
 kernel_rfl
theorem rS27:RS 27 8:=by
 intro s A
 kernel_rfl
theorem rN27_0:RN 27 0 4:=by
 intro s A
 kernel_rfl
theorem rM53:RM 53 1:=by
 intro s A
 kernel_rfl
theorem rM75:RM 75 1:=by
 intro s A
 kernel_rfl
theorem rN94_4:RN 94 4 4:=by
 intro s A
 kernel_rfl
theorem rN123_0:RN 123 0 4:=by
 intro s A
 kernel_rfl
theorem rT233_9:RT 233 9 12:=by
 intro s A
 kernel_rfl
theorem rS156:RS 156 2:=by
 intro s A
 kernel_rfl
theorem rS116:RS 116 6:=by
 intro s A
 kernel_rfl
theorem rX391:RX 391 68:=by
 intro s A
 kernel_rfl
theorem rS67:RS 67 2:=by
 intro s A
 kernel_rfl
theorem rT233_21:RT 233 21 10:=by
 intro s A
 kernel_rfl
theorem rM84:RM 84 1:=by
 intro s A
 kernel_rfl
end Go.Ev
