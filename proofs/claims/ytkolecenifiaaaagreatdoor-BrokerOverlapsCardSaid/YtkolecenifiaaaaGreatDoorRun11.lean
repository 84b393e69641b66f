/- Passes of the loops, rounds, ends. -/
import Derived.Test.YtkolecenifiaaaaGreatDoorSt
namespace Go.Ev
open Go.Proofs
set_option maxRecDepth 1000000
set_option linter.unusedVariables false
theorem rA44:RA 44 4:=by
 intro s A
 kernel_rfl
theorem rA116:RA 116 4:=by
 intro s A
 kernel_rfl
theorem rT185_0:RT 185 0 22:=by
 intro s A
 kernel_rfl
theorem rT235_0:RT 235 0 22:=by
 intro s A
 kernel_rfl
theorem rS18:RS 18 4:=by
 intro s A
 kernel_rfl
theorem rS126:RS 126 4:=by
 intro s A
 kernel_rfl
theorem rM11:RM 11 1:=by
 intro s A
 kernel_rfl
theorem rN30_0:RN 30 0 4:=by
 intro s A
 kernel_rfl
theorem rM58:RM 58 1:=by
 intro s A
 kernel_rfl
theorem rM83:RM 83 1:=by
 intro s A
 kernel_rfl
theorem rM103:RM 103 1:=by
 intro s A
 kernel_rfl
theorem rN126_0:RN 126 0 4:=by
 intro s A
 kernel_rfl
theorem rS75:RS 75 2:=by
 intro s A
 kernel_rfl
theorem rS216:RS 216 2:=by
 intro s A
 kernel_rfl
theorem rM35:RM 35 2:=by
 intro s A
 kernel_rfl
theorem rX583:RX 583 48:=by
 intro s A
 kernel_rfl
theorem rS202:RS 202 2:=by
 intro s A
 kernel_rfl
theorem rM56:RM 56 1:=by
 intro s A
 kernel_rfl
theorem rT62_22:RT 62 22 3:=by
 intro s A
 kernel_rfl
theorem rT77_22:RT 77 22 3:=by
 intro s A
 kernel_rfl
theorem rT155_22:RT 155 22 3:=by
 intro s A
 kernel_rfl
theorem rT185_22:RT 185 22 3:=by
 intro s A
 kernel_rfl
theorem rT213_22:RT 213 22 3:=by
 intro s A
 kernel_rfl
theorem rT234_22:RT 234 22 3:=by
 intro s A
 kernel_rfl
end Go.Ev
