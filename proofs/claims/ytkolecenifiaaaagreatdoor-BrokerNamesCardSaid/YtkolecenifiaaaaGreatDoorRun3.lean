/- Passes of the loop, stretches of states. -/
import Derived.Test.YtkolecenifiaaaaGreatDoorSt
namespace Go.Ev
open Go.Proofs
set_option maxRecDepth 1000000
set_option linter.unusedVariables false
theorem r14:RX 14 3:=by
 intro s A
 kernel_rfl
theorem r24:RX 24 3:=by
 intro s A
 kernel_rfl
theorem r36:RX 36 2:=by
 intro s A
 kernel_rfl
theorem r60:RX 60 3:=by
 intro s A
 kernel_rfl
theorem r63:RX 63 2:=by
 intro s A
 kernel_rfl
theorem r71:RX 71 2:=by
 intro s A
 kernel_rfl
theorem r106:RX 106 1:=by
 intro s A
 kernel_rfl
theorem r126:RX 126 3:=by
 intro s A
 kernel_rfl
theorem r149:RX 149 2:=by
 intro s A
 kernel_rfl
theorem r172:RX 172 1:=by
 intro s A
 kernel_rfl
theorem r180:RX 180 1:=by
 intro s A
 kernel_rfl
theorem r188:RX 188 1:=by
 intro s A
 kernel_rfl
theorem r190:RX 190 1:=by
 intro s A
 kernel_rfl
theorem r196:RX 196 1:=by
 intro s A
 kernel_rfl
theorem r199:RX 199 1:=by
 intro s A
 kernel_rfl
theorem r206:RX 206 1:=by
 intro s A
 kernel_rfl
theorem r232:RX 232 1:=by
 intro s A
 kernel_rfl
theorem r238:RX 238 1:=by
 intro s A
 kernel_rfl
theorem r245:RX 245 1:=by
 intro s A
 kernel_rfl
theorem r273:RX 273 49:=by
 intro s A
 kernel_rfl
theorem r518:RX 518 49:=by
 intro s A
 kernel_rfl
theorem r567:RX 567 9:=by
 intro s A
 kernel_rfl
end Go.Ev
