/- Passes of the loop, stretches of states. -/
import Derived.Test.YtkolecenifiaaaaGreatDoorSt
namespace Go.Ev
open Go.Proofs
set_option maxRecDepth 1000000
set_option linter.unusedVariables false
theorem r32:RX 32 2:=by
 intro s A
 kernel_rfl
theorem r44:RX 44 1:=by
 intro s A
 kernel_rfl
theorem r69:RX 69 2:=by
 intro s A
 kernel_rfl
theorem r77:RX 77 2:=by
 intro s A
 kernel_rfl
theorem r83:RX 83 2:=by
 intro s A
 kernel_rfl
theorem r85:RX 85 2:=by
 intro s A
 kernel_rfl
theorem r102:RX 102 2:=by
 intro s A
 kernel_rfl
theorem r110:RX 110 1:=by
 intro s A
 kernel_rfl
theorem r111:RX 111 3:=by
 intro s A
 kernel_rfl
theorem r114:RX 114 3:=by
 intro s A
 kernel_rfl
theorem r171:RX 171 1:=by
 intro s A
 kernel_rfl
theorem r179:RX 179 1:=by
 intro s A
 kernel_rfl
theorem r187:RX 187 1:=by
 intro s A
 kernel_rfl
theorem r195:RX 195 1:=by
 intro s A
 kernel_rfl
theorem r217:RX 217 2:=by
 intro s A
 kernel_rfl
theorem r220:RX 220 1:=by
 intro s A
 kernel_rfl
theorem r229:RX 229 1:=by
 intro s A
 kernel_rfl
theorem r234:RX 234 1:=by
 intro s A
 kernel_rfl
theorem r242:RX 242 1:=by
 intro s A
 kernel_rfl
theorem r244:RX 244 1:=by
 intro s A
 kernel_rfl
theorem r255:RX 255 18:=by
 intro s A
 kernel_rfl
end Go.Ev
