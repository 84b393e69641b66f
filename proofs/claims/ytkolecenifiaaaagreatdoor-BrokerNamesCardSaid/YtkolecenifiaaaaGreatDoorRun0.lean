/- Passes of the loop, stretches of states. -/
import Derived.Test.YtkolecenifiaaaaGreatDoorSt
namespace Go.Ev
open Go.Proofs
set_option maxRecDepth 1000000
set_option linter.unusedVariables false
theorem r0:RX 0 6:=by
 intro s A
 kernel_rfl
theorem r20:RX 20 4:=by
 intro s A
 kernel_rfl
theorem r34:RX 34 2:=by
 intro s A
 kernel_rfl
theorem r75:RX 75 2:=by
 intro s A
 kernel_rfl
theorem r87:RX 87 1:=by
 intro s A
 kernel_rfl
theorem r94:RX 94 1:=by
 intro s A
 kernel_rfl
theorem r98:RX 98 2:=by
 intro s A
 kernel_rfl
theorem r120:RX 120 3:=by
 intro s A
 kernel_rfl
theorem r135:RX 135 2:=by
 intro s A
 kernel_rfl
theorem r145:RX 145 2:=by
 intro s A
 kernel_rfl
theorem r174:RX 174 1:=by
 intro s A
 kernel_rfl
theorem r182:RX 182 1:=by
 intro s A
 kernel_rfl
theorem r198:RX 198 1:=by
 intro s A
 kernel_rfl
theorem r202:RX 202 1:=by
 intro s A
 kernel_rfl
theorem r223:RX 223 1:=by
 intro s A
 kernel_rfl
theorem r226:RX 226 1:=by
 intro s A
 kernel_rfl
theorem r235:RX 235 1:=by
 intro s A
 kernel_rfl
theorem r243:RX 243 1:=by
 intro s A
 kernel_rfl
theorem r247:RX 247 1:=by
 intro s A
 kernel_rfl
theorem r249:RX 249 1:=by
 intro s A
 kernel_rfl
theorem r254:RX 254 1:=by
 intro s A
 kernel_rfl
end Go.Ev
