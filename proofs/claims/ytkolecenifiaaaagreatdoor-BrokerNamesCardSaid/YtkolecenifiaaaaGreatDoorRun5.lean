/- Passes of the loop, stretches of states. -/
import Derived.Test.YtkolecenifiaaaaGreatDoorSt
namespace Go.Ev
open Go.Proofs
set_option maxRecDepth 1000000
set_option linter.unusedVariables false
theorem r17:RX 17 3:=by
 intro s A
 kernel_rfl
theorem r67:RX 67 2:=by
 intro s A
 kernel_rfl
theorem r79:RX 79 2:=by
 intro s A
 kernel_rfl
theorem r93:RX 93 1:=by
 intro s A
 kernel_rfl
theorem r96:RX 96 1:=by
 intro s A
 kernel_rfl
theorem r123:RX 123 3:=by
 intro s A
 kernel_rfl
theorem r131:RX 131 2:=by
 intro s A
 kernel_rfl
theorem r157:RX 157 2:=by
 intro s A
 kernel_rfl
theorem r159:RX 159 2:=by
 intro s A
 kernel_rfl
theorem r165:RX 165 2:=by
 intro s A
 kernel_rfl
theorem r170:RX 170 1:=by
 intro s A
 kernel_rfl
theorem r178:RX 178 1:=by
 intro s A
 kernel_rfl
theorem r186:RX 186 1:=by
 intro s A
 kernel_rfl
theorem r189:RX 189 1:=by
 intro s A
 kernel_rfl
theorem r194:RX 194 1:=by
 intro s A
 kernel_rfl
theorem r204:RX 204 1:=by
 intro s A
 kernel_rfl
theorem r211:RX 211 2:=by
 intro s A
 kernel_rfl
theorem r227:RX 227 1:=by
 intro s A
 kernel_rfl
theorem r231:RX 231 1:=by
 intro s A
 kernel_rfl
theorem r237:RX 237 1:=by
 intro s A
 kernel_rfl
theorem r371:RX 371 49:=by
 intro s A
 kernel_rfl
end Go.Ev
