/- Passes of the loop, stretches of states. -/
import Derived.Test.YtkolecenifiaaaaGreatDoorSt
namespace Go.Ev
open Go.Proofs
set_option maxRecDepth 1000000
set_option linter.unusedVariables false
theorem r27:RX 27 3:=by
 intro s A
 kernel_rfl
theorem r47:RX 47 4:=by
 intro s A
 kernel_rfl
theorem r65:RX 65 2:=by
 intro s A
 kernel_rfl
theorem r88:RX 88 1:=by
 intro s A
 kernel_rfl
theorem r90:RX 90 1:=by
 intro s A
 kernel_rfl
theorem r97:RX 97 1:=by
 intro s A
 kernel_rfl
theorem r104:RX 104 2:=by
 intro s A
 kernel_rfl
theorem r109:RX 109 1:=by
 intro s A
 kernel_rfl
theorem r117:RX 117 3:=by
 intro s A
 kernel_rfl
theorem r139:RX 139 2:=by
 intro s A
 kernel_rfl
theorem r151:RX 151 2:=by
 intro s A
 kernel_rfl
theorem r175:RX 175 1:=by
 intro s A
 kernel_rfl
theorem r183:RX 183 1:=by
 intro s A
 kernel_rfl
theorem r205:RX 205 1:=by
 intro s A
 kernel_rfl
theorem r215:RX 215 2:=by
 intro s A
 kernel_rfl
theorem r228:RX 228 1:=by
 intro s A
 kernel_rfl
theorem r230:RX 230 1:=by
 intro s A
 kernel_rfl
theorem r236:RX 236 1:=by
 intro s A
 kernel_rfl
theorem r248:RX 248 1:=by
 intro s A
 kernel_rfl
theorem r253:RX 253 1:=by
 intro s A
 kernel_rfl
theorem r469:RX 469 49:=by
 intro s A
 kernel_rfl
end Go.Ev
