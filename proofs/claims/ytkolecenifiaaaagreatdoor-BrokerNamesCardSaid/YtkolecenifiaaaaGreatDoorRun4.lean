/- Passes of the loop, stretches of states. -/
import Derived.Test.YtkolecenifiaaaaGreatDoorSt
namespace Go.Ev
open Go.Proofs
set_option maxRecDepth 1000000
set_option linter.unusedVariables false
theorem r54:RX 54 3:=by
 intro s A
 kernel_rfl
theorem r73:RX 73 2:=by
 intro s A
 kernel_rfl
theorem r89:RX 89 1:=by
 intro s A
 kernel_rfl
theorem r91:RX 91 1:=by
 intro s A
 kernel_rfl
theorem r100:RX 100 2:=by
 intro s A
 kernel_rfl
theorem r133:RX 133 2:=by
 intro s A
 kernel_rfl
theorem r143:RX 143 2:=by
 intro s A
 kernel_rfl
theorem r161:RX 161 2:=by
 intro s A
 kernel_rfl
theorem r167:RX 167 2:=by
 intro s A
 kernel_rfl
theorem r176:RX 176 1:=by
 intro s A
 kernel_rfl
theorem r184:RX 184 1:=by
 intro s A
 kernel_rfl
theorem r192:RX 192 1:=by
 intro s A
 kernel_rfl
theorem r201:RX 201 1:=by
 intro s A
 kernel_rfl
theorem r208:RX 208 1:=by
 intro s A
 kernel_rfl
theorem r209:RX 209 2:=by
 intro s A
 kernel_rfl
theorem r221:RX 221 1:=by
 intro s A
 kernel_rfl
theorem r224:RX 224 1:=by
 intro s A
 kernel_rfl
theorem r233:RX 233 1:=by
 intro s A
 kernel_rfl
theorem r239:RX 239 1:=by
 intro s A
 kernel_rfl
theorem r240:RX 240 1:=by
 intro s A
 kernel_rfl
theorem r322:RX 322 49:=by
 intro s A
 kernel_rfl
end Go.Ev
