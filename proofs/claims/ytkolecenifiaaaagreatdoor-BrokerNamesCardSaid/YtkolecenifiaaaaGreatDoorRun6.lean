/- Passes of the loop, stretches of states. -/
import Derived.Test.YtkolecenifiaaaaGreatDoorSt
namespace Go.Ev
open Go.Proofs
set_option maxRecDepth 1000000
set_option linter.unusedVariables false
theorem r11:RX 11 3:=by
 intro s A
 kernel_rfl
theorem r43:RX 43 1:=by
 intro s A
 kernel_rfl
theorem r107:RX 107 1:=by
 intro s A
 kernel_rfl
theorem r108:RX 108 1:=by
 intro s A
 kernel_rfl
theorem r137:RX 137 2:=by
 intro s A
 kernel_rfl
theorem r147:RX 147 2:=by
 intro s A
 kernel_rfl
theorem r155:RX 155 2:=by
 intro s A
 kernel_rfl
theorem r163:RX 163 2:=by
 intro s A
 kernel_rfl
theorem r173:RX 173 1:=by
 intro s A
 kernel_rfl
theorem r181:RX 181 1:=by
 intro s A
 kernel_rfl
theorem r191:RX 191 1:=by
 intro s A
 kernel_rfl
theorem r197:RX 197 1:=by
 intro s A
 kernel_rfl
theorem r200:RX 200 1:=by
 intro s A
 kernel_rfl
theorem r207:RX 207 1:=by
 intro s A
 kernel_rfl
theorem r213:RX 213 2:=by
 intro s A
 kernel_rfl
theorem r222:RX 222 1:=by
 intro s A
 kernel_rfl
theorem r225:RX 225 1:=by
 intro s A
 kernel_rfl
theorem r246:RX 246 1:=by
 intro s A
 kernel_rfl
theorem r250:RX 250 1:=by
 intro s A
 kernel_rfl
theorem r252:RX 252 1:=by
 intro s A
 kernel_rfl
theorem r420:RX 420 49:=by
 intro s A
 kernel_rfl
end Go.Ev
