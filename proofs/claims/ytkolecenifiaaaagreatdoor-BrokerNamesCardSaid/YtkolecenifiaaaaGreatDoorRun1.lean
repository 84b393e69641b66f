/- Passes of the loop, stretches of states. -/
import Derived.Test.YtkolecenifiaaaaGreatDoorSt
namespace Go.Ev
open Go.Proofs
set_option maxRecDepth 1000000
set_option linter.unusedVariables false
theorem r6:RX 6 5:=by
 intro s A
 kernel_rfl
theorem r30:RX 30 2:=by
 intro s A
 kernel_rfl
theorem r38:RX 38 2:=by
 intro s A
 kernel_rfl
theorem r40:RX 40 3:=by
 intro s A
 kernel_rfl
theorem r45:RX 45 2:=by
 intro s A
 kernel_rfl
theorem r51:RX 51 3:=by
 intro s A
 kernel_rfl
theorem r57:RX 57 3:=by
 intro s A
 kernel_rfl
theorem r81:RX 81 2:=by
 intro s A
 kernel_rfl
theorem r92:RX 92 1:=by
 intro s A
 kernel_rfl
theorem r95:RX 95 1:=by
 intro s A
 kernel_rfl
theorem r129:RX 129 2:=by
 intro s A
 kernel_rfl
theorem r141:RX 141 2:=by
 intro s A
 kernel_rfl
theorem r153:RX 153 2:=by
 intro s A
 kernel_rfl
theorem r169:RX 169 1:=by
 intro s A
 kernel_rfl
theorem r177:RX 177 1:=by
 intro s A
 kernel_rfl
theorem r185:RX 185 1:=by
 intro s A
 kernel_rfl
theorem r193:RX 193 1:=by
 intro s A
 kernel_rfl
theorem r203:RX 203 1:=by
 intro s A
 kernel_rfl
theorem r219:RX 219 1:=by
 intro s A
 kernel_rfl
theorem r241:RX 241 1:=by
 intro s A
 kernel_rfl
theorem r251:RX 251 1:=by
 intro s A
 kernel_rfl
end Go.Ev
