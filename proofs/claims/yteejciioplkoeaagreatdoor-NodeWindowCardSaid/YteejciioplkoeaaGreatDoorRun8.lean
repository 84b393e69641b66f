/- Passes of the loop, stretches of states. -/
import Derived.Test.YteejciioplkoeaaGreatDoorSt
namespace Go.Ev
open Go.Proofs
set_option maxRecDepth 1000000
set_option linter.unusedVariables false
theorem r65:RX 65 5:=by
 intro s A
 kernel_rfl
theorem r95:RX 95 4:=by
 intro s A
 kernel_rfl
theorem r154:RX 154 4:=by
 intro s A
 kernel_rfl
theorem r192:RX 192 4:=by
 intro s A
 kernel_rfl
theorem r256:RX 256 4:=by
 intro s A
 kernel_rfl
theorem r268:RX 268 5:=by
 intro s A
 kernel_rfl
theorem r330:RX 330 4:=by
 intro s A
 kernel_rfl
theorem r398:RX 398 4:=by
 intro s A
 kernel_rfl
theorem r422:RX 422 4:=by
 intro s A
 kernel_rfl
theorem r430:RX 430 4:=by
 intro s A
 kernel_rfl
theorem r498:RX 498 4:=by
 intro s A
 kernel_rfl
theorem r578:RX 578 4:=by
 intro s A
 kernel_rfl
theorem r706:RX 706 4:=by
 intro s A
 kernel_rfl
theorem r738:RX 738 4:=by
 intro s A
 kernel_rfl
theorem r786:RX 786 4:=by
 intro s A
 kernel_rfl
theorem r826:RX 826 4:=by
 intro s A
 kernel_rfl
theorem r850:RX 850 4:=by
 intro s A
 kernel_rfl
theorem r910:RX 910 4:=by
 intro s A
 kernel_rfl
theorem r974:RX 974 4:=by
 intro s A
 kernel_rfl
theorem r1034:RX 1034 4:=by
 intro s A
 kernel_rfl
theorem r1042:RX 1042 4:=by
 intro s A
 kernel_rfl
theorem r1098:RX 1098 4:=by
 intro s A
 kernel_rfl
theorem r1158:RX 1158 4:=by
 intro s A
 kernel_rfl
theorem r1180:RX 1180 5:=by
 intro s A
 kernel_rfl
theorem r1185:RX 1185 3:=by
 intro s A
 kernel_rfl
end Go.Ev
