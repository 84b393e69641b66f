/- Passes of the loop, stretches of states. -/
import Derived.Test.YteejciioplkoeaaGreatDoorSt
namespace Go.Ev
open Go.Proofs
set_option maxRecDepth 1000000
set_option linter.unusedVariables false
theorem r85:RX 85 5:=by
 intro s A
 kernel_rfl
theorem r162:RX 162 5:=by
 intro s A
 kernel_rfl
theorem r184:RX 184 4:=by
 intro s A
 kernel_rfl
theorem r205:RX 205 4:=by
 intro s A
 kernel_rfl
theorem r302:RX 302 4:=by
 intro s A
 kernel_rfl
theorem r342:RX 342 4:=by
 intro s A
 kernel_rfl
theorem r354:RX 354 4:=by
 intro s A
 kernel_rfl
theorem r374:RX 374 4:=by
 intro s A
 kernel_rfl
theorem r482:RX 482 4:=by
 intro s A
 kernel_rfl
theorem r510:RX 510 4:=by
 intro s A
 kernel_rfl
theorem r542:RX 542 4:=by
 intro s A
 kernel_rfl
theorem r570:RX 570 4:=by
 intro s A
 kernel_rfl
theorem r630:RX 630 4:=by
 intro s A
 kernel_rfl
theorem r642:RX 642 4:=by
 intro s A
 kernel_rfl
theorem r682:RX 682 4:=by
 intro s A
 kernel_rfl
theorem r726:RX 726 4:=by
 intro s A
 kernel_rfl
theorem r798:RX 798 4:=by
 intro s A
 kernel_rfl
theorem r858:RX 858 4:=by
 intro s A
 kernel_rfl
theorem r862:RX 862 4:=by
 intro s A
 kernel_rfl
theorem r922:RX 922 4:=by
 intro s A
 kernel_rfl
theorem r982:RX 982 4:=by
 intro s A
 kernel_rfl
theorem r1046:RX 1046 4:=by
 intro s A
 kernel_rfl
theorem r1078:RX 1078 4:=by
 intro s A
 kernel_rfl
theorem r1106:RX 1106 4:=by
 intro s A
 kernel_rfl
end Go.Ev
