/- Passes of the loop, stretches of states. -/
import Derived.Test.YteejciioplkoeaaGreatDoorSt
namespace Go.Ev
open Go.Proofs
set_option maxRecDepth 1000000
set_option linter.unusedVariables false
theorem r10:RX 10 5:=by
 intro s A
 kernel_rfl
theorem r80:RX 80 5:=by
 intro s A
 kernel_rfl
theorem r103:RX 103 4:=by
 intro s A
 kernel_rfl
theorem r141:RX 141 5:=by
 intro s A
 kernel_rfl
theorem r222:RX 222 4:=by
 intro s A
 kernel_rfl
theorem r264:RX 264 4:=by
 intro s A
 kernel_rfl
theorem r346:RX 346 4:=by
 intro s A
 kernel_rfl
theorem r366:RX 366 4:=by
 intro s A
 kernel_rfl
theorem r470:RX 470 4:=by
 intro s A
 kernel_rfl
theorem r490:RX 490 4:=by
 intro s A
 kernel_rfl
theorem r522:RX 522 4:=by
 intro s A
 kernel_rfl
theorem r562:RX 562 4:=by
 intro s A
 kernel_rfl
theorem r594:RX 594 4:=by
 intro s A
 kernel_rfl
theorem r602:RX 602 4:=by
 intro s A
 kernel_rfl
theorem r618:RX 618 4:=by
 intro s A
 kernel_rfl
theorem r698:RX 698 4:=by
 intro s A
 kernel_rfl
theorem r758:RX 758 4:=by
 intro s A
 kernel_rfl
theorem r818:RX 818 4:=by
 intro s A
 kernel_rfl
theorem r882:RX 882 4:=by
 intro s A
 kernel_rfl
theorem r942:RX 942 4:=by
 intro s A
 kernel_rfl
theorem r1002:RX 1002 4:=by
 intro s A
 kernel_rfl
theorem r1006:RX 1006 4:=by
 intro s A
 kernel_rfl
theorem r1066:RX 1066 4:=by
 intro s A
 kernel_rfl
theorem r1126:RX 1126 4:=by
 intro s A
 kernel_rfl
end Go.Ev
