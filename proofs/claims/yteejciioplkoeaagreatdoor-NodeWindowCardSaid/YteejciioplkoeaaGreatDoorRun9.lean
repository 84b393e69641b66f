/- Passes of the loop, stretches of states. -/
import Derived.Test.YteejciioplkoeaaGreatDoorSt
namespace Go.Ev
open Go.Proofs
set_option maxRecDepth 1000000
set_option linter.unusedVariables false
theorem r75:RX 75 5:=by
 intro s A
 kernel_rfl
theorem r133:RX 133 4:=by
 intro s A
 kernel_rfl
theorem r175:RX 175 4:=by
 intro s A
 kernel_rfl
theorem r196:RX 196 5:=by
 intro s A
 kernel_rfl
theorem r273:RX 273 4:=by
 intro s A
 kernel_rfl
theorem r350:RX 350 4:=by
 intro s A
 kernel_rfl
theorem r406:RX 406 4:=by
 intro s A
 kernel_rfl
theorem r414:RX 414 4:=by
 intro s A
 kernel_rfl
theorem r518:RX 518 4:=by
 intro s A
 kernel_rfl
theorem r566:RX 566 4:=by
 intro s A
 kernel_rfl
theorem r586:RX 586 4:=by
 intro s A
 kernel_rfl
theorem r610:RX 610 4:=by
 intro s A
 kernel_rfl
theorem r638:RX 638 4:=by
 intro s A
 kernel_rfl
theorem r666:RX 666 4:=by
 intro s A
 kernel_rfl
theorem r714:RX 714 4:=by
 intro s A
 kernel_rfl
theorem r746:RX 746 4:=by
 intro s A
 kernel_rfl
theorem r802:RX 802 4:=by
 intro s A
 kernel_rfl
theorem r866:RX 866 4:=by
 intro s A
 kernel_rfl
theorem r878:RX 878 4:=by
 intro s A
 kernel_rfl
theorem r926:RX 926 4:=by
 intro s A
 kernel_rfl
theorem r990:RX 990 4:=by
 intro s A
 kernel_rfl
theorem r1050:RX 1050 4:=by
 intro s A
 kernel_rfl
theorem r1094:RX 1094 4:=by
 intro s A
 kernel_rfl
theorem r1110:RX 1110 4:=by
 intro s A
 kernel_rfl
end Go.Ev
