/- Passes of the loop, stretches of states. -/
import Derived.Test.YteejciioplkoeaaGreatDoorSt
namespace Go.Ev
open Go.Proofs
set_option maxRecDepth 1000000
set_option linter.unusedVariables false
theorem r50:RX 50 5:=by
 intro s A
 kernel_rfl
theorem r70:RX 70 5:=by
 intro s A
 kernel_rfl
theorem r116:RX 116 4:=by
 intro s A
 kernel_rfl
theorem r171:RX 171 4:=by
 intro s A
 kernel_rfl
theorem r213:RX 213 5:=by
 intro s A
 kernel_rfl
theorem r290:RX 290 4:=by
 intro s A
 kernel_rfl
theorem r310:RX 310 4:=by
 intro s A
 kernel_rfl
theorem r378:RX 378 4:=by
 intro s A
 kernel_rfl
theorem r390:RX 390 4:=by
 intro s A
 kernel_rfl
theorem r394:RX 394 4:=by
 intro s A
 kernel_rfl
theorem r462:RX 462 4:=by
 intro s A
 kernel_rfl
theorem r506:RX 506 4:=by
 intro s A
 kernel_rfl
theorem r654:RX 654 4:=by
 intro s A
 kernel_rfl
theorem r678:RX 678 4:=by
 intro s A
 kernel_rfl
theorem r722:RX 722 4:=by
 intro s A
 kernel_rfl
theorem r782:RX 782 4:=by
 intro s A
 kernel_rfl
theorem r806:RX 806 4:=by
 intro s A
 kernel_rfl
theorem r846:RX 846 4:=by
 intro s A
 kernel_rfl
theorem r906:RX 906 4:=by
 intro s A
 kernel_rfl
theorem r966:RX 966 4:=by
 intro s A
 kernel_rfl
theorem r986:RX 986 4:=by
 intro s A
 kernel_rfl
theorem r1030:RX 1030 4:=by
 intro s A
 kernel_rfl
theorem r1090:RX 1090 4:=by
 intro s A
 kernel_rfl
theorem r1154:RX 1154 4:=by
 intro s A
 kernel_rfl
end Go.Ev
