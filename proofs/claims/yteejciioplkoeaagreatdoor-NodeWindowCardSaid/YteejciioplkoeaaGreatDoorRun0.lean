/- Passes of the loop, stretches of states. -/
import Derived.Test.YteejciioplkoeaaGreatDoorSt
namespace Go.Ev
open Go.Proofs
set_option maxRecDepth 1000000
set_option linter.unusedVariables false
theorem r35:RX 35 5:=by
 intro s A
 kernel_rfl
theorem r55:RX 55 5:=by
 intro s A
 kernel_rfl
theorem r99:RX 99 4:=by
 intro s A
 kernel_rfl
theorem r107:RX 107 5:=by
 intro s A
 kernel_rfl
theorem r112:RX 112 4:=by
 intro s A
 kernel_rfl
theorem r167:RX 167 4:=by
 intro s A
 kernel_rfl
theorem r226:RX 226 4:=by
 intro s A
 kernel_rfl
theorem r382:RX 382 4:=by
 intro s A
 kernel_rfl
theorem r410:RX 410 4:=by
 intro s A
 kernel_rfl
theorem r454:RX 454 4:=by
 intro s A
 kernel_rfl
theorem r466:RX 466 4:=by
 intro s A
 kernel_rfl
theorem r546:RX 546 4:=by
 intro s A
 kernel_rfl
theorem r614:RX 614 4:=by
 intro s A
 kernel_rfl
theorem r626:RX 626 4:=by
 intro s A
 kernel_rfl
theorem r670:RX 670 4:=by
 intro s A
 kernel_rfl
theorem r750:RX 750 4:=by
 intro s A
 kernel_rfl
theorem r814:RX 814 4:=by
 intro s A
 kernel_rfl
theorem r874:RX 874 4:=by
 intro s A
 kernel_rfl
theorem r914:RX 914 4:=by
 intro s A
 kernel_rfl
theorem r938:RX 938 4:=by
 intro s A
 kernel_rfl
theorem r998:RX 998 4:=by
 intro s A
 kernel_rfl
theorem r1062:RX 1062 4:=by
 intro s A
 kernel_rfl
theorem r1122:RX 1122 4:=by
 intro s A
 kernel_rfl
theorem r1130:RX 1130 4:=by
 intro s A
 kernel_rfl
end Go.Ev
