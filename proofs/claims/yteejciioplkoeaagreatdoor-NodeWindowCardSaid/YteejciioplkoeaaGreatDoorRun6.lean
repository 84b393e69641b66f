/- Passes of the loop, stretches of states. -/
import Derived.Test.YteejciioplkoeaaGreatDoorSt
namespace Go.Ev
open Go.Proofs
set_option maxRecDepth 1000000
set_option linter.unusedVariables false
theorem r5:RX 5 5:=by
 intro s A
 kernel_rfl
theorem r20:RX 20 5:=by
 intro s A
 kernel_rfl
theorem r25:RX 25 5:=by
 intro s A
 kernel_rfl
theorem r129:RX 129 4:=by
 intro s A
 kernel_rfl
theorem r150:RX 150 4:=by
 intro s A
 kernel_rfl
theorem r243:RX 243 4:=by
 intro s A
 kernel_rfl
theorem r298:RX 298 4:=by
 intro s A
 kernel_rfl
theorem r386:RX 386 4:=by
 intro s A
 kernel_rfl
theorem r458:RX 458 4:=by
 intro s A
 kernel_rfl
theorem r478:RX 478 4:=by
 intro s A
 kernel_rfl
theorem r574:RX 574 4:=by
 intro s A
 kernel_rfl
theorem r650:RX 650 4:=by
 intro s A
 kernel_rfl
theorem r674:RX 674 4:=by
 intro s A
 kernel_rfl
theorem r690:RX 690 4:=by
 intro s A
 kernel_rfl
theorem r770:RX 770 4:=by
 intro s A
 kernel_rfl
theorem r774:RX 774 4:=by
 intro s A
 kernel_rfl
theorem r834:RX 834 4:=by
 intro s A
 kernel_rfl
theorem r894:RX 894 4:=by
 intro s A
 kernel_rfl
theorem r950:RX 950 4:=by
 intro s A
 kernel_rfl
theorem r958:RX 958 4:=by
 intro s A
 kernel_rfl
theorem r1018:RX 1018 4:=by
 intro s A
 kernel_rfl
theorem r1082:RX 1082 4:=by
 intro s A
 kernel_rfl
theorem r1142:RX 1142 4:=by
 intro s A
 kernel_rfl
theorem r1166:RX 1166 4:=by
 intro s A
 kernel_rfl
end Go.Ev
