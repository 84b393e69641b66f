/- Passes of the loop, stretches of states. -/
import Derived.Test.YteejciioplkoeaaGreatDoorSt
namespace Go.Ev
open Go.Proofs
set_option maxRecDepth 1000000
set_option linter.unusedVariables false
theorem r30:RX 30 5:=by
 intro s A
 kernel_rfl
theorem r158:RX 158 4:=by
 intro s A
 kernel_rfl
theorem r218:RX 218 4:=by
 intro s A
 kernel_rfl
theorem r260:RX 260 4:=by
 intro s A
 kernel_rfl
theorem r285:RX 285 5:=by
 intro s A
 kernel_rfl
theorem r314:RX 314 4:=by
 intro s A
 kernel_rfl
theorem r438:RX 438 4:=by
 intro s A
 kernel_rfl
theorem r446:RX 446 4:=by
 intro s A
 kernel_rfl
theorem r474:RX 474 4:=by
 intro s A
 kernel_rfl
theorem r530:RX 530 4:=by
 intro s A
 kernel_rfl
theorem r558:RX 558 4:=by
 intro s A
 kernel_rfl
theorem r606:RX 606 4:=by
 intro s A
 kernel_rfl
theorem r622:RX 622 4:=by
 intro s A
 kernel_rfl
theorem r702:RX 702 4:=by
 intro s A
 kernel_rfl
theorem r734:RX 734 4:=by
 intro s A
 kernel_rfl
theorem r762:RX 762 4:=by
 intro s A
 kernel_rfl
theorem r822:RX 822 4:=by
 intro s A
 kernel_rfl
theorem r886:RX 886 4:=by
 intro s A
 kernel_rfl
theorem r946:RX 946 4:=by
 intro s A
 kernel_rfl
theorem r1010:RX 1010 4:=by
 intro s A
 kernel_rfl
theorem r1022:RX 1022 4:=by
 intro s A
 kernel_rfl
theorem r1070:RX 1070 4:=by
 intro s A
 kernel_rfl
theorem r1134:RX 1134 4:=by
 intro s A
 kernel_rfl
theorem r1170:RX 1170 5:=by
 intro s A
 kernel_rfl
end Go.Ev
