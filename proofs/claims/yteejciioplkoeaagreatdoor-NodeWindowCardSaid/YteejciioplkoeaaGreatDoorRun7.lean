/- Passes of the loop, stretches of states. -/
import Derived.Test.YteejciioplkoeaaGreatDoorSt
namespace Go.Ev
open Go.Proofs
set_option maxRecDepth 1000000
set_option linter.unusedVariables false
theorem r45:RX 45 5:=by
 intro s A
 kernel_rfl
theorem r124:RX 124 5:=by
 intro s A
 kernel_rfl
theorem r201:RX 201 4:=by
 intro s A
 kernel_rfl
theorem r230:RX 230 4:=by
 intro s A
 kernel_rfl
theorem r281:RX 281 4:=by
 intro s A
 kernel_rfl
theorem r322:RX 322 4:=by
 intro s A
 kernel_rfl
theorem r326:RX 326 4:=by
 intro s A
 kernel_rfl
theorem r370:RX 370 4:=by
 intro s A
 kernel_rfl
theorem r418:RX 418 4:=by
 intro s A
 kernel_rfl
theorem r450:RX 450 4:=by
 intro s A
 kernel_rfl
theorem r494:RX 494 4:=by
 intro s A
 kernel_rfl
theorem r514:RX 514 4:=by
 intro s A
 kernel_rfl
theorem r590:RX 590 4:=by
 intro s A
 kernel_rfl
theorem r646:RX 646 4:=by
 intro s A
 kernel_rfl
theorem r658:RX 658 4:=by
 intro s A
 kernel_rfl
theorem r730:RX 730 4:=by
 intro s A
 kernel_rfl
theorem r810:RX 810 4:=by
 intro s A
 kernel_rfl
theorem r870:RX 870 4:=by
 intro s A
 kernel_rfl
theorem r898:RX 898 4:=by
 intro s A
 kernel_rfl
theorem r930:RX 930 4:=by
 intro s A
 kernel_rfl
theorem r994:RX 994 4:=by
 intro s A
 kernel_rfl
theorem r1054:RX 1054 4:=by
 intro s A
 kernel_rfl
theorem r1114:RX 1114 4:=by
 intro s A
 kernel_rfl
theorem r1118:RX 1118 4:=by
 intro s A
 kernel_rfl
end Go.Ev
