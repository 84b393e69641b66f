/- Passes of the loop, stretches of states. -/
import Derived.Test.YteejciioplkoeaaGreatDoorSt
namespace Go.Ev
open Go.Proofs
set_option maxRecDepth 1000000
set_option linter.unusedVariables false
theorem r0:RX 0 5:=by
 intro s A
 kernel_rfl
theorem r15:RX 15 5:=by
 intro s A
 kernel_rfl
theorem r40:RX 40 5:=by
 intro s A
 kernel_rfl
theorem r179:RX 179 5:=by
 intro s A
 kernel_rfl
theorem r188:RX 188 4:=by
 intro s A
 kernel_rfl
theorem r209:RX 209 4:=by
 intro s A
 kernel_rfl
theorem r338:RX 338 4:=by
 intro s A
 kernel_rfl
theorem r358:RX 358 4:=by
 intro s A
 kernel_rfl
theorem r434:RX 434 4:=by
 intro s A
 kernel_rfl
theorem r526:RX 526 4:=by
 intro s A
 kernel_rfl
theorem r598:RX 598 4:=by
 intro s A
 kernel_rfl
theorem r662:RX 662 4:=by
 intro s A
 kernel_rfl
theorem r694:RX 694 4:=by
 intro s A
 kernel_rfl
theorem r718:RX 718 4:=by
 intro s A
 kernel_rfl
theorem r778:RX 778 4:=by
 intro s A
 kernel_rfl
theorem r790:RX 790 4:=by
 intro s A
 kernel_rfl
theorem r838:RX 838 4:=by
 intro s A
 kernel_rfl
theorem r902:RX 902 4:=by
 intro s A
 kernel_rfl
theorem r962:RX 962 4:=by
 intro s A
 kernel_rfl
theorem r970:RX 970 4:=by
 intro s A
 kernel_rfl
theorem r1026:RX 1026 4:=by
 intro s A
 kernel_rfl
theorem r1086:RX 1086 4:=by
 intro s A
 kernel_rfl
theorem r1146:RX 1146 4:=by
 intro s A
 kernel_rfl
theorem r1175:RX 1175 5:=by
 intro s A
 kernel_rfl
end Go.Ev
