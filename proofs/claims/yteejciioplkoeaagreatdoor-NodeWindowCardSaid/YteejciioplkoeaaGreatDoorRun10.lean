/- Passes of the loop, stretches of states. -/
import Derived.Test.YteejciioplkoeaaGreatDoorSt
namespace Go.Ev
open Go.Proofs
set_option maxRecDepth 1000000
set_option linter.unusedVariables false
theorem r90:RX 90 5:=by
 intro s A
 kernel_rfl
theorem r137:RX 137 4:=by
 intro s A
 kernel_rfl
theorem r234:RX 234 5:=by
 intro s A
 kernel_rfl
theorem r247:RX 247 4:=by
 intro s A
 kernel_rfl
theorem r277:RX 277 4:=by
 intro s A
 kernel_rfl
theorem r306:RX 306 4:=by
 intro s A
 kernel_rfl
theorem r334:RX 334 4:=by
 intro s A
 kernel_rfl
theorem r402:RX 402 4:=by
 intro s A
 kernel_rfl
theorem r426:RX 426 4:=by
 intro s A
 kernel_rfl
theorem r486:RX 486 4:=by
 intro s A
 kernel_rfl
theorem r502:RX 502 4:=by
 intro s A
 kernel_rfl
theorem r582:RX 582 4:=by
 intro s A
 kernel_rfl
theorem r634:RX 634 4:=by
 intro s A
 kernel_rfl
theorem r710:RX 710 4:=by
 intro s A
 kernel_rfl
theorem r742:RX 742 4:=by
 intro s A
 kernel_rfl
theorem r794:RX 794 4:=by
 intro s A
 kernel_rfl
theorem r842:RX 842 4:=by
 intro s A
 kernel_rfl
theorem r854:RX 854 4:=by
 intro s A
 kernel_rfl
theorem r918:RX 918 4:=by
 intro s A
 kernel_rfl
theorem r978:RX 978 4:=by
 intro s A
 kernel_rfl
theorem r1038:RX 1038 4:=by
 intro s A
 kernel_rfl
theorem r1058:RX 1058 4:=by
 intro s A
 kernel_rfl
theorem r1102:RX 1102 4:=by
 intro s A
 kernel_rfl
theorem r1162:RX 1162 4:=by
 intro s A
 kernel_rfl
end Go.Ev
