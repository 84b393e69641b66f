/- Passes of the loop, stretches of states. -/
import Derived.Test.YteejciioplkoeaaGreatDoorSt
namespace Go.Ev
open Go.Proofs
set_option maxRecDepth 1000000
set_option linter.unusedVariables false
theorem r60:RX 60 5:=by
 intro s A
 kernel_rfl
theorem r120:RX 120 4:=by
 intro s A
 kernel_rfl
theorem r146:RX 146 4:=by
 intro s A
 kernel_rfl
theorem r239:RX 239 4:=by
 intro s A
 kernel_rfl
theorem r251:RX 251 5:=by
 intro s A
 kernel_rfl
theorem r294:RX 294 4:=by
 intro s A
 kernel_rfl
theorem r318:RX 318 4:=by
 intro s A
 kernel_rfl
theorem r362:RX 362 4:=by
 intro s A
 kernel_rfl
theorem r442:RX 442 4:=by
 intro s A
 kernel_rfl
theorem r534:RX 534 4:=by
 intro s A
 kernel_rfl
theorem r538:RX 538 4:=by
 intro s A
 kernel_rfl
theorem r550:RX 550 4:=by
 intro s A
 kernel_rfl
theorem r554:RX 554 4:=by
 intro s A
 kernel_rfl
theorem r686:RX 686 4:=by
 intro s A
 kernel_rfl
theorem r754:RX 754 4:=by
 intro s A
 kernel_rfl
theorem r766:RX 766 4:=by
 intro s A
 kernel_rfl
theorem r830:RX 830 4:=by
 intro s A
 kernel_rfl
theorem r890:RX 890 4:=by
 intro s A
 kernel_rfl
theorem r934:RX 934 4:=by
 intro s A
 kernel_rfl
theorem r954:RX 954 4:=by
 intro s A
 kernel_rfl
theorem r1014:RX 1014 4:=by
 intro s A
 kernel_rfl
theorem r1074:RX 1074 4:=by
 intro s A
 kernel_rfl
theorem r1138:RX 1138 4:=by
 intro s A
 kernel_rfl
theorem r1150:RX 1150 4:=by
 intro s A
 kernel_rfl
end Go.Ev
