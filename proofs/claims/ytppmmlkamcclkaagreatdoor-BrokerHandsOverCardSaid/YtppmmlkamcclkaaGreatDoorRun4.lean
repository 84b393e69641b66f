/- Passes of the loops, stretches of states. -/
import Derived.Test.YtppmmlkamcclkaaGreatDoorSt
namespace Go.Ev
open Go.Proofs
set_option maxRecDepth 1000000
set_option linter.unusedVariables false
theorem rC6_11:RC 6 11 2:=by
 intro s A
 kernel_rfl
theorem rC7_78:RC 7 78 2:=by
 intro s A
 kernel_rfl
theorem rC8_40:RC 8 40 2:=by
 intro s A
 kernel_rfl
theorem rC8_216:RC 8 216 2:=by
 intro s A
 kernel_rfl
theorem rC5_31:RC 5 31 6:=by
 intro s A
 kernel_rfl
theorem rC6_43:RC 6 43 3:=by
 intro s A
 kernel_rfl
theorem rC8_80:RC 8 80 3:=by
 intro s A
 kernel_rfl
theorem rC7_215:RC 7 215 2:=by
 intro s A
 kernel_rfl
theorem rC8_135:RC 8 135 4:=by
 intro s A
 kernel_rfl
theorem rC7_105:RC 7 105 2:=by
 intro s A
 kernel_rfl
theorem rC5_63:RC 5 63 1:=by
 intro s A
 kernel_rfl
theorem rC6_7_1:RD 6 7 1 1:=by
 intro s A
 kernel_rfl
theorem rC6_127_0:RD 6 127 1 0:=by
 intro s A
 kernel_rfl
theorem rC7_6_0:RD 7 6 1 0:=by
 intro s A
 kernel_rfl
theorem rC7_15_1:RD 7 15 2 1:=by
 intro s A
 kernel_rfl
theorem rC7_31_0:RD 7 31 2 0:=by
 intro s A
 kernel_rfl
theorem rC7_60:RC 7 60 1:=by
 intro s A
 kernel_rfl
theorem rC7_111_0:RD 7 111 1 0:=by
 intro s A
 kernel_rfl
theorem rC7_127_1:RD 7 127 2 1:=by
 intro s A
 kernel_rfl
theorem rC7_245:RC 7 245 1:=by
 intro s A
 kernel_rfl
theorem rC7_255_3:RD 7 255 2 3:=by
 intro s A
 kernel_rfl
theorem rC8_3_2:RD 8 3 3 2:=by
 intro s A
 kernel_rfl
theorem rC8_6_3:RD 8 6 2 3:=by
 intro s A
 kernel_rfl
theorem rC8_11_1:RD 8 11 2 1:=by
 intro s A
 kernel_rfl
theorem rC8_15_2:RD 8 15 3 2:=by
 intro s A
 kernel_rfl
theorem rC8_23_1:RD 8 23 2 1:=by
 intro s A
 kernel_rfl
theorem rC8_29_1:RD 8 29 2 1:=by
 intro s A
 kernel_rfl
theorem rC8_37:RC 8 37 1:=by
 intro s A
 kernel_rfl
theorem rC8_47_3:RD 8 47 2 3:=by
 intro s A
 kernel_rfl
theorem rC8_57_1:RD 8 57 1 1:=by
 intro s A
 kernel_rfl
theorem rC8_62_2:RD 8 62 2 2:=by
 intro s A
 kernel_rfl
theorem rC8_86:RC 8 86 1:=by
 intro s A
 kernel_rfl
theorem rC8_101:RC 8 101 1:=by
 intro s A
 kernel_rfl
theorem rC8_111_3:RD 8 111 2 3:=by
 intro s A
 kernel_rfl
theorem rC8_121_1:RD 8 121 1 1:=by
 intro s A
 kernel_rfl
theorem rC8_126_2:RD 8 126 2 2:=by
 intro s A
 kernel_rfl
theorem rC8_174:RC 8 174 1:=by
 intro s A
 kernel_rfl
theorem rC8_191_0:RD 8 191 2 0:=by
 intro s A
 kernel_rfl
theorem rC8_220:RC 8 220 1:=by
 intro s A
 kernel_rfl
theorem rC8_235_1:RD 8 235 1 1:=by
 intro s A
 kernel_rfl
theorem rC8_245_1:RD 8 245 1 1:=by
 intro s A
 kernel_rfl
theorem rC8_251_3:RD 8 251 2 3:=by
 intro s A
 kernel_rfl
theorem rC8_255_4:RD 8 255 3 4:=by
 intro s A
 kernel_rfl
theorem rB5_1:RB 5 1 8:=by
 intro s A
 kernel_rfl
theorem rB7_33:RB 7 33 8:=by
 intro s A
 kernel_rfl
theorem rB8_33:RB 8 33 8:=by
 intro s A
 kernel_rfl
theorem rB2_1:RB 2 1 7:=by
 intro s A
 kernel_rfl
end Go.Ev
