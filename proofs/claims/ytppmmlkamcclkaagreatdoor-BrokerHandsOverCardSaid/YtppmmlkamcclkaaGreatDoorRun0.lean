/- Passes of the loops, stretches of states. -/
import Derived.Test.YtppmmlkamcclkaaGreatDoorSt
namespace Go.Ev
open Go.Proofs
set_option maxRecDepth 1000000
set_option linter.unusedVariables false
theorem rC6_75:RC 6 75 6:=by
 intro s A
 kernel_rfl
theorem rC7_243:RC 7 243 2:=by
 intro s A
 kernel_rfl
theorem rC8_179:RC 8 179 2:=by
 intro s A
 kernel_rfl
theorem rC6_16:RC 6 16 5:=by
 intro s A
 kernel_rfl
theorem rC7_208:RC 7 208 5:=by
 intro s A
 kernel_rfl
theorem rC6_32:RC 6 32 7:=by
 intro s A
 kernel_rfl
theorem rC7_16:RC 7 16 3:=by
 intro s A
 kernel_rfl
theorem rC4_17:RC 4 17 10:=by
 intro s A
 kernel_rfl
theorem rC6_39:RC 6 39 4:=by
 intro s A
 kernel_rfl
theorem rC6_53:RC 6 53 2:=by
 intro s A
 kernel_rfl
theorem rC7_233:RC 7 233 2:=by
 intro s A
 kernel_rfl
theorem rC6_6:RC 6 6 1:=by
 intro s A
 kernel_rfl
theorem rC6_125:RC 6 125 1:=by
 intro s A
 kernel_rfl
theorem rC7_5_0:RD 7 5 1 0:=by
 intro s A
 kernel_rfl
theorem rC7_14_1:RD 7 14 1 1:=by
 intro s A
 kernel_rfl
theorem rC7_30_0:RD 7 30 1 0:=by
 intro s A
 kernel_rfl
theorem rC7_59_0:RD 7 59 1 0:=by
 intro s A
 kernel_rfl
theorem rC7_109:RC 7 109 1:=by
 intro s A
 kernel_rfl
theorem rC7_126_1:RD 7 126 1 1:=by
 intro s A
 kernel_rfl
theorem rC7_239_0:RD 7 239 1 0:=by
 intro s A
 kernel_rfl
theorem rC7_255_1:RD 7 255 2 1:=by
 intro s A
 kernel_rfl
theorem rC8_3_0:RD 8 3 3 0:=by
 intro s A
 kernel_rfl
theorem rC8_6_1:RD 8 6 2 1:=by
 intro s A
 kernel_rfl
theorem rC8_10_1:RD 8 10 1 1:=by
 intro s A
 kernel_rfl
theorem rC8_15_0:RD 8 15 3 0:=by
 intro s A
 kernel_rfl
theorem rC8_22_1:RD 8 22 1 1:=by
 intro s A
 kernel_rfl
theorem rC8_28_1:RD 8 28 1 1:=by
 intro s A
 kernel_rfl
theorem rC8_31_6:RD 8 31 3 6:=by
 intro s A
 kernel_rfl
theorem rC8_47_1:RD 8 47 2 1:=by
 intro s A
 kernel_rfl
theorem rC8_56:RC 8 56 1:=by
 intro s A
 kernel_rfl
theorem rC8_62_0:RD 8 62 2 0:=by
 intro s A
 kernel_rfl
theorem rC8_79_1:RD 8 79 1 1:=by
 intro s A
 kernel_rfl
theorem rC8_95_2:RD 8 95 2 2:=by
 intro s A
 kernel_rfl
theorem rC8_111_1:RD 8 111 2 1:=by
 intro s A
 kernel_rfl
theorem rC8_120:RC 8 120 1:=by
 intro s A
 kernel_rfl
theorem rC8_126_0:RD 8 126 2 0:=by
 intro s A
 kernel_rfl
theorem rC8_159_1:RD 8 159 1 1:=by
 intro s A
 kernel_rfl
theorem rC8_190_0:RD 8 190 1 0:=by
 intro s A
 kernel_rfl
theorem rC8_219_0:RD 8 219 1 0:=by
 intro s A
 kernel_rfl
theorem rC8_234:RC 8 234 1:=by
 intro s A
 kernel_rfl
theorem rC8_244:RC 8 244 1:=by
 intro s A
 kernel_rfl
theorem rC8_251_1:RD 8 251 2 1:=by
 intro s A
 kernel_rfl
theorem rC8_255_2:RD 8 255 3 2:=by
 intro s A
 kernel_rfl
theorem rB8_186:RB 8 186 50:=by
 intro s A
 kernel_rfl
theorem rB7_65:RB 7 65 8:=by
 intro s A
 kernel_rfl
theorem rB8_65:RB 8 65 8:=by
 intro s A
 kernel_rfl
theorem rA1:RA 1:=by
 intro s A
 kernel_rfl
theorem rB1_1:RB 1 1 3:=by
 intro s A
 kernel_rfl
theorem rB0_1:RB 0 1 1:=by
 intro s A
 kernel_rfl
end Go.Ev
