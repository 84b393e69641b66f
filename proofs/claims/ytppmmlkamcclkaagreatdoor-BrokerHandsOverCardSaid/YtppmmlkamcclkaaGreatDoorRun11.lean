/- Passes of the loops, stretches of states. -/
import Derived.Test.YtppmmlkamcclkaaGreatDoorSt
namespace Go.Ev
open Go.Proofs
set_option maxRecDepth 1000000
set_option linter.unusedVariables false
theorem rC7_8:RC 7 8 2:=by
 intro s A
 kernel_rfl
theorem rC7_187:RC 7 187 2:=by
 intro s A
 kernel_rfl
theorem rC8_112:RC 8 112 2:=by
 intro s A
 kernel_rfl
theorem rC5_19:RC 5 19 5:=by
 intro s A
 kernel_rfl
theorem rC7_32:RC 7 32 5:=by
 intro s A
 kernel_rfl
theorem rC5_15:RC 5 15 4:=by
 intro s A
 kernel_rfl
theorem rC8_208:RC 8 208 3:=by
 intro s A
 kernel_rfl
theorem rC8_167:RC 8 167 2:=by
 intro s A
 kernel_rfl
theorem rC5_5:RC 5 5 2:=by
 intro s A
 kernel_rfl
theorem rC5_61:RC 5 61 2:=by
 intro s A
 kernel_rfl
theorem rC7_213:RC 7 213 2:=by
 intro s A
 kernel_rfl
theorem rC6_2:RC 6 2 1:=by
 intro s A
 kernel_rfl
theorem rC6_62:RC 6 62 1:=by
 intro s A
 kernel_rfl
theorem rC7_3_2:RD 7 3 2 2:=by
 intro s A
 kernel_rfl
theorem rC7_13_0:RD 7 13 1 0:=by
 intro s A
 kernel_rfl
theorem rC7_28:RC 7 28 1:=by
 intro s A
 kernel_rfl
theorem rC7_55_0:RD 7 55 1 0:=by
 intro s A
 kernel_rfl
theorem rC7_94:RC 7 94 1:=by
 intro s A
 kernel_rfl
theorem rC7_125_0:RD 7 125 1 0:=by
 intro s A
 kernel_rfl
theorem rC7_223_1:RD 7 223 1 1:=by
 intro s A
 kernel_rfl
theorem rC7_254_0:RD 7 254 1 0:=by
 intro s A
 kernel_rfl
theorem rC8_2_1:RD 8 2 2 1:=by
 intro s A
 kernel_rfl
theorem rC8_5_2:RD 8 5 2 2:=by
 intro s A
 kernel_rfl
theorem rC8_9_0:RD 8 9 1 0:=by
 intro s A
 kernel_rfl
theorem rC8_14_1:RD 8 14 2 1:=by
 intro s A
 kernel_rfl
theorem rC8_21_0:RD 8 21 1 0:=by
 intro s A
 kernel_rfl
theorem rC8_27_2:RD 8 27 2 2:=by
 intro s A
 kernel_rfl
theorem rC8_31_3:RD 8 31 3 3:=by
 intro s A
 kernel_rfl
theorem rC8_46_0:RD 8 46 1 0:=by
 intro s A
 kernel_rfl
theorem rC8_55_1:RD 8 55 2 1:=by
 intro s A
 kernel_rfl
theorem rC8_61_1:RD 8 61 2 1:=by
 intro s A
 kernel_rfl
theorem rC8_77:RC 8 77 1:=by
 intro s A
 kernel_rfl
theorem rC8_94_1:RD 8 94 1 1:=by
 intro s A
 kernel_rfl
theorem rC8_110_0:RD 8 110 1 0:=by
 intro s A
 kernel_rfl
theorem rC8_119_1:RD 8 119 2 1:=by
 intro s A
 kernel_rfl
theorem rC8_125_1:RD 8 125 2 1:=by
 intro s A
 kernel_rfl
theorem rC8_157:RC 8 157 1:=by
 intro s A
 kernel_rfl
theorem rC8_188:RC 8 188 1:=by
 intro s A
 kernel_rfl
theorem rC8_215_0:RD 8 215 1 0:=by
 intro s A
 kernel_rfl
theorem rC8_230:RC 8 230 1:=by
 intro s A
 kernel_rfl
theorem rC8_242:RC 8 242 1:=by
 intro s A
 kernel_rfl
theorem rC8_250_0:RD 8 250 1 0:=by
 intro s A
 kernel_rfl
theorem rC8_254_3:RD 8 254 2 3:=by
 intro s A
 kernel_rfl
theorem rB7_136:RB 7 136 50:=by
 intro s A
 kernel_rfl
theorem rB6_49:RB 6 49 8:=by
 intro s A
 kernel_rfl
theorem rB7_113:RB 7 113 8:=by
 intro s A
 kernel_rfl
theorem rB8_113:RB 8 113 8:=by
 intro s A
 kernel_rfl
end Go.Ev
