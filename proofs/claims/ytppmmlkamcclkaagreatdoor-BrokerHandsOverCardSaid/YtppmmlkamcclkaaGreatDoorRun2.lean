/- Passes of the loops, stretches of states. -/
import Derived.Test.YtppmmlkamcclkaaGreatDoorSt
namespace Go.Ev
open Go.Proofs
set_option maxRecDepth 1000000
set_option linter.unusedVariables false
theorem rC5_1:RC 5 1 2:=by
 intro s A
 kernel_rfl
theorem rC7_51:RC 7 51 2:=by
 intro s A
 kernel_rfl
theorem rC8_16:RC 8 16 2:=by
 intro s A
 kernel_rfl
theorem rC8_203:RC 8 203 2:=by
 intro s A
 kernel_rfl
theorem rC8_160:RC 8 160 5:=by
 intro s A
 kernel_rfl
theorem rC6_91:RC 6 91 3:=by
 intro s A
 kernel_rfl
theorem rC8_139:RC 8 139 3:=by
 intro s A
 kernel_rfl
theorem rC8_71:RC 8 71 2:=by
 intro s A
 kernel_rfl
theorem rC5_10:RC 5 10 3:=by
 intro s A
 kernel_rfl
theorem rC6_21:RC 6 21 2:=by
 intro s A
 kernel_rfl
theorem rC7_217:RC 7 217 2:=by
 intro s A
 kernel_rfl
theorem rC6_3_0:RD 6 3 1 0:=by
 intro s A
 kernel_rfl
theorem rC6_63_0:RD 6 63 1 0:=by
 intro s A
 kernel_rfl
theorem rC7_3_3:RD 7 3 2 3:=by
 intro s A
 kernel_rfl
theorem rC7_13_1:RD 7 13 1 1:=by
 intro s A
 kernel_rfl
theorem rC7_29_0:RD 7 29 1 0:=by
 intro s A
 kernel_rfl
theorem rC7_55_1:RD 7 55 1 1:=by
 intro s A
 kernel_rfl
theorem rC7_95_0:RD 7 95 1 0:=by
 intro s A
 kernel_rfl
theorem rC7_125_1:RD 7 125 1 1:=by
 intro s A
 kernel_rfl
theorem rC7_237:RC 7 237 1:=by
 intro s A
 kernel_rfl
theorem rC7_254_1:RD 7 254 1 1:=by
 intro s A
 kernel_rfl
theorem rC8_2_2:RD 8 2 2 2:=by
 intro s A
 kernel_rfl
theorem rC8_5_3:RD 8 5 2 3:=by
 intro s A
 kernel_rfl
theorem rC8_9_1:RD 8 9 1 1:=by
 intro s A
 kernel_rfl
theorem rC8_14_2:RD 8 14 2 2:=by
 intro s A
 kernel_rfl
theorem rC8_21_1:RD 8 21 1 1:=by
 intro s A
 kernel_rfl
theorem rC8_27_3:RD 8 27 2 3:=by
 intro s A
 kernel_rfl
theorem rC8_31_4:RD 8 31 3 4:=by
 intro s A
 kernel_rfl
theorem rC8_46_1:RD 8 46 1 1:=by
 intro s A
 kernel_rfl
theorem rC8_55_2:RD 8 55 2 2:=by
 intro s A
 kernel_rfl
theorem rC8_61_2:RD 8 61 2 2:=by
 intro s A
 kernel_rfl
theorem rC8_78:RC 8 78 1:=by
 intro s A
 kernel_rfl
theorem rC8_95_0:RD 8 95 2 0:=by
 intro s A
 kernel_rfl
theorem rC8_110_1:RD 8 110 1 1:=by
 intro s A
 kernel_rfl
theorem rC8_119_2:RD 8 119 2 2:=by
 intro s A
 kernel_rfl
theorem rC8_125_2:RD 8 125 2 2:=by
 intro s A
 kernel_rfl
theorem rC8_158:RC 8 158 1:=by
 intro s A
 kernel_rfl
theorem rC8_189_0:RD 8 189 1 0:=by
 intro s A
 kernel_rfl
theorem rC8_215_1:RD 8 215 1 1:=by
 intro s A
 kernel_rfl
theorem rC8_231_0:RD 8 231 1 0:=by
 intro s A
 kernel_rfl
theorem rC8_243_0:RD 8 243 1 0:=by
 intro s A
 kernel_rfl
theorem rC8_250_1:RD 8 250 1 1:=by
 intro s A
 kernel_rfl
theorem rC8_255_0:RD 8 255 3 0:=by
 intro s A
 kernel_rfl
theorem rB8_121:RB 8 121 15:=by
 intro s A
 kernel_rfl
theorem rB7_9:RB 7 9 8:=by
 intro s A
 kernel_rfl
theorem rB8_9:RB 8 9 8:=by
 intro s A
 kernel_rfl
theorem rA3:RA 3:=by
 intro s A
 kernel_rfl
end Go.Ev
