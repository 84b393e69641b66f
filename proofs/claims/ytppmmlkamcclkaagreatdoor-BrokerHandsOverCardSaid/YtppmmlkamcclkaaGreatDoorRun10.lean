/- Passes of the loops, stretches of states. -/
import Derived.Test.YtppmmlkamcclkaaGreatDoorSt
namespace Go.Ev
open Go.Proofs
set_option maxRecDepth 1000000
set_option linter.unusedVariables false
theorem rC6_123:RC 6 123 2:=by
 intro s A
 kernel_rfl
theorem rC7_174:RC 7 174 2:=by
 intro s A
 kernel_rfl
theorem rC8_104:RC 8 104 2:=by
 intro s A
 kernel_rfl
theorem rC4_27:RC 4 27 5:=by
 intro s A
 kernel_rfl
theorem rC6_112:RC 6 112 5:=by
 intro s A
 kernel_rfl
theorem rC5_45:RC 5 45 6:=by
 intro s A
 kernel_rfl
theorem rC8_224:RC 8 224 3:=by
 intro s A
 kernel_rfl
theorem rC8_199:RC 8 199 2:=by
 intro s A
 kernel_rfl
theorem rC5_13:RC 5 13 2:=by
 intro s A
 kernel_rfl
theorem rC6_25:RC 6 25 2:=by
 intro s A
 kernel_rfl
theorem rC7_229:RC 7 229 2:=by
 intro s A
 kernel_rfl
theorem rC6_3_1:RD 6 3 1 1:=by
 intro s A
 kernel_rfl
theorem rC6_63_1:RD 6 63 1 1:=by
 intro s A
 kernel_rfl
theorem rC7_4:RC 7 4 1:=by
 intro s A
 kernel_rfl
theorem rC7_14_0:RD 7 14 1 0:=by
 intro s A
 kernel_rfl
theorem rC7_29_1:RD 7 29 1 1:=by
 intro s A
 kernel_rfl
theorem rC7_58:RC 7 58 1:=by
 intro s A
 kernel_rfl
theorem rC7_95_1:RD 7 95 1 1:=by
 intro s A
 kernel_rfl
theorem rC7_126_0:RD 7 126 1 0:=by
 intro s A
 kernel_rfl
theorem rC7_238:RC 7 238 1:=by
 intro s A
 kernel_rfl
theorem rC7_255_0:RD 7 255 2 0:=by
 intro s A
 kernel_rfl
theorem rC8_2_3:RD 8 2 2 3:=by
 intro s A
 kernel_rfl
theorem rC8_6_0:RD 8 6 2 0:=by
 intro s A
 kernel_rfl
theorem rC8_10_0:RD 8 10 1 0:=by
 intro s A
 kernel_rfl
theorem rC8_14_3:RD 8 14 2 3:=by
 intro s A
 kernel_rfl
theorem rC8_22_0:RD 8 22 1 0:=by
 intro s A
 kernel_rfl
theorem rC8_28_0:RD 8 28 1 0:=by
 intro s A
 kernel_rfl
theorem rC8_31_5:RD 8 31 3 5:=by
 intro s A
 kernel_rfl
theorem rC8_47_0:RD 8 47 2 0:=by
 intro s A
 kernel_rfl
theorem rC8_55_3:RD 8 55 2 3:=by
 intro s A
 kernel_rfl
theorem rC8_61_3:RD 8 61 2 3:=by
 intro s A
 kernel_rfl
theorem rC8_79_0:RD 8 79 1 0:=by
 intro s A
 kernel_rfl
theorem rC8_95_1:RD 8 95 2 1:=by
 intro s A
 kernel_rfl
theorem rC8_111_0:RD 8 111 2 0:=by
 intro s A
 kernel_rfl
theorem rC8_119_3:RD 8 119 2 3:=by
 intro s A
 kernel_rfl
theorem rC8_125_3:RD 8 125 2 3:=by
 intro s A
 kernel_rfl
theorem rC8_159_0:RD 8 159 1 0:=by
 intro s A
 kernel_rfl
theorem rC8_189_1:RD 8 189 1 1:=by
 intro s A
 kernel_rfl
theorem rC8_218:RC 8 218 1:=by
 intro s A
 kernel_rfl
theorem rC8_231_1:RD 8 231 1 1:=by
 intro s A
 kernel_rfl
theorem rC8_243_1:RD 8 243 1 1:=by
 intro s A
 kernel_rfl
theorem rC8_251_0:RD 8 251 2 0:=by
 intro s A
 kernel_rfl
theorem rC8_255_1:RD 8 255 3 1:=by
 intro s A
 kernel_rfl
theorem rB8_136:RB 8 136 50:=by
 intro s A
 kernel_rfl
theorem rB7_17:RB 7 17 8:=by
 intro s A
 kernel_rfl
theorem rB8_17:RB 8 17 8:=by
 intro s A
 kernel_rfl
theorem rB5_40:RB 5 40 24:=by
 intro s A
 kernel_rfl
theorem rB6_122:RB 6 122 6:=by
 intro s A
 kernel_rfl
end Go.Ev
