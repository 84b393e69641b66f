/- Passes of the loops, stretches of states. -/
import Derived.Test.YtppmmlkamcclkaaGreatDoorSt
namespace Go.Ev
open Go.Proofs
set_option maxRecDepth 1000000
set_option linter.unusedVariables false
theorem rC7_43:RC 7 43 2:=by
 intro s A
 kernel_rfl
theorem rC7_235:RC 7 235 2:=by
 intro s A
 kernel_rfl
theorem rC8_171:RC 8 171 2:=by
 intro s A
 kernel_rfl
theorem rC5_56:RC 5 56 5:=by
 intro s A
 kernel_rfl
theorem rC7_176:RC 7 176 5:=by
 intro s A
 kernel_rfl
theorem rC5_37:RC 5 37 8:=by
 intro s A
 kernel_rfl
theorem rC7_75:RC 7 75 3:=by
 intro s A
 kernel_rfl
theorem rC6_23:RC 6 23 2:=by
 intro s A
 kernel_rfl
theorem rC7_145:RC 7 145 6:=by
 intro s A
 kernel_rfl
theorem rC7_181:RC 7 181 2:=by
 intro s A
 kernel_rfl
theorem rC6_1_0:RD 6 1 1 0:=by
 intro s A
 kernel_rfl
theorem rC6_13:RC 6 13 1:=by
 intro s A
 kernel_rfl
theorem rC6_127_1:RD 6 127 1 1:=by
 intro s A
 kernel_rfl
theorem rC7_6_1:RD 7 6 1 1:=by
 intro s A
 kernel_rfl
theorem rC7_15_2:RD 7 15 2 2:=by
 intro s A
 kernel_rfl
theorem rC7_31_1:RD 7 31 2 1:=by
 intro s A
 kernel_rfl
theorem rC7_61_0:RD 7 61 1 0:=by
 intro s A
 kernel_rfl
theorem rC7_111_1:RD 7 111 1 1:=by
 intro s A
 kernel_rfl
theorem rC7_127_2:RD 7 127 2 2:=by
 intro s A
 kernel_rfl
theorem rC7_246:RC 7 246 1:=by
 intro s A
 kernel_rfl
theorem rC8_1_0:RD 8 1 3 0:=by
 intro s A
 kernel_rfl
theorem rC8_3_3:RD 8 3 3 3:=by
 intro s A
 kernel_rfl
theorem rC8_7_0:RD 8 7 3 0:=by
 intro s A
 kernel_rfl
theorem rC8_11_2:RD 8 11 2 2:=by
 intro s A
 kernel_rfl
theorem rC8_15_3:RD 8 15 3 3:=by
 intro s A
 kernel_rfl
theorem rC8_23_2:RD 8 23 2 2:=by
 intro s A
 kernel_rfl
theorem rC8_29_2:RD 8 29 2 2:=by
 intro s A
 kernel_rfl
theorem rC8_38:RC 8 38 1:=by
 intro s A
 kernel_rfl
theorem rC8_50:RC 8 50 1:=by
 intro s A
 kernel_rfl
theorem rC8_58_0:RD 8 58 1 0:=by
 intro s A
 kernel_rfl
theorem rC8_62_3:RD 8 62 2 3:=by
 intro s A
 kernel_rfl
theorem rC8_87_0:RD 8 87 1 0:=by
 intro s A
 kernel_rfl
theorem rC8_102:RC 8 102 1:=by
 intro s A
 kernel_rfl
theorem rC8_114:RC 8 114 1:=by
 intro s A
 kernel_rfl
theorem rC8_122_0:RD 8 122 1 0:=by
 intro s A
 kernel_rfl
theorem rC8_126_3:RD 8 126 2 3:=by
 intro s A
 kernel_rfl
theorem rC8_175_0:RD 8 175 1 0:=by
 intro s A
 kernel_rfl
theorem rC8_191_1:RD 8 191 2 1:=by
 intro s A
 kernel_rfl
theorem rC8_221_0:RD 8 221 1 0:=by
 intro s A
 kernel_rfl
theorem rC8_236:RC 8 236 1:=by
 intro s A
 kernel_rfl
theorem rC8_246_0:RD 8 246 1 0:=by
 intro s A
 kernel_rfl
theorem rC8_252_0:RD 8 252 1 0:=by
 intro s A
 kernel_rfl
theorem rC8_255_5:RD 8 255 3 5:=by
 intro s A
 kernel_rfl
theorem rB5_9:RB 5 9 8:=by
 intro s A
 kernel_rfl
theorem rB7_41:RB 7 41 8:=by
 intro s A
 kernel_rfl
theorem rB8_41:RB 8 41 8:=by
 intro s A
 kernel_rfl
theorem rB7_236:RB 7 236 20:=by
 intro s A
 kernel_rfl
theorem rC0_1:RC 0 1 1:=by
 intro s A
 kernel_rfl
end Go.Ev
