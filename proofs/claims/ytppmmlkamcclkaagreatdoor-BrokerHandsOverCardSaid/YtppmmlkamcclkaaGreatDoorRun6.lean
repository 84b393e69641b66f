/- Passes of the loops, stretches of states. -/
import Derived.Test.YtppmmlkamcclkaaGreatDoorSt
namespace Go.Ev
open Go.Proofs
set_option maxRecDepth 1000000
set_option linter.unusedVariables false
theorem rC6_46:RC 6 46 2:=by
 intro s A
 kernel_rfl
theorem rC7_107:RC 7 107 2:=by
 intro s A
 kernel_rfl
theorem rC8_75:RC 8 75 2:=by
 intro s A
 kernel_rfl
theorem rC8_232:RC 8 232 2:=by
 intro s A
 kernel_rfl
theorem rC5_7:RC 5 7 3:=by
 intro s A
 kernel_rfl
theorem rC7_160:RC 7 160 7:=by
 intro s A
 kernel_rfl
theorem rC7_155:RC 7 155 3:=by
 intro s A
 kernel_rfl
theorem rC6_119:RC 6 119 2:=by
 intro s A
 kernel_rfl
theorem rC6_103:RC 6 103 4:=by
 intro s A
 kernel_rfl
theorem rC6_117:RC 6 117 2:=by
 intro s A
 kernel_rfl
theorem rC8_73:RC 8 73 2:=by
 intro s A
 kernel_rfl
theorem rC6_14:RC 6 14 1:=by
 intro s A
 kernel_rfl
theorem rC7_1_0:RD 7 1 2 0:=by
 intro s A
 kernel_rfl
theorem rC7_7_0:RD 7 7 2 0:=by
 intro s A
 kernel_rfl
theorem rC7_15_3:RD 7 15 2 3:=by
 intro s A
 kernel_rfl
theorem rC7_31_2:RD 7 31 2 2:=by
 intro s A
 kernel_rfl
theorem rC7_61_1:RD 7 61 1 1:=by
 intro s A
 kernel_rfl
theorem rC7_117:RC 7 117 1:=by
 intro s A
 kernel_rfl
theorem rC7_127_3:RD 7 127 2 3:=by
 intro s A
 kernel_rfl
theorem rC7_247_0:RD 7 247 1 0:=by
 intro s A
 kernel_rfl
theorem rC8_1_1:RD 8 1 3 1:=by
 intro s A
 kernel_rfl
theorem rC8_3_4:RD 8 3 3 4:=by
 intro s A
 kernel_rfl
theorem rC8_7_1:RD 8 7 3 1:=by
 intro s A
 kernel_rfl
theorem rC8_11_3:RD 8 11 2 3:=by
 intro s A
 kernel_rfl
theorem rC8_15_4:RD 8 15 3 4:=by
 intro s A
 kernel_rfl
theorem rC8_23_3:RD 8 23 2 3:=by
 intro s A
 kernel_rfl
theorem rC8_29_3:RD 8 29 2 3:=by
 intro s A
 kernel_rfl
theorem rC8_39_0:RD 8 39 1 0:=by
 intro s A
 kernel_rfl
theorem rC8_51_0:RD 8 51 1 0:=by
 intro s A
 kernel_rfl
theorem rC8_58_1:RD 8 58 1 1:=by
 intro s A
 kernel_rfl
theorem rC8_63_0:RD 8 63 3 0:=by
 intro s A
 kernel_rfl
theorem rC8_87_1:RD 8 87 1 1:=by
 intro s A
 kernel_rfl
theorem rC8_103_0:RD 8 103 1 0:=by
 intro s A
 kernel_rfl
theorem rC8_115_0:RD 8 115 1 0:=by
 intro s A
 kernel_rfl
theorem rC8_122_1:RD 8 122 1 1:=by
 intro s A
 kernel_rfl
theorem rC8_127_0:RD 8 127 3 0:=by
 intro s A
 kernel_rfl
theorem rC8_175_1:RD 8 175 1 1:=by
 intro s A
 kernel_rfl
theorem rC8_191_2:RD 8 191 2 2:=by
 intro s A
 kernel_rfl
theorem rC8_221_1:RD 8 221 1 1:=by
 intro s A
 kernel_rfl
theorem rC8_237_0:RD 8 237 1 0:=by
 intro s A
 kernel_rfl
theorem rC8_246_1:RD 8 246 1 1:=by
 intro s A
 kernel_rfl
theorem rC8_252_1:RD 8 252 1 1:=by
 intro s A
 kernel_rfl
theorem rC8_255_6:RD 8 255 3 6:=by
 intro s A
 kernel_rfl
theorem rB5_17:RB 5 17 8:=by
 intro s A
 kernel_rfl
theorem rB7_49:RB 7 49 8:=by
 intro s A
 kernel_rfl
theorem rB8_49:RB 8 49 8:=by
 intro s A
 kernel_rfl
theorem rB8_236:RB 8 236 20:=by
 intro s A
 kernel_rfl
theorem rA0:RA 0:=by
 intro s A
 kernel_rfl
end Go.Ev
