/- Passes of the loops, stretches of states. -/
import Derived.Test.YtppmmlkamcclkaaGreatDoorSt
namespace Go.Ev
open Go.Proofs
set_option maxRecDepth 1000000
set_option linter.unusedVariables false
theorem rC6_110:RC 6 110 2:=by
 intro s A
 kernel_rfl
theorem rC7_158:RC 7 158 2:=by
 intro s A
 kernel_rfl
theorem rC8_99:RC 8 99 2:=by
 intro s A
 kernel_rfl
theorem rC4_11:RC 4 11 6:=by
 intro s A
 kernel_rfl
theorem rC8_64:RC 8 64 5:=by
 intro s A
 kernel_rfl
theorem rC7_192:RC 7 192 7:=by
 intro s A
 kernel_rfl
theorem rC8_32:RC 8 32 3:=by
 intro s A
 kernel_rfl
theorem rC7_183:RC 7 183 2:=by
 intro s A
 kernel_rfl
theorem rC7_199:RC 7 199 4:=by
 intro s A
 kernel_rfl
theorem rC7_101:RC 7 101 2:=by
 intro s A
 kernel_rfl
theorem rC8_201:RC 8 201 2:=by
 intro s A
 kernel_rfl
theorem rC6_31_1:RD 6 31 1 1:=by
 intro s A
 kernel_rfl
theorem rC7_3_0:RD 7 3 2 0:=by
 intro s A
 kernel_rfl
theorem rC7_11_1:RD 7 11 1 1:=by
 intro s A
 kernel_rfl
theorem rC7_27_0:RD 7 27 1 0:=by
 intro s A
 kernel_rfl
theorem rC7_53:RC 7 53 1:=by
 intro s A
 kernel_rfl
theorem rC7_63_3:RD 7 63 2 3:=by
 intro s A
 kernel_rfl
theorem rC7_123_1:RD 7 123 1 1:=by
 intro s A
 kernel_rfl
theorem rC7_222:RC 7 222 1:=by
 intro s A
 kernel_rfl
theorem rC7_253_0:RD 7 253 1 0:=by
 intro s A
 kernel_rfl
theorem rC8_1_7:RD 8 1 3 7:=by
 intro s A
 kernel_rfl
theorem rC8_5_0:RD 8 5 2 0:=by
 intro s A
 kernel_rfl
theorem rC8_7_7:RD 8 7 3 7:=by
 intro s A
 kernel_rfl
theorem rC8_13_3:RD 8 13 2 3:=by
 intro s A
 kernel_rfl
theorem rC8_19_1:RD 8 19 1 1:=by
 intro s A
 kernel_rfl
theorem rC8_27_0:RD 8 27 2 0:=by
 intro s A
 kernel_rfl
theorem rC8_31_1:RD 8 31 3 1:=by
 intro s A
 kernel_rfl
theorem rC8_45_0:RD 8 45 1 0:=by
 intro s A
 kernel_rfl
theorem rC8_54_1:RD 8 54 1 1:=by
 intro s A
 kernel_rfl
theorem rC8_60_1:RD 8 60 1 1:=by
 intro s A
 kernel_rfl
theorem rC8_63_6:RD 8 63 3 6:=by
 intro s A
 kernel_rfl
theorem rC8_93_1:RD 8 93 1 1:=by
 intro s A
 kernel_rfl
theorem rC8_109_0:RD 8 109 1 0:=by
 intro s A
 kernel_rfl
theorem rC8_118_1:RD 8 118 1 1:=by
 intro s A
 kernel_rfl
theorem rC8_124_1:RD 8 124 1 1:=by
 intro s A
 kernel_rfl
theorem rC8_127_6:RD 8 127 3 6:=by
 intro s A
 kernel_rfl
theorem rC8_187_0:RD 8 187 1 0:=by
 intro s A
 kernel_rfl
theorem rC8_213:RC 8 213 1:=by
 intro s A
 kernel_rfl
theorem rC8_223_3:RD 8 223 2 3:=by
 intro s A
 kernel_rfl
theorem rC8_239_2:RD 8 239 2 2:=by
 intro s A
 kernel_rfl
theorem rC8_249_0:RD 8 249 1 0:=by
 intro s A
 kernel_rfl
theorem rC8_254_1:RD 8 254 2 1:=by
 intro s A
 kernel_rfl
theorem rB3_1:RB 3 1 15:=by
 intro s A
 kernel_rfl
theorem rB4_9:RB 4 9 15:=by
 intro s A
 kernel_rfl
theorem rB6_9:RB 6 9 8:=by
 intro s A
 kernel_rfl
theorem rB7_73:RB 7 73 8:=by
 intro s A
 kernel_rfl
theorem rB8_73:RB 8 73 8:=by
 intro s A
 kernel_rfl
end Go.Ev
