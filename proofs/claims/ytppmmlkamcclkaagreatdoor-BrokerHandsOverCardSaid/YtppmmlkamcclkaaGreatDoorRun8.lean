/- Passes of the loops, stretches of states. -/
import Derived.Test.YtppmmlkamcclkaaGreatDoorSt
namespace Go.Ev
open Go.Proofs
set_option maxRecDepth 1000000
set_option linter.unusedVariables false
theorem rC6_94:RC 6 94 2:=by
 intro s A
 kernel_rfl
theorem rC7_120:RC 7 120 2:=by
 intro s A
 kernel_rfl
theorem rC8_88:RC 8 88 2:=by
 intro s A
 kernel_rfl
theorem rC3_1:RC 3 1 10:=by
 intro s A
 kernel_rfl
theorem rC8_144:RC 8 144 5:=by
 intro s A
 kernel_rfl
theorem rC6_8:RC 6 8 3:=by
 intro s A
 kernel_rfl
theorem rC7_240:RC 7 240 3:=by
 intro s A
 kernel_rfl
theorem rC7_103:RC 7 103 2:=by
 intro s A
 kernel_rfl
theorem rC7_167:RC 7 167 4:=by
 intro s A
 kernel_rfl
theorem rC7_89:RC 7 89 2:=by
 intro s A
 kernel_rfl
theorem rC8_197:RC 8 197 2:=by
 intro s A
 kernel_rfl
theorem rC6_31_0:RD 6 31 1 0:=by
 intro s A
 kernel_rfl
theorem rC7_2_1:RD 7 2 1 1:=by
 intro s A
 kernel_rfl
theorem rC7_11_0:RD 7 11 1 0:=by
 intro s A
 kernel_rfl
theorem rC7_26:RC 7 26 1:=by
 intro s A
 kernel_rfl
theorem rC7_47_1:RD 7 47 1 1:=by
 intro s A
 kernel_rfl
theorem rC7_63_2:RD 7 63 2 2:=by
 intro s A
 kernel_rfl
theorem rC7_123_0:RD 7 123 1 0:=by
 intro s A
 kernel_rfl
theorem rC7_221:RC 7 221 1:=by
 intro s A
 kernel_rfl
theorem rC7_252:RC 7 252 1:=by
 intro s A
 kernel_rfl
theorem rC8_1_6:RD 8 1 3 6:=by
 intro s A
 kernel_rfl
theorem rC8_4_1:RD 8 4 1 1:=by
 intro s A
 kernel_rfl
theorem rC8_7_6:RD 8 7 3 6:=by
 intro s A
 kernel_rfl
theorem rC8_13_2:RD 8 13 2 2:=by
 intro s A
 kernel_rfl
theorem rC8_19_0:RD 8 19 1 0:=by
 intro s A
 kernel_rfl
theorem rC8_26_1:RD 8 26 1 1:=by
 intro s A
 kernel_rfl
theorem rC8_31_0:RD 8 31 3 0:=by
 intro s A
 kernel_rfl
theorem rC8_44:RC 8 44 1:=by
 intro s A
 kernel_rfl
theorem rC8_54_0:RD 8 54 1 0:=by
 intro s A
 kernel_rfl
theorem rC8_60_0:RD 8 60 1 0:=by
 intro s A
 kernel_rfl
theorem rC8_63_5:RD 8 63 3 5:=by
 intro s A
 kernel_rfl
theorem rC8_93_0:RD 8 93 1 0:=by
 intro s A
 kernel_rfl
theorem rC8_108:RC 8 108 1:=by
 intro s A
 kernel_rfl
theorem rC8_118_0:RD 8 118 1 0:=by
 intro s A
 kernel_rfl
theorem rC8_124_0:RD 8 124 1 0:=by
 intro s A
 kernel_rfl
theorem rC8_127_5:RD 8 127 3 5:=by
 intro s A
 kernel_rfl
theorem rC8_186:RC 8 186 1:=by
 intro s A
 kernel_rfl
theorem rC8_207_1:RD 8 207 1 1:=by
 intro s A
 kernel_rfl
theorem rC8_223_2:RD 8 223 2 2:=by
 intro s A
 kernel_rfl
theorem rC8_239_1:RD 8 239 2 1:=by
 intro s A
 kernel_rfl
theorem rC8_248:RC 8 248 1:=by
 intro s A
 kernel_rfl
theorem rC8_254_0:RD 8 254 2 0:=by
 intro s A
 kernel_rfl
theorem rC2_1:RC 2 1 7:=by
 intro s A
 kernel_rfl
theorem rB5_25:RB 5 25 15:=by
 intro s A
 kernel_rfl
theorem rB6_17:RB 6 17 8:=by
 intro s A
 kernel_rfl
theorem rB7_81:RB 7 81 8:=by
 intro s A
 kernel_rfl
theorem rB8_81:RB 8 81 8:=by
 intro s A
 kernel_rfl
end Go.Ev
