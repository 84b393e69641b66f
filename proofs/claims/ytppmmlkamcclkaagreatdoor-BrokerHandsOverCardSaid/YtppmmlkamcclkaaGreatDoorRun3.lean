/- Passes of the loops, stretches of states. -/
import Derived.Test.YtppmmlkamcclkaaGreatDoorSt
namespace Go.Ev
open Go.Proofs
set_option maxRecDepth 1000000
set_option linter.unusedVariables false
theorem rC6_4:RC 6 4 2:=by
 intro s A
 kernel_rfl
theorem rC7_56:RC 7 56 2:=by
 intro s A
 kernel_rfl
theorem rC8_35:RC 8 35 2:=by
 intro s A
 kernel_rfl
theorem rC8_211:RC 8 211 2:=by
 intro s A
 kernel_rfl
theorem rC8_192:RC 8 192 5:=by
 intro s A
 kernel_rfl
theorem rC6_107:RC 6 107 3:=by
 intro s A
 kernel_rfl
theorem rC8_176:RC 8 176 3:=by
 intro s A
 kernel_rfl
theorem rC8_151:RC 8 151 2:=by
 intro s A
 kernel_rfl
theorem rA7:RA 7:=by
 intro s A
 kernel_rfl
theorem rC5_29:RC 5 29 2:=by
 intro s A
 kernel_rfl
theorem rC7_185:RC 7 185 2:=by
 intro s A
 kernel_rfl
theorem rC6_1_1:RD 6 1 1 1:=by
 intro s A
 kernel_rfl
theorem rC6_61:RC 6 61 1:=by
 intro s A
 kernel_rfl
theorem rC7_3_1:RD 7 3 2 1:=by
 intro s A
 kernel_rfl
theorem rC7_12:RC 7 12 1:=by
 intro s A
 kernel_rfl
theorem rC7_27_1:RD 7 27 1 1:=by
 intro s A
 kernel_rfl
theorem rC7_54:RC 7 54 1:=by
 intro s A
 kernel_rfl
theorem rC7_93:RC 7 93 1:=by
 intro s A
 kernel_rfl
theorem rC7_124:RC 7 124 1:=by
 intro s A
 kernel_rfl
theorem rC7_223_0:RD 7 223 1 0:=by
 intro s A
 kernel_rfl
theorem rC7_253_1:RD 7 253 1 1:=by
 intro s A
 kernel_rfl
theorem rC8_2_0:RD 8 2 2 0:=by
 intro s A
 kernel_rfl
theorem rC8_5_1:RD 8 5 2 1:=by
 intro s A
 kernel_rfl
theorem rC8_8:RC 8 8 1:=by
 intro s A
 kernel_rfl
theorem rC8_14_0:RD 8 14 2 0:=by
 intro s A
 kernel_rfl
theorem rC8_20:RC 8 20 1:=by
 intro s A
 kernel_rfl
theorem rC8_27_1:RD 8 27 2 1:=by
 intro s A
 kernel_rfl
theorem rC8_31_2:RD 8 31 3 2:=by
 intro s A
 kernel_rfl
theorem rC8_45_1:RD 8 45 1 1:=by
 intro s A
 kernel_rfl
theorem rC8_55_0:RD 8 55 2 0:=by
 intro s A
 kernel_rfl
theorem rC8_61_0:RD 8 61 2 0:=by
 intro s A
 kernel_rfl
theorem rC8_63_7:RD 8 63 3 7:=by
 intro s A
 kernel_rfl
theorem rC8_94_0:RD 8 94 1 0:=by
 intro s A
 kernel_rfl
theorem rC8_109_1:RD 8 109 1 1:=by
 intro s A
 kernel_rfl
theorem rC8_119_0:RD 8 119 2 0:=by
 intro s A
 kernel_rfl
theorem rC8_125_0:RD 8 125 2 0:=by
 intro s A
 kernel_rfl
theorem rC8_127_7:RD 8 127 3 7:=by
 intro s A
 kernel_rfl
theorem rC8_187_1:RD 8 187 1 1:=by
 intro s A
 kernel_rfl
theorem rC8_214:RC 8 214 1:=by
 intro s A
 kernel_rfl
theorem rC8_229:RC 8 229 1:=by
 intro s A
 kernel_rfl
theorem rC8_239_3:RD 8 239 2 3:=by
 intro s A
 kernel_rfl
theorem rC8_249_1:RD 8 249 1 1:=by
 intro s A
 kernel_rfl
theorem rC8_254_2:RD 8 254 2 2:=by
 intro s A
 kernel_rfl
theorem rB7_121:RB 7 121 15:=by
 intro s A
 kernel_rfl
theorem rB6_41:RB 6 41 8:=by
 intro s A
 kernel_rfl
theorem rB7_105:RB 7 105 8:=by
 intro s A
 kernel_rfl
theorem rB8_105:RB 8 105 8:=by
 intro s A
 kernel_rfl
end Go.Ev
