/- Passes of the loops, stretches of states. -/
import Derived.Test.YtppmmlkamcclkaaGreatDoorSt
namespace Go.Ev
open Go.Proofs
set_option maxRecDepth 1000000
set_option linter.unusedVariables false
theorem rC6_27:RC 6 27 2:=by
 intro s A
 kernel_rfl
theorem rC7_91:RC 7 91 2:=by
 intro s A
 kernel_rfl
theorem rC8_48:RC 8 48 2:=by
 intro s A
 kernel_rfl
theorem rC8_227:RC 8 227 2:=by
 intro s A
 kernel_rfl
theorem rC4_1:RC 4 1 4:=by
 intro s A
 kernel_rfl
theorem rC8_128:RC 8 128 7:=by
 intro s A
 kernel_rfl
theorem rC8_96:RC 8 96 3:=by
 intro s A
 kernel_rfl
theorem rC7_231:RC 7 231 2:=by
 intro s A
 kernel_rfl
theorem rA8:RA 8:=by
 intro s A
 kernel_rfl
theorem rC7_85:RC 7 85 2:=by
 intro s A
 kernel_rfl
theorem rC8_169:RC 8 169 2:=by
 intro s A
 kernel_rfl
theorem rC6_30:RC 6 30 1:=by
 intro s A
 kernel_rfl
theorem rC7_2_0:RD 7 2 1 0:=by
 intro s A
 kernel_rfl
theorem rC7_10:RC 7 10 1:=by
 intro s A
 kernel_rfl
theorem rC7_23_1:RD 7 23 1 1:=by
 intro s A
 kernel_rfl
theorem rC7_47_0:RD 7 47 1 0:=by
 intro s A
 kernel_rfl
theorem rC7_63_1:RD 7 63 2 1:=by
 intro s A
 kernel_rfl
theorem rC7_122:RC 7 122 1:=by
 intro s A
 kernel_rfl
theorem rC7_191_1:RD 7 191 1 1:=by
 intro s A
 kernel_rfl
theorem rC7_251_1:RD 7 251 1 1:=by
 intro s A
 kernel_rfl
theorem rC8_1_5:RD 8 1 3 5:=by
 intro s A
 kernel_rfl
theorem rC8_4_0:RD 8 4 1 0:=by
 intro s A
 kernel_rfl
theorem rC8_7_5:RD 8 7 3 5:=by
 intro s A
 kernel_rfl
theorem rC8_13_1:RD 8 13 2 1:=by
 intro s A
 kernel_rfl
theorem rC8_18:RC 8 18 1:=by
 intro s A
 kernel_rfl
theorem rC8_26_0:RD 8 26 1 0:=by
 intro s A
 kernel_rfl
theorem rC8_30_3:RD 8 30 2 3:=by
 intro s A
 kernel_rfl
theorem rC8_43_1:RD 8 43 1 1:=by
 intro s A
 kernel_rfl
theorem rC8_53_1:RD 8 53 1 1:=by
 intro s A
 kernel_rfl
theorem rC8_59_3:RD 8 59 2 3:=by
 intro s A
 kernel_rfl
theorem rC8_63_4:RD 8 63 3 4:=by
 intro s A
 kernel_rfl
theorem rC8_92:RC 8 92 1:=by
 intro s A
 kernel_rfl
theorem rC8_107_1:RD 8 107 1 1:=by
 intro s A
 kernel_rfl
theorem rC8_117_1:RD 8 117 1 1:=by
 intro s A
 kernel_rfl
theorem rC8_123_3:RD 8 123 2 3:=by
 intro s A
 kernel_rfl
theorem rC8_127_4:RD 8 127 3 4:=by
 intro s A
 kernel_rfl
theorem rC8_183_1:RD 8 183 1 1:=by
 intro s A
 kernel_rfl
theorem rC8_207_0:RD 8 207 1 0:=by
 intro s A
 kernel_rfl
theorem rC8_223_1:RD 8 223 2 1:=by
 intro s A
 kernel_rfl
theorem rC8_239_0:RD 8 239 2 0:=by
 intro s A
 kernel_rfl
theorem rC8_247_3:RD 8 247 2 3:=by
 intro s A
 kernel_rfl
theorem rC8_253_3:RD 8 253 2 3:=by
 intro s A
 kernel_rfl
theorem rA5:RA 5:=by
 intro s A
 kernel_rfl
theorem rB6_57:RB 6 57 15:=by
 intro s A
 kernel_rfl
theorem rB6_25:RB 6 25 8:=by
 intro s A
 kernel_rfl
theorem rB7_89:RB 7 89 8:=by
 intro s A
 kernel_rfl
theorem rB8_89:RB 8 89 8:=by
 intro s A
 kernel_rfl
end Go.Ev
