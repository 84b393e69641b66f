/- Passes of the loops, stretches of states. -/
import Derived.Test.YtppmmlkamcclkaaGreatDoorSt
namespace Go.Ev
open Go.Proofs
set_option maxRecDepth 1000000
set_option linter.unusedVariables false
theorem rC7_139:RC 7 139 6:=by
 intro s A
 kernel_rfl
theorem rC7_248:RC 7 248 2:=by
 intro s A
 kernel_rfl
theorem rC8_184:RC 8 184 2:=by
 intro s A
 kernel_rfl
theorem rC6_48:RC 6 48 5:=by
 intro s A
 kernel_rfl
theorem rC7_224:RC 7 224 5:=by
 intro s A
 kernel_rfl
theorem rC6_96:RC 6 96 7:=by
 intro s A
 kernel_rfl
theorem rC7_48:RC 7 48 3:=by
 intro s A
 kernel_rfl
theorem rC5_3:RC 5 3 2:=by
 intro s A
 kernel_rfl
theorem rC6_81:RC 6 81 6:=by
 intro s A
 kernel_rfl
theorem rC7_41:RC 7 41 2:=by
 intro s A
 kernel_rfl
theorem rC8_165:RC 8 165 2:=by
 intro s A
 kernel_rfl
theorem rC6_29:RC 6 29 1:=by
 intro s A
 kernel_rfl
theorem rC7_1_3:RD 7 1 2 3:=by
 intro s A
 kernel_rfl
theorem rC7_7_3:RD 7 7 2 3:=by
 intro s A
 kernel_rfl
theorem rC7_23_0:RD 7 23 1 0:=by
 intro s A
 kernel_rfl
theorem rC7_46:RC 7 46 1:=by
 intro s A
 kernel_rfl
theorem rC7_63_0:RD 7 63 2 0:=by
 intro s A
 kernel_rfl
theorem rC7_119_1:RD 7 119 1 1:=by
 intro s A
 kernel_rfl
theorem rC7_191_0:RD 7 191 1 0:=by
 intro s A
 kernel_rfl
theorem rC7_251_0:RD 7 251 1 0:=by
 intro s A
 kernel_rfl
theorem rC8_1_4:RD 8 1 3 4:=by
 intro s A
 kernel_rfl
theorem rC8_3_7:RD 8 3 3 7:=by
 intro s A
 kernel_rfl
theorem rC8_7_4:RD 8 7 3 4:=by
 intro s A
 kernel_rfl
theorem rC8_13_0:RD 8 13 2 0:=by
 intro s A
 kernel_rfl
theorem rC8_15_7:RD 8 15 3 7:=by
 intro s A
 kernel_rfl
theorem rC8_25_1:RD 8 25 1 1:=by
 intro s A
 kernel_rfl
theorem rC8_30_2:RD 8 30 2 2:=by
 intro s A
 kernel_rfl
theorem rC8_43_0:RD 8 43 1 0:=by
 intro s A
 kernel_rfl
theorem rC8_53_0:RD 8 53 1 0:=by
 intro s A
 kernel_rfl
theorem rC8_59_2:RD 8 59 2 2:=by
 intro s A
 kernel_rfl
theorem rC8_63_3:RD 8 63 3 3:=by
 intro s A
 kernel_rfl
theorem rC8_91_1:RD 8 91 1 1:=by
 intro s A
 kernel_rfl
theorem rC8_107_0:RD 8 107 1 0:=by
 intro s A
 kernel_rfl
theorem rC8_117_0:RD 8 117 1 0:=by
 intro s A
 kernel_rfl
theorem rC8_123_2:RD 8 123 2 2:=by
 intro s A
 kernel_rfl
theorem rC8_127_3:RD 8 127 3 3:=by
 intro s A
 kernel_rfl
theorem rC8_183_0:RD 8 183 1 0:=by
 intro s A
 kernel_rfl
theorem rC8_206:RC 8 206 1:=by
 intro s A
 kernel_rfl
theorem rC8_223_0:RD 8 223 2 0:=by
 intro s A
 kernel_rfl
theorem rC8_238_1:RD 8 238 1 1:=by
 intro s A
 kernel_rfl
theorem rC8_247_2:RD 8 247 2 2:=by
 intro s A
 kernel_rfl
theorem rC8_253_2:RD 8 253 2 2:=by
 intro s A
 kernel_rfl
theorem rC3_11:RC 3 11 5:=by
 intro s A
 kernel_rfl
theorem rB6_72:RB 6 72 50:=by
 intro s A
 kernel_rfl
theorem rB6_33:RB 6 33 8:=by
 intro s A
 kernel_rfl
theorem rB7_97:RB 7 97 8:=by
 intro s A
 kernel_rfl
theorem rB8_97:RB 8 97 8:=by
 intro s A
 kernel_rfl
end Go.Ev
