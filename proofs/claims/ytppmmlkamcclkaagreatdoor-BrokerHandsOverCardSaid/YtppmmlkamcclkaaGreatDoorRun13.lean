/- Passes of the loops, stretches of states. -/
import Derived.Test.YtppmmlkamcclkaaGreatDoorSt
namespace Go.Ev
open Go.Proofs
set_option maxRecDepth 1000000
set_option linter.unusedVariables false
theorem rC7_24:RC 7 24 2:=by
 intro s A
 kernel_rfl
theorem rC7_219:RC 7 219 2:=by
 intro s A
 kernel_rfl
theorem rC8_155:RC 8 155 2:=by
 intro s A
 kernel_rfl
theorem rC5_51:RC 5 51 5:=by
 intro s A
 kernel_rfl
theorem rC7_96:RC 7 96 5:=by
 intro s A
 kernel_rfl
theorem rC7_128:RC 7 128 11:=by
 intro s A
 kernel_rfl
theorem rC7_203:RC 7 203 3:=by
 intro s A
 kernel_rfl
theorem rC7_87:RC 7 87 2:=by
 intro s A
 kernel_rfl
theorem rC7_151:RC 7 151 4:=by
 intro s A
 kernel_rfl
theorem rC7_37:RC 7 37 2:=by
 intro s A
 kernel_rfl
theorem rC8_153:RC 8 153 2:=by
 intro s A
 kernel_rfl
theorem rC6_15_1:RD 6 15 1 1:=by
 intro s A
 kernel_rfl
theorem rC7_1_2:RD 7 1 2 2:=by
 intro s A
 kernel_rfl
theorem rC7_7_2:RD 7 7 2 2:=by
 intro s A
 kernel_rfl
theorem rC7_22:RC 7 22 1:=by
 intro s A
 kernel_rfl
theorem rC7_45:RC 7 45 1:=by
 intro s A
 kernel_rfl
theorem rC7_62_1:RD 7 62 1 1:=by
 intro s A
 kernel_rfl
theorem rC7_119_0:RD 7 119 1 0:=by
 intro s A
 kernel_rfl
theorem rC7_190:RC 7 190 1:=by
 intro s A
 kernel_rfl
theorem rC7_250:RC 7 250 1:=by
 intro s A
 kernel_rfl
theorem rC8_1_3:RD 8 1 3 3:=by
 intro s A
 kernel_rfl
theorem rC8_3_6:RD 8 3 3 6:=by
 intro s A
 kernel_rfl
theorem rC8_7_3:RD 8 7 3 3:=by
 intro s A
 kernel_rfl
theorem rC8_12_1:RD 8 12 1 1:=by
 intro s A
 kernel_rfl
theorem rC8_15_6:RD 8 15 3 6:=by
 intro s A
 kernel_rfl
theorem rC8_25_0:RD 8 25 1 0:=by
 intro s A
 kernel_rfl
theorem rC8_30_1:RD 8 30 2 1:=by
 intro s A
 kernel_rfl
theorem rC8_42:RC 8 42 1:=by
 intro s A
 kernel_rfl
theorem rC8_52:RC 8 52 1:=by
 intro s A
 kernel_rfl
theorem rC8_59_1:RD 8 59 2 1:=by
 intro s A
 kernel_rfl
theorem rC8_63_2:RD 8 63 3 2:=by
 intro s A
 kernel_rfl
theorem rC8_91_0:RD 8 91 1 0:=by
 intro s A
 kernel_rfl
theorem rC8_106:RC 8 106 1:=by
 intro s A
 kernel_rfl
theorem rC8_116:RC 8 116 1:=by
 intro s A
 kernel_rfl
theorem rC8_123_1:RD 8 123 2 1:=by
 intro s A
 kernel_rfl
theorem rC8_127_2:RD 8 127 3 2:=by
 intro s A
 kernel_rfl
theorem rC8_182:RC 8 182 1:=by
 intro s A
 kernel_rfl
theorem rC8_205:RC 8 205 1:=by
 intro s A
 kernel_rfl
theorem rC8_222_1:RD 8 222 1 1:=by
 intro s A
 kernel_rfl
theorem rC8_238_0:RD 8 238 1 0:=by
 intro s A
 kernel_rfl
theorem rC8_247_1:RD 8 247 2 1:=by
 intro s A
 kernel_rfl
theorem rC8_253_1:RD 8 253 2 1:=by
 intro s A
 kernel_rfl
theorem rA6:RA 6:=by
 intro s A
 kernel_rfl
theorem rB7_186:RB 7 186 50:=by
 intro s A
 kernel_rfl
theorem rB7_1:RB 7 1 8:=by
 intro s A
 kernel_rfl
theorem rB8_1:RB 8 1 8:=by
 intro s A
 kernel_rfl
theorem rA4:RA 4:=by
 intro s A
 kernel_rfl
end Go.Ev
