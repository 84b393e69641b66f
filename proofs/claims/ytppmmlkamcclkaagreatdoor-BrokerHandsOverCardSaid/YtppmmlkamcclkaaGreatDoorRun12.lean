/- Passes of the loops, stretches of states. -/
import Derived.Test.YtppmmlkamcclkaaGreatDoorSt
namespace Go.Ev
open Go.Proofs
set_option maxRecDepth 1000000
set_option linter.unusedVariables false
theorem rC7_19:RC 7 19 2:=by
 intro s A
 kernel_rfl
theorem rC7_206:RC 7 206 2:=by
 intro s A
 kernel_rfl
theorem rC8_142:RC 8 142 2:=by
 intro s A
 kernel_rfl
theorem rC5_24:RC 5 24 5:=by
 intro s A
 kernel_rfl
theorem rC7_80:RC 7 80 5:=by
 intro s A
 kernel_rfl
theorem rC6_64:RC 6 64 11:=by
 intro s A
 kernel_rfl
theorem rC7_171:RC 7 171 3:=by
 intro s A
 kernel_rfl
theorem rC7_39:RC 7 39 2:=by
 intro s A
 kernel_rfl
theorem rC7_71:RC 7 71 4:=by
 intro s A
 kernel_rfl
theorem rC6_121:RC 6 121 2:=by
 intro s A
 kernel_rfl
theorem rC8_149:RC 8 149 2:=by
 intro s A
 kernel_rfl
theorem rC6_15_0:RD 6 15 1 0:=by
 intro s A
 kernel_rfl
theorem rC7_1_1:RD 7 1 2 1:=by
 intro s A
 kernel_rfl
theorem rC7_7_1:RD 7 7 2 1:=by
 intro s A
 kernel_rfl
theorem rC7_21:RC 7 21 1:=by
 intro s A
 kernel_rfl
theorem rC7_31_3:RD 7 31 2 3:=by
 intro s A
 kernel_rfl
theorem rC7_62_0:RD 7 62 1 0:=by
 intro s A
 kernel_rfl
theorem rC7_118:RC 7 118 1:=by
 intro s A
 kernel_rfl
theorem rC7_189:RC 7 189 1:=by
 intro s A
 kernel_rfl
theorem rC7_247_1:RD 7 247 1 1:=by
 intro s A
 kernel_rfl
theorem rC8_1_2:RD 8 1 3 2:=by
 intro s A
 kernel_rfl
theorem rC8_3_5:RD 8 3 3 5:=by
 intro s A
 kernel_rfl
theorem rC8_7_2:RD 8 7 3 2:=by
 intro s A
 kernel_rfl
theorem rC8_12_0:RD 8 12 1 0:=by
 intro s A
 kernel_rfl
theorem rC8_15_5:RD 8 15 3 5:=by
 intro s A
 kernel_rfl
theorem rC8_24:RC 8 24 1:=by
 intro s A
 kernel_rfl
theorem rC8_30_0:RD 8 30 2 0:=by
 intro s A
 kernel_rfl
theorem rC8_39_1:RD 8 39 1 1:=by
 intro s A
 kernel_rfl
theorem rC8_51_1:RD 8 51 1 1:=by
 intro s A
 kernel_rfl
theorem rC8_59_0:RD 8 59 2 0:=by
 intro s A
 kernel_rfl
theorem rC8_63_1:RD 8 63 3 1:=by
 intro s A
 kernel_rfl
theorem rC8_90:RC 8 90 1:=by
 intro s A
 kernel_rfl
theorem rC8_103_1:RD 8 103 1 1:=by
 intro s A
 kernel_rfl
theorem rC8_115_1:RD 8 115 1 1:=by
 intro s A
 kernel_rfl
theorem rC8_123_0:RD 8 123 2 0:=by
 intro s A
 kernel_rfl
theorem rC8_127_1:RD 8 127 3 1:=by
 intro s A
 kernel_rfl
theorem rC8_181:RC 8 181 1:=by
 intro s A
 kernel_rfl
theorem rC8_191_3:RD 8 191 2 3:=by
 intro s A
 kernel_rfl
theorem rC8_222_0:RD 8 222 1 0:=by
 intro s A
 kernel_rfl
theorem rC8_237_1:RD 8 237 1 1:=by
 intro s A
 kernel_rfl
theorem rC8_247_0:RD 8 247 2 0:=by
 intro s A
 kernel_rfl
theorem rC8_253_0:RD 8 253 2 0:=by
 intro s A
 kernel_rfl
theorem rC8_255_7:RD 8 255 3 7:=by
 intro s A
 kernel_rfl
theorem rB6_1:RB 6 1 8:=by
 intro s A
 kernel_rfl
theorem rB7_57:RB 7 57 8:=by
 intro s A
 kernel_rfl
theorem rB8_57:RB 8 57 8:=by
 intro s A
 kernel_rfl
theorem rC1_1:RC 1 1 3:=by
 intro s A
 kernel_rfl
theorem rB4_24:RB 4 24 8:=by
 intro s A
 kernel_rfl
end Go.Ev
