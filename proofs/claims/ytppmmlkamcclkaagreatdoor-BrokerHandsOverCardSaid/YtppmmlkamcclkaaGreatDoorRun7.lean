/- Passes of the loops, stretches of states. -/
import Derived.Test.YtppmmlkamcclkaaGreatDoorSt
namespace Go.Ev
open Go.Proofs
set_option maxRecDepth 1000000
set_option linter.unusedVariables false
theorem rC6_59:RC 6 59 2:=by
 intro s A
 kernel_rfl
theorem rC7_115:RC 7 115 2:=by
 intro s A
 kernel_rfl
theorem rC8_83:RC 8 83 2:=by
 intro s A
 kernel_rfl
theorem rC8_240:RC 8 240 2:=by
 intro s A
 kernel_rfl
theorem rC4_5:RC 4 5 6:=by
 intro s A
 kernel_rfl
theorem rC7_64:RC 7 64 7:=by
 intro s A
 kernel_rfl
theorem rC7_112:RC 7 112 3:=by
 intro s A
 kernel_rfl
theorem rC6_55:RC 6 55 2:=by
 intro s A
 kernel_rfl
theorem rC6_87:RC 6 87 4:=by
 intro s A
 kernel_rfl
theorem rC6_57:RC 6 57 2:=by
 intro s A
 kernel_rfl
theorem rC8_69:RC 8 69 2:=by
 intro s A
 kernel_rfl
theorem rC6_7_0:RD 6 7 1 0:=by
 intro s A
 kernel_rfl
theorem rC6_126:RC 6 126 1:=by
 intro s A
 kernel_rfl
theorem rC7_5_1:RD 7 5 1 1:=by
 intro s A
 kernel_rfl
theorem rC7_15_0:RD 7 15 2 0:=by
 intro s A
 kernel_rfl
theorem rC7_30_1:RD 7 30 1 1:=by
 intro s A
 kernel_rfl
theorem rC7_59_1:RD 7 59 1 1:=by
 intro s A
 kernel_rfl
theorem rC7_110:RC 7 110 1:=by
 intro s A
 kernel_rfl
theorem rC7_127_0:RD 7 127 2 0:=by
 intro s A
 kernel_rfl
theorem rC7_239_1:RD 7 239 1 1:=by
 intro s A
 kernel_rfl
theorem rC7_255_2:RD 7 255 2 2:=by
 intro s A
 kernel_rfl
theorem rC8_3_1:RD 8 3 3 1:=by
 intro s A
 kernel_rfl
theorem rC8_6_2:RD 8 6 2 2:=by
 intro s A
 kernel_rfl
theorem rC8_11_0:RD 8 11 2 0:=by
 intro s A
 kernel_rfl
theorem rC8_15_1:RD 8 15 3 1:=by
 intro s A
 kernel_rfl
theorem rC8_23_0:RD 8 23 2 0:=by
 intro s A
 kernel_rfl
theorem rC8_29_0:RD 8 29 2 0:=by
 intro s A
 kernel_rfl
theorem rC8_31_7:RD 8 31 3 7:=by
 intro s A
 kernel_rfl
theorem rC8_47_2:RD 8 47 2 2:=by
 intro s A
 kernel_rfl
theorem rC8_57_0:RD 8 57 1 0:=by
 intro s A
 kernel_rfl
theorem rC8_62_1:RD 8 62 2 1:=by
 intro s A
 kernel_rfl
theorem rC8_85:RC 8 85 1:=by
 intro s A
 kernel_rfl
theorem rC8_95_3:RD 8 95 2 3:=by
 intro s A
 kernel_rfl
theorem rC8_111_2:RD 8 111 2 2:=by
 intro s A
 kernel_rfl
theorem rC8_121_0:RD 8 121 1 0:=by
 intro s A
 kernel_rfl
theorem rC8_126_1:RD 8 126 2 1:=by
 intro s A
 kernel_rfl
theorem rC8_173:RC 8 173 1:=by
 intro s A
 kernel_rfl
theorem rC8_190_1:RD 8 190 1 1:=by
 intro s A
 kernel_rfl
theorem rC8_219_1:RD 8 219 1 1:=by
 intro s A
 kernel_rfl
theorem rC8_235_0:RD 8 235 1 0:=by
 intro s A
 kernel_rfl
theorem rC8_245_0:RD 8 245 1 0:=by
 intro s A
 kernel_rfl
theorem rC8_251_2:RD 8 251 2 2:=by
 intro s A
 kernel_rfl
theorem rC8_255_3:RD 8 255 3 3:=by
 intro s A
 kernel_rfl
theorem rB4_1:RB 4 1 8:=by
 intro s A
 kernel_rfl
theorem rB7_25:RB 7 25 8:=by
 intro s A
 kernel_rfl
theorem rB8_25:RB 8 25 8:=by
 intro s A
 kernel_rfl
theorem rA2:RA 2:=by
 intro s A
 kernel_rfl
end Go.Ev
