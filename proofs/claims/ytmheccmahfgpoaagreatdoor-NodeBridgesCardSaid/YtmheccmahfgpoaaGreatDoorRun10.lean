/- Passes of the loop, stretches of each state. -/
import Derived.Test.YtmheccmahfgpoaaGreatDoorSt
namespace Go.Ev
open Go.Proofs
set_option maxRecDepth 1000000
theorem r2_33:∀ s A,gzX s A 2 33 21=true:=by
 intro s A
 kernel_rfl
theorem r2_74:∀ s A,gzX s A 2 74 18=true:=by
 intro s A
 kernel_rfl
theorem r2_157:∀ s A,gzX s A 2 157 15=true:=by
 intro s A
 kernel_rfl
theorem r2_238:∀ s A,gzX s A 2 238 12=true:=by
 intro s A
 kernel_rfl
theorem r2_250:∀ s A,gzX s A 2 250 12=true:=by
 intro s A
 kernel_rfl
theorem r6_10:∀ s A,gzX s A 6 10 23=true:=by
 intro s A
 kernel_rfl
theorem r6_142:∀ s A,gzX s A 6 142 15=true:=by
 intro s A
 kernel_rfl
theorem r6_186:∀ s A,gzX s A 6 186 14=true:=by
 intro s A
 kernel_rfl
theorem r6_200:∀ s A,gzX s A 6 200 13=true:=by
 intro s A
 kernel_rfl
theorem r6_213:∀ s A,gzX s A 6 213 13=true:=by
 intro s A
 kernel_rfl
theorem r6_226:∀ s A,gzX s A 6 226 12=true:=by
 intro s A
 kernel_rfl
theorem r6_295:∀ s A,gzX s A 6 295 11=true:=by
 intro s A
 kernel_rfl
theorem r7_0:∀ s A,gzX s A 7 0 10=true:=by
 intro s A
 kernel_rfl
theorem r11_54:∀ s A,gzX s A 11 54 20=true:=by
 intro s A
 kernel_rfl
theorem r11_109:∀ s A,gzX s A 11 109 17=true:=by
 intro s A
 kernel_rfl
theorem r11_126:∀ s A,gzX s A 11 126 16=true:=by
 intro s A
 kernel_rfl
theorem r11_238:∀ s A,gzX s A 11 238 12=true:=by
 intro s A
 kernel_rfl
theorem r11_250:∀ s A,gzX s A 11 250 12=true:=by
 intro s A
 kernel_rfl
theorem r11_273:∀ s A,gzX s A 11 273 11=true:=by
 intro s A
 kernel_rfl
theorem r11_306:∀ s A,gzX s A 11 306 4=true:=by
 intro s A
 kernel_rfl
theorem r14_0:∀ s A,gzX s A 14 0 10=true:=by
 intro s A
 kernel_rfl
theorem r15_33:∀ s A,gzX s A 15 33 21=true:=by
 intro s A
 kernel_rfl
theorem r15_74:∀ s A,gzX s A 15 74 18=true:=by
 intro s A
 kernel_rfl
theorem r15_92:∀ s A,gzX s A 15 92 17=true:=by
 intro s A
 kernel_rfl
theorem r15_157:∀ s A,gzX s A 15 157 15=true:=by
 intro s A
 kernel_rfl
theorem r15_172:∀ s A,gzX s A 15 172 14=true:=by
 intro s A
 kernel_rfl
theorem r15_213:∀ s A,gzX s A 15 213 13=true:=by
 intro s A
 kernel_rfl
theorem r15_226:∀ s A,gzX s A 15 226 12=true:=by
 intro s A
 kernel_rfl
theorem r15_262:∀ s A,gzX s A 15 262 11=true:=by
 intro s A
 kernel_rfl
end Go.Ev
