/- Passes of the loop, stretches of each state. -/
import Derived.Test.YtmheccmahfgpoaaGreatDoorSt
namespace Go.Ev
open Go.Proofs
set_option maxRecDepth 1000000
theorem r2_10:∀ s A,gzX s A 2 10 23=true:=by
 intro s A
 kernel_rfl
theorem r2_172:∀ s A,gzX s A 2 172 14=true:=by
 intro s A
 kernel_rfl
theorem r2_186:∀ s A,gzX s A 2 186 14=true:=by
 intro s A
 kernel_rfl
theorem r2_200:∀ s A,gzX s A 2 200 13=true:=by
 intro s A
 kernel_rfl
theorem r2_213:∀ s A,gzX s A 2 213 13=true:=by
 intro s A
 kernel_rfl
theorem r2_226:∀ s A,gzX s A 2 226 12=true:=by
 intro s A
 kernel_rfl
theorem r3_0:∀ s A,gzX s A 3 0 10=true:=by
 intro s A
 kernel_rfl
theorem r6_33:∀ s A,gzX s A 6 33 21=true:=by
 intro s A
 kernel_rfl
theorem r6_54:∀ s A,gzX s A 6 54 20=true:=by
 intro s A
 kernel_rfl
theorem r6_109:∀ s A,gzX s A 6 109 17=true:=by
 intro s A
 kernel_rfl
theorem r6_126:∀ s A,gzX s A 6 126 16=true:=by
 intro s A
 kernel_rfl
theorem r6_238:∀ s A,gzX s A 6 238 12=true:=by
 intro s A
 kernel_rfl
theorem r6_273:∀ s A,gzX s A 6 273 11=true:=by
 intro s A
 kernel_rfl
theorem r6_306:∀ s A,gzX s A 6 306 4=true:=by
 intro s A
 kernel_rfl
theorem r10_0:∀ s A,gzX s A 10 0 10=true:=by
 intro s A
 kernel_rfl
theorem r11_74:∀ s A,gzX s A 11 74 18=true:=by
 intro s A
 kernel_rfl
theorem r11_92:∀ s A,gzX s A 11 92 17=true:=by
 intro s A
 kernel_rfl
theorem r11_142:∀ s A,gzX s A 11 142 15=true:=by
 intro s A
 kernel_rfl
theorem r11_157:∀ s A,gzX s A 11 157 15=true:=by
 intro s A
 kernel_rfl
theorem r11_172:∀ s A,gzX s A 11 172 14=true:=by
 intro s A
 kernel_rfl
theorem r11_213:∀ s A,gzX s A 11 213 13=true:=by
 intro s A
 kernel_rfl
theorem r11_226:∀ s A,gzX s A 11 226 12=true:=by
 intro s A
 kernel_rfl
theorem r11_262:∀ s A,gzX s A 11 262 11=true:=by
 intro s A
 kernel_rfl
theorem r11_295:∀ s A,gzX s A 11 295 11=true:=by
 intro s A
 kernel_rfl
theorem r15_10:∀ s A,gzX s A 15 10 23=true:=by
 intro s A
 kernel_rfl
theorem r15_186:∀ s A,gzX s A 15 186 14=true:=by
 intro s A
 kernel_rfl
theorem r15_200:∀ s A,gzX s A 15 200 13=true:=by
 intro s A
 kernel_rfl
theorem r15_250:∀ s A,gzX s A 15 250 12=true:=by
 intro s A
 kernel_rfl
theorem r16_0:∀ s A,gzX s A 16 0 10=true:=by
 intro s A
 kernel_rfl
end Go.Ev
