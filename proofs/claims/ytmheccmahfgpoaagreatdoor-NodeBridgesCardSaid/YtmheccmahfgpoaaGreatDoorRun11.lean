/- Passes of the loop, stretches of each state. -/
import Derived.Test.YtmheccmahfgpoaaGreatDoorSt
namespace Go.Ev
open Go.Proofs
set_option maxRecDepth 1000000
theorem r3_33:∀ s A,gzX s A 3 33 21=true:=by
 intro s A
 kernel_rfl
theorem r3_74:∀ s A,gzX s A 3 74 18=true:=by
 intro s A
 kernel_rfl
theorem r3_157:∀ s A,gzX s A 3 157 15=true:=by
 intro s A
 kernel_rfl
theorem r3_238:∀ s A,gzX s A 3 238 12=true:=by
 intro s A
 kernel_rfl
theorem r3_250:∀ s A,gzX s A 3 250 12=true:=by
 intro s A
 kernel_rfl
theorem r7_10:∀ s A,gzX s A 7 10 23=true:=by
 intro s A
 kernel_rfl
theorem r7_142:∀ s A,gzX s A 7 142 15=true:=by
 intro s A
 kernel_rfl
theorem r7_186:∀ s A,gzX s A 7 186 14=true:=by
 intro s A
 kernel_rfl
theorem r7_200:∀ s A,gzX s A 7 200 13=true:=by
 intro s A
 kernel_rfl
theorem r7_213:∀ s A,gzX s A 7 213 13=true:=by
 intro s A
 kernel_rfl
theorem r7_226:∀ s A,gzX s A 7 226 12=true:=by
 intro s A
 kernel_rfl
theorem r7_284:∀ s A,gzX s A 7 284 11=true:=by
 intro s A
 kernel_rfl
theorem r7_295:∀ s A,gzX s A 7 295 11=true:=by
 intro s A
 kernel_rfl
theorem r12_54:∀ s A,gzX s A 12 54 20=true:=by
 intro s A
 kernel_rfl
theorem r12_109:∀ s A,gzX s A 12 109 17=true:=by
 intro s A
 kernel_rfl
theorem r12_126:∀ s A,gzX s A 12 126 16=true:=by
 intro s A
 kernel_rfl
theorem r12_238:∀ s A,gzX s A 12 238 12=true:=by
 intro s A
 kernel_rfl
theorem r12_250:∀ s A,gzX s A 12 250 12=true:=by
 intro s A
 kernel_rfl
theorem r12_273:∀ s A,gzX s A 12 273 11=true:=by
 intro s A
 kernel_rfl
theorem r12_306:∀ s A,gzX s A 12 306 4=true:=by
 intro s A
 kernel_rfl
theorem r14_284:∀ s A,gzX s A 14 284 11=true:=by
 intro s A
 kernel_rfl
theorem r16_33:∀ s A,gzX s A 16 33 21=true:=by
 intro s A
 kernel_rfl
theorem r16_74:∀ s A,gzX s A 16 74 18=true:=by
 intro s A
 kernel_rfl
theorem r16_92:∀ s A,gzX s A 16 92 17=true:=by
 intro s A
 kernel_rfl
theorem r16_157:∀ s A,gzX s A 16 157 15=true:=by
 intro s A
 kernel_rfl
theorem r16_172:∀ s A,gzX s A 16 172 14=true:=by
 intro s A
 kernel_rfl
theorem r16_213:∀ s A,gzX s A 16 213 13=true:=by
 intro s A
 kernel_rfl
theorem r16_226:∀ s A,gzX s A 16 226 12=true:=by
 intro s A
 kernel_rfl
theorem r16_262:∀ s A,gzX s A 16 262 11=true:=by
 intro s A
 kernel_rfl
end Go.Ev
