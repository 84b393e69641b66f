/- Passes of the loop, stretches of each state. -/
import Derived.Test.YtmheccmahfgpoaaGreatDoorSt
namespace Go.Ev
open Go.Proofs
set_option maxRecDepth 1000000
theorem r3_10:∀ s A,gzX s A 3 10 23=true:=by
 intro s A
 kernel_rfl
theorem r3_172:∀ s A,gzX s A 3 172 14=true:=by
 intro s A
 kernel_rfl
theorem r3_186:∀ s A,gzX s A 3 186 14=true:=by
 intro s A
 kernel_rfl
theorem r3_200:∀ s A,gzX s A 3 200 13=true:=by
 intro s A
 kernel_rfl
theorem r3_213:∀ s A,gzX s A 3 213 13=true:=by
 intro s A
 kernel_rfl
theorem r3_226:∀ s A,gzX s A 3 226 12=true:=by
 intro s A
 kernel_rfl
theorem r3_284:∀ s A,gzX s A 3 284 11=true:=by
 intro s A
 kernel_rfl
theorem r7_33:∀ s A,gzX s A 7 33 21=true:=by
 intro s A
 kernel_rfl
theorem r7_54:∀ s A,gzX s A 7 54 20=true:=by
 intro s A
 kernel_rfl
theorem r7_109:∀ s A,gzX s A 7 109 17=true:=by
 intro s A
 kernel_rfl
theorem r7_126:∀ s A,gzX s A 7 126 16=true:=by
 intro s A
 kernel_rfl
theorem r7_238:∀ s A,gzX s A 7 238 12=true:=by
 intro s A
 kernel_rfl
theorem r7_273:∀ s A,gzX s A 7 273 11=true:=by
 intro s A
 kernel_rfl
theorem r7_306:∀ s A,gzX s A 7 306 4=true:=by
 intro s A
 kernel_rfl
theorem r10_284:∀ s A,gzX s A 10 284 11=true:=by
 intro s A
 kernel_rfl
theorem r12_74:∀ s A,gzX s A 12 74 18=true:=by
 intro s A
 kernel_rfl
theorem r12_92:∀ s A,gzX s A 12 92 17=true:=by
 intro s A
 kernel_rfl
theorem r12_142:∀ s A,gzX s A 12 142 15=true:=by
 intro s A
 kernel_rfl
theorem r12_157:∀ s A,gzX s A 12 157 15=true:=by
 intro s A
 kernel_rfl
theorem r12_172:∀ s A,gzX s A 12 172 14=true:=by
 intro s A
 kernel_rfl
theorem r12_213:∀ s A,gzX s A 12 213 13=true:=by
 intro s A
 kernel_rfl
theorem r12_226:∀ s A,gzX s A 12 226 12=true:=by
 intro s A
 kernel_rfl
theorem r12_262:∀ s A,gzX s A 12 262 11=true:=by
 intro s A
 kernel_rfl
theorem r12_295:∀ s A,gzX s A 12 295 11=true:=by
 intro s A
 kernel_rfl
theorem r16_10:∀ s A,gzX s A 16 10 23=true:=by
 intro s A
 kernel_rfl
theorem r16_186:∀ s A,gzX s A 16 186 14=true:=by
 intro s A
 kernel_rfl
theorem r16_200:∀ s A,gzX s A 16 200 13=true:=by
 intro s A
 kernel_rfl
theorem r16_250:∀ s A,gzX s A 16 250 12=true:=by
 intro s A
 kernel_rfl
theorem r16_284:∀ s A,gzX s A 16 284 11=true:=by
 intro s A
 kernel_rfl
end Go.Ev
