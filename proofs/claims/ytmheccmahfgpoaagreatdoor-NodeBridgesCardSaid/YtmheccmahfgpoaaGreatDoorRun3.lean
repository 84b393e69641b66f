/- Passes of the loop, stretches of each state. -/
import Derived.Test.YtmheccmahfgpoaaGreatDoorSt
namespace Go.Ev
open Go.Proofs
set_option maxRecDepth 1000000
theorem r1_284:∀ s A,gzX s A 1 284 11=true:=by
 intro s A
 kernel_rfl
theorem r3_54:∀ s A,gzX s A 3 54 20=true:=by
 intro s A
 kernel_rfl
theorem r3_92:∀ s A,gzX s A 3 92 17=true:=by
 intro s A
 kernel_rfl
theorem r3_109:∀ s A,gzX s A 3 109 17=true:=by
 intro s A
 kernel_rfl
theorem r3_126:∀ s A,gzX s A 3 126 16=true:=by
 intro s A
 kernel_rfl
theorem r3_142:∀ s A,gzX s A 3 142 15=true:=by
 intro s A
 kernel_rfl
theorem r3_262:∀ s A,gzX s A 3 262 11=true:=by
 intro s A
 kernel_rfl
theorem r3_273:∀ s A,gzX s A 3 273 11=true:=by
 intro s A
 kernel_rfl
theorem r3_295:∀ s A,gzX s A 3 295 11=true:=by
 intro s A
 kernel_rfl
theorem r3_306:∀ s A,gzX s A 3 306 4=true:=by
 intro s A
 kernel_rfl
theorem r5_284:∀ s A,gzX s A 5 284 11=true:=by
 intro s A
 kernel_rfl
theorem r7_74:∀ s A,gzX s A 7 74 18=true:=by
 intro s A
 kernel_rfl
theorem r7_92:∀ s A,gzX s A 7 92 17=true:=by
 intro s A
 kernel_rfl
theorem r7_157:∀ s A,gzX s A 7 157 15=true:=by
 intro s A
 kernel_rfl
theorem r7_172:∀ s A,gzX s A 7 172 14=true:=by
 intro s A
 kernel_rfl
theorem r7_250:∀ s A,gzX s A 7 250 12=true:=by
 intro s A
 kernel_rfl
theorem r7_262:∀ s A,gzX s A 7 262 11=true:=by
 intro s A
 kernel_rfl
theorem r12_10:∀ s A,gzX s A 12 10 23=true:=by
 intro s A
 kernel_rfl
theorem r12_33:∀ s A,gzX s A 12 33 21=true:=by
 intro s A
 kernel_rfl
theorem r12_186:∀ s A,gzX s A 12 186 14=true:=by
 intro s A
 kernel_rfl
theorem r12_200:∀ s A,gzX s A 12 200 13=true:=by
 intro s A
 kernel_rfl
theorem r12_284:∀ s A,gzX s A 12 284 11=true:=by
 intro s A
 kernel_rfl
theorem r16_54:∀ s A,gzX s A 16 54 20=true:=by
 intro s A
 kernel_rfl
theorem r16_109:∀ s A,gzX s A 16 109 17=true:=by
 intro s A
 kernel_rfl
theorem r16_126:∀ s A,gzX s A 16 126 16=true:=by
 intro s A
 kernel_rfl
theorem r16_142:∀ s A,gzX s A 16 142 15=true:=by
 intro s A
 kernel_rfl
theorem r16_238:∀ s A,gzX s A 16 238 12=true:=by
 intro s A
 kernel_rfl
theorem r16_273:∀ s A,gzX s A 16 273 11=true:=by
 intro s A
 kernel_rfl
theorem r16_295:∀ s A,gzX s A 16 295 11=true:=by
 intro s A
 kernel_rfl
theorem r16_306:∀ s A,gzX s A 16 306 4=true:=by
 intro s A
 kernel_rfl
end Go.Ev
