/- Passes of the loop, stretches of each state. -/
import Derived.Test.YtmheccmahfgpoaaGreatDoorSt
namespace Go.Ev
open Go.Proofs
set_option maxRecDepth 1000000
theorem r0_284:∀ s A,gzX s A 0 284 11=true:=by
 intro s A
 kernel_rfl
theorem r1_54:∀ s A,gzX s A 1 54 20=true:=by
 intro s A
 kernel_rfl
theorem r1_92:∀ s A,gzX s A 1 92 17=true:=by
 intro s A
 kernel_rfl
theorem r1_109:∀ s A,gzX s A 1 109 17=true:=by
 intro s A
 kernel_rfl
theorem r1_126:∀ s A,gzX s A 1 126 16=true:=by
 intro s A
 kernel_rfl
theorem r1_142:∀ s A,gzX s A 1 142 15=true:=by
 intro s A
 kernel_rfl
theorem r1_262:∀ s A,gzX s A 1 262 11=true:=by
 intro s A
 kernel_rfl
theorem r1_273:∀ s A,gzX s A 1 273 11=true:=by
 intro s A
 kernel_rfl
theorem r1_295:∀ s A,gzX s A 1 295 11=true:=by
 intro s A
 kernel_rfl
theorem r1_306:∀ s A,gzX s A 1 306 4=true:=by
 intro s A
 kernel_rfl
theorem r4_284:∀ s A,gzX s A 4 284 11=true:=by
 intro s A
 kernel_rfl
theorem r5_74:∀ s A,gzX s A 5 74 18=true:=by
 intro s A
 kernel_rfl
theorem r5_92:∀ s A,gzX s A 5 92 17=true:=by
 intro s A
 kernel_rfl
theorem r5_157:∀ s A,gzX s A 5 157 15=true:=by
 intro s A
 kernel_rfl
theorem r5_172:∀ s A,gzX s A 5 172 14=true:=by
 intro s A
 kernel_rfl
theorem r5_250:∀ s A,gzX s A 5 250 12=true:=by
 intro s A
 kernel_rfl
theorem r5_262:∀ s A,gzX s A 5 262 11=true:=by
 intro s A
 kernel_rfl
theorem r10_10:∀ s A,gzX s A 10 10 23=true:=by
 intro s A
 kernel_rfl
theorem r10_33:∀ s A,gzX s A 10 33 21=true:=by
 intro s A
 kernel_rfl
theorem r10_186:∀ s A,gzX s A 10 186 14=true:=by
 intro s A
 kernel_rfl
theorem r10_200:∀ s A,gzX s A 10 200 13=true:=by
 intro s A
 kernel_rfl
theorem r11_284:∀ s A,gzX s A 11 284 11=true:=by
 intro s A
 kernel_rfl
theorem r14_54:∀ s A,gzX s A 14 54 20=true:=by
 intro s A
 kernel_rfl
theorem r14_109:∀ s A,gzX s A 14 109 17=true:=by
 intro s A
 kernel_rfl
theorem r14_126:∀ s A,gzX s A 14 126 16=true:=by
 intro s A
 kernel_rfl
theorem r14_142:∀ s A,gzX s A 14 142 15=true:=by
 intro s A
 kernel_rfl
theorem r14_238:∀ s A,gzX s A 14 238 12=true:=by
 intro s A
 kernel_rfl
theorem r14_273:∀ s A,gzX s A 14 273 11=true:=by
 intro s A
 kernel_rfl
theorem r14_295:∀ s A,gzX s A 14 295 11=true:=by
 intro s A
 kernel_rfl
theorem r14_306:∀ s A,gzX s A 14 306 4=true:=by
 intro s A
 kernel_rfl
end Go.Ev
