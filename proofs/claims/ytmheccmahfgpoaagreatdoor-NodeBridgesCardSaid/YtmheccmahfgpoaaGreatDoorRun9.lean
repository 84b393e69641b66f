/- Passes of the loop, stretches of each state. -/
import Derived.Test.YtmheccmahfgpoaaGreatDoorSt
namespace Go.Ev
open Go.Proofs
set_option maxRecDepth 1000000
theorem r1_33:∀ s A,gzX s A 1 33 21=true:=by
 intro s A
 kernel_rfl
theorem r1_74:∀ s A,gzX s A 1 74 18=true:=by
 intro s A
 kernel_rfl
theorem r1_157:∀ s A,gzX s A 1 157 15=true:=by
 intro s A
 kernel_rfl
theorem r1_238:∀ s A,gzX s A 1 238 12=true:=by
 intro s A
 kernel_rfl
theorem r1_250:∀ s A,gzX s A 1 250 12=true:=by
 intro s A
 kernel_rfl
theorem r5_10:∀ s A,gzX s A 5 10 23=true:=by
 intro s A
 kernel_rfl
theorem r5_142:∀ s A,gzX s A 5 142 15=true:=by
 intro s A
 kernel_rfl
theorem r5_186:∀ s A,gzX s A 5 186 14=true:=by
 intro s A
 kernel_rfl
theorem r5_200:∀ s A,gzX s A 5 200 13=true:=by
 intro s A
 kernel_rfl
theorem r5_213:∀ s A,gzX s A 5 213 13=true:=by
 intro s A
 kernel_rfl
theorem r5_226:∀ s A,gzX s A 5 226 12=true:=by
 intro s A
 kernel_rfl
theorem r5_295:∀ s A,gzX s A 5 295 11=true:=by
 intro s A
 kernel_rfl
theorem r6_284:∀ s A,gzX s A 6 284 11=true:=by
 intro s A
 kernel_rfl
theorem r10_54:∀ s A,gzX s A 10 54 20=true:=by
 intro s A
 kernel_rfl
theorem r10_109:∀ s A,gzX s A 10 109 17=true:=by
 intro s A
 kernel_rfl
theorem r10_126:∀ s A,gzX s A 10 126 16=true:=by
 intro s A
 kernel_rfl
theorem r10_238:∀ s A,gzX s A 10 238 12=true:=by
 intro s A
 kernel_rfl
theorem r10_250:∀ s A,gzX s A 10 250 12=true:=by
 intro s A
 kernel_rfl
theorem r10_273:∀ s A,gzX s A 10 273 11=true:=by
 intro s A
 kernel_rfl
theorem r10_306:∀ s A,gzX s A 10 306 4=true:=by
 intro s A
 kernel_rfl
theorem r13_284:∀ s A,gzX s A 13 284 11=true:=by
 intro s A
 kernel_rfl
theorem r14_33:∀ s A,gzX s A 14 33 21=true:=by
 intro s A
 kernel_rfl
theorem r14_74:∀ s A,gzX s A 14 74 18=true:=by
 intro s A
 kernel_rfl
theorem r14_92:∀ s A,gzX s A 14 92 17=true:=by
 intro s A
 kernel_rfl
theorem r14_157:∀ s A,gzX s A 14 157 15=true:=by
 intro s A
 kernel_rfl
theorem r14_172:∀ s A,gzX s A 14 172 14=true:=by
 intro s A
 kernel_rfl
theorem r14_213:∀ s A,gzX s A 14 213 13=true:=by
 intro s A
 kernel_rfl
theorem r14_226:∀ s A,gzX s A 14 226 12=true:=by
 intro s A
 kernel_rfl
theorem r14_262:∀ s A,gzX s A 14 262 11=true:=by
 intro s A
 kernel_rfl
end Go.Ev
