/- Passes of the loop, stretches of each state. -/
import Derived.Test.YtmheccmahfgpoaaGreatDoorSt
namespace Go.Ev
open Go.Proofs
set_option maxRecDepth 1000000
theorem r1_10:∀ s A,gzX s A 1 10 23=true:=by
 intro s A
 kernel_rfl
theorem r1_172:∀ s A,gzX s A 1 172 14=true:=by
 intro s A
 kernel_rfl
theorem r1_186:∀ s A,gzX s A 1 186 14=true:=by
 intro s A
 kernel_rfl
theorem r1_200:∀ s A,gzX s A 1 200 13=true:=by
 intro s A
 kernel_rfl
theorem r1_213:∀ s A,gzX s A 1 213 13=true:=by
 intro s A
 kernel_rfl
theorem r1_226:∀ s A,gzX s A 1 226 12=true:=by
 intro s A
 kernel_rfl
theorem r2_284:∀ s A,gzX s A 2 284 11=true:=by
 intro s A
 kernel_rfl
theorem r5_33:∀ s A,gzX s A 5 33 21=true:=by
 intro s A
 kernel_rfl
theorem r5_54:∀ s A,gzX s A 5 54 20=true:=by
 intro s A
 kernel_rfl
theorem r5_109:∀ s A,gzX s A 5 109 17=true:=by
 intro s A
 kernel_rfl
theorem r5_126:∀ s A,gzX s A 5 126 16=true:=by
 intro s A
 kernel_rfl
theorem r5_238:∀ s A,gzX s A 5 238 12=true:=by
 intro s A
 kernel_rfl
theorem r5_273:∀ s A,gzX s A 5 273 11=true:=by
 intro s A
 kernel_rfl
theorem r5_306:∀ s A,gzX s A 5 306 4=true:=by
 intro s A
 kernel_rfl
theorem r9_284:∀ s A,gzX s A 9 284 11=true:=by
 intro s A
 kernel_rfl
theorem r10_74:∀ s A,gzX s A 10 74 18=true:=by
 intro s A
 kernel_rfl
theorem r10_92:∀ s A,gzX s A 10 92 17=true:=by
 intro s A
 kernel_rfl
theorem r10_142:∀ s A,gzX s A 10 142 15=true:=by
 intro s A
 kernel_rfl
theorem r10_157:∀ s A,gzX s A 10 157 15=true:=by
 intro s A
 kernel_rfl
theorem r10_172:∀ s A,gzX s A 10 172 14=true:=by
 intro s A
 kernel_rfl
theorem r10_213:∀ s A,gzX s A 10 213 13=true:=by
 intro s A
 kernel_rfl
theorem r10_226:∀ s A,gzX s A 10 226 12=true:=by
 intro s A
 kernel_rfl
theorem r10_262:∀ s A,gzX s A 10 262 11=true:=by
 intro s A
 kernel_rfl
theorem r10_295:∀ s A,gzX s A 10 295 11=true:=by
 intro s A
 kernel_rfl
theorem r14_10:∀ s A,gzX s A 14 10 23=true:=by
 intro s A
 kernel_rfl
theorem r14_186:∀ s A,gzX s A 14 186 14=true:=by
 intro s A
 kernel_rfl
theorem r14_200:∀ s A,gzX s A 14 200 13=true:=by
 intro s A
 kernel_rfl
theorem r14_250:∀ s A,gzX s A 14 250 12=true:=by
 intro s A
 kernel_rfl
theorem r15_284:∀ s A,gzX s A 15 284 11=true:=by
 intro s A
 kernel_rfl
theorem r17_0:∀ s A,gzX s A 17 0 2=true:=by
 intro s A
 kernel_rfl
end Go.Ev
