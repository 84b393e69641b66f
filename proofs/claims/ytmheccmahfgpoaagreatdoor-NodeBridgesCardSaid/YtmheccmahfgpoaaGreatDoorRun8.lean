/- Passes of the loop, stretches of each state. -/
import Derived.Test.YtmheccmahfgpoaaGreatDoorSt
namespace Go.Ev
open Go.Proofs
set_option maxRecDepth 1000000
theorem r0_33:∀ s A,gzX s A 0 33 21=true:=by
 intro s A
 kernel_rfl
theorem r0_74:∀ s A,gzX s A 0 74 18=true:=by
 intro s A
 kernel_rfl
theorem r0_157:∀ s A,gzX s A 0 157 15=true:=by
 intro s A
 kernel_rfl
theorem r0_238:∀ s A,gzX s A 0 238 12=true:=by
 intro s A
 kernel_rfl
theorem r0_250:∀ s A,gzX s A 0 250 12=true:=by
 intro s A
 kernel_rfl
theorem r4_10:∀ s A,gzX s A 4 10 23=true:=by
 intro s A
 kernel_rfl
theorem r4_142:∀ s A,gzX s A 4 142 15=true:=by
 intro s A
 kernel_rfl
theorem r4_186:∀ s A,gzX s A 4 186 14=true:=by
 intro s A
 kernel_rfl
theorem r4_200:∀ s A,gzX s A 4 200 13=true:=by
 intro s A
 kernel_rfl
theorem r4_213:∀ s A,gzX s A 4 213 13=true:=by
 intro s A
 kernel_rfl
theorem r4_226:∀ s A,gzX s A 4 226 12=true:=by
 intro s A
 kernel_rfl
theorem r4_295:∀ s A,gzX s A 4 295 11=true:=by
 intro s A
 kernel_rfl
theorem r6_0:∀ s A,gzX s A 6 0 10=true:=by
 intro s A
 kernel_rfl
theorem r9_54:∀ s A,gzX s A 9 54 20=true:=by
 intro s A
 kernel_rfl
theorem r9_109:∀ s A,gzX s A 9 109 17=true:=by
 intro s A
 kernel_rfl
theorem r9_126:∀ s A,gzX s A 9 126 16=true:=by
 intro s A
 kernel_rfl
theorem r9_238:∀ s A,gzX s A 9 238 12=true:=by
 intro s A
 kernel_rfl
theorem r9_250:∀ s A,gzX s A 9 250 12=true:=by
 intro s A
 kernel_rfl
theorem r9_273:∀ s A,gzX s A 9 273 11=true:=by
 intro s A
 kernel_rfl
theorem r9_306:∀ s A,gzX s A 9 306 4=true:=by
 intro s A
 kernel_rfl
theorem r13_0:∀ s A,gzX s A 13 0 10=true:=by
 intro s A
 kernel_rfl
theorem r13_33:∀ s A,gzX s A 13 33 21=true:=by
 intro s A
 kernel_rfl
theorem r13_74:∀ s A,gzX s A 13 74 18=true:=by
 intro s A
 kernel_rfl
theorem r13_92:∀ s A,gzX s A 13 92 17=true:=by
 intro s A
 kernel_rfl
theorem r13_157:∀ s A,gzX s A 13 157 15=true:=by
 intro s A
 kernel_rfl
theorem r13_172:∀ s A,gzX s A 13 172 14=true:=by
 intro s A
 kernel_rfl
theorem r13_213:∀ s A,gzX s A 13 213 13=true:=by
 intro s A
 kernel_rfl
theorem r13_226:∀ s A,gzX s A 13 226 12=true:=by
 intro s A
 kernel_rfl
theorem r13_262:∀ s A,gzX s A 13 262 11=true:=by
 intro s A
 kernel_rfl
end Go.Ev
