/- Passes of the loop, stretches of each state. -/
import Derived.Test.YtmheccmahfgpoaaGreatDoorSt
namespace Go.Ev
open Go.Proofs
set_option maxRecDepth 1000000
theorem r0_10:∀ s A,gzX s A 0 10 23=true:=by
 intro s A
 kernel_rfl
theorem r0_172:∀ s A,gzX s A 0 172 14=true:=by
 intro s A
 kernel_rfl
theorem r0_186:∀ s A,gzX s A 0 186 14=true:=by
 intro s A
 kernel_rfl
theorem r0_200:∀ s A,gzX s A 0 200 13=true:=by
 intro s A
 kernel_rfl
theorem r0_213:∀ s A,gzX s A 0 213 13=true:=by
 intro s A
 kernel_rfl
theorem r0_226:∀ s A,gzX s A 0 226 12=true:=by
 intro s A
 kernel_rfl
theorem r2_0:∀ s A,gzX s A 2 0 10=true:=by
 intro s A
 kernel_rfl
theorem r4_33:∀ s A,gzX s A 4 33 21=true:=by
 intro s A
 kernel_rfl
theorem r4_54:∀ s A,gzX s A 4 54 20=true:=by
 intro s A
 kernel_rfl
theorem r4_109:∀ s A,gzX s A 4 109 17=true:=by
 intro s A
 kernel_rfl
theorem r4_126:∀ s A,gzX s A 4 126 16=true:=by
 intro s A
 kernel_rfl
theorem r4_238:∀ s A,gzX s A 4 238 12=true:=by
 intro s A
 kernel_rfl
theorem r4_273:∀ s A,gzX s A 4 273 11=true:=by
 intro s A
 kernel_rfl
theorem r4_306:∀ s A,gzX s A 4 306 4=true:=by
 intro s A
 kernel_rfl
theorem r8_0:∀ s A,gzX s A 8 0 2=true:=by
 intro s A
 kernel_rfl
theorem r9_0:∀ s A,gzX s A 9 0 10=true:=by
 intro s A
 kernel_rfl
theorem r9_74:∀ s A,gzX s A 9 74 18=true:=by
 intro s A
 kernel_rfl
theorem r9_92:∀ s A,gzX s A 9 92 17=true:=by
 intro s A
 kernel_rfl
theorem r9_142:∀ s A,gzX s A 9 142 15=true:=by
 intro s A
 kernel_rfl
theorem r9_157:∀ s A,gzX s A 9 157 15=true:=by
 intro s A
 kernel_rfl
theorem r9_172:∀ s A,gzX s A 9 172 14=true:=by
 intro s A
 kernel_rfl
theorem r9_213:∀ s A,gzX s A 9 213 13=true:=by
 intro s A
 kernel_rfl
theorem r9_226:∀ s A,gzX s A 9 226 12=true:=by
 intro s A
 kernel_rfl
theorem r9_262:∀ s A,gzX s A 9 262 11=true:=by
 intro s A
 kernel_rfl
theorem r9_295:∀ s A,gzX s A 9 295 11=true:=by
 intro s A
 kernel_rfl
theorem r13_10:∀ s A,gzX s A 13 10 23=true:=by
 intro s A
 kernel_rfl
theorem r13_186:∀ s A,gzX s A 13 186 14=true:=by
 intro s A
 kernel_rfl
theorem r13_200:∀ s A,gzX s A 13 200 13=true:=by
 intro s A
 kernel_rfl
theorem r13_250:∀ s A,gzX s A 13 250 12=true:=by
 intro s A
 kernel_rfl
theorem r15_0:∀ s A,gzX s A 15 0 10=true:=by
 intro s A
 kernel_rfl
end Go.Ev
