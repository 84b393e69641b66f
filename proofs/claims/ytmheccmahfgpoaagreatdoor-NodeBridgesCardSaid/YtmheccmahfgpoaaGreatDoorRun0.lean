/- Passes of the loop, stretches of each state. -/
import Derived.Test.YtmheccmahfgpoaaGreatDoorSt
namespace Go.Ev
open Go.Proofs
set_option maxRecDepth 1000000
theorem r0_0:∀ s A,gzX s A 0 0 10=true:=by
 intro s A
 kernel_rfl
theorem r0_54:∀ s A,gzX s A 0 54 20=true:=by
 intro s A
 kernel_rfl
theorem r0_92:∀ s A,gzX s A 0 92 17=true:=by
 intro s A
 kernel_rfl
theorem r0_109:∀ s A,gzX s A 0 109 17=true:=by
 intro s A
 kernel_rfl
theorem r0_126:∀ s A,gzX s A 0 126 16=true:=by
 intro s A
 kernel_rfl
theorem r0_142:∀ s A,gzX s A 0 142 15=true:=by
 intro s A
 kernel_rfl
theorem r0_262:∀ s A,gzX s A 0 262 11=true:=by
 intro s A
 kernel_rfl
theorem r0_273:∀ s A,gzX s A 0 273 11=true:=by
 intro s A
 kernel_rfl
theorem r0_295:∀ s A,gzX s A 0 295 11=true:=by
 intro s A
 kernel_rfl
theorem r0_306:∀ s A,gzX s A 0 306 4=true:=by
 intro s A
 kernel_rfl
theorem r4_0:∀ s A,gzX s A 4 0 10=true:=by
 intro s A
 kernel_rfl
theorem r4_74:∀ s A,gzX s A 4 74 18=true:=by
 intro s A
 kernel_rfl
theorem r4_92:∀ s A,gzX s A 4 92 17=true:=by
 intro s A
 kernel_rfl
theorem r4_157:∀ s A,gzX s A 4 157 15=true:=by
 intro s A
 kernel_rfl
theorem r4_172:∀ s A,gzX s A 4 172 14=true:=by
 intro s A
 kernel_rfl
theorem r4_250:∀ s A,gzX s A 4 250 12=true:=by
 intro s A
 kernel_rfl
theorem r4_262:∀ s A,gzX s A 4 262 11=true:=by
 intro s A
 kernel_rfl
theorem r9_10:∀ s A,gzX s A 9 10 23=true:=by
 intro s A
 kernel_rfl
theorem r9_33:∀ s A,gzX s A 9 33 21=true:=by
 intro s A
 kernel_rfl
theorem r9_186:∀ s A,gzX s A 9 186 14=true:=by
 intro s A
 kernel_rfl
theorem r9_200:∀ s A,gzX s A 9 200 13=true:=by
 intro s A
 kernel_rfl
theorem r11_0:∀ s A,gzX s A 11 0 10=true:=by
 intro s A
 kernel_rfl
theorem r13_54:∀ s A,gzX s A 13 54 20=true:=by
 intro s A
 kernel_rfl
theorem r13_109:∀ s A,gzX s A 13 109 17=true:=by
 intro s A
 kernel_rfl
theorem r13_126:∀ s A,gzX s A 13 126 16=true:=by
 intro s A
 kernel_rfl
theorem r13_142:∀ s A,gzX s A 13 142 15=true:=by
 intro s A
 kernel_rfl
theorem r13_238:∀ s A,gzX s A 13 238 12=true:=by
 intro s A
 kernel_rfl
theorem r13_273:∀ s A,gzX s A 13 273 11=true:=by
 intro s A
 kernel_rfl
theorem r13_295:∀ s A,gzX s A 13 295 11=true:=by
 intro s A
 kernel_rfl
theorem r13_306:∀ s A,gzX s A 13 306 4=true:=by
 intro s A
 kernel_rfl
end Go.Ev
