/- Passes of the loop, stretches of each state. -/
import Derived.Test.YtmheccmahfgpoaaGreatDoorSt
namespace Go.Ev
open Go.Proofs
set_option maxRecDepth 1000000
theorem r1_0:∀ s A,gzX s A 1 0 10=true:=by
 intro s A
 kernel_rfl
theorem r2_54:∀ s A,gzX s A 2 54 20=true:=by
 intro s A
 kernel_rfl
theorem r2_92:∀ s A,gzX s A 2 92 17=true:=by
 intro s A
 kernel_rfl
theorem r2_109:∀ s A,gzX s A 2 109 17=true:=by
 intro s A
 kernel_rfl
theorem r2_126:∀ s A,gzX s A 2 126 16=true:=by
 intro s A
 kernel_rfl
theorem r2_142:∀ s A,gzX s A 2 142 15=true:=by
 intro s A
 kernel_rfl
theorem r2_262:∀ s A,gzX s A 2 262 11=true:=by
 intro s A
 kernel_rfl
theorem r2_273:∀ s A,gzX s A 2 273 11=true:=by
 intro s A
 kernel_rfl
theorem r2_295:∀ s A,gzX s A 2 295 11=true:=by
 intro s A
 kernel_rfl
theorem r2_306:∀ s A,gzX s A 2 306 4=true:=by
 intro s A
 kernel_rfl
theorem r5_0:∀ s A,gzX s A 5 0 10=true:=by
 intro s A
 kernel_rfl
theorem r6_74:∀ s A,gzX s A 6 74 18=true:=by
 intro s A
 kernel_rfl
theorem r6_92:∀ s A,gzX s A 6 92 17=true:=by
 intro s A
 kernel_rfl
theorem r6_157:∀ s A,gzX s A 6 157 15=true:=by
 intro s A
 kernel_rfl
theorem r6_172:∀ s A,gzX s A 6 172 14=true:=by
 intro s A
 kernel_rfl
theorem r6_250:∀ s A,gzX s A 6 250 12=true:=by
 intro s A
 kernel_rfl
theorem r6_262:∀ s A,gzX s A 6 262 11=true:=by
 intro s A
 kernel_rfl
theorem r11_10:∀ s A,gzX s A 11 10 23=true:=by
 intro s A
 kernel_rfl
theorem r11_33:∀ s A,gzX s A 11 33 21=true:=by
 intro s A
 kernel_rfl
theorem r11_186:∀ s A,gzX s A 11 186 14=true:=by
 intro s A
 kernel_rfl
theorem r11_200:∀ s A,gzX s A 11 200 13=true:=by
 intro s A
 kernel_rfl
theorem r12_0:∀ s A,gzX s A 12 0 10=true:=by
 intro s A
 kernel_rfl
theorem r15_54:∀ s A,gzX s A 15 54 20=true:=by
 intro s A
 kernel_rfl
theorem r15_109:∀ s A,gzX s A 15 109 17=true:=by
 intro s A
 kernel_rfl
theorem r15_126:∀ s A,gzX s A 15 126 16=true:=by
 intro s A
 kernel_rfl
theorem r15_142:∀ s A,gzX s A 15 142 15=true:=by
 intro s A
 kernel_rfl
theorem r15_238:∀ s A,gzX s A 15 238 12=true:=by
 intro s A
 kernel_rfl
theorem r15_273:∀ s A,gzX s A 15 273 11=true:=by
 intro s A
 kernel_rfl
theorem r15_295:∀ s A,gzX s A 15 295 11=true:=by
 intro s A
 kernel_rfl
theorem r15_306:∀ s A,gzX s A 15 306 4=true:=by
 intro s A
 kernel_rfl
end Go.Ev
