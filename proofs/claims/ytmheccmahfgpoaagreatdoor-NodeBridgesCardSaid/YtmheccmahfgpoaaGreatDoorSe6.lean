/- The runs behind the summaries, length by length. -/
import Derived.Test.YtmheccmahfgpoaaGreatDoorMm
namespace Go.Ev
open Go.Proofs
set_option maxRecDepth 1000000
theorem eA10:∀ s,ckA 10 s=true:=fun s=>by kernel_rfl
theorem eB10:∀ s,ckB 10 s=true:=fun s=>by kernel_rfl
theorem eA23:∀ s,ckA 23 s=true:=fun s=>by kernel_rfl
theorem eB23:∀ s,ckB 23 s=true:=fun s=>by kernel_rfl
theorem eA37:∀ s,ckA 37 s=true:=fun s=>by kernel_rfl
theorem eB37:∀ s,ckB 37 s=true:=fun s=>by kernel_rfl
theorem eA44:∀ s,ckA 44 s=true:=fun s=>by kernel_rfl
theorem eB44:∀ s,ckB 44 s=true:=fun s=>by kernel_rfl
theorem eA59:∀ s,ckA 59 s=true:=fun s=>by kernel_rfl
theorem eB59:∀ s,ckB 59 s=true:=fun s=>by kernel_rfl
theorem eA70:∀ s,ckA 70 s=true:=fun s=>by kernel_rfl
theorem eB70:∀ s,ckB 70 s=true:=fun s=>by kernel_rfl
theorem eA83:∀ s,ckA 83 s=true:=fun s=>by kernel_rfl
theorem eB83:∀ s,ckB 83 s=true:=fun s=>by kernel_rfl
theorem eA94:∀ s,ckA 94 s=true:=fun s=>by kernel_rfl
theorem eB94:∀ s,ckB 94 s=true:=fun s=>by kernel_rfl
end Go.Ev
