/- The runs behind the summaries, length by length. -/
import Derived.Test.YtmheccmahfgpoaaGreatDoorMm
namespace Go.Ev
open Go.Proofs
set_option maxRecDepth 1000000
theorem eA16:∀ s,ckA 16 s=true:=fun s=>by kernel_rfl
theorem eB16:∀ s,ckB 16 s=true:=fun s=>by kernel_rfl
theorem eA17:∀ s,ckA 17 s=true:=fun s=>by kernel_rfl
theorem eB17:∀ s,ckB 17 s=true:=fun s=>by kernel_rfl
theorem eA40:∀ s,ckA 40 s=true:=fun s=>by kernel_rfl
theorem eB40:∀ s,ckB 40 s=true:=fun s=>by kernel_rfl
theorem eA41:∀ s,ckA 41 s=true:=fun s=>by kernel_rfl
theorem eB41:∀ s,ckB 41 s=true:=fun s=>by kernel_rfl
theorem eA64:∀ s,ckA 64 s=true:=fun s=>by kernel_rfl
theorem eB64:∀ s,ckB 64 s=true:=fun s=>by kernel_rfl
theorem eA65:∀ s,ckA 65 s=true:=fun s=>by kernel_rfl
theorem eB65:∀ s,ckB 65 s=true:=fun s=>by kernel_rfl
theorem eA88:∀ s,ckA 88 s=true:=fun s=>by kernel_rfl
theorem eB88:∀ s,ckB 88 s=true:=fun s=>by kernel_rfl
theorem eA89:∀ s,ckA 89 s=true:=fun s=>by kernel_rfl
theorem eB89:∀ s,ckB 89 s=true:=fun s=>by kernel_rfl
end Go.Ev
