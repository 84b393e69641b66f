/- The runs behind the summaries, length by length. -/
import Derived.Test.YtmheccmahfgpoaaGreatDoorMm
namespace Go.Ev
open Go.Proofs
set_option maxRecDepth 1000000
theorem eA0:∀ s,ckA 0 s=true:=fun s=>by kernel_rfl
theorem eB0:∀ s,ckB 0 s=true:=fun s=>by kernel_rfl
theorem eA8:∀ s,ckA 8 s=true:=fun s=>by kernel_rfl
theorem eB8:∀ s,ckB 8 s=true:=fun s=>by kernel_rfl
theorem eA25:∀ s,ckA 25 s=true:=fun s=>by kernel_rfl
theorem eB25:∀ s,ckB 25 s=true:=fun s=>by kernel_rfl
theorem eA32:∀ s,ckA 32 s=true:=fun s=>by kernel_rfl
theorem eB32:∀ s,ckB 32 s=true:=fun s=>by kernel_rfl
theorem eA49:∀ s,ckA 49 s=true:=fun s=>by kernel_rfl
theorem eB49:∀ s,ckB 49 s=true:=fun s=>by kernel_rfl
theorem eA58:∀ s,ckA 58 s=true:=fun s=>by kernel_rfl
theorem eB58:∀ s,ckB 58 s=true:=fun s=>by kernel_rfl
theorem eA71:∀ s,ckA 71 s=true:=fun s=>by kernel_rfl
theorem eB71:∀ s,ckB 71 s=true:=fun s=>by kernel_rfl
theorem eA82:∀ s,ckA 82 s=true:=fun s=>by kernel_rfl
theorem eB82:∀ s,ckB 82 s=true:=fun s=>by kernel_rfl
theorem eA95:∀ s,ckA 95 s=true:=fun s=>by kernel_rfl
theorem eB95:∀ s,ckB 95 s=true:=fun s=>by kernel_rfl
end Go.Ev
