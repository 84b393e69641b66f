/- The runs behind the summaries, length by length. -/
import Derived.Test.YtmheccmahfgpoaaGreatDoorMm
namespace Go.Ev
open Go.Proofs
set_option maxRecDepth 1000000
theorem eA2:∀ s,ckA 2 s=true:=fun s=>by kernel_rfl
theorem eB2:∀ s,ckB 2 s=true:=fun s=>by kernel_rfl
theorem eA6:∀ s,ckA 6 s=true:=fun s=>by kernel_rfl
theorem eB6:∀ s,ckB 6 s=true:=fun s=>by kernel_rfl
theorem eA27:∀ s,ckA 27 s=true:=fun s=>by kernel_rfl
theorem eB27:∀ s,ckB 27 s=true:=fun s=>by kernel_rfl
theorem eA30:∀ s,ckA 30 s=true:=fun s=>by kernel_rfl
theorem eB30:∀ s,ckB 30 s=true:=fun s=>by kernel_rfl
theorem eA51:∀ s,ckA 51 s=true:=fun s=>by kernel_rfl
theorem eB51:∀ s,ckB 51 s=true:=fun s=>by kernel_rfl
theorem eA54:∀ s,ckA 54 s=true:=fun s=>by kernel_rfl
theorem eB54:∀ s,ckB 54 s=true:=fun s=>by kernel_rfl
theorem eA75:∀ s,ckA 75 s=true:=fun s=>by kernel_rfl
theorem eB75:∀ s,ckB 75 s=true:=fun s=>by kernel_rfl
theorem eA78:∀ s,ckA 78 s=true:=fun s=>by kernel_rfl
theorem eB78:∀ s,ckB 78 s=true:=fun s=>by kernel_rfl
theorem eA99:∀ s,ckA 99 s=true:=fun s=>by kernel_rfl
theorem eB99:∀ s,ckB 99 s=true:=fun s=>by kernel_rfl
end Go.Ev
