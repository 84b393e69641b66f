/- The runs behind the summaries, length by length. -/
import Derived.Test.YtmheccmahfgpoaaGreatDoorMm
namespace Go.Ev
open Go.Proofs
set_option maxRecDepth 1000000
theorem eA11:∀ s,ckA 11 s=true:=fun s=>by kernel_rfl
theorem eB11:∀ s,ckB 11 s=true:=fun s=>by kernel_rfl
theorem eA22:∀ s,ckA 22 s=true:=fun s=>by kernel_rfl
theorem eB22:∀ s,ckB 22 s=true:=fun s=>by kernel_rfl
theorem eA39:∀ s,ckA 39 s=true:=fun s=>by kernel_rfl
theorem eB39:∀ s,ckB 39 s=true:=fun s=>by kernel_rfl
theorem eA42:∀ s,ckA 42 s=true:=fun s=>by kernel_rfl
theorem eB42:∀ s,ckB 42 s=true:=fun s=>by kernel_rfl
theorem eA61:∀ s,ckA 61 s=true:=fun s=>by kernel_rfl
theorem eB61:∀ s,ckB 61 s=true:=fun s=>by kernel_rfl
theorem eA68:∀ s,ckA 68 s=true:=fun s=>by kernel_rfl
theorem eB68:∀ s,ckB 68 s=true:=fun s=>by kernel_rfl
theorem eA85:∀ s,ckA 85 s=true:=fun s=>by kernel_rfl
theorem eB85:∀ s,ckB 85 s=true:=fun s=>by kernel_rfl
theorem eA92:∀ s,ckA 92 s=true:=fun s=>by kernel_rfl
theorem eB92:∀ s,ckB 92 s=true:=fun s=>by kernel_rfl
end Go.Ev
