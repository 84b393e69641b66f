/- The runs behind the summaries, length by length. -/
import Derived.Test.YtmheccmahfgpoaaGreatDoorMm
namespace Go.Ev
open Go.Proofs
set_option maxRecDepth 1000000
theorem eA15:∀ s,ckA 15 s=true:=fun s=>by kernel_rfl
theorem eB15:∀ s,ckB 15 s=true:=fun s=>by kernel_rfl
theorem eA18:∀ s,ckA 18 s=true:=fun s=>by kernel_rfl
theorem eB18:∀ s,ckB 18 s=true:=fun s=>by kernel_rfl
theorem eA38:∀ s,ckA 38 s=true:=fun s=>by kernel_rfl
theorem eB38:∀ s,ckB 38 s=true:=fun s=>by kernel_rfl
theorem eA43:∀ s,ckA 43 s=true:=fun s=>by kernel_rfl
theorem eB43:∀ s,ckB 43 s=true:=fun s=>by kernel_rfl
theorem eA60:∀ s,ckA 60 s=true:=fun s=>by kernel_rfl
theorem eB60:∀ s,ckB 60 s=true:=fun s=>by kernel_rfl
theorem eA69:∀ s,ckA 69 s=true:=fun s=>by kernel_rfl
theorem eB69:∀ s,ckB 69 s=true:=fun s=>by kernel_rfl
theorem eA84:∀ s,ckA 84 s=true:=fun s=>by kernel_rfl
theorem eB84:∀ s,ckB 84 s=true:=fun s=>by kernel_rfl
theorem eA93:∀ s,ckA 93 s=true:=fun s=>by kernel_rfl
theorem eB93:∀ s,ckB 93 s=true:=fun s=>by kernel_rfl
end Go.Ev
