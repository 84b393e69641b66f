/- The runs behind the summaries, length by length. -/
import Derived.Test.YtmheccmahfgpoaaGreatDoorMm
namespace Go.Ev
open Go.Proofs
set_option maxRecDepth 1000000
theorem eA13:∀ s,ckA 13 s=true:=fun s=>by kernel_rfl
theorem eB13:∀ s,ckB 13 s=true:=fun s=>by kernel_rfl
theorem eA20:∀ s,ckA 20 s=true:=fun s=>by kernel_rfl
theorem eB20:∀ s,ckB 20 s=true:=fun s=>by kernel_rfl
theorem eA35:∀ s,ckA 35 s=true:=fun s=>by kernel_rfl
theorem eB35:∀ s,ckB 35 s=true:=fun s=>by kernel_rfl
theorem eA46:∀ s,ckA 46 s=true:=fun s=>by kernel_rfl
theorem eB46:∀ s,ckB 46 s=true:=fun s=>by kernel_rfl
theorem eA55:∀ s,ckA 55 s=true:=fun s=>by kernel_rfl
theorem eB55:∀ s,ckB 55 s=true:=fun s=>by kernel_rfl
theorem eA74:∀ s,ckA 74 s=true:=fun s=>by kernel_rfl
theorem eB74:∀ s,ckB 74 s=true:=fun s=>by kernel_rfl
theorem eA79:∀ s,ckA 79 s=true:=fun s=>by kernel_rfl
theorem eB79:∀ s,ckB 79 s=true:=fun s=>by kernel_rfl
theorem eA98:∀ s,ckA 98 s=true:=fun s=>by kernel_rfl
theorem eB98:∀ s,ckB 98 s=true:=fun s=>by kernel_rfl
end Go.Ev
