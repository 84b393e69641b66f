/- The runs behind the summaries, length by length. -/
import Derived.Test.YtmheccmahfgpoaaGreatDoorMm
namespace Go.Ev
open Go.Proofs
set_option maxRecDepth 1000000
theorem eA14:∀ s,ckA 14 s=true:=fun s=>by kernel_rfl
theorem eB14:∀ s,ckB 14 s=true:=fun s=>by kernel_rfl
theorem eA19:∀ s,ckA 19 s=true:=fun s=>by kernel_rfl
theorem eB19:∀ s,ckB 19 s=true:=fun s=>by kernel_rfl
theorem eA36:∀ s,ckA 36 s=true:=fun s=>by kernel_rfl
theorem eB36:∀ s,ckB 36 s=true:=fun s=>by kernel_rfl
theorem eA45:∀ s,ckA 45 s=true:=fun s=>by kernel_rfl
theorem eB45:∀ s,ckB 45 s=true:=fun s=>by kernel_rfl
theorem eA56:∀ s,ckA 56 s=true:=fun s=>by kernel_rfl
theorem eB56:∀ s,ckB 56 s=true:=fun s=>by kernel_rfl
theorem eA73:∀ s,ckA 73 s=true:=fun s=>by kernel_rfl
theorem eB73:∀ s,ckB 73 s=true:=fun s=>by kernel_rfl
theorem eA80:∀ s,ckA 80 s=true:=fun s=>by kernel_rfl
theorem eB80:∀ s,ckB 80 s=true:=fun s=>by kernel_rfl
theorem eA97:∀ s,ckA 97 s=true:=fun s=>by kernel_rfl
theorem eB97:∀ s,ckB 97 s=true:=fun s=>by kernel_rfl
end Go.Ev
