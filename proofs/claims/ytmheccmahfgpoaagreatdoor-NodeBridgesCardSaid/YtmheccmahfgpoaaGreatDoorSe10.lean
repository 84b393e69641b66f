/- The runs behind the summaries, length by length. -/
import Derived.Test.YtmheccmahfgpoaaGreatDoorMm
namespace Go.Ev
open Go.Proofs
set_option maxRecDepth 1000000
theorem eA4:∀ s,ckA 4 s=true:=fun s=>by kernel_rfl
theorem eB4:∀ s,ckB 4 s=true:=fun s=>by kernel_rfl
theorem eA9:∀ s,ckA 9 s=true:=fun s=>by kernel_rfl
theorem eB9:∀ s,ckB 9 s=true:=fun s=>by kernel_rfl
theorem eA24:∀ s,ckA 24 s=true:=fun s=>by kernel_rfl
theorem eB24:∀ s,ckB 24 s=true:=fun s=>by kernel_rfl
theorem eA34:∀ s,ckA 34 s=true:=fun s=>by kernel_rfl
theorem eB34:∀ s,ckB 34 s=true:=fun s=>by kernel_rfl
theorem eA47:∀ s,ckA 47 s=true:=fun s=>by kernel_rfl
theorem eB47:∀ s,ckB 47 s=true:=fun s=>by kernel_rfl
theorem eA63:∀ s,ckA 63 s=true:=fun s=>by kernel_rfl
theorem eB63:∀ s,ckB 63 s=true:=fun s=>by kernel_rfl
theorem eA66:∀ s,ckA 66 s=true:=fun s=>by kernel_rfl
theorem eB66:∀ s,ckB 66 s=true:=fun s=>by kernel_rfl
theorem eA87:∀ s,ckA 87 s=true:=fun s=>by kernel_rfl
theorem eB87:∀ s,ckB 87 s=true:=fun s=>by kernel_rfl
theorem eA90:∀ s,ckA 90 s=true:=fun s=>by kernel_rfl
theorem eB90:∀ s,ckB 90 s=true:=fun s=>by kernel_rfl
end Go.Ev
