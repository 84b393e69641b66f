/- The runs behind the summaries, length by length. -/
import Derived.Test.YtmheccmahfgpoaaGreatDoorMm
namespace Go.Ev
open Go.Proofs
set_option maxRecDepth 1000000
theorem eA1:∀ s,ckA 1 s=true:=fun s=>by kernel_rfl
theorem eB1:∀ s,ckB 1 s=true:=fun s=>by kernel_rfl
theorem eA7:∀ s,ckA 7 s=true:=fun s=>by kernel_rfl
theorem eB7:∀ s,ckB 7 s=true:=fun s=>by kernel_rfl
theorem eA26:∀ s,ckA 26 s=true:=fun s=>by kernel_rfl
theorem eB26:∀ s,ckB 26 s=true:=fun s=>by kernel_rfl
theorem eA31:∀ s,ckA 31 s=true:=fun s=>by kernel_rfl
theorem eB31:∀ s,ckB 31 s=true:=fun s=>by kernel_rfl
theorem eA50:∀ s,ckA 50 s=true:=fun s=>by kernel_rfl
theorem eB50:∀ s,ckB 50 s=true:=fun s=>by kernel_rfl
theorem eA57:∀ s,ckA 57 s=true:=fun s=>by kernel_rfl
theorem eB57:∀ s,ckB 57 s=true:=fun s=>by kernel_rfl
theorem eA72:∀ s,ckA 72 s=true:=fun s=>by kernel_rfl
theorem eB72:∀ s,ckB 72 s=true:=fun s=>by kernel_rfl
theorem eA81:∀ s,ckA 81 s=true:=fun s=>by kernel_rfl
theorem eB81:∀ s,ckB 81 s=true:=fun s=>by kernel_rfl
theorem eA96:∀ s,ckA 96 s=true:=fun s=>by kernel_rfl
theorem eB96:∀ s,ckB 96 s=true:=fun s=>by kernel_rfl
end Go.Ev
