/- The runs behind the summaries, length by length. -/
import Derived.Test.YtmheccmahfgpoaaGreatDoorMm
namespace Go.Ev
open Go.Proofs
set_option maxRecDepth 1000000
theorem eA12:∀ s,ckA 12 s=true:=fun s=>by kernel_rfl
theorem eB12:∀ s,ckB 12 s=true:=fun s=>by kernel_rfl
theorem eA21:∀ s,ckA 21 s=true:=fun s=>by kernel_rfl
theorem eB21:∀ s,ckB 21 s=true:=fun s=>by kernel_rfl
theorem eA33:∀ s,ckA 33 s=true:=fun s=>by kernel_rfl
theorem eB33:∀ s,ckB 33 s=true:=fun s=>by kernel_rfl
theorem eA48:∀ s,ckA 48 s=true:=fun s=>by kernel_rfl
theorem eB48:∀ s,ckB 48 s=true:=fun s=>by kernel_rfl
theorem eA62:∀ s,ckA 62 s=true:=fun s=>by kernel_rfl
theorem eB62:∀ s,ckB 62 s=true:=fun s=>by kernel_rfl
theorem eA67:∀ s,ckA 67 s=true:=fun s=>by kernel_rfl
theorem eB67:∀ s,ckB 67 s=true:=fun s=>by kernel_rfl
theorem eA86:∀ s,ckA 86 s=true:=fun s=>by kernel_rfl
theorem eB86:∀ s,ckB 86 s=true:=fun s=>by kernel_rfl
theorem eA91:∀ s,ckA 91 s=true:=fun s=>by kernel_rfl
theorem eB91:∀ s,ckB 91 s=true:=fun s=>by kernel_rfl
end Go.Ev
