/- The runs behind the summaries, length by length. -/
import Derived.Test.YtmheccmahfgpoaaGreatDoorMm
namespace Go.Ev
open Go.Proofs
set_option maxRecDepth 1000000
theorem eA3:∀ s,ckA 3 s=true:=fun s=>by kernel_rfl
theorem eB3:∀ s,ckB 3 s=true:=fun s=>by kernel_rfl
theorem eA5:∀ s,ckA 5 s=true:=fun s=>by kernel_rfl
theorem eB5:∀ s,ckB 5 s=true:=fun s=>by kernel_rfl
theorem eA28:∀ s,ckA 28 s=true:=fun s=>by kernel_rfl
theorem eB28:∀ s,ckB 28 s=true:=fun s=>by kernel_rfl
theorem eA29:∀ s,ckA 29 s=true:=fun s=>by kernel_rfl
theorem eB29:∀ s,ckB 29 s=true:=fun s=>by kernel_rfl
theorem eA52:∀ s,ckA 52 s=true:=fun s=>by kernel_rfl
theorem eB52:∀ s,ckB 52 s=true:=fun s=>by kernel_rfl
theorem eA53:∀ s,ckA 53 s=true:=fun s=>by kernel_rfl
theorem eB53:∀ s,ckB 53 s=true:=fun s=>by kernel_rfl
theorem eA76:∀ s,ckA 76 s=true:=fun s=>by kernel_rfl
theorem eB76:∀ s,ckB 76 s=true:=fun s=>by kernel_rfl
theorem eA77:∀ s,ckA 77 s=true:=fun s=>by kernel_rfl
theorem eB77:∀ s,ckB 77 s=true:=fun s=>by kernel_rfl
theorem eA100:∀ s,ckA 100 s=true:=fun s=>by kernel_rfl
theorem eB100:∀ s,ckB 100 s=true:=fun s=>by kernel_rfl
end Go.Ev
