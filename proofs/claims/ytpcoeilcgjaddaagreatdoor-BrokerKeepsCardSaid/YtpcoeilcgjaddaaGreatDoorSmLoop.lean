/- The summaries are right. -/
import Derived.Test.YtpcoeilcgjaddaaGreatDoorSm
namespace Go.Ev
open Go.Proofs
set_option maxRecDepth 1000000
theorem sr0 : ∀ σ, smChk Tryz.prog codeN natW 1000 115 100 σ SmL0 = true := by
  intro σ
  kernel_rfl
noncomputable def natM0 : Nats := natM Tryz.prog codeN 1000 115 100 SmL0 natW
theorem natM0_ok : ∀ σ K, KnownOk σ K → @NatsOk (linSym σ K) Tryz.prog natM0 := natM_ok mixedN codeN_ok globN (smChk_ok mixedN codeN_ok (nats_lin natW_ok) sr0) (nats_lin natW_ok)
theorem sr1 : ∀ σ, smChk Tryz.prog codeN natW 1000 41 100 σ SmL1 = true := by
  intro σ
  kernel_rfl
noncomputable def natM1 : Nats := natM Tryz.prog codeN 1000 41 100 SmL1 natM0
theorem natM1_ok : ∀ σ K, KnownOk σ K → @NatsOk (linSym σ K) Tryz.prog natM1 := natM_ok mixedN codeN_ok globN (smChk_ok mixedN codeN_ok (nats_lin natW_ok) sr1) natM0_ok
theorem sr2 : ∀ σ, smChk Tryz.prog codeN natW 1000 40 100 σ SmL2 = true := by
  intro σ
  kernel_rfl
noncomputable def natM2 : Nats := natM Tryz.prog codeN 1000 40 100 SmL2 natM1
theorem natM2_ok : ∀ σ K, KnownOk σ K → @NatsOk (linSym σ K) Tryz.prog natM2 := natM_ok mixedN codeN_ok globN (smChk_ok mixedN codeN_ok (nats_lin natW_ok) sr2) natM1_ok
theorem sr3 : ∀ σ, smChk Tryz.prog codeN natW 1000 187 100 σ SmL3 = true := by
  intro σ
  kernel_rfl
noncomputable def natM3 : Nats := natM Tryz.prog codeN 1000 187 100 SmL3 natM2
theorem natM3_ok : ∀ σ K, KnownOk σ K → @NatsOk (linSym σ K) Tryz.prog natM3 := natM_ok mixedN codeN_ok globN (smChk_ok mixedN codeN_ok (nats_lin natW_ok) sr3) natM2_ok
theorem sr4 : ∀ σ, smChk Tryz.prog codeN natW 1000 12 100 σ SmL4 = true := by
  intro σ
  kernel_rfl
noncomputable def natM4 : Nats := natM Tryz.prog codeN 1000 12 100 SmL4 natM3
theorem natM4_ok : ∀ σ K, KnownOk σ K → @NatsOk (linSym σ K) Tryz.prog natM4 := natM_ok mixedN codeN_ok globN (smChk_ok mixedN codeN_ok (nats_lin natW_ok) sr4) natM3_ok
theorem sr5 : ∀ σ, smChk Tryz.prog codeN natW 1000 218 100 σ SmL5 = true := by
  intro σ
  kernel_rfl
noncomputable def natM5 : Nats := natM Tryz.prog codeN 1000 218 100 SmL5 natM4
theorem natM5_ok : ∀ σ K, KnownOk σ K → @NatsOk (linSym σ K) Tryz.prog natM5 := natM_ok mixedN codeN_ok globN (smChk_ok mixedN codeN_ok (nats_lin natW_ok) sr5) natM4_ok
theorem sr6 : ∀ σ, smChk Tryz.prog codeN natW 1000 219 100 σ SmL6 = true := by
  intro σ
  kernel_rfl
noncomputable def natM6 : Nats := natM Tryz.prog codeN 1000 219 100 SmL6 natM5
theorem natM6_ok : ∀ σ K, KnownOk σ K → @NatsOk (linSym σ K) Tryz.prog natM6 := natM_ok mixedN codeN_ok globN (smChk_ok mixedN codeN_ok (nats_lin natW_ok) sr6) natM5_ok
theorem sr7 : ∀ σ, smChk Tryz.prog codeN natW 1000 44 100 σ SmL7 = true := by
  intro σ
  kernel_rfl
noncomputable def natM7 : Nats := natM Tryz.prog codeN 1000 44 100 SmL7 natM6
theorem natM7_ok : ∀ σ K, KnownOk σ K → @NatsOk (linSym σ K) Tryz.prog natM7 := natM_ok mixedN codeN_ok globN (smChk_ok mixedN codeN_ok (nats_lin natW_ok) sr7) natM6_ok
theorem sr8 : ∀ σ, smChk Tryz.prog codeN natW 1000 202 100 σ SmL8 = true := by
  intro σ
  kernel_rfl
noncomputable def natM8 : Nats := natM Tryz.prog codeN 1000 202 100 SmL8 natM7
theorem natM8_ok : ∀ σ K, KnownOk σ K → @NatsOk (linSym σ K) Tryz.prog natM8 := natM_ok mixedN codeN_ok globN (smChk_ok mixedN codeN_ok (nats_lin natW_ok) sr8) natM7_ok
theorem sr9 : ∀ σ, smChk Tryz.prog codeN natW 1000 377 100 σ SmL9 = true := by
  intro σ
  kernel_rfl
noncomputable def natM9 : Nats := natM Tryz.prog codeN 1000 377 100 SmL9 natM8
theorem natM9_ok : ∀ σ K, KnownOk σ K → @NatsOk (linSym σ K) Tryz.prog natM9 := natM_ok mixedN codeN_ok globN (smChk_ok mixedN codeN_ok (nats_lin natW_ok) sr9) natM8_ok
noncomputable def natX : Nats := natM9
theorem natX_ok : ∀ σ K, KnownOk σ K → @NatsOk (linSym σ K) Tryz.prog natX := natM9_ok
end Go.Ev
