/- The runs behind the summaries. -/
import Derived.Test.YteejciioplkoeaaGreatDoorMm
import Derived.Test.YteejciioplkoeaaGreatDoorHas
namespace Go.Ev
open Go.Proofs
set_option maxRecDepth 1000000
set_option linter.unusedVariables false
theorem itoa_fn:ItoaFn Tryz.prog 180:=itoaFn_of globN (fsChk_ok (fuel:=1000) (G:=100) mixedN codeN_ok (nats_lin natN_ok) fun s=>by kernel_rfl)
theorem seen_fn:SeenFn Tryz.prog 73:=seenFn_of globN (fsChk_ok (fuel:=1000) (G:=100) mixedN codeN_ok (natHas_ok (fuel:=1000) mixedN codeN_ok has_fn (nats_lin natN_ok)) fun s=>by kernel_rfl)
theorem natQ0_ok:∀ s K,KnownOk s K→@NatsOk (linSym s K) Tryz.prog natQ0:=natI10_ok mixedN codeN_ok itoa_fn (natSeen_ok mixedN codeN_ok seen_fn (nats_lin natN_ok))
theorem sr1:∀ s,fsChk Tryz.prog codeN natQ0 1000 106 100 s fL1=true:=fun s=>by kernel_rfl
theorem natQ1_ok:∀ s K,KnownOk s K→@NatsOk (linSym s K) Tryz.prog natQ1:=natF_ok mixedN codeN_ok globN (fsChk_ok mixedN codeN_ok natQ0_ok sr1) natQ0_ok
theorem sr2:∀ s,fsChk Tryz.prog codeN natQ1 1000 173 100 s fL2=true:=fun s=>by kernel_rfl
theorem natQ2_ok:∀ s K,KnownOk s K→@NatsOk (linSym s K) Tryz.prog natQ2:=natF_ok mixedN codeN_ok globN (fsChk_ok mixedN codeN_ok natQ1_ok sr2) natQ1_ok
theorem sr3:∀ s,fsChk Tryz.prog codeN natQ2 1000 76 100 s fL3=true:=fun s=>by kernel_rfl
theorem natQ3_ok:∀ s K,KnownOk s K→@NatsOk (linSym s K) Tryz.prog natQ3:=natF_ok mixedN codeN_ok globN (fsChk_ok mixedN codeN_ok natQ2_ok sr3) natQ2_ok
theorem sr4:∀ s,fsChk Tryz.prog codeN natQ3 1000 17 100 s fL4=true:=fun s=>by kernel_rfl
theorem natQ4_ok:∀ s K,KnownOk s K→@NatsOk (linSym s K) Tryz.prog natQ4:=natF_ok mixedN codeN_ok globN (fsChk_ok mixedN codeN_ok natQ3_ok sr4) natQ3_ok
theorem sr5:∀ s,fsChk Tryz.prog codeN natQ4 1000 126 100 s fL5=true:=fun s=>by kernel_rfl
theorem natQ5_ok:∀ s K,KnownOk s K→@NatsOk (linSym s K) Tryz.prog natQ5:=natF_ok mixedN codeN_ok globN (fsChk_ok mixedN codeN_ok natQ4_ok sr5) natQ4_ok
theorem sr6:∀ s,fsChk Tryz.prog codeN natQ5 1000 11 100 s fL6=true:=fun s=>by kernel_rfl
theorem natQ6_ok:∀ s K,KnownOk s K→@NatsOk (linSym s K) Tryz.prog natQ6:=natF_ok mixedN codeN_ok globN (fsChk_ok mixedN codeN_ok natQ5_ok sr6) natQ5_ok
theorem sr7:∀ s,fsChk Tryz.prog codeN natQ6 1000 78 100 s fL7=true:=fun s=>by kernel_rfl
theorem natQ7_ok:∀ s K,KnownOk s K→@NatsOk (linSym s K) Tryz.prog natQ7:=natF_ok mixedN codeN_ok globN (fsChk_ok mixedN codeN_ok natQ6_ok sr7) natQ6_ok
theorem sr8:∀ s,fsChk Tryz.prog codeN natQ7 1000 10 100 s fL8=true:=fun s=>by kernel_rfl
theorem natQ8_ok:∀ s K,KnownOk s K→@NatsOk (linSym s K) Tryz.prog natQ8:=natF_ok mixedN codeN_ok globN (fsChk_ok mixedN codeN_ok natQ7_ok sr8) natQ7_ok
theorem sr9:∀ s,fsChk Tryz.prog codeN natQ8 1000 34 100 s fL9=true:=fun s=>by kernel_rfl
theorem natQ9_ok:∀ s K,KnownOk s K→@NatsOk (linSym s K) Tryz.prog natQ9:=natF_ok mixedN codeN_ok globN (fsChk_ok mixedN codeN_ok natQ8_ok sr9) natQ8_ok
theorem sr10:∀ s,fsChk Tryz.prog codeN natQ9 1000 9 100 s fL10=true:=fun s=>by kernel_rfl
theorem natQ10_ok:∀ s K,KnownOk s K→@NatsOk (linSym s K) Tryz.prog natQ10:=natF_ok mixedN codeN_ok globN (fsChk_ok mixedN codeN_ok natQ9_ok sr10) natQ9_ok
theorem natX_ok:∀ s K,KnownOk s K→@NatsOk (linSym s K) Tryz.prog natX:=natQ10_ok
end Go.Ev
