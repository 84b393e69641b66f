/- The runs behind the summaries. -/
import Derived.Test.YtkolecenifiaaaaGreatDoorMm
import Derived.Test.YtkolecenifiaaaaGreatDoorHas
namespace Go.Ev
open Go.Proofs
set_option maxRecDepth 1000000
set_option linter.unusedVariables false
theorem itoa_fn:ItoaFn Tryz.prog 390:=itoaFn_of globN (fsChk_ok (fuel:=1000) (G:=100) mixedN codeN_ok (nats_lin natV_ok) fun s=>by kernel_rfl)
theorem natIt_ok:∀ s K,KnownOk s K→@NatsOk (linSym s K) Tryz.prog natIt:=natI10_ok mixedN codeN_ok itoa_fn (nats_lin natV_ok)
theorem natQ0_ok:∀ s K,KnownOk s K→@NatsOk (linSym s K) Tryz.prog natQ0:=natHasS_ok mixedN codeN_ok hasS_fn (natNames_ok mixedN codeN_ok names36_ok natIt_ok)
theorem sr1:∀ s,fsChk Tryz.prog codeN natQ0 1000 127 100 s fL1=true:=fun s=>by kernel_rfl
theorem natQ1_ok:∀ s K,KnownOk s K→@NatsOk (linSym s K) Tryz.prog natQ1:=natF_ok mixedN codeN_ok globN (fsChk_ok mixedN codeN_ok natQ0_ok sr1) natQ0_ok
theorem sr2:∀ s,fsChk Tryz.prog codeN natQ1 1000 49 100 s fL2=true:=fun s=>by kernel_rfl
theorem natQ2_ok:∀ s K,KnownOk s K→@NatsOk (linSym s K) Tryz.prog natQ2:=natF_ok mixedN codeN_ok globN (fsChk_ok mixedN codeN_ok natQ1_ok sr2) natQ1_ok
theorem sr3:∀ s,fsChk Tryz.prog codeN natQ2 1000 213 100 s fL3=true:=fun s=>by kernel_rfl
theorem natQ3_ok:∀ s K,KnownOk s K→@NatsOk (linSym s K) Tryz.prog natQ3:=natF_ok mixedN codeN_ok globN (fsChk_ok mixedN codeN_ok natQ2_ok sr3) natQ2_ok
theorem sr4:∀ s,fsChk Tryz.prog codeN natQ3 1000 34 100 s fL4=true:=fun s=>by kernel_rfl
theorem natQ4_ok:∀ s K,KnownOk s K→@NatsOk (linSym s K) Tryz.prog natQ4:=natF_ok mixedN codeN_ok globN (fsChk_ok mixedN codeN_ok natQ3_ok sr4) natQ3_ok
theorem sr5:∀ s,fsChk Tryz.prog codeN natQ4 1000 380 100 s fL5=true:=fun s=>by kernel_rfl
theorem natQ5_ok:∀ s K,KnownOk s K→@NatsOk (linSym s K) Tryz.prog natQ5:=natF_ok mixedN codeN_ok globN (fsChk_ok mixedN codeN_ok natQ4_ok sr5) natQ4_ok
theorem sr6:∀ s,fsChk Tryz.prog codeN natQ5 1000 33 100 s fL6=true:=fun s=>by kernel_rfl
theorem natQ6_ok:∀ s K,KnownOk s K→@NatsOk (linSym s K) Tryz.prog natQ6:=natF_ok mixedN codeN_ok globN (fsChk_ok mixedN codeN_ok natQ5_ok sr6) natQ5_ok
theorem fr0:∀ s,fsTree Tryz.prog codeN natY 1000 381 100 s (frT 0) N0=true:=fun s=>by kernel_rfl
theorem fr1:∀ s,fsTree Tryz.prog codeN natY 1000 381 100 s (frT 1) N1=true:=fun s=>by kernel_rfl
theorem fr2:∀ s,fsTree Tryz.prog codeN natY 1000 381 100 s (frT 2) N2=true:=fun s=>by kernel_rfl
theorem fr3:∀ s,fsTree Tryz.prog codeN natY 1000 381 100 s (frT 3) N3=true:=fun s=>by kernel_rfl
theorem fr4:∀ s,fsTree Tryz.prog codeN natY 1000 381 100 s (frT 4) N4=true:=fun s=>by kernel_rfl
theorem fr5:∀ s,fsTree Tryz.prog codeN natY 1000 381 100 s (frT 5) N5=true:=fun s=>by kernel_rfl
theorem fr6:∀ s,fsTree Tryz.prog codeN natY 1000 381 100 s (frT 6) N6=true:=fun s=>by kernel_rfl
theorem fr_ok:∀ q∈frL,FsOk Tryz.prog 381 q:=by
 intro q hq
 simp only [frL,List.mem_cons,List.mem_nil_iff,or_false] at hq
 rcases hq with rfl | rfl | rfl | rfl | rfl | rfl | rfl
 · exact fsTree_ok mixedN codeN_ok natQ6_ok fr0
 · exact fsTree_ok mixedN codeN_ok natQ6_ok fr1
 · exact fsTree_ok mixedN codeN_ok natQ6_ok fr2
 · exact fsTree_ok mixedN codeN_ok natQ6_ok fr3
 · exact fsTree_ok mixedN codeN_ok natQ6_ok fr4
 · exact fsTree_ok mixedN codeN_ok natQ6_ok fr5
 · exact fsTree_ok mixedN codeN_ok natQ6_ok fr6
theorem natX_ok:∀ s K,KnownOk s K→@NatsOk (linSym s K) Tryz.prog natX:=natK_ok mixedN codeN_ok (natF_ok mixedN codeN_ok globN fr_ok natQ6_ok) natQ6_ok
end Go.Ev
