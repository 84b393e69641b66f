/- The runs behind the summaries. -/
import Derived.Test.YtkolecenifiaaaaGreatDoorMm
import Derived.Test.YtkolecenifiaaaaGreatDoorSrt
namespace Go.Ev
open Go.Proofs
set_option maxRecDepth 1000000
set_option linter.unusedVariables false
theorem natW0_ok[Sym][SymFact Tryz.prog]:NatsOk Tryz.prog natW0:=natI_ok within_fn natV_ok
theorem natQ0_ok:∀s K,KnownOk s K->@NatsOk (linSym s K) Tryz.prog natQ0:=natSort_ok mixedN codeN_ok srt_fn (natW_ok mixedN codeN_ok withinX_fn (nats_lin natW0_ok))
theorem sr1:∀s,fsChk Tryz.prog codeN natQ0 1000 127 100 s fL1=true:=λs=>by kernel_rfl
theorem natQ1_ok:∀s K,KnownOk s K->@NatsOk (linSym s K) Tryz.prog natQ1:=natF_ok mixedN codeN_ok globN (fsChk_ok mixedN codeN_ok natQ0_ok sr1) natQ0_ok
theorem sr2:∀s,fsChk Tryz.prog codeN natQ1 1000 49 100 s fL2=true:=λs=>by kernel_rfl
theorem natQ2_ok:∀s K,KnownOk s K->@NatsOk (linSym s K) Tryz.prog natQ2:=natF_ok mixedN codeN_ok globN (fsChk_ok mixedN codeN_ok natQ1_ok sr2) natQ1_ok
theorem sr3:∀s,fsChk Tryz.prog codeN natQ2 1000 213 100 s fL3=true:=λs=>by kernel_rfl
theorem natQ3_ok:∀s K,KnownOk s K->@NatsOk (linSym s K) Tryz.prog natQ3:=natF_ok mixedN codeN_ok globN (fsChk_ok mixedN codeN_ok natQ2_ok sr3) natQ2_ok
theorem sr4:∀s,fsChk Tryz.prog codeN natQ3 1000 34 100 s fL4=true:=λs=>by kernel_rfl
theorem natQ4_ok:∀s K,KnownOk s K->@NatsOk (linSym s K) Tryz.prog natQ4:=natF_ok mixedN codeN_ok globN (fsChk_ok mixedN codeN_ok natQ3_ok sr4) natQ3_ok
theorem sr5:∀s,fsChk Tryz.prog codeN natQ4 1000 380 100 s fL5=true:=λs=>by kernel_rfl
theorem natQ5_ok:∀s K,KnownOk s K->@NatsOk (linSym s K) Tryz.prog natQ5:=natF_ok mixedN codeN_ok globN (fsChk_ok mixedN codeN_ok natQ4_ok sr5) natQ4_ok
theorem sr6:∀s,fsChk Tryz.prog codeN natQ5 1000 33 100 s fL6=true:=λs=>by kernel_rfl
theorem natQ6_ok:∀s K,KnownOk s K->@NatsOk (linSym s K) Tryz.prog natQ6:=natF_ok mixedN codeN_ok globN (fsChk_ok mixedN codeN_ok natQ5_ok sr6) natQ5_ok
theorem sr7:∀s,fsChk Tryz.prog codeN natQ6 1000 222 100 s fL7=true:=λs=>by kernel_rfl
theorem natQ7_ok:∀s K,KnownOk s K->@NatsOk (linSym s K) Tryz.prog natQ7:=natF_ok mixedN codeN_ok globN (fsChk_ok mixedN codeN_ok natQ6_ok sr7) natQ6_ok
theorem sr8:∀s,fsChk Tryz.prog codeN natQ7 1000 223 100 s fL8=true:=λs=>by kernel_rfl
theorem natQ8_ok:∀s K,KnownOk s K->@NatsOk (linSym s K) Tryz.prog natQ8:=natF_ok mixedN codeN_ok globN (fsChk_ok mixedN codeN_ok natQ7_ok sr8) natQ7_ok
theorem sr9:∀s,fsChk Tryz.prog codeN natQ8 1000 198 100 s fL9=true:=λs=>by kernel_rfl
theorem natQ9_ok:∀s K,KnownOk s K->@NatsOk (linSym s K) Tryz.prog natQ9:=natF_ok mixedN codeN_ok globN (fsChk_ok mixedN codeN_ok natQ8_ok sr9) natQ8_ok
theorem sr10:∀s,fsChk Tryz.prog codeN natQ9 1000 11 100 s fL10=true:=λs=>by kernel_rfl
theorem natQ10_ok:∀s K,KnownOk s K->@NatsOk (linSym s K) Tryz.prog natQ10:=natF_ok mixedN codeN_ok globN (fsChk_ok mixedN codeN_ok natQ9_ok sr10) natQ9_ok
theorem natX_ok:∀s K,KnownOk s K->@NatsOk (linSym s K) Tryz.prog natX:=natQ10_ok
theorem ar0:∀s,fsChk Tryz.prog codeN natQ0 1000 12 100 s aL0=true:=λs=>by kernel_rfl
theorem ar1:∀s,fsChk Tryz.prog codeN natQ0 1000 12 100 s aL1=true:=λs=>by kernel_rfl
theorem ar2:∀s,fsChk Tryz.prog codeN natQ0 1000 12 100 s aL2=true:=λs=>by kernel_rfl
theorem ar3:∀s,fsChk Tryz.prog codeN natQ0 1000 12 100 s aL3=true:=λs=>by kernel_rfl
theorem ar4:∀s,fsChk Tryz.prog codeN natQ0 1000 12 100 s aL4=true:=λs=>by kernel_rfl
theorem ar5:∀s,fsChk Tryz.prog codeN natQ0 1000 12 100 s aL5=true:=λs=>by kernel_rfl
theorem ar6:∀s,fsChk Tryz.prog codeN natQ0 1000 12 100 s aL6=true:=λs=>by kernel_rfl
theorem ar7:∀s,fsChk Tryz.prog codeN natQ0 1000 12 100 s aL7=true:=λs=>by kernel_rfl
theorem ar8:∀s,fsChk Tryz.prog codeN natQ0 1000 12 100 s aL8=true:=λs=>by kernel_rfl
theorem ar9:∀s,fsChk Tryz.prog codeN natQ0 1000 12 100 s aL9=true:=λs=>by kernel_rfl
theorem ar10:∀s,fsChk Tryz.prog codeN natQ0 1000 12 100 s aL10=true:=λs=>by kernel_rfl
theorem ar11:∀s,fsChk Tryz.prog codeN natQ0 1000 12 100 s aL11=true:=λs=>by kernel_rfl
theorem ar12:∀s,fsChk Tryz.prog codeN natQ0 1000 12 100 s aL12=true:=λs=>by kernel_rfl
theorem fsA{Q:Fs->Prop}{a b:List Fs}(h:∀s∈a,Q s)(t:∀s∈b,Q s):∀s∈a++b,Q s:=λs hs=>(List.mem_append.1 hs).elim (h s) (t s)
theorem all_ok:∀s∈allL,FsOk Tryz.prog 12 s:=(fsA (fsChk_ok mixedN codeN_ok natQ0_ok ar0) (fsA (fsChk_ok mixedN codeN_ok natQ0_ok ar1) (fsA (fsChk_ok mixedN codeN_ok natQ0_ok ar2) (fsA (fsChk_ok mixedN codeN_ok natQ0_ok ar3) (fsA (fsChk_ok mixedN codeN_ok natQ0_ok ar4) (fsA (fsChk_ok mixedN codeN_ok natQ0_ok ar5) (fsA (fsChk_ok mixedN codeN_ok natQ0_ok ar6) (fsA (fsChk_ok mixedN codeN_ok natQ0_ok ar7) (fsA (fsChk_ok mixedN codeN_ok natQ0_ok ar8) (fsA (fsChk_ok mixedN codeN_ok natQ0_ok ar9) (fsA (fsChk_ok mixedN codeN_ok natQ0_ok ar10) (fsA (fsChk_ok mixedN codeN_ok natQ0_ok ar11) (fsChk_ok mixedN codeN_ok natQ0_ok ar12)))))))))))))
theorem sel_ok(x:Nat):∀s∈selA x,FsOk Tryz.prog 12 s:=by
 intro s hs;unfold selA at hs;split at hs
 . split at hs
   . rename_i e he;obtain rfl:=List.mem_singleton.1 hs;rw[@nth_eq noSym]at he;exact all_ok _ (List.mem_of_getElem? he)
   . cases hs
 . cases hs
theorem natE_ok(x:Nat):∀s K,KnownOk s K->@NatsOk (linSym s K) Tryz.prog (natE x):=natF_ok mixedN codeN_ok globN (sel_ok x) natX_ok
end Go.Ev
