/- What is known of the program: Wakes hands back true, by one run; Within, by some. -/
import Derived.Test.YtkolecenifiaaaaGreatDoorTable
import Derived.Test.YtkolecenifiaaaaGreatDoorEvRnd
namespace Go.Ev
open Go.Proofs
set_option maxRecDepth 1000000
def n0:Key:=.mk .d0 .d0 .d6 .d4
theorem mixedN:Tryz.prog.follows .mixedOrders=true:=by kernel_rfl
theorem globN:Tryz.prog.globals.size<=100:=of_decide_eq_true (by kernel_rfl)
theorem wakes_run:allTrue (@ev (linSym (λ_=>0) (rulesK [])) Tryz.prog codeN natN 1000 false 13 [] .nil n0)=true:=by kernel_rfl
theorem wakes_true:TrueFn Tryz.prog 13:=
 ⟨λargs w=>run_callFunc_enter Tryz.func13 (by kernel_rfl) (show Tryz.f13.body=some _ from rfl) args w,
  λw=>calls_lin (J:=λ_=>0) (K:=rulesK []) (G:=100) (n:=n0) (args':=#[]) (rulesK_ok λ_ h=>by cases h) mixedN codeN_ok (nats_lin natN_ok) Tryz.func13 (by kernel_rfl) (show Tryz.f13.body=some _ from rfl) globN (by decide) rels0 wakes_run w⟩
noncomputable def natV:Nats:=natT 13 natN
theorem natV_ok[Sym][SymFact Tryz.prog]:NatsOk Tryz.prog natV:=natT_ok wakes_true natN_ok
theorem within_run(J:Nat->Int):allZ (λz=>allNat (wN z) (wN z) (@ev (linSym J (rulesK [rv .rem 0 3 (mkInt .i64 z)])) Tryz.prog codeN natV 1000 false 8 [.sym (sv 0),.nat 0,.nat 2] .nil n0)) 2=true:=by kernel_rfl
theorem withinX_fn:WithinX Tryz.prog 8:=withinX_calls (G:=100) (n:=n0) mixedN codeN_ok (nats_lin natV_ok) Tryz.func8 (by kernel_rfl) (show Tryz.f8.body=some _ from rfl) globN (by decide) within_run
theorem within_run6(s:Nat->Int):allZ (λz=>allNat 0 (Nat.add 0 6) (@ev (linSym s (rulesK [rv .rem 0 (6+1) (mkInt .i64 z)])) Tryz.prog codeN natV 1000 false 8 [.sym (sv 0),.nat 0,.nat (Nat.add 0 6)] .nil n0)) 6=true:=by kernel_rfl
theorem within_fn:WithinFn Tryz.prog 8 [(0,6)]:=
 withinFn_of (λargs w=>run_callFunc_enter Tryz.func8 (by kernel_rfl) (show Tryz.f8.body=some _ from rfl) args w) ⟨λz w=>within_calls (lo:=0) (m:=6) (G:=100) (n:=n0) mixedN codeN_ok (nats_lin natV_ok) Tryz.func8 (by kernel_rfl) (show Tryz.f8.body=some _ from rfl) globN (by decide) within_run6 z w,trivial⟩
end Go.Ev
