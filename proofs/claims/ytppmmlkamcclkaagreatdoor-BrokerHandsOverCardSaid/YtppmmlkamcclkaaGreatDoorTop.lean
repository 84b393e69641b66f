/- What is known of the program: Wakes hands back true, by one run; Within, by five. -/
import Derived.Test.YtppmmlkamcclkaaGreatDoorTable
import Derived.Test.YtppmmlkamcclkaaGreatDoorEvFrame
namespace Go.Ev
open Go.Proofs
set_option maxRecDepth 1000000
def n0:Key:=.mk .d0 .d0 .d6 .d4
theorem mixedN:Tryz.prog.follows .mixedOrders=true:=by kernel_rfl
theorem globN:Tryz.prog.globals.size≤100:=of_decide_eq_true (by kernel_rfl)
theorem wakes_run:allTrue (@ev (linSym (fun _=>0) (rulesK [])) Tryz.prog codeN natN 1000 false 15 [] .nil n0)=true:=by kernel_rfl
theorem wakes_true:TrueFn Tryz.prog 15:=
 ⟨fun args w=>run_callFunc_enter Tryz.func15 (by kernel_rfl) (show Tryz.f15.body=some _ from rfl) args w,
  fun w=>calls_lin (σ:=fun _=>0) (K:=rulesK []) (G:=100) (n:=n0) (args':=#[]) (rulesK_ok fun _ h=>by cases h) mixedN codeN_ok (nats_lin natN_ok) Tryz.func15 (by kernel_rfl) (show Tryz.f15.body=some _ from rfl) globN (by decide) rels0 wakes_run w⟩
noncomputable def natV:Nats:=natT 15 natN
theorem natV_ok [Sym] [SymFact Tryz.prog]:NatsOk Tryz.prog natV:=natT_ok wakes_true natN_ok
theorem within_run (σ:Nat→Int):allZ (fun z=>allNat (wN z) (wN z) (@ev (linSym σ (rulesK [rv .rem 0 3 (mkInt .i64 z)])) Tryz.prog codeN natV 1000 false 8 [.sym (sv 0),.nat 0,.nat 2] .nil n0)) 2=true:=by kernel_rfl
theorem within_fn:WithinX Tryz.prog 8:=withinX_calls (G:=100) (n:=n0) mixedN codeN_ok (nats_lin natV_ok) Tryz.func8 (by kernel_rfl) (show Tryz.f8.body=some _ from rfl) globN (by decide) within_run
end Go.Ev
