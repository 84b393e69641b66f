/- What is known of the program: Wakes hands back true, by one run. -/
import Derived.Test.YtkolecenifiaaaaGreatDoorTable
import Derived.Test.YtkolecenifiaaaaGreatDoorEvBag
namespace Go.Ev
open Go.Proofs
set_option maxRecDepth 1000000
def n0:Key:=.mk .d0 .d0 .d6 .d4
theorem mixedN:Tryz.prog.follows .mixedOrders=true:=by kernel_rfl
theorem globN:Tryz.prog.globals.size≤100:=of_decide_eq_true (by kernel_rfl)
theorem wakes_run:allTrue (@ev (linSym (fun _=>0) (rulesK [])) Tryz.prog codeN natN 1000 false 13 [] .nil n0)=true:=by kernel_rfl
theorem wakes_true:TrueFn Tryz.prog 13:=
 ⟨fun args w=>run_callFunc_enter Tryz.func13 (by kernel_rfl) (show Tryz.f13.body=some _ from rfl) args w,
  fun w=>calls_lin (σ:=fun _=>0) (K:=rulesK []) (G:=100) (n:=n0) (args':=#[]) (rulesK_ok fun _ h=>by cases h) mixedN codeN_ok (nats_lin natN_ok) Tryz.func13 (by kernel_rfl) (show Tryz.f13.body=some _ from rfl) globN (by decide) rels0 wakes_run w⟩
noncomputable def natV:Nats:=natT 13 natN
theorem natV_ok [Sym] [SymFact Tryz.prog]:NatsOk Tryz.prog natV:=natT_ok wakes_true natN_ok
end Go.Ev
