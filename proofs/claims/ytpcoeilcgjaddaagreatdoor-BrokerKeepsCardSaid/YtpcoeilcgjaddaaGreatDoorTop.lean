/- The function Wakes hands back true, by one run of the evaluator. -/
import Derived.Test.YtpcoeilcgjaddaaGreatDoorTable
import Derived.Test.YtpcoeilcgjaddaaGreatDoorEvSum
namespace Go.Ev
open Go.Proofs
set_option maxRecDepth 1000000
def n0 : Key := .mk .d0 .d0 .d6 .d4
theorem mixedN : Tryz.prog.follows .mixedOrders = true := by kernel_rfl
theorem globN : Tryz.prog.globals.size ≤ 100 := of_decide_eq_true (by kernel_rfl)
theorem wakes_run : allTrue (@ev (linSym (fun _ => 0) (rulesK [])) Tryz.prog codeN natN 1000 false 13 [] .nil n0) = true := by kernel_rfl
theorem wakes_true : TrueFn Tryz.prog 13 :=
  ⟨fun args w => run_callFunc_enter Tryz.func13 (by kernel_rfl) (show Tryz.f13.body = some _ from rfl) args w,
   fun w => calls_lin (σ := fun _ => 0) (K := rulesK []) (G := 100) (n := n0) (args' := #[]) (rulesK_ok fun _ h => by cases h) mixedN codeN_ok (nats_lin natN_ok) Tryz.func13 (by kernel_rfl) (show Tryz.f13.body = some _ from rfl) globN (by decide) rels0 wakes_run w⟩
noncomputable def natV : Nats := natT 13 natN
theorem natV_ok [Sym] [SymFact Tryz.prog] : NatsOk Tryz.prog natV := natT_ok wakes_true natN_ok
theorem within_run0 (s : Nat → Int) : allZ (fun z => allNat 0 (Nat.add 0 4) (@ev (linSym s (rulesK [rv .rem 0 (4 + 1) (mkInt .i64 z)])) Tryz.prog codeN natV 1000 false 7 [.sym (sv 0), .nat 0, .nat (Nat.add 0 4)] .nil n0)) 4 = true := by kernel_rfl
theorem within_run1 (s : Nat → Int) : allZ (fun z => allNat 0 (Nat.add 0 5) (@ev (linSym s (rulesK [rv .rem 0 (5 + 1) (mkInt .i64 z)])) Tryz.prog codeN natV 1000 false 7 [.sym (sv 0), .nat 0, .nat (Nat.add 0 5)] .nil n0)) 5 = true := by kernel_rfl
theorem within_run2 (s : Nat → Int) : allZ (fun z => allNat 0 (Nat.add 0 2) (@ev (linSym s (rulesK [rv .rem 0 (2 + 1) (mkInt .i64 z)])) Tryz.prog codeN natV 1000 false 7 [.sym (sv 0), .nat 0, .nat (Nat.add 0 2)] .nil n0)) 2 = true := by kernel_rfl
theorem within_fn : WithinFn Tryz.prog 7 [(0, 4), (0, 5), (0, 2)] :=
  withinFn_of (fun args w => run_callFunc_enter Tryz.func7 (by kernel_rfl) (show Tryz.f7.body = some _ from rfl) args w) ⟨fun z w => within_calls (lo := 0) (m := 4) (G := 100) (n := n0) mixedN codeN_ok (nats_lin natV_ok) Tryz.func7 (by kernel_rfl) (show Tryz.f7.body = some _ from rfl) globN (by decide) within_run0 z w, fun z w => within_calls (lo := 0) (m := 5) (G := 100) (n := n0) mixedN codeN_ok (nats_lin natV_ok) Tryz.func7 (by kernel_rfl) (show Tryz.f7.body = some _ from rfl) globN (by decide) within_run1 z w, fun z w => within_calls (lo := 0) (m := 2) (G := 100) (n := n0) mixedN codeN_ok (nats_lin natV_ok) Tryz.func7 (by kernel_rfl) (show Tryz.f7.body = some _ from rfl) globN (by decide) within_run2 z w, trivial⟩
noncomputable def natW : Nats := natI 7 [(0, 4), (0, 5), (0, 2)] natV
theorem natW_ok [Sym] [SymFact Tryz.prog] : NatsOk Tryz.prog natW := natI_ok within_fn natV_ok
end Go.Ev
