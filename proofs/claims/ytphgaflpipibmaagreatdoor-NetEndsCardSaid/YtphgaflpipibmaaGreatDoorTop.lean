/- The law hands back true: one run of the evaluator. -/
import Derived.Test.YtphgaflpipibmaaGreatDoorTable
namespace Go.Ev
open Go.Proofs
set_option maxRecDepth 1000000
def n0 : Key := .mk .d0 .d0 .d6 .d4
theorem mixedN : Tryz.prog.follows .mixedOrders = true := by kernel_rfl
theorem globN : Tryz.prog.globals.size ≤ 100 := of_decide_eq_true (by kernel_rfl)
theorem law_run : allTrue (@ev (linSym (fun _ => 0) (rulesK [])) Tryz.prog codeN natN 1000 false 4 [] .nil n0) = true := by kernel_rfl
end Go.Ev
