/- What is known of the program. -/
import Derived.Test.YteejciioplkoeaaGreatDoorTable
import Derived.Test.YteejciioplkoeaaGreatDoorEvSeen
namespace Go.Ev
open Go.Proofs
set_option maxRecDepth 1000000
theorem mixedN:Tryz.prog.follows .mixedOrders=true:=by kernel_rfl
theorem globN:Tryz.prog.globals.size≤100:=of_decide_eq_true (by kernel_rfl)
end Go.Ev
