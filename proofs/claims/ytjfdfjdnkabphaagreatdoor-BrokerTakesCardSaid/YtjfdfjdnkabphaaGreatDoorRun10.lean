/- Runs of BrokerTakes: lasts True, clean False, each number of queued messages. -/
import Derived.Test.YtjfdfjdnkabphaaGreatDoorTop
namespace Go.Ev
open Go.Proofs
set_option maxRecDepth 1000000
theorem run100 (s : Nat → Int) : allTrue (@ev (tabSym s [⟨.and, 0, 7, .nat 0⟩]) Tryz.prog codeN natW 1000 false 3 [.bool true, .bool false, .sym 0] .nil n0) = true := by kernel_rfl
theorem run101 (s : Nat → Int) : allTrue (@ev (tabSym s [⟨.and, 0, 7, .nat 1⟩]) Tryz.prog codeN natW 1000 false 3 [.bool true, .bool false, .sym 0] .nil n0) = true := by kernel_rfl
theorem run102 (s : Nat → Int) : allTrue (@ev (tabSym s [⟨.and, 0, 7, .nat 2⟩]) Tryz.prog codeN natW 1000 false 3 [.bool true, .bool false, .sym 0] .nil n0) = true := by kernel_rfl
theorem run103 (s : Nat → Int) : allTrue (@ev (tabSym s [⟨.and, 0, 7, .nat 3⟩]) Tryz.prog codeN natW 1000 false 3 [.bool true, .bool false, .sym 0] .nil n0) = true := by kernel_rfl
theorem run104 (s : Nat → Int) : allTrue (@ev (tabSym s [⟨.and, 0, 7, .nat 4⟩]) Tryz.prog codeN natW 1000 false 3 [.bool true, .bool false, .sym 0] .nil n0) = true := by kernel_rfl
theorem run105 (s : Nat → Int) : allTrue (@ev (tabSym s [⟨.and, 0, 7, .nat 5⟩]) Tryz.prog codeN natW 1000 false 3 [.bool true, .bool false, .sym 0] .nil n0) = true := by kernel_rfl
theorem run106 (s : Nat → Int) : allTrue (@ev (tabSym s [⟨.and, 0, 7, .nat 6⟩]) Tryz.prog codeN natW 1000 false 3 [.bool true, .bool false, .sym 0] .nil n0) = true := by kernel_rfl
theorem run107 (s : Nat → Int) : allTrue (@ev (tabSym s [⟨.and, 0, 7, .nat 7⟩]) Tryz.prog codeN natW 1000 false 3 [.bool true, .bool false, .sym 0] .nil n0) = true := by kernel_rfl
end Go.Ev
