/- Runs of BrokerTakes: lasts False, clean False, each number of queued messages. -/
import Derived.Test.YtjfdfjdnkabphaaGreatDoorTop
namespace Go.Ev
open Go.Proofs
set_option maxRecDepth 1000000
theorem run000 (s : Nat → Int) : allTrue (@ev (tabSym s [⟨.and, 0, 7, .nat 0⟩]) Tryz.prog codeN natW 1000 false 3 [.bool false, .bool false, .sym 0] .nil n0) = true := by kernel_rfl
theorem run001 (s : Nat → Int) : allTrue (@ev (tabSym s [⟨.and, 0, 7, .nat 1⟩]) Tryz.prog codeN natW 1000 false 3 [.bool false, .bool false, .sym 0] .nil n0) = true := by kernel_rfl
theorem run002 (s : Nat → Int) : allTrue (@ev (tabSym s [⟨.and, 0, 7, .nat 2⟩]) Tryz.prog codeN natW 1000 false 3 [.bool false, .bool false, .sym 0] .nil n0) = true := by kernel_rfl
theorem run003 (s : Nat → Int) : allTrue (@ev (tabSym s [⟨.and, 0, 7, .nat 3⟩]) Tryz.prog codeN natW 1000 false 3 [.bool false, .bool false, .sym 0] .nil n0) = true := by kernel_rfl
theorem run004 (s : Nat → Int) : allTrue (@ev (tabSym s [⟨.and, 0, 7, .nat 4⟩]) Tryz.prog codeN natW 1000 false 3 [.bool false, .bool false, .sym 0] .nil n0) = true := by kernel_rfl
theorem run005 (s : Nat → Int) : allTrue (@ev (tabSym s [⟨.and, 0, 7, .nat 5⟩]) Tryz.prog codeN natW 1000 false 3 [.bool false, .bool false, .sym 0] .nil n0) = true := by kernel_rfl
theorem run006 (s : Nat → Int) : allTrue (@ev (tabSym s [⟨.and, 0, 7, .nat 6⟩]) Tryz.prog codeN natW 1000 false 3 [.bool false, .bool false, .sym 0] .nil n0) = true := by kernel_rfl
theorem run007 (s : Nat → Int) : allTrue (@ev (tabSym s [⟨.and, 0, 7, .nat 7⟩]) Tryz.prog codeN natW 1000 false 3 [.bool false, .bool false, .sym 0] .nil n0) = true := by kernel_rfl
end Go.Ev
