/- Runs of BrokerTakes: lasts False, clean True, each number of queued messages. -/
import Derived.Test.YtjfdfjdnkabphaaGreatDoorTop
namespace Go.Ev
open Go.Proofs
set_option maxRecDepth 1000000
theorem run010 (s : Nat → Int) : allTrue (@ev (tabSym s [⟨.and, 0, 7, .nat 0⟩]) Tryz.prog codeN natW 1000 false 3 [.bool false, .bool true, .sym 0] .nil n0) = true := by kernel_rfl
theorem run011 (s : Nat → Int) : allTrue (@ev (tabSym s [⟨.and, 0, 7, .nat 1⟩]) Tryz.prog codeN natW 1000 false 3 [.bool false, .bool true, .sym 0] .nil n0) = true := by kernel_rfl
theorem run012 (s : Nat → Int) : allTrue (@ev (tabSym s [⟨.and, 0, 7, .nat 2⟩]) Tryz.prog codeN natW 1000 false 3 [.bool false, .bool true, .sym 0] .nil n0) = true := by kernel_rfl
theorem run013 (s : Nat → Int) : allTrue (@ev (tabSym s [⟨.and, 0, 7, .nat 3⟩]) Tryz.prog codeN natW 1000 false 3 [.bool false, .bool true, .sym 0] .nil n0) = true := by kernel_rfl
theorem run014 (s : Nat → Int) : allTrue (@ev (tabSym s [⟨.and, 0, 7, .nat 4⟩]) Tryz.prog codeN natW 1000 false 3 [.bool false, .bool true, .sym 0] .nil n0) = true := by kernel_rfl
theorem run015 (s : Nat → Int) : allTrue (@ev (tabSym s [⟨.and, 0, 7, .nat 5⟩]) Tryz.prog codeN natW 1000 false 3 [.bool false, .bool true, .sym 0] .nil n0) = true := by kernel_rfl
theorem run016 (s : Nat → Int) : allTrue (@ev (tabSym s [⟨.and, 0, 7, .nat 6⟩]) Tryz.prog codeN natW 1000 false 3 [.bool false, .bool true, .sym 0] .nil n0) = true := by kernel_rfl
theorem run017 (s : Nat → Int) : allTrue (@ev (tabSym s [⟨.and, 0, 7, .nat 7⟩]) Tryz.prog codeN natW 1000 false 3 [.bool false, .bool true, .sym 0] .nil n0) = true := by kernel_rfl
end Go.Ev
