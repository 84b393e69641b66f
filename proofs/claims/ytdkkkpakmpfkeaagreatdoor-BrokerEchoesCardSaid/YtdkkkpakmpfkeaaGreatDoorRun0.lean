/- Runs of BrokerEchoes, part 0. -/
import Derived.Test.YtdkkkpakmpfkeaaGreatDoorTop
namespace Go.Ev
open Go.Proofs
set_option maxRecDepth 1000000
theorem run0 (s : Nat → Int) : allTrue (@ev (tabSym s [⟨.rem, 0, 3, .int .i64 (.negSucc 1)⟩]) Tryz.prog codeN natW 1000 false 3 [.bool false, .bool false, .bool false, .sym 0] .nil n0) = true := by kernel_rfl
theorem run1 (s : Nat → Int) : allTrue (@ev (tabSym s [⟨.rem, 0, 3, .int .i64 (.negSucc 0)⟩]) Tryz.prog codeN natW 1000 false 3 [.bool false, .bool false, .bool false, .sym 0] .nil n0) = true := by kernel_rfl
theorem run2 (s : Nat → Int) : allTrue (@ev (tabSym s [⟨.rem, 0, 3, .nat 0⟩]) Tryz.prog codeN natW 1000 false 3 [.bool false, .bool false, .bool false, .sym 0] .nil n0) = true := by kernel_rfl
theorem run3 (s : Nat → Int) : allTrue (@ev (tabSym s [⟨.rem, 0, 3, .nat 1⟩]) Tryz.prog codeN natW 1000 false 3 [.bool false, .bool false, .bool false, .sym 0] .nil n0) = true := by kernel_rfl
theorem run4 (s : Nat → Int) : allTrue (@ev (tabSym s [⟨.rem, 0, 3, .nat 2⟩]) Tryz.prog codeN natW 1000 false 3 [.bool false, .bool false, .bool false, .sym 0] .nil n0) = true := by kernel_rfl
theorem run5 (s : Nat → Int) : allTrue (@ev (tabSym s [⟨.rem, 0, 3, .int .i64 (.negSucc 1)⟩]) Tryz.prog codeN natW 1000 false 3 [.bool false, .bool false, .bool true, .sym 0] .nil n0) = true := by kernel_rfl
theorem run6 (s : Nat → Int) : allTrue (@ev (tabSym s [⟨.rem, 0, 3, .int .i64 (.negSucc 0)⟩]) Tryz.prog codeN natW 1000 false 3 [.bool false, .bool false, .bool true, .sym 0] .nil n0) = true := by kernel_rfl
theorem run7 (s : Nat → Int) : allTrue (@ev (tabSym s [⟨.rem, 0, 3, .nat 0⟩]) Tryz.prog codeN natW 1000 false 3 [.bool false, .bool false, .bool true, .sym 0] .nil n0) = true := by kernel_rfl
end Go.Ev
