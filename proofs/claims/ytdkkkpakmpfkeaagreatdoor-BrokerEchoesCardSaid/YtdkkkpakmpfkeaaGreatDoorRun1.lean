/- Runs of BrokerEchoes, part 1. -/
import Derived.Test.YtdkkkpakmpfkeaaGreatDoorTop
namespace Go.Ev
open Go.Proofs
set_option maxRecDepth 1000000
theorem run8 (s : Nat → Int) : allTrue (@ev (tabSym s [⟨.rem, 0, 3, .nat 1⟩]) Tryz.prog codeN natW 1000 false 3 [.bool false, .bool false, .bool true, .sym 0] .nil n0) = true := by kernel_rfl
theorem run9 (s : Nat → Int) : allTrue (@ev (tabSym s [⟨.rem, 0, 3, .nat 2⟩]) Tryz.prog codeN natW 1000 false 3 [.bool false, .bool false, .bool true, .sym 0] .nil n0) = true := by kernel_rfl
theorem run10 (s : Nat → Int) : allTrue (@ev (tabSym s [⟨.rem, 0, 3, .int .i64 (.negSucc 1)⟩]) Tryz.prog codeN natW 1000 false 3 [.bool false, .bool true, .bool false, .sym 0] .nil n0) = true := by kernel_rfl
theorem run11 (s : Nat → Int) : allTrue (@ev (tabSym s [⟨.rem, 0, 3, .int .i64 (.negSucc 0)⟩]) Tryz.prog codeN natW 1000 false 3 [.bool false, .bool true, .bool false, .sym 0] .nil n0) = true := by kernel_rfl
theorem run12 (s : Nat → Int) : allTrue (@ev (tabSym s [⟨.rem, 0, 3, .nat 0⟩]) Tryz.prog codeN natW 1000 false 3 [.bool false, .bool true, .bool false, .sym 0] .nil n0) = true := by kernel_rfl
theorem run13 (s : Nat → Int) : allTrue (@ev (tabSym s [⟨.rem, 0, 3, .nat 1⟩]) Tryz.prog codeN natW 1000 false 3 [.bool false, .bool true, .bool false, .sym 0] .nil n0) = true := by kernel_rfl
theorem run14 (s : Nat → Int) : allTrue (@ev (tabSym s [⟨.rem, 0, 3, .nat 2⟩]) Tryz.prog codeN natW 1000 false 3 [.bool false, .bool true, .bool false, .sym 0] .nil n0) = true := by kernel_rfl
theorem run15 (s : Nat → Int) : allTrue (@ev (tabSym s [⟨.rem, 0, 3, .int .i64 (.negSucc 1)⟩]) Tryz.prog codeN natW 1000 false 3 [.bool false, .bool true, .bool true, .sym 0] .nil n0) = true := by kernel_rfl
end Go.Ev
