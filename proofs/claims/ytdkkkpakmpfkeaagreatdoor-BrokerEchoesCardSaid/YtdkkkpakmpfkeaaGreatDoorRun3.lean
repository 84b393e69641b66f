/- Runs of BrokerEchoes, part 3. -/
import Derived.Test.YtdkkkpakmpfkeaaGreatDoorTop
namespace Go.Ev
open Go.Proofs
set_option maxRecDepth 1000000
theorem run24 (s : Nat → Int) : allTrue (@ev (tabSym s [⟨.rem, 0, 3, .nat 2⟩]) Tryz.prog codeN natW 1000 false 3 [.bool true, .bool false, .bool false, .sym 0] .nil n0) = true := by kernel_rfl
theorem run25 (s : Nat → Int) : allTrue (@ev (tabSym s [⟨.rem, 0, 3, .int .i64 (.negSucc 1)⟩]) Tryz.prog codeN natW 1000 false 3 [.bool true, .bool false, .bool true, .sym 0] .nil n0) = true := by kernel_rfl
theorem run26 (s : Nat → Int) : allTrue (@ev (tabSym s [⟨.rem, 0, 3, .int .i64 (.negSucc 0)⟩]) Tryz.prog codeN natW 1000 false 3 [.bool true, .bool false, .bool true, .sym 0] .nil n0) = true := by kernel_rfl
theorem run27 (s : Nat → Int) : allTrue (@ev (tabSym s [⟨.rem, 0, 3, .nat 0⟩]) Tryz.prog codeN natW 1000 false 3 [.bool true, .bool false, .bool true, .sym 0] .nil n0) = true := by kernel_rfl
theorem run28 (s : Nat → Int) : allTrue (@ev (tabSym s [⟨.rem, 0, 3, .nat 1⟩]) Tryz.prog codeN natW 1000 false 3 [.bool true, .bool false, .bool true, .sym 0] .nil n0) = true := by kernel_rfl
theorem run29 (s : Nat → Int) : allTrue (@ev (tabSym s [⟨.rem, 0, 3, .nat 2⟩]) Tryz.prog codeN natW 1000 false 3 [.bool true, .bool false, .bool true, .sym 0] .nil n0) = true := by kernel_rfl
theorem run30 (s : Nat → Int) : allTrue (@ev (tabSym s [⟨.rem, 0, 3, .int .i64 (.negSucc 1)⟩]) Tryz.prog codeN natW 1000 false 3 [.bool true, .bool true, .bool false, .sym 0] .nil n0) = true := by kernel_rfl
theorem run31 (s : Nat → Int) : allTrue (@ev (tabSym s [⟨.rem, 0, 3, .int .i64 (.negSucc 0)⟩]) Tryz.prog codeN natW 1000 false 3 [.bool true, .bool true, .bool false, .sym 0] .nil n0) = true := by kernel_rfl
end Go.Ev
