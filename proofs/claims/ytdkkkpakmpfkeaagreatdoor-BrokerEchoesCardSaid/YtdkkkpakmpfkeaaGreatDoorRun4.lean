/- Runs of BrokerEchoes, part 4. -/
import Derived.Test.YtdkkkpakmpfkeaaGreatDoorTop
namespace Go.Ev
open Go.Proofs
set_option maxRecDepth 1000000
theorem run32 (s : Nat → Int) : allTrue (@ev (tabSym s [⟨.rem, 0, 3, .nat 0⟩]) Tryz.prog codeN natW 1000 false 3 [.bool true, .bool true, .bool false, .sym 0] .nil n0) = true := by kernel_rfl
theorem run33 (s : Nat → Int) : allTrue (@ev (tabSym s [⟨.rem, 0, 3, .nat 1⟩]) Tryz.prog codeN natW 1000 false 3 [.bool true, .bool true, .bool false, .sym 0] .nil n0) = true := by kernel_rfl
theorem run34 (s : Nat → Int) : allTrue (@ev (tabSym s [⟨.rem, 0, 3, .nat 2⟩]) Tryz.prog codeN natW 1000 false 3 [.bool true, .bool true, .bool false, .sym 0] .nil n0) = true := by kernel_rfl
theorem run35 (s : Nat → Int) : allTrue (@ev (tabSym s [⟨.rem, 0, 3, .int .i64 (.negSucc 1)⟩]) Tryz.prog codeN natW 1000 false 3 [.bool true, .bool true, .bool true, .sym 0] .nil n0) = true := by kernel_rfl
theorem run36 (s : Nat → Int) : allTrue (@ev (tabSym s [⟨.rem, 0, 3, .int .i64 (.negSucc 0)⟩]) Tryz.prog codeN natW 1000 false 3 [.bool true, .bool true, .bool true, .sym 0] .nil n0) = true := by kernel_rfl
theorem run37 (s : Nat → Int) : allTrue (@ev (tabSym s [⟨.rem, 0, 3, .nat 0⟩]) Tryz.prog codeN natW 1000 false 3 [.bool true, .bool true, .bool true, .sym 0] .nil n0) = true := by kernel_rfl
theorem run38 (s : Nat → Int) : allTrue (@ev (tabSym s [⟨.rem, 0, 3, .nat 1⟩]) Tryz.prog codeN natW 1000 false 3 [.bool true, .bool true, .bool true, .sym 0] .nil n0) = true := by kernel_rfl
theorem run39 (s : Nat → Int) : allTrue (@ev (tabSym s [⟨.rem, 0, 3, .nat 2⟩]) Tryz.prog codeN natW 1000 false 3 [.bool true, .bool true, .bool true, .sym 0] .nil n0) = true := by kernel_rfl
end Go.Ev
