/- Runs of BrokerEchoes, part 2. -/
import Derived.Test.YtdkkkpakmpfkeaaGreatDoorTop
namespace Go.Ev
open Go.Proofs
set_option maxRecDepth 1000000
theorem run16 (s : Nat → Int) : allTrue (@ev (tabSym s [⟨.rem, 0, 3, .int .i64 (.negSucc 0)⟩]) Tryz.prog codeN natW 1000 false 3 [.bool false, .bool true, .bool true, .sym 0] .nil n0) = true := by kernel_rfl
theorem run17 (s : Nat → Int) : allTrue (@ev (tabSym s [⟨.rem, 0, 3, .nat 0⟩]) Tryz.prog codeN natW 1000 false 3 [.bool false, .bool true, .bool true, .sym 0] .nil n0) = true := by kernel_rfl
theorem run18 (s : Nat → Int) : allTrue (@ev (tabSym s [⟨.rem, 0, 3, .nat 1⟩]) Tryz.prog codeN natW 1000 false 3 [.bool false, .bool true, .bool true, .sym 0] .nil n0) = true := by kernel_rfl
theorem run19 (s : Nat → Int) : allTrue (@ev (tabSym s [⟨.rem, 0, 3, .nat 2⟩]) Tryz.prog codeN natW 1000 false 3 [.bool false, .bool true, .bool true, .sym 0] .nil n0) = true := by kernel_rfl
theorem run20 (s : Nat → Int) : allTrue (@ev (tabSym s [⟨.rem, 0, 3, .int .i64 (.negSucc 1)⟩]) Tryz.prog codeN natW 1000 false 3 [.bool true, .bool false, .bool false, .sym 0] .nil n0) = true := by kernel_rfl
theorem run21 (s : Nat → Int) : allTrue (@ev (tabSym s [⟨.rem, 0, 3, .int .i64 (.negSucc 0)⟩]) Tryz.prog codeN natW 1000 false 3 [.bool true, .bool false, .bool false, .sym 0] .nil n0) = true := by kernel_rfl
theorem run22 (s : Nat → Int) : allTrue (@ev (tabSym s [⟨.rem, 0, 3, .nat 0⟩]) Tryz.prog codeN natW 1000 false 3 [.bool true, .bool false, .bool false, .sym 0] .nil n0) = true := by kernel_rfl
theorem run23 (s : Nat → Int) : allTrue (@ev (tabSym s [⟨.rem, 0, 3, .nat 1⟩]) Tryz.prog codeN natW 1000 false 3 [.bool true, .bool false, .bool false, .sym 0] .nil n0) = true := by kernel_rfl
end Go.Ev
