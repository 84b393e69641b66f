/- Runs of BrokerClean, part 1. -/
import Derived.Test.YtaajgccgdoghkaaGreatDoorTop
namespace Go.Ev
open Go.Proofs
set_option maxRecDepth 1000000
theorem run8 (s : Nat → Int) : allTrue (@ev (linSym s ⟨[], [], [rv .and 0 7 (.nat 4)], fun _ => none⟩) Tryz.prog codeN natW 1000 false 3 [.sym (sv 0), .bool false] .nil n0) = true := by kernel_rfl
theorem run9 (s : Nat → Int) : allTrue (@ev (linSym s ⟨[], [], [rv .and 0 7 (.nat 4)], fun _ => none⟩) Tryz.prog codeN natW 1000 false 3 [.sym (sv 0), .bool true] .nil n0) = true := by kernel_rfl
theorem run10 (s : Nat → Int) : allTrue (@ev (linSym s ⟨[], [], [rv .and 0 7 (.nat 5)], fun _ => none⟩) Tryz.prog codeN natW 1000 false 3 [.sym (sv 0), .bool false] .nil n0) = true := by kernel_rfl
theorem run11 (s : Nat → Int) : allTrue (@ev (linSym s ⟨[], [], [rv .and 0 7 (.nat 5)], fun _ => none⟩) Tryz.prog codeN natW 1000 false 3 [.sym (sv 0), .bool true] .nil n0) = true := by kernel_rfl
theorem run12 (s : Nat → Int) : allTrue (@ev (linSym s ⟨[], [], [rv .and 0 7 (.nat 6)], fun _ => none⟩) Tryz.prog codeN natW 1000 false 3 [.sym (sv 0), .bool false] .nil n0) = true := by kernel_rfl
theorem run13 (s : Nat → Int) : allTrue (@ev (linSym s ⟨[], [], [rv .and 0 7 (.nat 6)], fun _ => none⟩) Tryz.prog codeN natW 1000 false 3 [.sym (sv 0), .bool true] .nil n0) = true := by kernel_rfl
theorem run14 (s : Nat → Int) : allTrue (@ev (linSym s ⟨[], [], [rv .and 0 7 (.nat 7)], fun _ => none⟩) Tryz.prog codeN natW 1000 false 3 [.sym (sv 0), .bool false] .nil n0) = true := by kernel_rfl
theorem run15 (s : Nat → Int) : allTrue (@ev (linSym s ⟨[], [], [rv .and 0 7 (.nat 7)], fun _ => none⟩) Tryz.prog codeN natW 1000 false 3 [.sym (sv 0), .bool true] .nil n0) = true := by kernel_rfl
end Go.Ev
