/- Runs of BrokerLasts, part 1. -/
import Derived.Test.YtfcgainglngmmaaGreatDoorTop
namespace Go.Ev
open Go.Proofs
set_option maxRecDepth 1000000
theorem run8 (s : Nat → Int) : allTrue (@ev (linSym s ⟨[(0, 31), (0, 63)], [([(0, -1), (1, 1)], -31, -1)], [rv .and 2 31 (.sym (sv 0)), rv .and 3 63 (.sym (sv 1)), rv .and 4 7 (.nat 4)], fun _ => none⟩) Tryz.prog codeN natW 1000 false 4 [.sym (sv 2), .sym (sv 3), .sym (sv 4)] .nil n0) = true := by kernel_rfl
theorem run9 (s : Nat → Int) : allTrue (@ev (linSym s ⟨[(0, 31), (0, 63)], [([(0, -1), (1, 1)], 0, 63)], [rv .and 2 31 (.sym (sv 0)), rv .and 3 63 (.sym (sv 1)), rv .and 4 7 (.nat 4)], fun _ => none⟩) Tryz.prog codeN natW 1000 false 4 [.sym (sv 2), .sym (sv 3), .sym (sv 4)] .nil n0) = true := by kernel_rfl
theorem run10 (s : Nat → Int) : allTrue (@ev (linSym s ⟨[(0, 31), (0, 63)], [([(0, -1), (1, 1)], -31, -1)], [rv .and 2 31 (.sym (sv 0)), rv .and 3 63 (.sym (sv 1)), rv .and 4 7 (.nat 5)], fun _ => none⟩) Tryz.prog codeN natW 1000 false 4 [.sym (sv 2), .sym (sv 3), .sym (sv 4)] .nil n0) = true := by kernel_rfl
theorem run11 (s : Nat → Int) : allTrue (@ev (linSym s ⟨[(0, 31), (0, 63)], [([(0, -1), (1, 1)], 0, 63)], [rv .and 2 31 (.sym (sv 0)), rv .and 3 63 (.sym (sv 1)), rv .and 4 7 (.nat 5)], fun _ => none⟩) Tryz.prog codeN natW 1000 false 4 [.sym (sv 2), .sym (sv 3), .sym (sv 4)] .nil n0) = true := by kernel_rfl
theorem run12 (s : Nat → Int) : allTrue (@ev (linSym s ⟨[(0, 31), (0, 63)], [([(0, -1), (1, 1)], -31, -1)], [rv .and 2 31 (.sym (sv 0)), rv .and 3 63 (.sym (sv 1)), rv .and 4 7 (.nat 6)], fun _ => none⟩) Tryz.prog codeN natW 1000 false 4 [.sym (sv 2), .sym (sv 3), .sym (sv 4)] .nil n0) = true := by kernel_rfl
theorem run13 (s : Nat → Int) : allTrue (@ev (linSym s ⟨[(0, 31), (0, 63)], [([(0, -1), (1, 1)], 0, 63)], [rv .and 2 31 (.sym (sv 0)), rv .and 3 63 (.sym (sv 1)), rv .and 4 7 (.nat 6)], fun _ => none⟩) Tryz.prog codeN natW 1000 false 4 [.sym (sv 2), .sym (sv 3), .sym (sv 4)] .nil n0) = true := by kernel_rfl
theorem run14 (s : Nat → Int) : allTrue (@ev (linSym s ⟨[(0, 31), (0, 63)], [([(0, -1), (1, 1)], -31, -1)], [rv .and 2 31 (.sym (sv 0)), rv .and 3 63 (.sym (sv 1)), rv .and 4 7 (.nat 7)], fun _ => none⟩) Tryz.prog codeN natW 1000 false 4 [.sym (sv 2), .sym (sv 3), .sym (sv 4)] .nil n0) = true := by kernel_rfl
theorem run15 (s : Nat → Int) : allTrue (@ev (linSym s ⟨[(0, 31), (0, 63)], [([(0, -1), (1, 1)], 0, 63)], [rv .and 2 31 (.sym (sv 0)), rv .and 3 63 (.sym (sv 1)), rv .and 4 7 (.nat 7)], fun _ => none⟩) Tryz.prog codeN natW 1000 false 4 [.sym (sv 2), .sym (sv 3), .sym (sv 4)] .nil n0) = true := by kernel_rfl
end Go.Ev
