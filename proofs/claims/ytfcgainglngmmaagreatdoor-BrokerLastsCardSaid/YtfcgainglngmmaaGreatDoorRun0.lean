/- Runs of BrokerLasts, part 0. -/
import Derived.Test.YtfcgainglngmmaaGreatDoorTop
namespace Go.Ev
open Go.Proofs
set_option maxRecDepth 1000000
theorem run0 (s : Nat → Int) : allTrue (@ev (linSym s ⟨[(0, 31), (0, 63)], [([(0, -1), (1, 1)], -31, -1)], [rv .and 2 31 (.sym (sv 0)), rv .and 3 63 (.sym (sv 1)), rv .and 4 7 (.nat 0)], fun _ => none⟩) Tryz.prog codeN natW 1000 false 4 [.sym (sv 2), .sym (sv 3), .sym (sv 4)] .nil n0) = true := by kernel_rfl
theorem run1 (s : Nat → Int) : allTrue (@ev (linSym s ⟨[(0, 31), (0, 63)], [([(0, -1), (1, 1)], 0, 63)], [rv .and 2 31 (.sym (sv 0)), rv .and 3 63 (.sym (sv 1)), rv .and 4 7 (.nat 0)], fun _ => none⟩) Tryz.prog codeN natW 1000 false 4 [.sym (sv 2), .sym (sv 3), .sym (sv 4)] .nil n0) = true := by kernel_rfl
theorem run2 (s : Nat → Int) : allTrue (@ev (linSym s ⟨[(0, 31), (0, 63)], [([(0, -1), (1, 1)], -31, -1)], [rv .and 2 31 (.sym (sv 0)), rv .and 3 63 (.sym (sv 1)), rv .and 4 7 (.nat 1)], fun _ => none⟩) Tryz.prog codeN natW 1000 false 4 [.sym (sv 2), .sym (sv 3), .sym (sv 4)] .nil n0) = true := by kernel_rfl
theorem run3 (s : Nat → Int) : allTrue (@ev (linSym s ⟨[(0, 31), (0, 63)], [([(0, -1), (1, 1)], 0, 63)], [rv .and 2 31 (.sym (sv 0)), rv .and 3 63 (.sym (sv 1)), rv .and 4 7 (.nat 1)], fun _ => none⟩) Tryz.prog codeN natW 1000 false 4 [.sym (sv 2), .sym (sv 3), .sym (sv 4)] .nil n0) = true := by kernel_rfl
theorem run4 (s : Nat → Int) : allTrue (@ev (linSym s ⟨[(0, 31), (0, 63)], [([(0, -1), (1, 1)], -31, -1)], [rv .and 2 31 (.sym (sv 0)), rv .and 3 63 (.sym (sv 1)), rv .and 4 7 (.nat 2)], fun _ => none⟩) Tryz.prog codeN natW 1000 false 4 [.sym (sv 2), .sym (sv 3), .sym (sv 4)] .nil n0) = true := by kernel_rfl
theorem run5 (s : Nat → Int) : allTrue (@ev (linSym s ⟨[(0, 31), (0, 63)], [([(0, -1), (1, 1)], 0, 63)], [rv .and 2 31 (.sym (sv 0)), rv .and 3 63 (.sym (sv 1)), rv .and 4 7 (.nat 2)], fun _ => none⟩) Tryz.prog codeN natW 1000 false 4 [.sym (sv 2), .sym (sv 3), .sym (sv 4)] .nil n0) = true := by kernel_rfl
theorem run6 (s : Nat → Int) : allTrue (@ev (linSym s ⟨[(0, 31), (0, 63)], [([(0, -1), (1, 1)], -31, -1)], [rv .and 2 31 (.sym (sv 0)), rv .and 3 63 (.sym (sv 1)), rv .and 4 7 (.nat 3)], fun _ => none⟩) Tryz.prog codeN natW 1000 false 4 [.sym (sv 2), .sym (sv 3), .sym (sv 4)] .nil n0) = true := by kernel_rfl
theorem run7 (s : Nat → Int) : allTrue (@ev (linSym s ⟨[(0, 31), (0, 63)], [([(0, -1), (1, 1)], 0, 63)], [rv .and 2 31 (.sym (sv 0)), rv .and 3 63 (.sym (sv 1)), rv .and 4 7 (.nat 3)], fun _ => none⟩) Tryz.prog codeN natW 1000 false 4 [.sym (sv 2), .sym (sv 3), .sym (sv 4)] .nil n0) = true := by kernel_rfl
end Go.Ev
