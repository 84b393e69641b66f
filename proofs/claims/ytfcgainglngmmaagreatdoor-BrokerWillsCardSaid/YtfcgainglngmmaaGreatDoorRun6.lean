/- Runs of BrokerWills, part 6. -/
import Derived.Test.YtfcgainglngmmaaGreatDoorTop
namespace Go.Ev
open Go.Proofs
set_option maxRecDepth 1000000
theorem run48 (s : Nat → Int) : allTrue (@ev (linSym s ⟨[(1, 31), (1, 31), (0, 63)], [([(0, -1), (1, 1)], 0, 0), ([(0, 1), (2, -1)], 2, 31), ([(1, 1), (2, -1)], 2, 31)], [rv .and 3 31 (.sym (sv 0)), rv .and 4 31 (.sym (sv 1)), rv .and 5 63 (.sym (sv 2)), rv .and 6 3 (.nat 3)], fun _ => none⟩) Tryz.prog codeN natW 1000 false 3 [.sym (sv 3), .sym (sv 4), .sym (sv 5), .sym (sv 6)] .nil n0) = true := by kernel_rfl
theorem run49 (s : Nat → Int) : allTrue (@ev (linSym s ⟨[(1, 31), (1, 31), (0, 63)], [([(0, -1), (1, 1)], 1, 30), ([(0, 1), (2, -1)], -62, 1), ([(1, 1), (2, -1)], -62, 1)], [rv .and 3 31 (.sym (sv 0)), rv .and 4 31 (.sym (sv 1)), rv .and 5 63 (.sym (sv 2)), rv .and 6 3 (.nat 3)], fun _ => none⟩) Tryz.prog codeN natW 1000 false 3 [.sym (sv 3), .sym (sv 4), .sym (sv 5), .sym (sv 6)] .nil n0) = true := by kernel_rfl
theorem run50 (s : Nat → Int) : allTrue (@ev (linSym s ⟨[(1, 31), (1, 31), (0, 63)], [([(0, -1), (1, 1)], 1, 30), ([(0, 1), (2, -1)], -62, 1), ([(1, 1), (2, -1)], 2, 31)], [rv .and 3 31 (.sym (sv 0)), rv .and 4 31 (.sym (sv 1)), rv .and 5 63 (.sym (sv 2)), rv .and 6 3 (.nat 3)], fun _ => none⟩) Tryz.prog codeN natW 1000 false 3 [.sym (sv 3), .sym (sv 4), .sym (sv 5), .sym (sv 6)] .nil n0) = true := by kernel_rfl
theorem run51 (s : Nat → Int) : allTrue (@ev (linSym s ⟨[(1, 31), (1, 31), (0, 63)], [([(0, -1), (1, 1)], 1, 30), ([(0, 1), (2, -1)], 2, 31), ([(1, 1), (2, -1)], 2, 31)], [rv .and 3 31 (.sym (sv 0)), rv .and 4 31 (.sym (sv 1)), rv .and 5 63 (.sym (sv 2)), rv .and 6 3 (.nat 3)], fun _ => none⟩) Tryz.prog codeN natW 1000 false 3 [.sym (sv 3), .sym (sv 4), .sym (sv 5), .sym (sv 6)] .nil n0) = true := by kernel_rfl
end Go.Ev
