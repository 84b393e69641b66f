/- Runs of BrokerRooms, part 3. -/
import Derived.Test.YtcgkojbffonceaaGreatDoorTop
namespace Go.Ev
open Go.Proofs
set_option maxRecDepth 1000000
theorem run24 (s : Nat → Int) : allTrue (@ev (linSym s ⟨[], [], [rv .rem 0 3 (.nat 0), rv .and 1 7 (.nat 0)], fun _ => none⟩) Tryz.prog codeN natW 1000 false 3 [.sym (sv 0), .sym (sv 1)] .nil n0) = true := by kernel_rfl
theorem run25 (s : Nat → Int) : allTrue (@ev (linSym s ⟨[], [], [rv .rem 0 3 (.nat 0), rv .and 1 7 (.nat 1)], fun _ => none⟩) Tryz.prog codeN natW 1000 false 3 [.sym (sv 0), .sym (sv 1)] .nil n0) = true := by kernel_rfl
theorem run26 (s : Nat → Int) : allTrue (@ev (linSym s ⟨[], [], [rv .rem 0 3 (.nat 0), rv .and 1 7 (.nat 2)], fun _ => none⟩) Tryz.prog codeN natW 1000 false 3 [.sym (sv 0), .sym (sv 1)] .nil n0) = true := by kernel_rfl
theorem run27 (s : Nat → Int) : allTrue (@ev (linSym s ⟨[], [], [rv .rem 0 3 (.nat 0), rv .and 1 7 (.nat 3)], fun _ => none⟩) Tryz.prog codeN natW 1000 false 3 [.sym (sv 0), .sym (sv 1)] .nil n0) = true := by kernel_rfl
theorem run28 (s : Nat → Int) : allTrue (@ev (linSym s ⟨[], [], [rv .rem 0 3 (.nat 0), rv .and 1 7 (.nat 4)], fun _ => none⟩) Tryz.prog codeN natW 1000 false 3 [.sym (sv 0), .sym (sv 1)] .nil n0) = true := by kernel_rfl
theorem run29 (s : Nat → Int) : allTrue (@ev (linSym s ⟨[], [], [rv .rem 0 3 (.nat 0), rv .and 1 7 (.nat 5)], fun _ => none⟩) Tryz.prog codeN natW 1000 false 3 [.sym (sv 0), .sym (sv 1)] .nil n0) = true := by kernel_rfl
theorem run30 (s : Nat → Int) : allTrue (@ev (linSym s ⟨[], [], [rv .rem 0 3 (.nat 0), rv .and 1 7 (.nat 6)], fun _ => none⟩) Tryz.prog codeN natW 1000 false 3 [.sym (sv 0), .sym (sv 1)] .nil n0) = true := by kernel_rfl
theorem run31 (s : Nat → Int) : allTrue (@ev (linSym s ⟨[], [], [rv .rem 0 3 (.nat 0), rv .and 1 7 (.nat 7)], fun _ => none⟩) Tryz.prog codeN natW 1000 false 3 [.sym (sv 0), .sym (sv 1)] .nil n0) = true := by kernel_rfl
end Go.Ev
