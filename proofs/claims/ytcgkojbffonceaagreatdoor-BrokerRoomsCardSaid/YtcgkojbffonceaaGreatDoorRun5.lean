/- Runs of BrokerRooms, part 5. -/
import Derived.Test.YtcgkojbffonceaaGreatDoorTop
namespace Go.Ev
open Go.Proofs
set_option maxRecDepth 1000000
theorem run40 (s : Nat → Int) : allTrue (@ev (linSym s ⟨[], [], [rv .rem 0 3 (.nat 2), rv .and 1 7 (.nat 0), rv .shr 1 3 (.sym (sv 2)), rv .and 2 1 (.nat 0)], fun _ => none⟩) Tryz.prog codeN natW 1000 false 3 [.sym (sv 0), .sym (sv 1)] .nil n0) = true := by kernel_rfl
theorem run41 (s : Nat → Int) : allTrue (@ev (linSym s ⟨[], [], [rv .rem 0 3 (.nat 2), rv .and 1 7 (.nat 0), rv .shr 1 3 (.sym (sv 2)), rv .and 2 1 (.nat 1)], fun _ => none⟩) Tryz.prog codeN natW 1000 false 3 [.sym (sv 0), .sym (sv 1)] .nil n0) = true := by kernel_rfl
theorem run42 (s : Nat → Int) : allTrue (@ev (linSym s ⟨[], [], [rv .rem 0 3 (.nat 2), rv .and 1 7 (.nat 1), rv .shr 1 3 (.sym (sv 2)), rv .and 2 1 (.nat 0)], fun _ => none⟩) Tryz.prog codeN natW 1000 false 3 [.sym (sv 0), .sym (sv 1)] .nil n0) = true := by kernel_rfl
theorem run43 (s : Nat → Int) : allTrue (@ev (linSym s ⟨[], [], [rv .rem 0 3 (.nat 2), rv .and 1 7 (.nat 1), rv .shr 1 3 (.sym (sv 2)), rv .and 2 1 (.nat 1)], fun _ => none⟩) Tryz.prog codeN natW 1000 false 3 [.sym (sv 0), .sym (sv 1)] .nil n0) = true := by kernel_rfl
theorem run44 (s : Nat → Int) : allTrue (@ev (linSym s ⟨[], [], [rv .rem 0 3 (.nat 2), rv .and 1 7 (.nat 2), rv .shr 1 3 (.sym (sv 2)), rv .and 2 1 (.nat 0)], fun _ => none⟩) Tryz.prog codeN natW 1000 false 3 [.sym (sv 0), .sym (sv 1)] .nil n0) = true := by kernel_rfl
theorem run45 (s : Nat → Int) : allTrue (@ev (linSym s ⟨[], [], [rv .rem 0 3 (.nat 2), rv .and 1 7 (.nat 2), rv .shr 1 3 (.sym (sv 2)), rv .and 2 1 (.nat 1)], fun _ => none⟩) Tryz.prog codeN natW 1000 false 3 [.sym (sv 0), .sym (sv 1)] .nil n0) = true := by kernel_rfl
theorem run46 (s : Nat → Int) : allTrue (@ev (linSym s ⟨[], [], [rv .rem 0 3 (.nat 2), rv .and 1 7 (.nat 3), rv .shr 1 3 (.sym (sv 2)), rv .and 2 1 (.nat 0)], fun _ => none⟩) Tryz.prog codeN natW 1000 false 3 [.sym (sv 0), .sym (sv 1)] .nil n0) = true := by kernel_rfl
theorem run47 (s : Nat → Int) : allTrue (@ev (linSym s ⟨[], [], [rv .rem 0 3 (.nat 2), rv .and 1 7 (.nat 3), rv .shr 1 3 (.sym (sv 2)), rv .and 2 1 (.nat 1)], fun _ => none⟩) Tryz.prog codeN natW 1000 false 3 [.sym (sv 0), .sym (sv 1)] .nil n0) = true := by kernel_rfl
end Go.Ev
