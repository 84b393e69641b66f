/- Runs of BrokerRooms, part 6. -/
import Derived.Test.YtcgkojbffonceaaGreatDoorTop
namespace Go.Ev
open Go.Proofs
set_option maxRecDepth 1000000
theorem run48 (s : Nat → Int) : allTrue (@ev (linSym s ⟨[], [], [rv .rem 0 3 (.nat 2), rv .and 1 7 (.nat 4), rv .shr 1 3 (.sym (sv 2)), rv .and 2 1 (.nat 0)], fun _ => none⟩) Tryz.prog codeN natW 1000 false 3 [.sym (sv 0), .sym (sv 1)] .nil n0) = true := by kernel_rfl
theorem run49 (s : Nat → Int) : allTrue (@ev (linSym s ⟨[], [], [rv .rem 0 3 (.nat 2), rv .and 1 7 (.nat 4), rv .shr 1 3 (.sym (sv 2)), rv .and 2 1 (.nat 1)], fun _ => none⟩) Tryz.prog codeN natW 1000 false 3 [.sym (sv 0), .sym (sv 1)] .nil n0) = true := by kernel_rfl
theorem run50 (s : Nat → Int) : allTrue (@ev (linSym s ⟨[], [], [rv .rem 0 3 (.nat 2), rv .and 1 7 (.nat 5), rv .shr 1 3 (.sym (sv 2)), rv .and 2 1 (.nat 0)], fun _ => none⟩) Tryz.prog codeN natW 1000 false 3 [.sym (sv 0), .sym (sv 1)] .nil n0) = true := by kernel_rfl
theorem run51 (s : Nat → Int) : allTrue (@ev (linSym s ⟨[], [], [rv .rem 0 3 (.nat 2), rv .and 1 7 (.nat 5), rv .shr 1 3 (.sym (sv 2)), rv .and 2 1 (.nat 1)], fun _ => none⟩) Tryz.prog codeN natW 1000 false 3 [.sym (sv 0), .sym (sv 1)] .nil n0) = true := by kernel_rfl
theorem run52 (s : Nat → Int) : allTrue (@ev (linSym s ⟨[], [], [rv .rem 0 3 (.nat 2), rv .and 1 7 (.nat 6), rv .shr 1 3 (.sym (sv 2)), rv .and 2 1 (.nat 0)], fun _ => none⟩) Tryz.prog codeN natW 1000 false 3 [.sym (sv 0), .sym (sv 1)] .nil n0) = true := by kernel_rfl
theorem run53 (s : Nat → Int) : allTrue (@ev (linSym s ⟨[], [], [rv .rem 0 3 (.nat 2), rv .and 1 7 (.nat 6), rv .shr 1 3 (.sym (sv 2)), rv .and 2 1 (.nat 1)], fun _ => none⟩) Tryz.prog codeN natW 1000 false 3 [.sym (sv 0), .sym (sv 1)] .nil n0) = true := by kernel_rfl
theorem run54 (s : Nat → Int) : allTrue (@ev (linSym s ⟨[], [], [rv .rem 0 3 (.nat 2), rv .and 1 7 (.nat 7), rv .shr 1 3 (.sym (sv 2)), rv .and 2 1 (.nat 0)], fun _ => none⟩) Tryz.prog codeN natW 1000 false 3 [.sym (sv 0), .sym (sv 1)] .nil n0) = true := by kernel_rfl
theorem run55 (s : Nat → Int) : allTrue (@ev (linSym s ⟨[], [], [rv .rem 0 3 (.nat 2), rv .and 1 7 (.nat 7), rv .shr 1 3 (.sym (sv 2)), rv .and 2 1 (.nat 1)], fun _ => none⟩) Tryz.prog codeN natW 1000 false 3 [.sym (sv 0), .sym (sv 1)] .nil n0) = true := by kernel_rfl
end Go.Ev
