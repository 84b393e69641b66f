/- Runs of BrokerRooms, part 1. -/
import Derived.Test.YtcgkojbffonceaaGreatDoorTop
namespace Go.Ev
open Go.Proofs
set_option maxRecDepth 1000000
theorem run8 (s : Nat → Int) : allTrue (@ev (linSym s ⟨[], [], [rv .rem 0 3 (.int .i64 (.negSucc 0)), rv .and 1 7 (.nat 0), rv .shr 1 3 (.sym (sv 2)), rv .and 2 1 (.nat 0)], fun _ => none⟩) Tryz.prog codeN natW 1000 false 3 [.sym (sv 0), .sym (sv 1)] .nil n0) = true := by kernel_rfl
theorem run9 (s : Nat → Int) : allTrue (@ev (linSym s ⟨[], [], [rv .rem 0 3 (.int .i64 (.negSucc 0)), rv .and 1 7 (.nat 0), rv .shr 1 3 (.sym (sv 2)), rv .and 2 1 (.nat 1)], fun _ => none⟩) Tryz.prog codeN natW 1000 false 3 [.sym (sv 0), .sym (sv 1)] .nil n0) = true := by kernel_rfl
theorem run10 (s : Nat → Int) : allTrue (@ev (linSym s ⟨[], [], [rv .rem 0 3 (.int .i64 (.negSucc 0)), rv .and 1 7 (.nat 1), rv .shr 1 3 (.sym (sv 2)), rv .and 2 1 (.nat 0)], fun _ => none⟩) Tryz.prog codeN natW 1000 false 3 [.sym (sv 0), .sym (sv 1)] .nil n0) = true := by kernel_rfl
theorem run11 (s : Nat → Int) : allTrue (@ev (linSym s ⟨[], [], [rv .rem 0 3 (.int .i64 (.negSucc 0)), rv .and 1 7 (.nat 1), rv .shr 1 3 (.sym (sv 2)), rv .and 2 1 (.nat 1)], fun _ => none⟩) Tryz.prog codeN natW 1000 false 3 [.sym (sv 0), .sym (sv 1)] .nil n0) = true := by kernel_rfl
theorem run12 (s : Nat → Int) : allTrue (@ev (linSym s ⟨[], [], [rv .rem 0 3 (.int .i64 (.negSucc 0)), rv .and 1 7 (.nat 2), rv .shr 1 3 (.sym (sv 2)), rv .and 2 1 (.nat 0)], fun _ => none⟩) Tryz.prog codeN natW 1000 false 3 [.sym (sv 0), .sym (sv 1)] .nil n0) = true := by kernel_rfl
theorem run13 (s : Nat → Int) : allTrue (@ev (linSym s ⟨[], [], [rv .rem 0 3 (.int .i64 (.negSucc 0)), rv .and 1 7 (.nat 2), rv .shr 1 3 (.sym (sv 2)), rv .and 2 1 (.nat 1)], fun _ => none⟩) Tryz.prog codeN natW 1000 false 3 [.sym (sv 0), .sym (sv 1)] .nil n0) = true := by kernel_rfl
theorem run14 (s : Nat → Int) : allTrue (@ev (linSym s ⟨[], [], [rv .rem 0 3 (.int .i64 (.negSucc 0)), rv .and 1 7 (.nat 3), rv .shr 1 3 (.sym (sv 2)), rv .and 2 1 (.nat 0)], fun _ => none⟩) Tryz.prog codeN natW 1000 false 3 [.sym (sv 0), .sym (sv 1)] .nil n0) = true := by kernel_rfl
theorem run15 (s : Nat → Int) : allTrue (@ev (linSym s ⟨[], [], [rv .rem 0 3 (.int .i64 (.negSucc 0)), rv .and 1 7 (.nat 3), rv .shr 1 3 (.sym (sv 2)), rv .and 2 1 (.nat 1)], fun _ => none⟩) Tryz.prog codeN natW 1000 false 3 [.sym (sv 0), .sym (sv 1)] .nil n0) = true := by kernel_rfl
end Go.Ev
