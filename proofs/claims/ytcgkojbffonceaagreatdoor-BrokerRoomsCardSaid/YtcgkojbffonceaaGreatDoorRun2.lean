/- Runs of BrokerRooms, part 2. -/
import Derived.Test.YtcgkojbffonceaaGreatDoorTop
namespace Go.Ev
open Go.Proofs
set_option maxRecDepth 1000000
theorem run16 (s : Nat → Int) : allTrue (@ev (linSym s ⟨[], [], [rv .rem 0 3 (.int .i64 (.negSucc 0)), rv .and 1 7 (.nat 4), rv .shr 1 3 (.sym (sv 2)), rv .and 2 1 (.nat 0)], fun _ => none⟩) Tryz.prog codeN natW 1000 false 3 [.sym (sv 0), .sym (sv 1)] .nil n0) = true := by kernel_rfl
theorem run17 (s : Nat → Int) : allTrue (@ev (linSym s ⟨[], [], [rv .rem 0 3 (.int .i64 (.negSucc 0)), rv .and 1 7 (.nat 4), rv .shr 1 3 (.sym (sv 2)), rv .and 2 1 (.nat 1)], fun _ => none⟩) Tryz.prog codeN natW 1000 false 3 [.sym (sv 0), .sym (sv 1)] .nil n0) = true := by kernel_rfl
theorem run18 (s : Nat → Int) : allTrue (@ev (linSym s ⟨[], [], [rv .rem 0 3 (.int .i64 (.negSucc 0)), rv .and 1 7 (.nat 5), rv .shr 1 3 (.sym (sv 2)), rv .and 2 1 (.nat 0)], fun _ => none⟩) Tryz.prog codeN natW 1000 false 3 [.sym (sv 0), .sym (sv 1)] .nil n0) = true := by kernel_rfl
theorem run19 (s : Nat → Int) : allTrue (@ev (linSym s ⟨[], [], [rv .rem 0 3 (.int .i64 (.negSucc 0)), rv .and 1 7 (.nat 5), rv .shr 1 3 (.sym (sv 2)), rv .and 2 1 (.nat 1)], fun _ => none⟩) Tryz.prog codeN natW 1000 false 3 [.sym (sv 0), .sym (sv 1)] .nil n0) = true := by kernel_rfl
theorem run20 (s : Nat → Int) : allTrue (@ev (linSym s ⟨[], [], [rv .rem 0 3 (.int .i64 (.negSucc 0)), rv .and 1 7 (.nat 6), rv .shr 1 3 (.sym (sv 2)), rv .and 2 1 (.nat 0)], fun _ => none⟩) Tryz.prog codeN natW 1000 false 3 [.sym (sv 0), .sym (sv 1)] .nil n0) = true := by kernel_rfl
theorem run21 (s : Nat → Int) : allTrue (@ev (linSym s ⟨[], [], [rv .rem 0 3 (.int .i64 (.negSucc 0)), rv .and 1 7 (.nat 6), rv .shr 1 3 (.sym (sv 2)), rv .and 2 1 (.nat 1)], fun _ => none⟩) Tryz.prog codeN natW 1000 false 3 [.sym (sv 0), .sym (sv 1)] .nil n0) = true := by kernel_rfl
theorem run22 (s : Nat → Int) : allTrue (@ev (linSym s ⟨[], [], [rv .rem 0 3 (.int .i64 (.negSucc 0)), rv .and 1 7 (.nat 7), rv .shr 1 3 (.sym (sv 2)), rv .and 2 1 (.nat 0)], fun _ => none⟩) Tryz.prog codeN natW 1000 false 3 [.sym (sv 0), .sym (sv 1)] .nil n0) = true := by kernel_rfl
theorem run23 (s : Nat → Int) : allTrue (@ev (linSym s ⟨[], [], [rv .rem 0 3 (.int .i64 (.negSucc 0)), rv .and 1 7 (.nat 7), rv .shr 1 3 (.sym (sv 2)), rv .and 2 1 (.nat 1)], fun _ => none⟩) Tryz.prog codeN natW 1000 false 3 [.sym (sv 0), .sym (sv 1)] .nil n0) = true := by kernel_rfl
end Go.Ev
