/- Passes of BrokerKeeps's loop, part 15. -/
import Derived.Test.YtpcoeilcgjaddaaGreatDoorSt
namespace Go.Ev
open Go.Proofs
set_option maxRecDepth 1000000
theorem w24_10 : W_ TS24 ct24 [pa 5 1 2, pa 5 2 0, pa 5 2 1, pa 5 2 2] := by
  intro s A
  kernel_rfl
theorem w25_0 : W_ TS25 ct25 [pa 0 0 0, pa 0 0 1, pa 0 0 2, pa 0 1 0, pa 0 1 1, pa 0 1 2, pa 0 2 0, pa 0 2 1] := by
  intro s A
  kernel_rfl
theorem w25_1 : W_ TS25 ct25 [pa 0 2 2, pa 1 0 0, pa 1 0 1, pa 1 0 2, pa 1 1 0] := by
  intro s A
  kernel_rfl
theorem w25_2 : W_ TS25 ct25 [pa 1 1 1, pa 1 1 2] := by
  intro s A
  kernel_rfl
theorem w25_3 : W_ TS25 ct25 [pa 1 2 0, pa 1 2 1] := by
  intro s A
  kernel_rfl
theorem w25_4 : W_ TS25 ct25 [pa 1 2 2, pa 2 0 0, pa 2 0 1, pa 2 0 2, pa 2 1 0, pa 2 1 1] := by
  intro s A
  kernel_rfl
theorem w25_5 : W_ TS25 ct25 [pa 2 1 2, pa 2 2 0, pa 2 2 1, pa 2 2 2, pa 3 0 0, pa 3 0 1] := by
  intro s A
  kernel_rfl
theorem w25_6 : W_ TS25 ct25 [pa 3 0 2, pa 3 1 0, pa 3 1 1, pa 3 1 2, pa 3 2 0] := by
  intro s A
  kernel_rfl
theorem w25_7 : W_ TS25 ct25 [pa 3 2 1, pa 3 2 2, pa 4 0 0, pa 4 0 1, pa 4 0 2, pa 4 1 0, pa 4 1 1] := by
  intro s A
  kernel_rfl
theorem w25_8 : W_ TS25 ct25 [pa 4 1 2, pa 4 2 0, pa 4 2 1, pa 4 2 2, pa 5 0 0, pa 5 0 1, pa 5 0 2] := by
  intro s A
  kernel_rfl
theorem w25_9 : W_ TS25 ct25 [pa 5 1 0, pa 5 1 1, pa 5 1 2, pa 5 2 0] := by
  intro s A
  kernel_rfl
theorem w25_10 : W_ TS25 ct25 [pa 5 2 1, pa 5 2 2] := by
  intro s A
  kernel_rfl
theorem w26_0 : W_ TS26 ct26 [pa 0 0 0, pa 0 0 1, pa 0 0 2, pa 0 1 0] := by
  intro s A
  kernel_rfl
theorem w26_1 : W_ TS26 ct26 [pa 0 1 1, pa 0 1 2] := by
  intro s A
  kernel_rfl
theorem w26_2 : W_ TS26 ct26 [pa 0 2 0, pa 0 2 1] := by
  intro s A
  kernel_rfl
theorem w26_3 : W_ TS26 ct26 [pa 0 2 2, pa 1 0 0, pa 1 0 1, pa 1 0 2] := by
  intro s A
  kernel_rfl
theorem w26_4m0 : V_ TS26 ct26 (pa 1 1 0) 0 8 := by
  intro s A
  kernel_rfl
theorem w26_4f : F_ TS26 ct26 (pa 1 1 0) 8 := by
  intro s A
  kernel_rfl
theorem w26_5m0 : V_ TS26 ct26 (pa 1 1 1) 0 8 := by
  intro s A
  kernel_rfl
theorem w26_5f : F_ TS26 ct26 (pa 1 1 1) 8 := by
  intro s A
  kernel_rfl
theorem w26_6 : W_ TS26 ct26 [pa 1 1 2] := by
  intro s A
  kernel_rfl
theorem w26_7m0 : V_ TS26 ct26 (pa 1 2 0) 0 8 := by
  intro s A
  kernel_rfl
theorem w26_7f : F_ TS26 ct26 (pa 1 2 0) 8 := by
  intro s A
  kernel_rfl
theorem w26_8m0 : V_ TS26 ct26 (pa 1 2 1) 0 8 := by
  intro s A
  kernel_rfl
end Go.Ev
