/- Passes of BrokerKeeps's loop, part 19. -/
import Derived.Test.YtpcoeilcgjaddaaGreatDoorSt
namespace Go.Ev
open Go.Proofs
set_option maxRecDepth 1000000
theorem w30_6 : W_ TS30 ct30 [pa 1 2 1] := by
  intro s A
  kernel_rfl
theorem w30_7 : W_ TS30 ct30 [pa 1 2 2, pa 2 0 0, pa 2 0 1, pa 2 0 2, pa 2 1 0] := by
  intro s A
  kernel_rfl
theorem w30_8 : W_ TS30 ct30 [pa 2 1 1, pa 2 1 2] := by
  intro s A
  kernel_rfl
theorem w30_9 : W_ TS30 ct30 [pa 2 2 0, pa 2 2 1] := by
  intro s A
  kernel_rfl
theorem w30_10 : W_ TS30 ct30 [pa 2 2 2, pa 3 0 0, pa 3 0 1, pa 3 0 2, pa 3 1 0, pa 3 1 1] := by
  intro s A
  kernel_rfl
theorem w30_11 : W_ TS30 ct30 [pa 3 1 2, pa 3 2 0, pa 3 2 1, pa 3 2 2, pa 4 0 0, pa 4 0 1] := by
  intro s A
  kernel_rfl
theorem w30_12 : W_ TS30 ct30 [pa 4 0 2, pa 4 1 0, pa 4 1 1, pa 4 1 2, pa 4 2 0, pa 4 2 1, pa 4 2 2, pa 5 0 0] := by
  intro s A
  kernel_rfl
theorem w30_13 : W_ TS30 ct30 [pa 5 0 1, pa 5 0 2, pa 5 1 0, pa 5 1 1, pa 5 1 2] := by
  intro s A
  kernel_rfl
theorem w30_14 : W_ TS30 ct30 [pa 5 2 0, pa 5 2 1, pa 5 2 2] := by
  intro s A
  kernel_rfl
theorem w31_0 : W_ TS31 ct31 [pa 0 0 0, pa 0 0 1, pa 0 0 2, pa 0 1 0] := by
  intro s A
  kernel_rfl
theorem w31_1 : W_ TS31 ct31 [pa 0 1 1, pa 0 1 2] := by
  intro s A
  kernel_rfl
theorem w31_2 : W_ TS31 ct31 [pa 0 2 0, pa 0 2 1] := by
  intro s A
  kernel_rfl
theorem w31_3 : W_ TS31 ct31 [pa 0 2 2, pa 1 0 0, pa 1 0 1, pa 1 0 2] := by
  intro s A
  kernel_rfl
theorem w31_4m0 : V_ TS31 ct31 (pa 1 1 0) 0 8 := by
  intro s A
  kernel_rfl
theorem w31_4f : F_ TS31 ct31 (pa 1 1 0) 8 := by
  intro s A
  kernel_rfl
theorem w31_5m0 : V_ TS31 ct31 (pa 1 1 1) 0 8 := by
  intro s A
  kernel_rfl
theorem w31_5f : F_ TS31 ct31 (pa 1 1 1) 8 := by
  intro s A
  kernel_rfl
theorem w31_6 : W_ TS31 ct31 [pa 1 1 2] := by
  intro s A
  kernel_rfl
theorem w31_7m0 : V_ TS31 ct31 (pa 1 2 0) 0 8 := by
  intro s A
  kernel_rfl
theorem w31_7f : F_ TS31 ct31 (pa 1 2 0) 8 := by
  intro s A
  kernel_rfl
theorem w31_8m0 : V_ TS31 ct31 (pa 1 2 1) 0 8 := by
  intro s A
  kernel_rfl
theorem w31_8f : F_ TS31 ct31 (pa 1 2 1) 8 := by
  intro s A
  kernel_rfl
theorem w31_9 : W_ TS31 ct31 [pa 1 2 2, pa 2 0 0, pa 2 0 1, pa 2 0 2] := by
  intro s A
  kernel_rfl
end Go.Ev
