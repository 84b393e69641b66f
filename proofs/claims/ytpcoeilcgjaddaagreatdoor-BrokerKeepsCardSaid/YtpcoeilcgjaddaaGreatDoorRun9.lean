/- Passes of BrokerKeeps's loop, part 9. -/
import Derived.Test.YtpcoeilcgjaddaaGreatDoorSt
namespace Go.Ev
open Go.Proofs
set_option maxRecDepth 1000000
theorem w14_6 : W_ TS14 ct14 [pa 4 1 1, pa 4 1 2, pa 4 2 0, pa 4 2 1, pa 4 2 2, pa 5 0 0, pa 5 0 1, pa 5 0 2] := by
  intro s A
  kernel_rfl
theorem w14_7 : W_ TS14 ct14 [pa 5 1 0, pa 5 1 1, pa 5 1 2, pa 5 2 0] := by
  intro s A
  kernel_rfl
theorem w14_8 : W_ TS14 ct14 [pa 5 2 1, pa 5 2 2] := by
  intro s A
  kernel_rfl
theorem w15_0 : W_ TS15 ct15 [pa 0 0 0, pa 0 0 1, pa 0 0 2, pa 0 1 0, pa 0 1 1, pa 0 1 2, pa 0 2 0, pa 0 2 1] := by
  intro s A
  kernel_rfl
theorem w15_1 : W_ TS15 ct15 [pa 0 2 2, pa 1 0 0, pa 1 0 1, pa 1 0 2, pa 1 1 0, pa 1 1 1] := by
  intro s A
  kernel_rfl
theorem w15_2 : W_ TS15 ct15 [pa 1 1 2, pa 1 2 0, pa 1 2 1, pa 1 2 2, pa 2 0 0, pa 2 0 1] := by
  intro s A
  kernel_rfl
theorem w15_3 : W_ TS15 ct15 [pa 2 0 2, pa 2 1 0, pa 2 1 1, pa 2 1 2, pa 2 2 0, pa 2 2 1, pa 2 2 2, pa 3 0 0] := by
  intro s A
  kernel_rfl
theorem w15_4 : W_ TS15 ct15 [pa 3 0 1, pa 3 0 2, pa 3 1 0, pa 3 1 1, pa 3 1 2] := by
  intro s A
  kernel_rfl
theorem w15_5 : W_ TS15 ct15 [pa 3 2 0, pa 3 2 1, pa 3 2 2, pa 4 0 0, pa 4 0 1, pa 4 0 2] := by
  intro s A
  kernel_rfl
theorem w15_6 : W_ TS15 ct15 [pa 4 1 0, pa 4 1 1, pa 4 1 2, pa 4 2 0, pa 4 2 1, pa 4 2 2, pa 5 0 0, pa 5 0 1] := by
  intro s A
  kernel_rfl
theorem w15_7 : W_ TS15 ct15 [pa 5 0 2, pa 5 1 0, pa 5 1 1, pa 5 1 2, pa 5 2 0] := by
  intro s A
  kernel_rfl
theorem w15_8 : W_ TS15 ct15 [pa 5 2 1, pa 5 2 2] := by
  intro s A
  kernel_rfl
theorem w16_0 : W_ TS16 ct16 [pa 0 0 0, pa 0 0 1, pa 0 0 2, pa 0 1 0] := by
  intro s A
  kernel_rfl
theorem w16_1 : W_ TS16 ct16 [pa 0 1 1, pa 0 1 2] := by
  intro s A
  kernel_rfl
theorem w16_2 : W_ TS16 ct16 [pa 0 2 0, pa 0 2 1] := by
  intro s A
  kernel_rfl
theorem w16_3 : W_ TS16 ct16 [pa 0 2 2, pa 1 0 0, pa 1 0 1, pa 1 0 2] := by
  intro s A
  kernel_rfl
theorem w16_4 : W_ TS16 ct16 [pa 1 1 0] := by
  intro s A
  kernel_rfl
theorem w16_5 : W_ TS16 ct16 [pa 1 1 1] := by
  intro s A
  kernel_rfl
theorem w16_6 : W_ TS16 ct16 [pa 1 1 2] := by
  intro s A
  kernel_rfl
theorem w16_7 : W_ TS16 ct16 [pa 1 2 0] := by
  intro s A
  kernel_rfl
theorem w16_8 : W_ TS16 ct16 [pa 1 2 1] := by
  intro s A
  kernel_rfl
theorem w16_9 : W_ TS16 ct16 [pa 1 2 2, pa 2 0 0, pa 2 0 1, pa 2 0 2] := by
  intro s A
  kernel_rfl
theorem w16_10 : W_ TS16 ct16 [pa 2 1 0] := by
  intro s A
  kernel_rfl
theorem w16_11 : W_ TS16 ct16 [pa 2 1 1] := by
  intro s A
  kernel_rfl
end Go.Ev
