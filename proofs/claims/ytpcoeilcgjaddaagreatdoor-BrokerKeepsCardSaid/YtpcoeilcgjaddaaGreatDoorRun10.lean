/- Passes of BrokerKeeps's loop, part 10. -/
import Derived.Test.YtpcoeilcgjaddaaGreatDoorSt
namespace Go.Ev
open Go.Proofs
set_option maxRecDepth 1000000
theorem w16_12 : W_ TS16 ct16 [pa 2 1 2] := by
  intro s A
  kernel_rfl
theorem w16_13 : W_ TS16 ct16 [pa 2 2 0] := by
  intro s A
  kernel_rfl
theorem w16_14 : W_ TS16 ct16 [pa 2 2 1] := by
  intro s A
  kernel_rfl
theorem w16_15 : W_ TS16 ct16 [pa 2 2 2, pa 3 0 0, pa 3 0 1, pa 3 0 2, pa 3 1 0, pa 3 1 1, pa 3 1 2, pa 3 2 0] := by
  intro s A
  kernel_rfl
theorem w16_16 : W_ TS16 ct16 [pa 3 2 1, pa 3 2 2, pa 4 0 0, pa 4 0 1, pa 4 0 2, pa 4 1 0] := by
  intro s A
  kernel_rfl
theorem w16_17 : W_ TS16 ct16 [pa 4 1 1, pa 4 1 2, pa 4 2 0, pa 4 2 1, pa 4 2 2] := by
  intro s A
  kernel_rfl
theorem w16_18 : W_ TS16 ct16 [pa 5 0 0, pa 5 0 1, pa 5 0 2, pa 5 1 0, pa 5 1 1, pa 5 1 2, pa 5 2 0, pa 5 2 1] := by
  intro s A
  kernel_rfl
theorem w16_19 : W_ TS16 ct16 [pa 5 2 2] := by
  intro s A
  kernel_rfl
theorem w17_0 : W_ TS17 ct17 [pa 0 0 0, pa 0 0 1, pa 0 0 2, pa 0 1 0] := by
  intro s A
  kernel_rfl
theorem w17_1 : W_ TS17 ct17 [pa 0 1 1, pa 0 1 2] := by
  intro s A
  kernel_rfl
theorem w17_2 : W_ TS17 ct17 [pa 0 2 0, pa 0 2 1] := by
  intro s A
  kernel_rfl
theorem w17_3 : W_ TS17 ct17 [pa 0 2 2, pa 1 0 0, pa 1 0 1, pa 1 0 2] := by
  intro s A
  kernel_rfl
theorem w17_4 : W_ TS17 ct17 [pa 1 1 0] := by
  intro s A
  kernel_rfl
theorem w17_5 : W_ TS17 ct17 [pa 1 1 1] := by
  intro s A
  kernel_rfl
theorem w17_6 : W_ TS17 ct17 [pa 1 1 2] := by
  intro s A
  kernel_rfl
theorem w17_7 : W_ TS17 ct17 [pa 1 2 0] := by
  intro s A
  kernel_rfl
theorem w17_8 : W_ TS17 ct17 [pa 1 2 1] := by
  intro s A
  kernel_rfl
theorem w17_9 : W_ TS17 ct17 [pa 1 2 2, pa 2 0 0, pa 2 0 1, pa 2 0 2, pa 2 1 0] := by
  intro s A
  kernel_rfl
theorem w17_10 : W_ TS17 ct17 [pa 2 1 1, pa 2 1 2] := by
  intro s A
  kernel_rfl
theorem w17_11 : W_ TS17 ct17 [pa 2 2 0, pa 2 2 1] := by
  intro s A
  kernel_rfl
theorem w17_12 : W_ TS17 ct17 [pa 2 2 2, pa 3 0 0, pa 3 0 1, pa 3 0 2, pa 3 1 0, pa 3 1 1] := by
  intro s A
  kernel_rfl
theorem w17_13 : W_ TS17 ct17 [pa 3 1 2, pa 3 2 0, pa 3 2 1, pa 3 2 2, pa 4 0 0, pa 4 0 1] := by
  intro s A
  kernel_rfl
theorem w17_14 : W_ TS17 ct17 [pa 4 0 2, pa 4 1 0, pa 4 1 1, pa 4 1 2, pa 4 2 0] := by
  intro s A
  kernel_rfl
theorem w17_15 : W_ TS17 ct17 [pa 4 2 1, pa 4 2 2, pa 5 0 0, pa 5 0 1, pa 5 0 2, pa 5 1 0, pa 5 1 1] := by
  intro s A
  kernel_rfl
end Go.Ev
