/- Passes of BrokerKeeps's loop, part 8. -/
import Derived.Test.YtpcoeilcgjaddaaGreatDoorSt
namespace Go.Ev
open Go.Proofs
set_option maxRecDepth 1000000
theorem w12_4 : W_ TS12 ct12 [pa 2 1 1, pa 2 1 2, pa 2 2 0, pa 2 2 1, pa 2 2 2] := by
  intro s A
  kernel_rfl
theorem w12_5 : W_ TS12 ct12 [pa 3 0 0, pa 3 0 1, pa 3 0 2, pa 3 1 0, pa 3 1 1, pa 3 1 2, pa 3 2 0, pa 3 2 1] := by
  intro s A
  kernel_rfl
theorem w12_6 : W_ TS12 ct12 [pa 3 2 2, pa 4 0 0, pa 4 0 1, pa 4 0 2, pa 4 1 0, pa 4 1 1, pa 4 1 2, pa 4 2 0] := by
  intro s A
  kernel_rfl
theorem w12_7 : W_ TS12 ct12 [pa 4 2 1, pa 4 2 2, pa 5 0 0, pa 5 0 1, pa 5 0 2, pa 5 1 0] := by
  intro s A
  kernel_rfl
theorem w12_8 : W_ TS12 ct12 [pa 5 1 1, pa 5 1 2, pa 5 2 0, pa 5 2 1, pa 5 2 2] := by
  intro s A
  kernel_rfl
theorem w13_0 : W_ TS13 ct13 [pa 0 0 0, pa 0 0 1, pa 0 0 2, pa 0 1 0, pa 0 1 1, pa 0 1 2, pa 0 2 0, pa 0 2 1] := by
  intro s A
  kernel_rfl
theorem w13_1 : W_ TS13 ct13 [pa 0 2 2, pa 1 0 0, pa 1 0 1, pa 1 0 2, pa 1 1 0] := by
  intro s A
  kernel_rfl
theorem w13_2 : W_ TS13 ct13 [pa 1 1 1, pa 1 1 2] := by
  intro s A
  kernel_rfl
theorem w13_3 : W_ TS13 ct13 [pa 1 2 0, pa 1 2 1] := by
  intro s A
  kernel_rfl
theorem w13_4 : W_ TS13 ct13 [pa 1 2 2, pa 2 0 0, pa 2 0 1, pa 2 0 2, pa 2 1 0, pa 2 1 1] := by
  intro s A
  kernel_rfl
theorem w13_5 : W_ TS13 ct13 [pa 2 1 2, pa 2 2 0, pa 2 2 1, pa 2 2 2, pa 3 0 0, pa 3 0 1] := by
  intro s A
  kernel_rfl
theorem w13_6 : W_ TS13 ct13 [pa 3 0 2, pa 3 1 0, pa 3 1 1, pa 3 1 2, pa 3 2 0] := by
  intro s A
  kernel_rfl
theorem w13_7 : W_ TS13 ct13 [pa 3 2 1, pa 3 2 2, pa 4 0 0, pa 4 0 1, pa 4 0 2, pa 4 1 0, pa 4 1 1] := by
  intro s A
  kernel_rfl
theorem w13_8 : W_ TS13 ct13 [pa 4 1 2, pa 4 2 0, pa 4 2 1, pa 4 2 2, pa 5 0 0, pa 5 0 1, pa 5 0 2, pa 5 1 0] := by
  intro s A
  kernel_rfl
theorem w13_9 : W_ TS13 ct13 [pa 5 1 1, pa 5 1 2, pa 5 2 0, pa 5 2 1, pa 5 2 2] := by
  intro s A
  kernel_rfl
theorem w14_0 : W_ TS14 ct14 [pa 0 0 0, pa 0 0 1, pa 0 0 2, pa 0 1 0, pa 0 1 1, pa 0 1 2, pa 0 2 0, pa 0 2 1] := by
  intro s A
  kernel_rfl
theorem w14_1 : W_ TS14 ct14 [pa 0 2 2, pa 1 0 0, pa 1 0 1, pa 1 0 2, pa 1 1 0, pa 1 1 1] := by
  intro s A
  kernel_rfl
theorem w14_2 : W_ TS14 ct14 [pa 1 1 2, pa 1 2 0, pa 1 2 1, pa 1 2 2, pa 2 0 0, pa 2 0 1] := by
  intro s A
  kernel_rfl
theorem w14_3 : W_ TS14 ct14 [pa 2 0 2, pa 2 1 0, pa 2 1 1, pa 2 1 2, pa 2 2 0] := by
  intro s A
  kernel_rfl
theorem w14_4 : W_ TS14 ct14 [pa 2 2 1, pa 2 2 2, pa 3 0 0, pa 3 0 1, pa 3 0 2, pa 3 1 0, pa 3 1 1] := by
  intro s A
  kernel_rfl
theorem w14_5 : W_ TS14 ct14 [pa 3 1 2, pa 3 2 0, pa 3 2 1, pa 3 2 2, pa 4 0 0, pa 4 0 1, pa 4 0 2, pa 4 1 0] := by
  intro s A
  kernel_rfl
end Go.Ev
