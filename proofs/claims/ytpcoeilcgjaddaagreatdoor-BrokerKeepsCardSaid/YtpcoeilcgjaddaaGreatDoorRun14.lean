/- Passes of BrokerKeeps's loop, part 14. -/
import Derived.Test.YtpcoeilcgjaddaaGreatDoorSt
namespace Go.Ev
open Go.Proofs
set_option maxRecDepth 1000000
theorem w23_0 : W_ TS23 ct23 [pa 0 0 0, pa 0 0 1, pa 0 0 2, pa 0 1 0, pa 0 1 1, pa 0 1 2] := by
  intro s A
  kernel_rfl
theorem w23_1 : W_ TS23 ct23 [pa 0 2 0, pa 0 2 1, pa 0 2 2, pa 1 0 0, pa 1 0 1, pa 1 0 2] := by
  intro s A
  kernel_rfl
theorem w23_2 : W_ TS23 ct23 [pa 1 1 0, pa 1 1 1] := by
  intro s A
  kernel_rfl
theorem w23_3 : W_ TS23 ct23 [pa 1 1 2, pa 1 2 0] := by
  intro s A
  kernel_rfl
theorem w23_4 : W_ TS23 ct23 [pa 1 2 1, pa 1 2 2, pa 2 0 0, pa 2 0 1, pa 2 0 2] := by
  intro s A
  kernel_rfl
theorem w23_5 : W_ TS23 ct23 [pa 2 1 0, pa 2 1 1] := by
  intro s A
  kernel_rfl
theorem w23_6 : W_ TS23 ct23 [pa 2 1 2, pa 2 2 0] := by
  intro s A
  kernel_rfl
theorem w23_7 : W_ TS23 ct23 [pa 2 2 1, pa 2 2 2, pa 3 0 0, pa 3 0 1, pa 3 0 2] := by
  intro s A
  kernel_rfl
theorem w23_8 : W_ TS23 ct23 [pa 3 1 0, pa 3 1 1, pa 3 1 2, pa 3 2 0, pa 3 2 1, pa 3 2 2, pa 4 0 0, pa 4 0 1] := by
  intro s A
  kernel_rfl
theorem w23_9 : W_ TS23 ct23 [pa 4 0 2, pa 4 1 0, pa 4 1 1, pa 4 1 2, pa 4 2 0, pa 4 2 1, pa 4 2 2, pa 5 0 0] := by
  intro s A
  kernel_rfl
theorem w23_10 : W_ TS23 ct23 [pa 5 0 1, pa 5 0 2, pa 5 1 0, pa 5 1 1, pa 5 1 2] := by
  intro s A
  kernel_rfl
theorem w23_11 : W_ TS23 ct23 [pa 5 2 0, pa 5 2 1, pa 5 2 2] := by
  intro s A
  kernel_rfl
theorem w24_0 : W_ TS24 ct24 [pa 0 0 0, pa 0 0 1, pa 0 0 2, pa 0 1 0, pa 0 1 1, pa 0 1 2] := by
  intro s A
  kernel_rfl
theorem w24_1 : W_ TS24 ct24 [pa 0 2 0, pa 0 2 1, pa 0 2 2, pa 1 0 0, pa 1 0 1, pa 1 0 2] := by
  intro s A
  kernel_rfl
theorem w24_2 : W_ TS24 ct24 [pa 1 1 0, pa 1 1 1] := by
  intro s A
  kernel_rfl
theorem w24_3 : W_ TS24 ct24 [pa 1 1 2, pa 1 2 0] := by
  intro s A
  kernel_rfl
theorem w24_4 : W_ TS24 ct24 [pa 1 2 1, pa 1 2 2, pa 2 0 0, pa 2 0 1, pa 2 0 2] := by
  intro s A
  kernel_rfl
theorem w24_5 : W_ TS24 ct24 [pa 2 1 0, pa 2 1 1, pa 2 1 2, pa 2 2 0] := by
  intro s A
  kernel_rfl
theorem w24_6 : W_ TS24 ct24 [pa 2 2 1, pa 2 2 2, pa 3 0 0, pa 3 0 1, pa 3 0 2, pa 3 1 0] := by
  intro s A
  kernel_rfl
theorem w24_7 : W_ TS24 ct24 [pa 3 1 1, pa 3 1 2, pa 3 2 0, pa 3 2 1, pa 3 2 2] := by
  intro s A
  kernel_rfl
theorem w24_8 : W_ TS24 ct24 [pa 4 0 0, pa 4 0 1, pa 4 0 2, pa 4 1 0, pa 4 1 1, pa 4 1 2, pa 4 2 0, pa 4 2 1] := by
  intro s A
  kernel_rfl
theorem w24_9 : W_ TS24 ct24 [pa 4 2 2, pa 5 0 0, pa 5 0 1, pa 5 0 2, pa 5 1 0, pa 5 1 1] := by
  intro s A
  kernel_rfl
end Go.Ev
