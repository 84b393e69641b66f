/- Passes of BrokerKeeps's loop, part 3. -/
import Derived.Test.YtpcoeilcgjaddaaGreatDoorSt
namespace Go.Ev
open Go.Proofs
set_option maxRecDepth 1000000
theorem w1_5 : W_ TS1 ct1 [pa 3 0 0, pa 3 0 1, pa 3 0 2, pa 3 1 0, pa 3 1 1, pa 3 1 2, pa 3 2 0, pa 3 2 1] := by
  intro s A
  kernel_rfl
theorem w1_6 : W_ TS1 ct1 [pa 3 2 2, pa 4 0 0, pa 4 0 1, pa 4 0 2, pa 4 1 0, pa 4 1 1] := by
  intro s A
  kernel_rfl
theorem w1_7 : W_ TS1 ct1 [pa 4 1 2, pa 4 2 0, pa 4 2 1, pa 4 2 2, pa 5 0 0, pa 5 0 1] := by
  intro s A
  kernel_rfl
theorem w1_8 : W_ TS1 ct1 [pa 5 0 2, pa 5 1 0, pa 5 1 1, pa 5 1 2, pa 5 2 0, pa 5 2 1, pa 5 2 2] := by
  intro s A
  kernel_rfl
theorem w2_0 : W_ TS2 ct2 [pa 0 0 0, pa 0 0 1, pa 0 0 2, pa 0 1 0, pa 0 1 1, pa 0 1 2] := by
  intro s A
  kernel_rfl
theorem w2_1 : W_ TS2 ct2 [pa 0 2 0, pa 0 2 1, pa 0 2 2, pa 1 0 0, pa 1 0 1, pa 1 0 2] := by
  intro s A
  kernel_rfl
theorem w2_2 : W_ TS2 ct2 [pa 1 1 0, pa 1 1 1, pa 1 1 2, pa 1 2 0] := by
  intro s A
  kernel_rfl
theorem w2_3 : W_ TS2 ct2 [pa 1 2 1, pa 1 2 2, pa 2 0 0, pa 2 0 1, pa 2 0 2, pa 2 1 0] := by
  intro s A
  kernel_rfl
theorem w2_4 : W_ TS2 ct2 [pa 2 1 1, pa 2 1 2, pa 2 2 0, pa 2 2 1, pa 2 2 2] := by
  intro s A
  kernel_rfl
theorem w2_5 : W_ TS2 ct2 [pa 3 0 0, pa 3 0 1, pa 3 0 2, pa 3 1 0, pa 3 1 1, pa 3 1 2, pa 3 2 0, pa 3 2 1] := by
  intro s A
  kernel_rfl
theorem w2_6 : W_ TS2 ct2 [pa 3 2 2, pa 4 0 0, pa 4 0 1, pa 4 0 2, pa 4 1 0, pa 4 1 1, pa 4 1 2, pa 4 2 0] := by
  intro s A
  kernel_rfl
theorem w2_7 : W_ TS2 ct2 [pa 4 2 1, pa 4 2 2, pa 5 0 0, pa 5 0 1, pa 5 0 2, pa 5 1 0, pa 5 1 1, pa 5 1 2] := by
  intro s A
  kernel_rfl
theorem w2_8 : W_ TS2 ct2 [pa 5 2 0, pa 5 2 1, pa 5 2 2] := by
  intro s A
  kernel_rfl
theorem w3_0 : W_ TS3 ct3 [pa 0 0 0, pa 0 0 1, pa 0 0 2, pa 0 1 0, pa 0 1 1, pa 0 1 2, pa 0 2 0, pa 0 2 1] := by
  intro s A
  kernel_rfl
theorem w3_1 : W_ TS3 ct3 [pa 0 2 2, pa 1 0 0, pa 1 0 1, pa 1 0 2, pa 1 1 0, pa 1 1 1] := by
  intro s A
  kernel_rfl
theorem w3_2 : W_ TS3 ct3 [pa 1 1 2, pa 1 2 0, pa 1 2 1, pa 1 2 2, pa 2 0 0, pa 2 0 1] := by
  intro s A
  kernel_rfl
theorem w3_3 : W_ TS3 ct3 [pa 2 0 2, pa 2 1 0, pa 2 1 1, pa 2 1 2, pa 2 2 0] := by
  intro s A
  kernel_rfl
theorem w3_4 : W_ TS3 ct3 [pa 2 2 1, pa 2 2 2, pa 3 0 0, pa 3 0 1, pa 3 0 2, pa 3 1 0, pa 3 1 1] := by
  intro s A
  kernel_rfl
theorem w3_5 : W_ TS3 ct3 [pa 3 1 2, pa 3 2 0, pa 3 2 1, pa 3 2 2, pa 4 0 0, pa 4 0 1, pa 4 0 2, pa 4 1 0] := by
  intro s A
  kernel_rfl
theorem w3_6 : W_ TS3 ct3 [pa 4 1 1, pa 4 1 2, pa 4 2 0, pa 4 2 1, pa 4 2 2, pa 5 0 0, pa 5 0 1, pa 5 0 2] := by
  intro s A
  kernel_rfl
theorem w3_7 : W_ TS3 ct3 [pa 5 1 0, pa 5 1 1, pa 5 1 2, pa 5 2 0, pa 5 2 1, pa 5 2 2] := by
  intro s A
  kernel_rfl
end Go.Ev
