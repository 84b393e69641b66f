/- Passes of BrokerDeals's loop, part 5. -/
import Derived.Test.YtpaliddghngcmaaGreatDoorSt
namespace Go.Ev
open Go.Proofs
set_option maxRecDepth 1000000
theorem p30_1 : G_ tr3 TS30 1 [30] := by
  intro s A
  kernel_rfl
theorem p30_2 : G_ tr3 TS30 2 [33] := by
  intro s A
  kernel_rfl
theorem p30_3 : G_ tr3 TS30 3 [30] := by
  intro s A
  kernel_rfl
theorem p30_4 : G_ tr3 TS30 4 [30] := by
  intro s A
  kernel_rfl
theorem p30_5 : G_ tr3 TS30 5 [] := by
  intro s A
  kernel_rfl
theorem p31_0 : G_ tr3 TS31 0 [31] := by
  intro s A
  kernel_rfl
theorem p31_1 : G_ tr3 TS31 1 [33] := by
  intro s A
  kernel_rfl
theorem p31_2 : G_ tr3 TS31 2 [31] := by
  intro s A
  kernel_rfl
theorem p31_3 : G_ tr3 TS31 3 [31] := by
  intro s A
  kernel_rfl
theorem p31_4 : G_ tr3 TS31 4 [31] := by
  intro s A
  kernel_rfl
theorem p31_5 : G_ tr3 TS31 5 [] := by
  intro s A
  kernel_rfl
theorem p32_0 : G_ tr3 TS32 0 [33] := by
  intro s A
  kernel_rfl
theorem p32_1 : G_ tr3 TS32 1 [32] := by
  intro s A
  kernel_rfl
theorem p32_2 : G_ tr3 TS32 2 [32] := by
  intro s A
  kernel_rfl
theorem p32_3 : G_ tr3 TS32 3 [32] := by
  intro s A
  kernel_rfl
theorem p32_4 : G_ tr3 TS32 4 [33] := by
  intro s A
  kernel_rfl
theorem p32_5 : G_ tr3 TS32 5 [] := by
  intro s A
  kernel_rfl
theorem p33_0 : G_ tr3 TS33 0 [33] := by
  intro s A
  kernel_rfl
theorem p33_1 : G_ tr3 TS33 1 [33] := by
  intro s A
  kernel_rfl
theorem p33_2 : G_ tr3 TS33 2 [33] := by
  intro s A
  kernel_rfl
theorem p33_3 : G_ tr3 TS33 3 [33] := by
  intro s A
  kernel_rfl
theorem p33_4 : G_ tr3 TS33 4 [33] := by
  intro s A
  kernel_rfl
theorem p33_5 : G_ tr3 TS33 5 [] := by
  intro s A
  kernel_rfl
theorem q0 : S_ 0 [0] := by
  intro s A
  kernel_rfl
theorem q1 : S_ 1 [1] := by
  intro s A
  kernel_rfl
theorem q2 : S_ 2 [2] := by
  intro s A
  kernel_rfl
theorem q3 : S_ 3 [3] := by
  intro s A
  kernel_rfl
end Go.Ev
