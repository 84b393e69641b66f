/- Passes of BrokerSmall's loop, part 7. -/
import Derived.Test.YtglaococfplhpaaGreatDoorSt
namespace Go.Ev
open Go.Proofs
set_option maxRecDepth 1000000
theorem p1_82 : G_ tr0 TS1 82 [4] := by
  intro s A
  kernel_rfl
theorem p1_83 : G_ tr0 TS1 83 [4] := by
  intro s A
  kernel_rfl
theorem p1_84 : G_ tr0 TS1 84 [4] := by
  intro s A
  kernel_rfl
theorem p1_85 : G_ tr0 TS1 85 [4] := by
  intro s A
  kernel_rfl
theorem p1_86 : G_ tr0 TS1 86 [4] := by
  intro s A
  kernel_rfl
theorem p1_87 : G_ tr0 TS1 87 [4] := by
  intro s A
  kernel_rfl
theorem p1_88 : G_ tr0 TS1 88 [4] := by
  intro s A
  kernel_rfl
theorem p1_89 : G_ tr0 TS1 89 [4] := by
  intro s A
  kernel_rfl
theorem p1_90 : G_ tr0 TS1 90 [4] := by
  intro s A
  kernel_rfl
theorem p1_91 : G_ tr0 TS1 91 [4] := by
  intro s A
  kernel_rfl
theorem p1_92 : G_ tr0 TS1 92 [4] := by
  intro s A
  kernel_rfl
theorem p1_93 : G_ tr0 TS1 93 [4] := by
  intro s A
  kernel_rfl
theorem p1_94 : G_ tr0 TS1 94 [4] := by
  intro s A
  kernel_rfl
theorem p1_95 : G_ tr0 TS1 95 [4] := by
  intro s A
  kernel_rfl
theorem p1_96 : G_ tr0 TS1 96 [4] := by
  intro s A
  kernel_rfl
theorem p1_97 : G_ tr0 TS1 97 [4] := by
  intro s A
  kernel_rfl
theorem p1_98 : G_ tr0 TS1 98 [4] := by
  intro s A
  kernel_rfl
theorem p1_99 : G_ tr0 TS1 99 [4] := by
  intro s A
  kernel_rfl
theorem p1_100 : G_ tr0 TS1 100 [4] := by
  intro s A
  kernel_rfl
theorem p1_101 : G_ tr0 TS1 101 [4] := by
  intro s A
  kernel_rfl
theorem p1_102 : G_ tr0 TS1 102 [4] := by
  intro s A
  kernel_rfl
theorem p1_103 : G_ tr0 TS1 103 [4] := by
  intro s A
  kernel_rfl
theorem p1_104 : G_ tr0 TS1 104 [4] := by
  intro s A
  kernel_rfl
theorem p1_105 : G_ tr0 TS1 105 [4] := by
  intro s A
  kernel_rfl
theorem p1_106 : G_ tr0 TS1 106 [4] := by
  intro s A
  kernel_rfl
theorem p1_107 : G_ tr0 TS1 107 [4] := by
  intro s A
  kernel_rfl
theorem p1_108 : G_ tr0 TS1 108 [4] := by
  intro s A
  kernel_rfl
theorem p1_109 : G_ tr0 TS1 109 [4] := by
  intro s A
  kernel_rfl
theorem p1_110 : G_ tr0 TS1 110 [4] := by
  intro s A
  kernel_rfl
theorem p1_111 : G_ tr0 TS1 111 [4] := by
  intro s A
  kernel_rfl
theorem p1_112 : G_ tr0 TS1 112 [4] := by
  intro s A
  kernel_rfl
theorem p1_113 : G_ tr0 TS1 113 [4] := by
  intro s A
  kernel_rfl
end Go.Ev
