/- Passes of BrokerSmall's loop, part 21. -/
import Derived.Test.YtglaococfplhpaaGreatDoorSt
namespace Go.Ev
open Go.Proofs
set_option maxRecDepth 1000000
theorem p4_95 : G_ tr0 TS4 95 [4] := by
  intro s A
  kernel_rfl
theorem p4_96 : G_ tr0 TS4 96 [4] := by
  intro s A
  kernel_rfl
theorem p4_97 : G_ tr0 TS4 97 [4] := by
  intro s A
  kernel_rfl
theorem p4_98 : G_ tr0 TS4 98 [4] := by
  intro s A
  kernel_rfl
theorem p4_99 : G_ tr0 TS4 99 [4] := by
  intro s A
  kernel_rfl
theorem p4_100 : G_ tr0 TS4 100 [4] := by
  intro s A
  kernel_rfl
theorem p4_101 : G_ tr0 TS4 101 [4] := by
  intro s A
  kernel_rfl
theorem p4_102 : G_ tr0 TS4 102 [4] := by
  intro s A
  kernel_rfl
theorem p4_103 : G_ tr0 TS4 103 [4] := by
  intro s A
  kernel_rfl
theorem p4_104 : G_ tr0 TS4 104 [4] := by
  intro s A
  kernel_rfl
theorem p4_105 : G_ tr0 TS4 105 [4] := by
  intro s A
  kernel_rfl
theorem p4_106 : G_ tr0 TS4 106 [4] := by
  intro s A
  kernel_rfl
theorem p4_107 : G_ tr0 TS4 107 [4] := by
  intro s A
  kernel_rfl
theorem p4_108 : G_ tr0 TS4 108 [4] := by
  intro s A
  kernel_rfl
theorem p4_109 : G_ tr0 TS4 109 [4] := by
  intro s A
  kernel_rfl
theorem p4_110 : G_ tr0 TS4 110 [4] := by
  intro s A
  kernel_rfl
theorem p4_111 : G_ tr0 TS4 111 [4] := by
  intro s A
  kernel_rfl
theorem p4_112 : G_ tr0 TS4 112 [4] := by
  intro s A
  kernel_rfl
theorem p4_113 : G_ tr0 TS4 113 [4] := by
  intro s A
  kernel_rfl
theorem p4_114 : G_ tr0 TS4 114 [4] := by
  intro s A
  kernel_rfl
theorem p4_115 : G_ tr0 TS4 115 [4] := by
  intro s A
  kernel_rfl
theorem p4_116 : G_ tr0 TS4 116 [4] := by
  intro s A
  kernel_rfl
theorem p4_117 : G_ tr0 TS4 117 [4] := by
  intro s A
  kernel_rfl
theorem p4_118 : G_ tr0 TS4 118 [4] := by
  intro s A
  kernel_rfl
theorem p4_119 : G_ tr0 TS4 119 [4] := by
  intro s A
  kernel_rfl
theorem p4_120 : G_ tr0 TS4 120 [4] := by
  intro s A
  kernel_rfl
theorem p4_121 : G_ tr0 TS4 121 [4] := by
  intro s A
  kernel_rfl
theorem p4_122 : G_ tr0 TS4 122 [4] := by
  intro s A
  kernel_rfl
theorem p4_123 : G_ tr0 TS4 123 [4] := by
  intro s A
  kernel_rfl
theorem p4_124 : G_ tr0 TS4 124 [4] := by
  intro s A
  kernel_rfl
theorem p4_125 : G_ tr0 TS4 125 [4] := by
  intro s A
  kernel_rfl
theorem p4_126 : G_ tr0 TS4 126 [4] := by
  intro s A
  kernel_rfl
end Go.Ev
