/- Passes of BrokerSmall's loop, part 8. -/
import Derived.Test.YtglaococfplhpaaGreatDoorSt
namespace Go.Ev
open Go.Proofs
set_option maxRecDepth 1000000
theorem p1_114 : G_ tr0 TS1 114 [4] := by
  intro s A
  kernel_rfl
theorem p1_115 : G_ tr0 TS1 115 [4] := by
  intro s A
  kernel_rfl
theorem p1_116 : G_ tr0 TS1 116 [4] := by
  intro s A
  kernel_rfl
theorem p1_117 : G_ tr0 TS1 117 [4] := by
  intro s A
  kernel_rfl
theorem p1_118 : G_ tr0 TS1 118 [4] := by
  intro s A
  kernel_rfl
theorem p1_119 : G_ tr0 TS1 119 [4] := by
  intro s A
  kernel_rfl
theorem p1_120 : G_ tr0 TS1 120 [4] := by
  intro s A
  kernel_rfl
theorem p1_121 : G_ tr0 TS1 121 [4] := by
  intro s A
  kernel_rfl
theorem p1_122 : G_ tr0 TS1 122 [4] := by
  intro s A
  kernel_rfl
theorem p1_123 : G_ tr0 TS1 123 [4] := by
  intro s A
  kernel_rfl
theorem p1_124 : G_ tr0 TS1 124 [4] := by
  intro s A
  kernel_rfl
theorem p1_125 : G_ tr0 TS1 125 [4] := by
  intro s A
  kernel_rfl
theorem p1_126 : G_ tr0 TS1 126 [4] := by
  intro s A
  kernel_rfl
theorem p1_127 : G_ tr0 TS1 127 [4] := by
  intro s A
  kernel_rfl
theorem p1_128 : G_ tr0 TS1 128 [4] := by
  intro s A
  kernel_rfl
theorem p1_129 : G_ tr0 TS1 129 [4] := by
  intro s A
  kernel_rfl
theorem p1_130 : G_ tr0 TS1 130 [4] := by
  intro s A
  kernel_rfl
theorem p1_131 : G_ tr0 TS1 131 [4] := by
  intro s A
  kernel_rfl
theorem p1_132 : G_ tr0 TS1 132 [4] := by
  intro s A
  kernel_rfl
theorem p1_133 : G_ tr0 TS1 133 [4] := by
  intro s A
  kernel_rfl
theorem p1_134 : G_ tr0 TS1 134 [4] := by
  intro s A
  kernel_rfl
theorem p1_135 : G_ tr0 TS1 135 [4] := by
  intro s A
  kernel_rfl
theorem p1_136 : G_ tr0 TS1 136 [4] := by
  intro s A
  kernel_rfl
theorem p1_137 : G_ tr0 TS1 137 [4] := by
  intro s A
  kernel_rfl
theorem p1_138 : G_ tr0 TS1 138 [4] := by
  intro s A
  kernel_rfl
theorem p1_139 : G_ tr0 TS1 139 [4] := by
  intro s A
  kernel_rfl
theorem p1_140 : G_ tr0 TS1 140 [4] := by
  intro s A
  kernel_rfl
theorem p1_141 : G_ tr0 TS1 141 [4] := by
  intro s A
  kernel_rfl
theorem p1_142 : G_ tr0 TS1 142 [4] := by
  intro s A
  kernel_rfl
theorem p1_143 : G_ tr0 TS1 143 [4] := by
  intro s A
  kernel_rfl
theorem p1_144 : G_ tr0 TS1 144 [4] := by
  intro s A
  kernel_rfl
theorem p1_145 : G_ tr0 TS1 145 [4] := by
  intro s A
  kernel_rfl
theorem p1_146 : G_ tr0 TS1 146 [4] := by
  intro s A
  kernel_rfl
end Go.Ev
