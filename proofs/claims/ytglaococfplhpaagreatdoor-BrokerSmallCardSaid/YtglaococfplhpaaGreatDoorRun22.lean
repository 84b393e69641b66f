/- Passes of BrokerSmall's loop, part 22. -/
import Derived.Test.YtglaococfplhpaaGreatDoorSt
namespace Go.Ev
open Go.Proofs
set_option maxRecDepth 1000000
theorem p4_127 : G_ tr0 TS4 127 [4] := by
  intro s A
  kernel_rfl
theorem p4_128 : G_ tr0 TS4 128 [4] := by
  intro s A
  kernel_rfl
theorem p4_129 : G_ tr0 TS4 129 [4] := by
  intro s A
  kernel_rfl
theorem p4_130 : G_ tr0 TS4 130 [4] := by
  intro s A
  kernel_rfl
theorem p4_131 : G_ tr0 TS4 131 [4] := by
  intro s A
  kernel_rfl
theorem p4_132 : G_ tr0 TS4 132 [4] := by
  intro s A
  kernel_rfl
theorem p4_133 : G_ tr0 TS4 133 [4] := by
  intro s A
  kernel_rfl
theorem p4_134 : G_ tr0 TS4 134 [4] := by
  intro s A
  kernel_rfl
theorem p4_135 : G_ tr0 TS4 135 [4] := by
  intro s A
  kernel_rfl
theorem p4_136 : G_ tr0 TS4 136 [4] := by
  intro s A
  kernel_rfl
theorem p4_137 : G_ tr0 TS4 137 [4] := by
  intro s A
  kernel_rfl
theorem p4_138 : G_ tr0 TS4 138 [4] := by
  intro s A
  kernel_rfl
theorem p4_139 : G_ tr0 TS4 139 [4] := by
  intro s A
  kernel_rfl
theorem p4_140 : G_ tr0 TS4 140 [4] := by
  intro s A
  kernel_rfl
theorem p4_141 : G_ tr0 TS4 141 [4] := by
  intro s A
  kernel_rfl
theorem p4_142 : G_ tr0 TS4 142 [4] := by
  intro s A
  kernel_rfl
theorem p4_143 : G_ tr0 TS4 143 [4] := by
  intro s A
  kernel_rfl
theorem p4_144 : G_ tr0 TS4 144 [4] := by
  intro s A
  kernel_rfl
theorem p4_145 : G_ tr0 TS4 145 [4] := by
  intro s A
  kernel_rfl
theorem p4_146 : G_ tr0 TS4 146 [4] := by
  intro s A
  kernel_rfl
theorem p4_147 : G_ tr0 TS4 147 [4] := by
  intro s A
  kernel_rfl
theorem p4_148 : G_ tr0 TS4 148 [4] := by
  intro s A
  kernel_rfl
theorem p4_149 : G_ tr0 TS4 149 [4] := by
  intro s A
  kernel_rfl
theorem p4_150 : G_ tr0 TS4 150 [4] := by
  intro s A
  kernel_rfl
theorem p4_151 : G_ tr0 TS4 151 [4] := by
  intro s A
  kernel_rfl
theorem p4_152 : G_ tr0 TS4 152 [4] := by
  intro s A
  kernel_rfl
theorem p4_153 : G_ tr0 TS4 153 [4] := by
  intro s A
  kernel_rfl
theorem p4_154 : G_ tr0 TS4 154 [4] := by
  intro s A
  kernel_rfl
theorem p4_155 : G_ tr0 TS4 155 [4] := by
  intro s A
  kernel_rfl
theorem p4_156 : G_ tr0 TS4 156 [4] := by
  intro s A
  kernel_rfl
theorem p4_157 : G_ tr0 TS4 157 [4] := by
  intro s A
  kernel_rfl
theorem p4_158 : G_ tr0 TS4 158 [4] := by
  intro s A
  kernel_rfl
theorem p4_159 : G_ tr0 TS4 159 [4] := by
  intro s A
  kernel_rfl
theorem p4_160 : G_ tr0 TS4 160 [4] := by
  intro s A
  kernel_rfl
theorem p4_161 : G_ tr0 TS4 161 [4] := by
  intro s A
  kernel_rfl
theorem p4_162 : G_ tr0 TS4 162 [4] := by
  intro s A
  kernel_rfl
end Go.Ev
