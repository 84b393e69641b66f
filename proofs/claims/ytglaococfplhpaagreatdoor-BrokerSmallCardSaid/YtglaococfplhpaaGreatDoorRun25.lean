/- Passes of BrokerSmall's loop, part 25. -/
import Derived.Test.YtglaococfplhpaaGreatDoorSt
namespace Go.Ev
open Go.Proofs
set_option maxRecDepth 1000000
theorem p5_69 : G_ tr1 TS5 69 [5] := by
  intro s A
  kernel_rfl
theorem p5_70 : G_ tr1 TS5 70 [5] := by
  intro s A
  kernel_rfl
theorem p5_71 : G_ tr1 TS5 71 [5] := by
  intro s A
  kernel_rfl
theorem p5_72 : G_ tr1 TS5 72 [5] := by
  intro s A
  kernel_rfl
theorem p5_73 : G_ tr1 TS5 73 [5] := by
  intro s A
  kernel_rfl
theorem p5_74 : G_ tr1 TS5 74 [5] := by
  intro s A
  kernel_rfl
theorem p5_75 : G_ tr1 TS5 75 [5] := by
  intro s A
  kernel_rfl
theorem p5_76 : G_ tr1 TS5 76 [5] := by
  intro s A
  kernel_rfl
theorem p5_77 : G_ tr1 TS5 77 [5] := by
  intro s A
  kernel_rfl
theorem p5_78 : G_ tr1 TS5 78 [5] := by
  intro s A
  kernel_rfl
theorem p5_79 : G_ tr1 TS5 79 [5] := by
  intro s A
  kernel_rfl
theorem p5_80 : G_ tr1 TS5 80 [5] := by
  intro s A
  kernel_rfl
theorem p5_81 : G_ tr1 TS5 81 [5] := by
  intro s A
  kernel_rfl
theorem p5_82 : G_ tr1 TS5 82 [5] := by
  intro s A
  kernel_rfl
theorem p5_83 : G_ tr1 TS5 83 [5] := by
  intro s A
  kernel_rfl
theorem p5_84 : G_ tr1 TS5 84 [5] := by
  intro s A
  kernel_rfl
theorem p5_85 : G_ tr1 TS5 85 [5] := by
  intro s A
  kernel_rfl
theorem p5_86 : G_ tr1 TS5 86 [5] := by
  intro s A
  kernel_rfl
theorem p5_87 : G_ tr1 TS5 87 [5] := by
  intro s A
  kernel_rfl
theorem p5_88 : G_ tr1 TS5 88 [5] := by
  intro s A
  kernel_rfl
theorem p5_89 : G_ tr1 TS5 89 [5] := by
  intro s A
  kernel_rfl
theorem p5_90 : G_ tr1 TS5 90 [5] := by
  intro s A
  kernel_rfl
theorem p5_91 : G_ tr1 TS5 91 [5] := by
  intro s A
  kernel_rfl
theorem p5_92 : G_ tr1 TS5 92 [5] := by
  intro s A
  kernel_rfl
theorem p5_93 : G_ tr1 TS5 93 [5] := by
  intro s A
  kernel_rfl
theorem p5_94 : G_ tr1 TS5 94 [5] := by
  intro s A
  kernel_rfl
theorem p5_95 : G_ tr1 TS5 95 [5] := by
  intro s A
  kernel_rfl
theorem p5_96 : G_ tr1 TS5 96 [5] := by
  intro s A
  kernel_rfl
theorem p5_97 : G_ tr1 TS5 97 [5] := by
  intro s A
  kernel_rfl
theorem p5_98 : G_ tr1 TS5 98 [5] := by
  intro s A
  kernel_rfl
theorem p5_99 : G_ tr1 TS5 99 [5] := by
  intro s A
  kernel_rfl
theorem p5_100 : G_ tr1 TS5 100 [5] := by
  intro s A
  kernel_rfl
theorem p5_101 : G_ tr1 TS5 101 [5] := by
  intro s A
  kernel_rfl
theorem p5_102 : G_ tr1 TS5 102 [5] := by
  intro s A
  kernel_rfl
theorem p5_103 : G_ tr1 TS5 103 [5] := by
  intro s A
  kernel_rfl
theorem p5_104 : G_ tr1 TS5 104 [5] := by
  intro s A
  kernel_rfl
theorem p5_105 : G_ tr1 TS5 105 [5] := by
  intro s A
  kernel_rfl
theorem p5_106 : G_ tr1 TS5 106 [5] := by
  intro s A
  kernel_rfl
theorem p5_107 : G_ tr1 TS5 107 [5] := by
  intro s A
  kernel_rfl
theorem p5_108 : G_ tr1 TS5 108 [5] := by
  intro s A
  kernel_rfl
theorem p5_109 : G_ tr1 TS5 109 [5] := by
  intro s A
  kernel_rfl
theorem p5_110 : G_ tr1 TS5 110 [5] := by
  intro s A
  kernel_rfl
theorem p5_111 : G_ tr1 TS5 111 [5] := by
  intro s A
  kernel_rfl
theorem p5_112 : G_ tr1 TS5 112 [5] := by
  intro s A
  kernel_rfl
theorem p5_113 : G_ tr1 TS5 113 [5] := by
  intro s A
  kernel_rfl
theorem p5_114 : G_ tr1 TS5 114 [5] := by
  intro s A
  kernel_rfl
theorem p5_115 : G_ tr1 TS5 115 [5] := by
  intro s A
  kernel_rfl
theorem p5_116 : G_ tr1 TS5 116 [5] := by
  intro s A
  kernel_rfl
theorem p5_117 : G_ tr1 TS5 117 [5] := by
  intro s A
  kernel_rfl
theorem p5_118 : G_ tr1 TS5 118 [5] := by
  intro s A
  kernel_rfl
theorem p5_119 : G_ tr1 TS5 119 [5] := by
  intro s A
  kernel_rfl
theorem p5_120 : G_ tr1 TS5 120 [5] := by
  intro s A
  kernel_rfl
theorem p5_121 : G_ tr1 TS5 121 [5] := by
  intro s A
  kernel_rfl
theorem p5_122 : G_ tr1 TS5 122 [5] := by
  intro s A
  kernel_rfl
theorem p5_123 : G_ tr1 TS5 123 [5] := by
  intro s A
  kernel_rfl
theorem p5_124 : G_ tr1 TS5 124 [5] := by
  intro s A
  kernel_rfl
end Go.Ev
