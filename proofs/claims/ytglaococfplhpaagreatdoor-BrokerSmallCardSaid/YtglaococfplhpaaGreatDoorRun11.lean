/- Passes of BrokerSmall's loop, part 11. -/
import Derived.Test.YtglaococfplhpaaGreatDoorSt
namespace Go.Ev
open Go.Proofs
set_option maxRecDepth 1000000
theorem p2_48 : G_ tr1 TS2 48 [5] := by
  intro s A
  kernel_rfl
theorem p2_49 : G_ tr1 TS2 49 [5] := by
  intro s A
  kernel_rfl
theorem p2_50 : G_ tr1 TS2 50 [5] := by
  intro s A
  kernel_rfl
theorem p2_51 : G_ tr1 TS2 51 [5] := by
  intro s A
  kernel_rfl
theorem p2_52 : G_ tr1 TS2 52 [5] := by
  intro s A
  kernel_rfl
theorem p2_53 : G_ tr1 TS2 53 [5] := by
  intro s A
  kernel_rfl
theorem p2_54 : G_ tr1 TS2 54 [5] := by
  intro s A
  kernel_rfl
theorem p2_55 : G_ tr1 TS2 55 [5] := by
  intro s A
  kernel_rfl
theorem p2_56 : G_ tr1 TS2 56 [5] := by
  intro s A
  kernel_rfl
theorem p2_57 : G_ tr1 TS2 57 [5] := by
  intro s A
  kernel_rfl
theorem p2_58 : G_ tr1 TS2 58 [5] := by
  intro s A
  kernel_rfl
theorem p2_59 : G_ tr1 TS2 59 [5] := by
  intro s A
  kernel_rfl
theorem p2_60 : G_ tr1 TS2 60 [5] := by
  intro s A
  kernel_rfl
theorem p2_61 : G_ tr1 TS2 61 [5] := by
  intro s A
  kernel_rfl
theorem p2_62 : G_ tr1 TS2 62 [5] := by
  intro s A
  kernel_rfl
theorem p2_63 : G_ tr1 TS2 63 [5] := by
  intro s A
  kernel_rfl
theorem p2_64 : G_ tr1 TS2 64 [5] := by
  intro s A
  kernel_rfl
theorem p2_65 : G_ tr1 TS2 65 [5] := by
  intro s A
  kernel_rfl
theorem p2_66 : G_ tr1 TS2 66 [5] := by
  intro s A
  kernel_rfl
theorem p2_67 : G_ tr1 TS2 67 [5] := by
  intro s A
  kernel_rfl
theorem p2_68 : G_ tr1 TS2 68 [5] := by
  intro s A
  kernel_rfl
theorem p2_69 : G_ tr1 TS2 69 [5] := by
  intro s A
  kernel_rfl
theorem p2_70 : G_ tr1 TS2 70 [5] := by
  intro s A
  kernel_rfl
theorem p2_71 : G_ tr1 TS2 71 [5] := by
  intro s A
  kernel_rfl
theorem p2_72 : G_ tr1 TS2 72 [5] := by
  intro s A
  kernel_rfl
theorem p2_73 : G_ tr1 TS2 73 [5] := by
  intro s A
  kernel_rfl
theorem p2_74 : G_ tr1 TS2 74 [5] := by
  intro s A
  kernel_rfl
theorem p2_75 : G_ tr1 TS2 75 [5] := by
  intro s A
  kernel_rfl
theorem p2_76 : G_ tr1 TS2 76 [5] := by
  intro s A
  kernel_rfl
theorem p2_77 : G_ tr1 TS2 77 [5] := by
  intro s A
  kernel_rfl
theorem p2_78 : G_ tr1 TS2 78 [5] := by
  intro s A
  kernel_rfl
theorem p2_79 : G_ tr1 TS2 79 [5] := by
  intro s A
  kernel_rfl
theorem p2_80 : G_ tr1 TS2 80 [5] := by
  intro s A
  kernel_rfl
theorem p2_81 : G_ tr1 TS2 81 [5] := by
  intro s A
  kernel_rfl
theorem p2_82 : G_ tr1 TS2 82 [5] := by
  intro s A
  kernel_rfl
theorem p2_83 : G_ tr1 TS2 83 [5] := by
  intro s A
  kernel_rfl
theorem p2_84 : G_ tr1 TS2 84 [5] := by
  intro s A
  kernel_rfl
theorem p2_85 : G_ tr1 TS2 85 [5] := by
  intro s A
  kernel_rfl
theorem p2_86 : G_ tr1 TS2 86 [5] := by
  intro s A
  kernel_rfl
theorem p2_87 : G_ tr1 TS2 87 [5] := by
  intro s A
  kernel_rfl
theorem p2_88 : G_ tr1 TS2 88 [5] := by
  intro s A
  kernel_rfl
theorem p2_89 : G_ tr1 TS2 89 [5] := by
  intro s A
  kernel_rfl
theorem p2_90 : G_ tr1 TS2 90 [5] := by
  intro s A
  kernel_rfl
theorem p2_91 : G_ tr1 TS2 91 [5] := by
  intro s A
  kernel_rfl
theorem p2_92 : G_ tr1 TS2 92 [5] := by
  intro s A
  kernel_rfl
theorem p2_93 : G_ tr1 TS2 93 [5] := by
  intro s A
  kernel_rfl
theorem p2_94 : G_ tr1 TS2 94 [5] := by
  intro s A
  kernel_rfl
theorem p2_95 : G_ tr1 TS2 95 [5] := by
  intro s A
  kernel_rfl
theorem p2_96 : G_ tr1 TS2 96 [5] := by
  intro s A
  kernel_rfl
theorem p2_97 : G_ tr1 TS2 97 [5] := by
  intro s A
  kernel_rfl
theorem p2_98 : G_ tr1 TS2 98 [5] := by
  intro s A
  kernel_rfl
theorem p2_99 : G_ tr1 TS2 99 [5] := by
  intro s A
  kernel_rfl
theorem p2_100 : G_ tr1 TS2 100 [5] := by
  intro s A
  kernel_rfl
theorem p2_101 : G_ tr1 TS2 101 [5] := by
  intro s A
  kernel_rfl
theorem p2_102 : G_ tr1 TS2 102 [5] := by
  intro s A
  kernel_rfl
end Go.Ev
