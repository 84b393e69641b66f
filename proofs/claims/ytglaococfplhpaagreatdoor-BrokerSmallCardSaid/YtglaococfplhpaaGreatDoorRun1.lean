/- Passes of BrokerSmall's loop, part 1. -/
import Derived.Test.YtglaococfplhpaaGreatDoorSt
namespace Go.Ev
open Go.Proofs
set_option maxRecDepth 1000000
theorem p0_40 : G_ tr0 TS0 40 [3] := by
  intro s A
  kernel_rfl
theorem p0_41 : G_ tr0 TS0 41 [3] := by
  intro s A
  kernel_rfl
theorem p0_42 : G_ tr0 TS0 42 [3] := by
  intro s A
  kernel_rfl
theorem p0_43 : G_ tr0 TS0 43 [3] := by
  intro s A
  kernel_rfl
theorem p0_44 : G_ tr0 TS0 44 [3] := by
  intro s A
  kernel_rfl
theorem p0_45 : G_ tr0 TS0 45 [3] := by
  intro s A
  kernel_rfl
theorem p0_46 : G_ tr0 TS0 46 [3] := by
  intro s A
  kernel_rfl
theorem p0_47 : G_ tr0 TS0 47 [3] := by
  intro s A
  kernel_rfl
theorem p0_48 : G_ tr0 TS0 48 [3] := by
  intro s A
  kernel_rfl
theorem p0_49 : G_ tr0 TS0 49 [3] := by
  intro s A
  kernel_rfl
theorem p0_50 : G_ tr0 TS0 50 [3] := by
  intro s A
  kernel_rfl
theorem p0_51 : G_ tr0 TS0 51 [3] := by
  intro s A
  kernel_rfl
theorem p0_52 : G_ tr0 TS0 52 [3] := by
  intro s A
  kernel_rfl
theorem p0_53 : G_ tr0 TS0 53 [3] := by
  intro s A
  kernel_rfl
theorem p0_54 : G_ tr0 TS0 54 [3] := by
  intro s A
  kernel_rfl
theorem p0_55 : G_ tr0 TS0 55 [3] := by
  intro s A
  kernel_rfl
theorem p0_56 : G_ tr0 TS0 56 [3] := by
  intro s A
  kernel_rfl
theorem p0_57 : G_ tr0 TS0 57 [3] := by
  intro s A
  kernel_rfl
theorem p0_58 : G_ tr0 TS0 58 [3] := by
  intro s A
  kernel_rfl
theorem p0_59 : G_ tr0 TS0 59 [3] := by
  intro s A
  kernel_rfl
theorem p0_60 : G_ tr0 TS0 60 [3] := by
  intro s A
  kernel_rfl
theorem p0_61 : G_ tr0 TS0 61 [3] := by
  intro s A
  kernel_rfl
theorem p0_62 : G_ tr0 TS0 62 [3] := by
  intro s A
  kernel_rfl
theorem p0_63 : G_ tr0 TS0 63 [3] := by
  intro s A
  kernel_rfl
theorem p0_64 : G_ tr0 TS0 64 [3] := by
  intro s A
  kernel_rfl
theorem p0_65 : G_ tr0 TS0 65 [3] := by
  intro s A
  kernel_rfl
theorem p0_66 : G_ tr0 TS0 66 [3] := by
  intro s A
  kernel_rfl
theorem p0_67 : G_ tr0 TS0 67 [3] := by
  intro s A
  kernel_rfl
theorem p0_68 : G_ tr0 TS0 68 [3] := by
  intro s A
  kernel_rfl
theorem p0_69 : G_ tr0 TS0 69 [3] := by
  intro s A
  kernel_rfl
theorem p0_70 : G_ tr0 TS0 70 [3] := by
  intro s A
  kernel_rfl
theorem p0_71 : G_ tr0 TS0 71 [3] := by
  intro s A
  kernel_rfl
theorem p0_72 : G_ tr0 TS0 72 [3] := by
  intro s A
  kernel_rfl
theorem p0_73 : G_ tr0 TS0 73 [3] := by
  intro s A
  kernel_rfl
theorem p0_74 : G_ tr0 TS0 74 [3] := by
  intro s A
  kernel_rfl
theorem p0_75 : G_ tr0 TS0 75 [3] := by
  intro s A
  kernel_rfl
theorem p0_76 : G_ tr0 TS0 76 [3] := by
  intro s A
  kernel_rfl
theorem p0_77 : G_ tr0 TS0 77 [3] := by
  intro s A
  kernel_rfl
theorem p0_78 : G_ tr0 TS0 78 [3] := by
  intro s A
  kernel_rfl
theorem p0_79 : G_ tr0 TS0 79 [3] := by
  intro s A
  kernel_rfl
theorem p0_80 : G_ tr0 TS0 80 [3] := by
  intro s A
  kernel_rfl
theorem p0_81 : G_ tr0 TS0 81 [3] := by
  intro s A
  kernel_rfl
theorem p0_82 : G_ tr0 TS0 82 [3] := by
  intro s A
  kernel_rfl
end Go.Ev
