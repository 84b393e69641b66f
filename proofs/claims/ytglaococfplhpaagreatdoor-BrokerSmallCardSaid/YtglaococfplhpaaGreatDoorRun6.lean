/- Passes of BrokerSmall's loop, part 6. -/
import Derived.Test.YtglaococfplhpaaGreatDoorSt
namespace Go.Ev
open Go.Proofs
set_option maxRecDepth 1000000
theorem p1_49 : G_ tr0 TS1 49 [4] := by
  intro s A
  kernel_rfl
theorem p1_50 : G_ tr0 TS1 50 [4] := by
  intro s A
  kernel_rfl
theorem p1_51 : G_ tr0 TS1 51 [4] := by
  intro s A
  kernel_rfl
theorem p1_52 : G_ tr0 TS1 52 [4] := by
  intro s A
  kernel_rfl
theorem p1_53 : G_ tr0 TS1 53 [4] := by
  intro s A
  kernel_rfl
theorem p1_54 : G_ tr0 TS1 54 [4] := by
  intro s A
  kernel_rfl
theorem p1_55 : G_ tr0 TS1 55 [4] := by
  intro s A
  kernel_rfl
theorem p1_56 : G_ tr0 TS1 56 [4] := by
  intro s A
  kernel_rfl
theorem p1_57 : G_ tr0 TS1 57 [4] := by
  intro s A
  kernel_rfl
theorem p1_58 : G_ tr0 TS1 58 [4] := by
  intro s A
  kernel_rfl
theorem p1_59 : G_ tr0 TS1 59 [4] := by
  intro s A
  kernel_rfl
theorem p1_60 : G_ tr0 TS1 60 [4] := by
  intro s A
  kernel_rfl
theorem p1_61 : G_ tr0 TS1 61 [4] := by
  intro s A
  kernel_rfl
theorem p1_62 : G_ tr0 TS1 62 [4] := by
  intro s A
  kernel_rfl
theorem p1_63 : G_ tr0 TS1 63 [4] := by
  intro s A
  kernel_rfl
theorem p1_64 : G_ tr0 TS1 64 [4] := by
  intro s A
  kernel_rfl
theorem p1_65 : G_ tr0 TS1 65 [4] := by
  intro s A
  kernel_rfl
theorem p1_66 : G_ tr0 TS1 66 [4] := by
  intro s A
  kernel_rfl
theorem p1_67 : G_ tr0 TS1 67 [4] := by
  intro s A
  kernel_rfl
theorem p1_68 : G_ tr0 TS1 68 [4] := by
  intro s A
  kernel_rfl
theorem p1_69 : G_ tr0 TS1 69 [4] := by
  intro s A
  kernel_rfl
theorem p1_70 : G_ tr0 TS1 70 [4] := by
  intro s A
  kernel_rfl
theorem p1_71 : G_ tr0 TS1 71 [4] := by
  intro s A
  kernel_rfl
theorem p1_72 : G_ tr0 TS1 72 [4] := by
  intro s A
  kernel_rfl
theorem p1_73 : G_ tr0 TS1 73 [4] := by
  intro s A
  kernel_rfl
theorem p1_74 : G_ tr0 TS1 74 [4] := by
  intro s A
  kernel_rfl
theorem p1_75 : G_ tr0 TS1 75 [4] := by
  intro s A
  kernel_rfl
theorem p1_76 : G_ tr0 TS1 76 [4] := by
  intro s A
  kernel_rfl
theorem p1_77 : G_ tr0 TS1 77 [4] := by
  intro s A
  kernel_rfl
theorem p1_78 : G_ tr0 TS1 78 [4] := by
  intro s A
  kernel_rfl
theorem p1_79 : G_ tr0 TS1 79 [4] := by
  intro s A
  kernel_rfl
theorem p1_80 : G_ tr0 TS1 80 [4] := by
  intro s A
  kernel_rfl
theorem p1_81 : G_ tr0 TS1 81 [4] := by
  intro s A
  kernel_rfl
end Go.Ev
