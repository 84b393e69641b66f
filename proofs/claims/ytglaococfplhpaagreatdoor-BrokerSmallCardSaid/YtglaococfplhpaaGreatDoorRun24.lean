/- Passes of BrokerSmall's loop, part 24. -/
import Derived.Test.YtglaococfplhpaaGreatDoorSt
namespace Go.Ev
open Go.Proofs
set_option maxRecDepth 1000000
theorem p5_13 : G_ tr1 TS5 13 [5] := by
  intro s A
  kernel_rfl
theorem p5_14 : G_ tr1 TS5 14 [5] := by
  intro s A
  kernel_rfl
theorem p5_15 : G_ tr1 TS5 15 [5] := by
  intro s A
  kernel_rfl
theorem p5_16 : G_ tr1 TS5 16 [5] := by
  intro s A
  kernel_rfl
theorem p5_17 : G_ tr1 TS5 17 [5] := by
  intro s A
  kernel_rfl
theorem p5_18 : G_ tr1 TS5 18 [5] := by
  intro s A
  kernel_rfl
theorem p5_19 : G_ tr1 TS5 19 [5] := by
  intro s A
  kernel_rfl
theorem p5_20 : G_ tr1 TS5 20 [5] := by
  intro s A
  kernel_rfl
theorem p5_21 : G_ tr1 TS5 21 [5] := by
  intro s A
  kernel_rfl
theorem p5_22 : G_ tr1 TS5 22 [5] := by
  intro s A
  kernel_rfl
theorem p5_23 : G_ tr1 TS5 23 [5] := by
  intro s A
  kernel_rfl
theorem p5_24 : G_ tr1 TS5 24 [5] := by
  intro s A
  kernel_rfl
theorem p5_25 : G_ tr1 TS5 25 [5] := by
  intro s A
  kernel_rfl
theorem p5_26 : G_ tr1 TS5 26 [5] := by
  intro s A
  kernel_rfl
theorem p5_27 : G_ tr1 TS5 27 [5] := by
  intro s A
  kernel_rfl
theorem p5_28 : G_ tr1 TS5 28 [5] := by
  intro s A
  kernel_rfl
theorem p5_29 : G_ tr1 TS5 29 [5] := by
  intro s A
  kernel_rfl
theorem p5_30 : G_ tr1 TS5 30 [5] := by
  intro s A
  kernel_rfl
theorem p5_31 : G_ tr1 TS5 31 [5] := by
  intro s A
  kernel_rfl
theorem p5_32 : G_ tr1 TS5 32 [5] := by
  intro s A
  kernel_rfl
theorem p5_33 : G_ tr1 TS5 33 [5] := by
  intro s A
  kernel_rfl
theorem p5_34 : G_ tr1 TS5 34 [5] := by
  intro s A
  kernel_rfl
theorem p5_35 : G_ tr1 TS5 35 [5] := by
  intro s A
  kernel_rfl
theorem p5_36 : G_ tr1 TS5 36 [5] := by
  intro s A
  kernel_rfl
theorem p5_37 : G_ tr1 TS5 37 [5] := by
  intro s A
  kernel_rfl
theorem p5_38 : G_ tr1 TS5 38 [5] := by
  intro s A
  kernel_rfl
theorem p5_39 : G_ tr1 TS5 39 [5] := by
  intro s A
  kernel_rfl
theorem p5_40 : G_ tr1 TS5 40 [5] := by
  intro s A
  kernel_rfl
theorem p5_41 : G_ tr1 TS5 41 [5] := by
  intro s A
  kernel_rfl
theorem p5_42 : G_ tr1 TS5 42 [5] := by
  intro s A
  kernel_rfl
theorem p5_43 : G_ tr1 TS5 43 [5] := by
  intro s A
  kernel_rfl
theorem p5_44 : G_ tr1 TS5 44 [5] := by
  intro s A
  kernel_rfl
theorem p5_45 : G_ tr1 TS5 45 [5] := by
  intro s A
  kernel_rfl
theorem p5_46 : G_ tr1 TS5 46 [5] := by
  intro s A
  kernel_rfl
theorem p5_47 : G_ tr1 TS5 47 [5] := by
  intro s A
  kernel_rfl
theorem p5_48 : G_ tr1 TS5 48 [5] := by
  intro s A
  kernel_rfl
theorem p5_49 : G_ tr1 TS5 49 [5] := by
  intro s A
  kernel_rfl
theorem p5_50 : G_ tr1 TS5 50 [5] := by
  intro s A
  kernel_rfl
theorem p5_51 : G_ tr1 TS5 51 [5] := by
  intro s A
  kernel_rfl
theorem p5_52 : G_ tr1 TS5 52 [5] := by
  intro s A
  kernel_rfl
theorem p5_53 : G_ tr1 TS5 53 [5] := by
  intro s A
  kernel_rfl
theorem p5_54 : G_ tr1 TS5 54 [5] := by
  intro s A
  kernel_rfl
theorem p5_55 : G_ tr1 TS5 55 [5] := by
  intro s A
  kernel_rfl
theorem p5_56 : G_ tr1 TS5 56 [5] := by
  intro s A
  kernel_rfl
theorem p5_57 : G_ tr1 TS5 57 [5] := by
  intro s A
  kernel_rfl
theorem p5_58 : G_ tr1 TS5 58 [5] := by
  intro s A
  kernel_rfl
theorem p5_59 : G_ tr1 TS5 59 [5] := by
  intro s A
  kernel_rfl
theorem p5_60 : G_ tr1 TS5 60 [5] := by
  intro s A
  kernel_rfl
theorem p5_61 : G_ tr1 TS5 61 [5] := by
  intro s A
  kernel_rfl
theorem p5_62 : G_ tr1 TS5 62 [5] := by
  intro s A
  kernel_rfl
theorem p5_63 : G_ tr1 TS5 63 [5] := by
  intro s A
  kernel_rfl
theorem p5_64 : G_ tr1 TS5 64 [5] := by
  intro s A
  kernel_rfl
theorem p5_65 : G_ tr1 TS5 65 [5] := by
  intro s A
  kernel_rfl
theorem p5_66 : G_ tr1 TS5 66 [5] := by
  intro s A
  kernel_rfl
theorem p5_67 : G_ tr1 TS5 67 [5] := by
  intro s A
  kernel_rfl
theorem p5_68 : G_ tr1 TS5 68 [5] := by
  intro s A
  kernel_rfl
end Go.Ev
