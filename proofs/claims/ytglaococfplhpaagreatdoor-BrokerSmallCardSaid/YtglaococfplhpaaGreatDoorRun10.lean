/- Passes of BrokerSmall's loop, part 10. -/
import Derived.Test.YtglaococfplhpaaGreatDoorSt
namespace Go.Ev
open Go.Proofs
set_option maxRecDepth 1000000
theorem p1_186 : G_ tr0 TS1 186 [4] := by
  intro s A
  kernel_rfl
theorem p1_187 : G_ tr0 TS1 187 [4] := by
  intro s A
  kernel_rfl
theorem p1_188 : G_ tr0 TS1 188 [4] := by
  intro s A
  kernel_rfl
theorem p1_189 : G_ tr0 TS1 189 [4] := by
  intro s A
  kernel_rfl
theorem p1_190 : G_ tr0 TS1 190 [4] := by
  intro s A
  kernel_rfl
theorem p1_191 : G_ tr0 TS1 191 [] := by
  intro s A
  kernel_rfl
theorem p1_192 : G_ tr0 TS1 192 [] := by
  intro s A
  kernel_rfl
theorem p2_0 : G_ tr1 TS2 0 [5] := by
  intro s A
  kernel_rfl
theorem p2_1 : G_ tr1 TS2 1 [5] := by
  intro s A
  kernel_rfl
theorem p2_2 : G_ tr1 TS2 2 [5] := by
  intro s A
  kernel_rfl
theorem p2_3 : G_ tr1 TS2 3 [5] := by
  intro s A
  kernel_rfl
theorem p2_4 : G_ tr1 TS2 4 [5] := by
  intro s A
  kernel_rfl
theorem p2_5 : G_ tr1 TS2 5 [5] := by
  intro s A
  kernel_rfl
theorem p2_6 : G_ tr1 TS2 6 [5] := by
  intro s A
  kernel_rfl
theorem p2_7 : G_ tr1 TS2 7 [5] := by
  intro s A
  kernel_rfl
theorem p2_8 : G_ tr1 TS2 8 [5] := by
  intro s A
  kernel_rfl
theorem p2_9 : G_ tr1 TS2 9 [5] := by
  intro s A
  kernel_rfl
theorem p2_10 : G_ tr1 TS2 10 [5] := by
  intro s A
  kernel_rfl
theorem p2_11 : G_ tr1 TS2 11 [5] := by
  intro s A
  kernel_rfl
theorem p2_12 : G_ tr1 TS2 12 [5] := by
  intro s A
  kernel_rfl
theorem p2_13 : G_ tr1 TS2 13 [5] := by
  intro s A
  kernel_rfl
theorem p2_14 : G_ tr1 TS2 14 [5] := by
  intro s A
  kernel_rfl
theorem p2_15 : G_ tr1 TS2 15 [5] := by
  intro s A
  kernel_rfl
theorem p2_16 : G_ tr1 TS2 16 [5] := by
  intro s A
  kernel_rfl
theorem p2_17 : G_ tr1 TS2 17 [5] := by
  intro s A
  kernel_rfl
theorem p2_18 : G_ tr1 TS2 18 [5] := by
  intro s A
  kernel_rfl
theorem p2_19 : G_ tr1 TS2 19 [5] := by
  intro s A
  kernel_rfl
theorem p2_20 : G_ tr1 TS2 20 [5] := by
  intro s A
  kernel_rfl
theorem p2_21 : G_ tr1 TS2 21 [5] := by
  intro s A
  kernel_rfl
theorem p2_22 : G_ tr1 TS2 22 [5] := by
  intro s A
  kernel_rfl
theorem p2_23 : G_ tr1 TS2 23 [5] := by
  intro s A
  kernel_rfl
theorem p2_24 : G_ tr1 TS2 24 [5] := by
  intro s A
  kernel_rfl
theorem p2_25 : G_ tr1 TS2 25 [5] := by
  intro s A
  kernel_rfl
theorem p2_26 : G_ tr1 TS2 26 [5] := by
  intro s A
  kernel_rfl
theorem p2_27 : G_ tr1 TS2 27 [5] := by
  intro s A
  kernel_rfl
theorem p2_28 : G_ tr1 TS2 28 [5] := by
  intro s A
  kernel_rfl
theorem p2_29 : G_ tr1 TS2 29 [5] := by
  intro s A
  kernel_rfl
theorem p2_30 : G_ tr1 TS2 30 [5] := by
  intro s A
  kernel_rfl
theorem p2_31 : G_ tr1 TS2 31 [5] := by
  intro s A
  kernel_rfl
theorem p2_32 : G_ tr1 TS2 32 [5] := by
  intro s A
  kernel_rfl
theorem p2_33 : G_ tr1 TS2 33 [5] := by
  intro s A
  kernel_rfl
theorem p2_34 : G_ tr1 TS2 34 [5] := by
  intro s A
  kernel_rfl
theorem p2_35 : G_ tr1 TS2 35 [5] := by
  intro s A
  kernel_rfl
theorem p2_36 : G_ tr1 TS2 36 [5] := by
  intro s A
  kernel_rfl
theorem p2_37 : G_ tr1 TS2 37 [5] := by
  intro s A
  kernel_rfl
theorem p2_38 : G_ tr1 TS2 38 [5] := by
  intro s A
  kernel_rfl
theorem p2_39 : G_ tr1 TS2 39 [5] := by
  intro s A
  kernel_rfl
theorem p2_40 : G_ tr1 TS2 40 [5] := by
  intro s A
  kernel_rfl
theorem p2_41 : G_ tr1 TS2 41 [5] := by
  intro s A
  kernel_rfl
theorem p2_42 : G_ tr1 TS2 42 [5] := by
  intro s A
  kernel_rfl
theorem p2_43 : G_ tr1 TS2 43 [5] := by
  intro s A
  kernel_rfl
theorem p2_44 : G_ tr1 TS2 44 [5] := by
  intro s A
  kernel_rfl
theorem p2_45 : G_ tr1 TS2 45 [5] := by
  intro s A
  kernel_rfl
theorem p2_46 : G_ tr1 TS2 46 [5] := by
  intro s A
  kernel_rfl
theorem p2_47 : G_ tr1 TS2 47 [5] := by
  intro s A
  kernel_rfl
end Go.Ev
