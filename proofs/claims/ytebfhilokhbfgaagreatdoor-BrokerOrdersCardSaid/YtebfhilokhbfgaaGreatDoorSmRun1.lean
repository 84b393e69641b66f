/- Passes of the call's loop, part 1. -/
import Derived.Test.YtebfhilokhbfgaaGreatDoorSm
namespace Go.Ev
open Go.Proofs
set_option maxRecDepth 1000000
theorem u19_5 : R_ Sm19 Us19 U19_5 tq3 [[7], [8], [8]] := by
  intro σ
  kernel_rfl
theorem u19_6 : R_ Sm19 Us19 U19_6 tq3 [[8], [8], [8]] := by
  intro σ
  kernel_rfl
theorem u19_7 : R_ Sm19 Us19 U19_7 tq4 [[9], [10], [10]] := by
  intro σ
  kernel_rfl
theorem u19_8 : R_ Sm19 Us19 U19_8 tq4 [[10], [10], [10]] := by
  intro σ
  kernel_rfl
theorem u19_9 : R_ Sm19 Us19 U19_9 .leaf [[]] := by
  intro σ
  kernel_rfl
theorem u19_10 : R_ Sm19 Us19 U19_10 .leaf [[]] := by
  intro σ
  kernel_rfl
theorem us20 : Q_ Sm20 Us20 [0] := by
  intro σ
  kernel_rfl
theorem u20_0 : R_ Sm20 Us20 U20_0 tq0 [[1], [1], [1]] := by
  intro σ
  kernel_rfl
theorem u20_1 : R_ Sm20 Us20 U20_1 tq1 [[2], [2], [2]] := by
  intro σ
  kernel_rfl
theorem u20_2 : R_ Sm20 Us20 U20_2 tq2 [[3], [3], [3]] := by
  intro σ
  kernel_rfl
theorem u20_3 : R_ Sm20 Us20 U20_3 tq3 [[4], [4], [4]] := by
  intro σ
  kernel_rfl
theorem u20_4 : R_ Sm20 Us20 U20_4 tq4 [[5], [5], [5]] := by
  intro σ
  kernel_rfl
theorem u20_5 : R_ Sm20 Us20 U20_5 .leaf [[]] := by
  intro σ
  kernel_rfl
theorem us21 : Q_ Sm21 Us21 [0] := by
  intro σ
  kernel_rfl
theorem u21_0 : R_ Sm21 Us21 U21_0 tq0 [[1], [2], [2]] := by
  intro σ
  kernel_rfl
theorem u21_1 : R_ Sm21 Us21 U21_1 tq1 [[3], [4], [4]] := by
  intro σ
  kernel_rfl
theorem u21_2 : R_ Sm21 Us21 U21_2 tq1 [[4], [4], [4]] := by
  intro σ
  kernel_rfl
theorem u21_3 : R_ Sm21 Us21 U21_3 tq2 [[5], [6], [6]] := by
  intro σ
  kernel_rfl
theorem u21_4 : R_ Sm21 Us21 U21_4 tq2 [[6], [6], [6]] := by
  intro σ
  kernel_rfl
theorem u21_5 : R_ Sm21 Us21 U21_5 tq3 [[7], [8], [8]] := by
  intro σ
  kernel_rfl
theorem u21_6 : R_ Sm21 Us21 U21_6 tq3 [[8], [8], [8]] := by
  intro σ
  kernel_rfl
theorem u21_7 : R_ Sm21 Us21 U21_7 tq4 [[9], [10], [10]] := by
  intro σ
  kernel_rfl
theorem u21_8 : R_ Sm21 Us21 U21_8 tq4 [[10], [10], [10]] := by
  intro σ
  kernel_rfl
theorem u21_9 : R_ Sm21 Us21 U21_9 .leaf [[]] := by
  intro σ
  kernel_rfl
theorem u21_10 : R_ Sm21 Us21 U21_10 .leaf [[]] := by
  intro σ
  kernel_rfl
theorem us22 : Q_ Sm22 Us22 [0] := by
  intro σ
  kernel_rfl
theorem u22_0 : R_ Sm22 Us22 U22_0 tq0 [[1], [1], [1]] := by
  intro σ
  kernel_rfl
theorem u22_1 : R_ Sm22 Us22 U22_1 tq1 [[2], [2], [2]] := by
  intro σ
  kernel_rfl
theorem u22_2 : R_ Sm22 Us22 U22_2 tq2 [[3], [3], [3]] := by
  intro σ
  kernel_rfl
theorem u22_3 : R_ Sm22 Us22 U22_3 tq3 [[4], [4], [4]] := by
  intro σ
  kernel_rfl
theorem u22_4 : R_ Sm22 Us22 U22_4 tq4 [[5], [5], [5]] := by
  intro σ
  kernel_rfl
theorem u22_5 : R_ Sm22 Us22 U22_5 .leaf [[]] := by
  intro σ
  kernel_rfl
theorem us23 : Q_ Sm23 Us23 [0] := by
  intro σ
  kernel_rfl
theorem u23_0 : R_ Sm23 Us23 U23_0 tq0 [[1], [2], [2]] := by
  intro σ
  kernel_rfl
theorem u23_1 : R_ Sm23 Us23 U23_1 tq1 [[3], [4], [4]] := by
  intro σ
  kernel_rfl
theorem u23_2 : R_ Sm23 Us23 U23_2 tq1 [[4], [4], [4]] := by
  intro σ
  kernel_rfl
theorem u23_3 : R_ Sm23 Us23 U23_3 tq2 [[5], [6], [6]] := by
  intro σ
  kernel_rfl
theorem u23_4 : R_ Sm23 Us23 U23_4 tq2 [[6], [6], [6]] := by
  intro σ
  kernel_rfl
theorem u23_5 : R_ Sm23 Us23 U23_5 tq3 [[7], [8], [8]] := by
  intro σ
  kernel_rfl
theorem u23_6 : R_ Sm23 Us23 U23_6 tq3 [[8], [8], [8]] := by
  intro σ
  kernel_rfl
theorem u23_7 : R_ Sm23 Us23 U23_7 tq4 [[9], [10], [10]] := by
  intro σ
  kernel_rfl
theorem u23_8 : R_ Sm23 Us23 U23_8 tq4 [[10], [10], [10]] := by
  intro σ
  kernel_rfl
theorem u23_9 : R_ Sm23 Us23 U23_9 tq5 [[11], [12], [12]] := by
  intro σ
  kernel_rfl
theorem u23_10 : R_ Sm23 Us23 U23_10 tq5 [[12], [12], [12]] := by
  intro σ
  kernel_rfl
theorem u23_11 : R_ Sm23 Us23 U23_11 .leaf [[]] := by
  intro σ
  kernel_rfl
theorem u23_12 : R_ Sm23 Us23 U23_12 .leaf [[]] := by
  intro σ
  kernel_rfl
theorem us24 : Q_ Sm24 Us24 [0] := by
  intro σ
  kernel_rfl
theorem u24_0 : R_ Sm24 Us24 U24_0 tq0 [[1], [1], [1]] := by
  intro σ
  kernel_rfl
theorem u24_1 : R_ Sm24 Us24 U24_1 tq1 [[2], [2], [2]] := by
  intro σ
  kernel_rfl
theorem u24_2 : R_ Sm24 Us24 U24_2 tq2 [[3], [3], [3]] := by
  intro σ
  kernel_rfl
theorem u24_3 : R_ Sm24 Us24 U24_3 tq3 [[4], [4], [4]] := by
  intro σ
  kernel_rfl
theorem u24_4 : R_ Sm24 Us24 U24_4 tq4 [[5], [5], [5]] := by
  intro σ
  kernel_rfl
theorem u24_5 : R_ Sm24 Us24 U24_5 tq5 [[6], [6], [6]] := by
  intro σ
  kernel_rfl
theorem u24_6 : R_ Sm24 Us24 U24_6 .leaf [[]] := by
  intro σ
  kernel_rfl
theorem us25 : Q_ Sm25 Us25 [0] := by
  intro σ
  kernel_rfl
theorem u25_0 : R_ Sm25 Us25 U25_0 tq0 [[1], [2], [2]] := by
  intro σ
  kernel_rfl
theorem u25_1 : R_ Sm25 Us25 U25_1 tq1 [[3], [4], [4]] := by
  intro σ
  kernel_rfl
theorem u25_2 : R_ Sm25 Us25 U25_2 tq1 [[4], [4], [4]] := by
  intro σ
  kernel_rfl
theorem u25_3 : R_ Sm25 Us25 U25_3 tq2 [[5], [6], [6]] := by
  intro σ
  kernel_rfl
end Go.Ev
