/- Passes of the call's loop, part 2. -/
import Derived.Test.YtebfhilokhbfgaaGreatDoorSm
namespace Go.Ev
open Go.Proofs
set_option maxRecDepth 1000000
theorem u25_4 : R_ Sm25 Us25 U25_4 tq2 [[6], [6], [6]] := by
  intro σ
  kernel_rfl
theorem u25_5 : R_ Sm25 Us25 U25_5 tq3 [[7], [8], [8]] := by
  intro σ
  kernel_rfl
theorem u25_6 : R_ Sm25 Us25 U25_6 tq3 [[8], [8], [8]] := by
  intro σ
  kernel_rfl
theorem u25_7 : R_ Sm25 Us25 U25_7 tq4 [[9], [10], [10]] := by
  intro σ
  kernel_rfl
theorem u25_8 : R_ Sm25 Us25 U25_8 tq4 [[10], [10], [10]] := by
  intro σ
  kernel_rfl
theorem u25_9 : R_ Sm25 Us25 U25_9 tq5 [[11], [12], [12]] := by
  intro σ
  kernel_rfl
theorem u25_10 : R_ Sm25 Us25 U25_10 tq5 [[12], [12], [12]] := by
  intro σ
  kernel_rfl
theorem u25_11 : R_ Sm25 Us25 U25_11 .leaf [[]] := by
  intro σ
  kernel_rfl
theorem u25_12 : R_ Sm25 Us25 U25_12 .leaf [[]] := by
  intro σ
  kernel_rfl
theorem us26 : Q_ Sm26 Us26 [0] := by
  intro σ
  kernel_rfl
theorem u26_0 : R_ Sm26 Us26 U26_0 tq0 [[1], [1], [1]] := by
  intro σ
  kernel_rfl
theorem u26_1 : R_ Sm26 Us26 U26_1 tq1 [[2], [2], [2]] := by
  intro σ
  kernel_rfl
theorem u26_2 : R_ Sm26 Us26 U26_2 tq2 [[3], [3], [3]] := by
  intro σ
  kernel_rfl
theorem u26_3 : R_ Sm26 Us26 U26_3 tq3 [[4], [4], [4]] := by
  intro σ
  kernel_rfl
theorem u26_4 : R_ Sm26 Us26 U26_4 tq4 [[5], [5], [5]] := by
  intro σ
  kernel_rfl
theorem u26_5 : R_ Sm26 Us26 U26_5 tq5 [[6], [6], [6]] := by
  intro σ
  kernel_rfl
theorem u26_6 : R_ Sm26 Us26 U26_6 .leaf [[]] := by
  intro σ
  kernel_rfl
theorem us27 : Q_ Sm27 Us27 [0] := by
  intro σ
  kernel_rfl
theorem u27_0 : R_ Sm27 Us27 U27_0 tq0 [[1], [2], [2]] := by
  intro σ
  kernel_rfl
theorem u27_1 : R_ Sm27 Us27 U27_1 tq1 [[3], [4], [4]] := by
  intro σ
  kernel_rfl
theorem u27_2 : R_ Sm27 Us27 U27_2 tq1 [[4], [4], [4]] := by
  intro σ
  kernel_rfl
theorem u27_3 : R_ Sm27 Us27 U27_3 tq2 [[5], [6], [6]] := by
  intro σ
  kernel_rfl
theorem u27_4 : R_ Sm27 Us27 U27_4 tq2 [[6], [6], [6]] := by
  intro σ
  kernel_rfl
theorem u27_5 : R_ Sm27 Us27 U27_5 tq3 [[7], [8], [8]] := by
  intro σ
  kernel_rfl
theorem u27_6 : R_ Sm27 Us27 U27_6 tq3 [[8], [8], [8]] := by
  intro σ
  kernel_rfl
theorem u27_7 : R_ Sm27 Us27 U27_7 tq4 [[9], [10], [10]] := by
  intro σ
  kernel_rfl
theorem u27_8 : R_ Sm27 Us27 U27_8 tq4 [[10], [10], [10]] := by
  intro σ
  kernel_rfl
theorem u27_9 : R_ Sm27 Us27 U27_9 tq5 [[11], [12], [12]] := by
  intro σ
  kernel_rfl
theorem u27_10 : R_ Sm27 Us27 U27_10 tq5 [[12], [12], [12]] := by
  intro σ
  kernel_rfl
theorem u27_11 : R_ Sm27 Us27 U27_11 tq6 [[13], [14], [14]] := by
  intro σ
  kernel_rfl
theorem u27_12 : R_ Sm27 Us27 U27_12 tq6 [[14], [14], [14]] := by
  intro σ
  kernel_rfl
theorem u27_13 : R_ Sm27 Us27 U27_13 .leaf [[]] := by
  intro σ
  kernel_rfl
theorem u27_14 : R_ Sm27 Us27 U27_14 .leaf [[]] := by
  intro σ
  kernel_rfl
theorem us28 : Q_ Sm28 Us28 [0] := by
  intro σ
  kernel_rfl
theorem u28_0 : R_ Sm28 Us28 U28_0 tq0 [[1], [1], [1]] := by
  intro σ
  kernel_rfl
theorem u28_1 : R_ Sm28 Us28 U28_1 tq1 [[2], [2], [2]] := by
  intro σ
  kernel_rfl
theorem u28_2 : R_ Sm28 Us28 U28_2 tq2 [[3], [3], [3]] := by
  intro σ
  kernel_rfl
theorem u28_3 : R_ Sm28 Us28 U28_3 tq3 [[4], [4], [4]] := by
  intro σ
  kernel_rfl
theorem u28_4 : R_ Sm28 Us28 U28_4 tq4 [[5], [5], [5]] := by
  intro σ
  kernel_rfl
theorem u28_5 : R_ Sm28 Us28 U28_5 tq5 [[6], [6], [6]] := by
  intro σ
  kernel_rfl
theorem u28_6 : R_ Sm28 Us28 U28_6 tq6 [[7], [7], [7]] := by
  intro σ
  kernel_rfl
theorem u28_7 : R_ Sm28 Us28 U28_7 .leaf [[]] := by
  intro σ
  kernel_rfl
theorem us29 : Q_ Sm29 Us29 [0] := by
  intro σ
  kernel_rfl
theorem u29_0 : R_ Sm29 Us29 U29_0 tq0 [[1], [2], [2]] := by
  intro σ
  kernel_rfl
theorem u29_1 : R_ Sm29 Us29 U29_1 tq1 [[3], [4], [4]] := by
  intro σ
  kernel_rfl
theorem u29_2 : R_ Sm29 Us29 U29_2 tq1 [[4], [4], [4]] := by
  intro σ
  kernel_rfl
theorem u29_3 : R_ Sm29 Us29 U29_3 tq2 [[5], [6], [6]] := by
  intro σ
  kernel_rfl
theorem u29_4 : R_ Sm29 Us29 U29_4 tq2 [[6], [6], [6]] := by
  intro σ
  kernel_rfl
theorem u29_5 : R_ Sm29 Us29 U29_5 tq3 [[7], [8], [8]] := by
  intro σ
  kernel_rfl
theorem u29_6 : R_ Sm29 Us29 U29_6 tq3 [[8], [8], [8]] := by
  intro σ
  kernel_rfl
theorem u29_7 : R_ Sm29 Us29 U29_7 tq4 [[9], [10], [10]] := by
  intro σ
  kernel_rfl
theorem u29_8 : R_ Sm29 Us29 U29_8 tq4 [[10], [10], [10]] := by
  intro σ
  kernel_rfl
theorem u29_9 : R_ Sm29 Us29 U29_9 tq5 [[11], [12], [12]] := by
  intro σ
  kernel_rfl
theorem u29_10 : R_ Sm29 Us29 U29_10 tq5 [[12], [12], [12]] := by
  intro σ
  kernel_rfl
theorem u29_11 : R_ Sm29 Us29 U29_11 tq6 [[13], [14], [14]] := by
  intro σ
  kernel_rfl
theorem u29_12 : R_ Sm29 Us29 U29_12 tq6 [[14], [14], [14]] := by
  intro σ
  kernel_rfl
theorem u29_13 : R_ Sm29 Us29 U29_13 .leaf [[]] := by
  intro σ
  kernel_rfl
theorem u29_14 : R_ Sm29 Us29 U29_14 .leaf [[]] := by
  intro σ
  kernel_rfl
theorem us30 : Q_ Sm30 Us30 [0] := by
  intro σ
  kernel_rfl
theorem u30_0 : R_ Sm30 Us30 U30_0 tq0 [[1], [1], [1]] := by
  intro σ
  kernel_rfl
end Go.Ev
