/- Passes of the call's loop, part 3. -/
import Derived.Test.YtebfhilokhbfgaaGreatDoorSm
namespace Go.Ev
open Go.Proofs
set_option maxRecDepth 1000000
theorem u30_1 : R_ Sm30 Us30 U30_1 tq1 [[2], [2], [2]] := by
  intro σ
  kernel_rfl
theorem u30_2 : R_ Sm30 Us30 U30_2 tq2 [[3], [3], [3]] := by
  intro σ
  kernel_rfl
theorem u30_3 : R_ Sm30 Us30 U30_3 tq3 [[4], [4], [4]] := by
  intro σ
  kernel_rfl
theorem u30_4 : R_ Sm30 Us30 U30_4 tq4 [[5], [5], [5]] := by
  intro σ
  kernel_rfl
theorem u30_5 : R_ Sm30 Us30 U30_5 tq5 [[6], [6], [6]] := by
  intro σ
  kernel_rfl
theorem u30_6 : R_ Sm30 Us30 U30_6 tq6 [[7], [7], [7]] := by
  intro σ
  kernel_rfl
theorem u30_7 : R_ Sm30 Us30 U30_7 .leaf [[]] := by
  intro σ
  kernel_rfl
theorem us31 : Q_ Sm31 Us31 [0] := by
  intro σ
  kernel_rfl
theorem u31_0 : R_ Sm31 Us31 U31_0 tq0 [[1], [2], [2]] := by
  intro σ
  kernel_rfl
theorem u31_1 : R_ Sm31 Us31 U31_1 tq1 [[3], [4], [4]] := by
  intro σ
  kernel_rfl
theorem u31_2 : R_ Sm31 Us31 U31_2 tq1 [[4], [4], [4]] := by
  intro σ
  kernel_rfl
theorem u31_3 : R_ Sm31 Us31 U31_3 tq2 [[5], [6], [6]] := by
  intro σ
  kernel_rfl
theorem u31_4 : R_ Sm31 Us31 U31_4 tq2 [[6], [6], [6]] := by
  intro σ
  kernel_rfl
theorem u31_5 : R_ Sm31 Us31 U31_5 tq3 [[7], [8], [8]] := by
  intro σ
  kernel_rfl
theorem u31_6 : R_ Sm31 Us31 U31_6 tq3 [[8], [8], [8]] := by
  intro σ
  kernel_rfl
theorem u31_7 : R_ Sm31 Us31 U31_7 tq4 [[9], [10], [10]] := by
  intro σ
  kernel_rfl
theorem u31_8 : R_ Sm31 Us31 U31_8 tq4 [[10], [10], [10]] := by
  intro σ
  kernel_rfl
theorem u31_9 : R_ Sm31 Us31 U31_9 tq5 [[11], [12], [12]] := by
  intro σ
  kernel_rfl
theorem u31_10 : R_ Sm31 Us31 U31_10 tq5 [[12], [12], [12]] := by
  intro σ
  kernel_rfl
theorem u31_11 : R_ Sm31 Us31 U31_11 tq6 [[13], [14], [14]] := by
  intro σ
  kernel_rfl
theorem u31_12 : R_ Sm31 Us31 U31_12 tq6 [[14], [14], [14]] := by
  intro σ
  kernel_rfl
theorem u31_13 : R_ Sm31 Us31 U31_13 tq7 [[15], [16], [16]] := by
  intro σ
  kernel_rfl
theorem u31_14 : R_ Sm31 Us31 U31_14 tq7 [[16], [16], [16]] := by
  intro σ
  kernel_rfl
theorem u31_15 : R_ Sm31 Us31 U31_15 .leaf [[]] := by
  intro σ
  kernel_rfl
theorem u31_16 : R_ Sm31 Us31 U31_16 .leaf [[]] := by
  intro σ
  kernel_rfl
theorem us32 : Q_ Sm32 Us32 [0] := by
  intro σ
  kernel_rfl
theorem u32_0 : R_ Sm32 Us32 U32_0 tq0 [[1], [1], [1]] := by
  intro σ
  kernel_rfl
theorem u32_1 : R_ Sm32 Us32 U32_1 tq1 [[2], [2], [2]] := by
  intro σ
  kernel_rfl
theorem u32_2 : R_ Sm32 Us32 U32_2 tq2 [[3], [3], [3]] := by
  intro σ
  kernel_rfl
theorem u32_3 : R_ Sm32 Us32 U32_3 tq3 [[4], [4], [4]] := by
  intro σ
  kernel_rfl
theorem u32_4 : R_ Sm32 Us32 U32_4 tq4 [[5], [5], [5]] := by
  intro σ
  kernel_rfl
theorem u32_5 : R_ Sm32 Us32 U32_5 tq5 [[6], [6], [6]] := by
  intro σ
  kernel_rfl
theorem u32_6 : R_ Sm32 Us32 U32_6 tq6 [[7], [7], [7]] := by
  intro σ
  kernel_rfl
theorem u32_7 : R_ Sm32 Us32 U32_7 tq7 [[8], [8], [8]] := by
  intro σ
  kernel_rfl
theorem u32_8 : R_ Sm32 Us32 U32_8 .leaf [[]] := by
  intro σ
  kernel_rfl
end Go.Ev
