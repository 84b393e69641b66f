/- Passes of the call's loop, part 0. -/
import Derived.Test.YtebfhilokhbfgaaGreatDoorSm
namespace Go.Ev
open Go.Proofs
set_option maxRecDepth 1000000
theorem us0 : Q_ Sm0 Us0 [0] := by
  intro σ
  kernel_rfl
theorem u0_0 : R_ Sm0 Us0 U0_0 .leaf [[]] := by
  intro σ
  kernel_rfl
theorem us1 : Q_ Sm1 Us1 [0] := by
  intro σ
  kernel_rfl
theorem u1_0 : R_ Sm1 Us1 U1_0 .leaf [[]] := by
  intro σ
  kernel_rfl
theorem us2 : Q_ Sm2 Us2 [0] := by
  intro σ
  kernel_rfl
theorem u2_0 : R_ Sm2 Us2 U2_0 .leaf [[]] := by
  intro σ
  kernel_rfl
theorem us3 : Q_ Sm3 Us3 [0] := by
  intro σ
  kernel_rfl
theorem u3_0 : R_ Sm3 Us3 U3_0 tq0 [[1], [2], [2]] := by
  intro σ
  kernel_rfl
theorem u3_1 : R_ Sm3 Us3 U3_1 .leaf [[]] := by
  intro σ
  kernel_rfl
theorem u3_2 : R_ Sm3 Us3 U3_2 .leaf [[]] := by
  intro σ
  kernel_rfl
theorem us4 : Q_ Sm4 Us4 [0] := by
  intro σ
  kernel_rfl
theorem u4_0 : R_ Sm4 Us4 U4_0 tq0 [[1], [1], [1]] := by
  intro σ
  kernel_rfl
theorem u4_1 : R_ Sm4 Us4 U4_1 .leaf [[]] := by
  intro σ
  kernel_rfl
theorem us5 : Q_ Sm5 Us5 [0] := by
  intro σ
  kernel_rfl
theorem u5_0 : R_ Sm5 Us5 U5_0 tq0 [[1], [2], [2]] := by
  intro σ
  kernel_rfl
theorem u5_1 : R_ Sm5 Us5 U5_1 .leaf [[]] := by
  intro σ
  kernel_rfl
theorem u5_2 : R_ Sm5 Us5 U5_2 .leaf [[]] := by
  intro σ
  kernel_rfl
theorem us6 : Q_ Sm6 Us6 [0] := by
  intro σ
  kernel_rfl
theorem u6_0 : R_ Sm6 Us6 U6_0 tq0 [[1], [1], [1]] := by
  intro σ
  kernel_rfl
theorem u6_1 : R_ Sm6 Us6 U6_1 .leaf [[]] := by
  intro σ
  kernel_rfl
theorem us7 : Q_ Sm7 Us7 [0] := by
  intro σ
  kernel_rfl
theorem u7_0 : R_ Sm7 Us7 U7_0 tq0 [[1], [2], [2]] := by
  intro σ
  kernel_rfl
theorem u7_1 : R_ Sm7 Us7 U7_1 tq1 [[3], [4], [4]] := by
  intro σ
  kernel_rfl
theorem u7_2 : R_ Sm7 Us7 U7_2 tq1 [[4], [4], [4]] := by
  intro σ
  kernel_rfl
theorem u7_3 : R_ Sm7 Us7 U7_3 .leaf [[]] := by
  intro σ
  kernel_rfl
theorem u7_4 : R_ Sm7 Us7 U7_4 .leaf [[]] := by
  intro σ
  kernel_rfl
theorem us8 : Q_ Sm8 Us8 [0] := by
  intro σ
  kernel_rfl
theorem u8_0 : R_ Sm8 Us8 U8_0 tq0 [[1], [1], [1]] := by
  intro σ
  kernel_rfl
theorem u8_1 : R_ Sm8 Us8 U8_1 tq1 [[2], [2], [2]] := by
  intro σ
  kernel_rfl
theorem u8_2 : R_ Sm8 Us8 U8_2 .leaf [[]] := by
  intro σ
  kernel_rfl
theorem us9 : Q_ Sm9 Us9 [0] := by
  intro σ
  kernel_rfl
theorem u9_0 : R_ Sm9 Us9 U9_0 tq0 [[1], [2], [2]] := by
  intro σ
  kernel_rfl
theorem u9_1 : R_ Sm9 Us9 U9_1 tq1 [[3], [4], [4]] := by
  intro σ
  kernel_rfl
theorem u9_2 : R_ Sm9 Us9 U9_2 tq1 [[4], [4], [4]] := by
  intro σ
  kernel_rfl
theorem u9_3 : R_ Sm9 Us9 U9_3 .leaf [[]] := by
  intro σ
  kernel_rfl
theorem u9_4 : R_ Sm9 Us9 U9_4 .leaf [[]] := by
  intro σ
  kernel_rfl
theorem us10 : Q_ Sm10 Us10 [0] := by
  intro σ
  kernel_rfl
theorem u10_0 : R_ Sm10 Us10 U10_0 tq0 [[1], [1], [1]] := by
  intro σ
  kernel_rfl
theorem u10_1 : R_ Sm10 Us10 U10_1 tq1 [[2], [2], [2]] := by
  intro σ
  kernel_rfl
theorem u10_2 : R_ Sm10 Us10 U10_2 .leaf [[]] := by
  intro σ
  kernel_rfl
theorem us11 : Q_ Sm11 Us11 [0] := by
  intro σ
  kernel_rfl
theorem u11_0 : R_ Sm11 Us11 U11_0 tq0 [[1], [2], [2]] := by
  intro σ
  kernel_rfl
theorem u11_1 : R_ Sm11 Us11 U11_1 tq1 [[3], [4], [4]] := by
  intro σ
  kernel_rfl
theorem u11_2 : R_ Sm11 Us11 U11_2 tq1 [[4], [4], [4]] := by
  intro σ
  kernel_rfl
theorem u11_3 : R_ Sm11 Us11 U11_3 tq2 [[5], [6], [6]] := by
  intro σ
  kernel_rfl
theorem u11_4 : R_ Sm11 Us11 U11_4 tq2 [[6], [6], [6]] := by
  intro σ
  kernel_rfl
theorem u11_5 : R_ Sm11 Us11 U11_5 .leaf [[]] := by
  intro σ
  kernel_rfl
theorem u11_6 : R_ Sm11 Us11 U11_6 .leaf [[]] := by
  intro σ
  kernel_rfl
theorem us12 : Q_ Sm12 Us12 [0] := by
  intro σ
  kernel_rfl
theorem u12_0 : R_ Sm12 Us12 U12_0 tq0 [[1], [1], [1]] := by
  intro σ
  kernel_rfl
theorem u12_1 : R_ Sm12 Us12 U12_1 tq1 [[2], [2], [2]] := by
  intro σ
  kernel_rfl
theorem u12_2 : R_ Sm12 Us12 U12_2 tq2 [[3], [3], [3]] := by
  intro σ
  kernel_rfl
theorem u12_3 : R_ Sm12 Us12 U12_3 .leaf [[]] := by
  intro σ
  kernel_rfl
theorem us13 : Q_ Sm13 Us13 [0] := by
  intro σ
  kernel_rfl
theorem u13_0 : R_ Sm13 Us13 U13_0 tq0 [[1], [2], [2]] := by
  intro σ
  kernel_rfl
theorem u13_1 : R_ Sm13 Us13 U13_1 tq1 [[3], [4], [4]] := by
  intro σ
  kernel_rfl
theorem u13_2 : R_ Sm13 Us13 U13_2 tq1 [[4], [4], [4]] := by
  intro σ
  kernel_rfl
theorem u13_3 : R_ Sm13 Us13 U13_3 tq2 [[5], [6], [6]] := by
  intro σ
  kernel_rfl
theorem u13_4 : R_ Sm13 Us13 U13_4 tq2 [[6], [6], [6]] := by
  intro σ
  kernel_rfl
theorem u13_5 : R_ Sm13 Us13 U13_5 .leaf [[]] := by
  intro σ
  kernel_rfl
theorem u13_6 : R_ Sm13 Us13 U13_6 .leaf [[]] := by
  intro σ
  kernel_rfl
theorem us14 : Q_ Sm14 Us14 [0] := by
  intro σ
  kernel_rfl
theorem u14_0 : R_ Sm14 Us14 U14_0 tq0 [[1], [1], [1]] := by
  intro σ
  kernel_rfl
theorem u14_1 : R_ Sm14 Us14 U14_1 tq1 [[2], [2], [2]] := by
  intro σ
  kernel_rfl
theorem u14_2 : R_ Sm14 Us14 U14_2 tq2 [[3], [3], [3]] := by
  intro σ
  kernel_rfl
theorem u14_3 : R_ Sm14 Us14 U14_3 .leaf [[]] := by
  intro σ
  kernel_rfl
theorem us15 : Q_ Sm15 Us15 [0] := by
  intro σ
  kernel_rfl
theorem u15_0 : R_ Sm15 Us15 U15_0 tq0 [[1], [2], [2]] := by
  intro σ
  kernel_rfl
theorem u15_1 : R_ Sm15 Us15 U15_1 tq1 [[3], [4], [4]] := by
  intro σ
  kernel_rfl
theorem u15_2 : R_ Sm15 Us15 U15_2 tq1 [[4], [4], [4]] := by
  intro σ
  kernel_rfl
theorem u15_3 : R_ Sm15 Us15 U15_3 tq2 [[5], [6], [6]] := by
  intro σ
  kernel_rfl
theorem u15_4 : R_ Sm15 Us15 U15_4 tq2 [[6], [6], [6]] := by
  intro σ
  kernel_rfl
theorem u15_5 : R_ Sm15 Us15 U15_5 tq3 [[7], [8], [8]] := by
  intro σ
  kernel_rfl
theorem u15_6 : R_ Sm15 Us15 U15_6 tq3 [[8], [8], [8]] := by
  intro σ
  kernel_rfl
theorem u15_7 : R_ Sm15 Us15 U15_7 .leaf [[]] := by
  intro σ
  kernel_rfl
theorem u15_8 : R_ Sm15 Us15 U15_8 .leaf [[]] := by
  intro σ
  kernel_rfl
theorem us16 : Q_ Sm16 Us16 [0] := by
  intro σ
  kernel_rfl
theorem u16_0 : R_ Sm16 Us16 U16_0 tq0 [[1], [1], [1]] := by
  intro σ
  kernel_rfl
theorem u16_1 : R_ Sm16 Us16 U16_1 tq1 [[2], [2], [2]] := by
  intro σ
  kernel_rfl
theorem u16_2 : R_ Sm16 Us16 U16_2 tq2 [[3], [3], [3]] := by
  intro σ
  kernel_rfl
theorem u16_3 : R_ Sm16 Us16 U16_3 tq3 [[4], [4], [4]] := by
  intro σ
  kernel_rfl
theorem u16_4 : R_ Sm16 Us16 U16_4 .leaf [[]] := by
  intro σ
  kernel_rfl
theorem us17 : Q_ Sm17 Us17 [0] := by
  intro σ
  kernel_rfl
theorem u17_0 : R_ Sm17 Us17 U17_0 tq0 [[1], [2], [2]] := by
  intro σ
  kernel_rfl
theorem u17_1 : R_ Sm17 Us17 U17_1 tq1 [[3], [4], [4]] := by
  intro σ
  kernel_rfl
theorem u17_2 : R_ Sm17 Us17 U17_2 tq1 [[4], [4], [4]] := by
  intro σ
  kernel_rfl
theorem u17_3 : R_ Sm17 Us17 U17_3 tq2 [[5], [6], [6]] := by
  intro σ
  kernel_rfl
theorem u17_4 : R_ Sm17 Us17 U17_4 tq2 [[6], [6], [6]] := by
  intro σ
  kernel_rfl
theorem u17_5 : R_ Sm17 Us17 U17_5 tq3 [[7], [8], [8]] := by
  intro σ
  kernel_rfl
theorem u17_6 : R_ Sm17 Us17 U17_6 tq3 [[8], [8], [8]] := by
  intro σ
  kernel_rfl
theorem u17_7 : R_ Sm17 Us17 U17_7 .leaf [[]] := by
  intro σ
  kernel_rfl
theorem u17_8 : R_ Sm17 Us17 U17_8 .leaf [[]] := by
  intro σ
  kernel_rfl
theorem us18 : Q_ Sm18 Us18 [0] := by
  intro σ
  kernel_rfl
theorem u18_0 : R_ Sm18 Us18 U18_0 tq0 [[1], [1], [1]] := by
  intro σ
  kernel_rfl
theorem u18_1 : R_ Sm18 Us18 U18_1 tq1 [[2], [2], [2]] := by
  intro σ
  kernel_rfl
theorem u18_2 : R_ Sm18 Us18 U18_2 tq2 [[3], [3], [3]] := by
  intro σ
  kernel_rfl
theorem u18_3 : R_ Sm18 Us18 U18_3 tq3 [[4], [4], [4]] := by
  intro σ
  kernel_rfl
theorem u18_4 : R_ Sm18 Us18 U18_4 .leaf [[]] := by
  intro σ
  kernel_rfl
theorem us19 : Q_ Sm19 Us19 [0] := by
  intro σ
  kernel_rfl
theorem u19_0 : R_ Sm19 Us19 U19_0 tq0 [[1], [2], [2]] := by
  intro σ
  kernel_rfl
theorem u19_1 : R_ Sm19 Us19 U19_1 tq1 [[3], [4], [4]] := by
  intro σ
  kernel_rfl
theorem u19_2 : R_ Sm19 Us19 U19_2 tq1 [[4], [4], [4]] := by
  intro σ
  kernel_rfl
theorem u19_3 : R_ Sm19 Us19 U19_3 tq2 [[5], [6], [6]] := by
  intro σ
  kernel_rfl
theorem u19_4 : R_ Sm19 Us19 U19_4 tq2 [[6], [6], [6]] := by
  intro σ
  kernel_rfl
end Go.Ev
