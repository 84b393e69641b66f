/- Each pass of the loop is right: by its states. -/
import Derived.Test.YtdljkjmcmedklaaGreatDoorRun0
import Derived.Test.YtdljkjmcmedklaaGreatDoorRun1
import Derived.Test.YtdljkjmcmedklaaGreatDoorRun2
namespace Go.Ev
open Go.Proofs
set_option maxRecDepth 1000000
set_option linter.unusedVariables false
theorem v0 : leaves ksL tr0 ⟨TS0.b, TS0.f, TS0.r, [], 1000⟩ = some [E0_0, E0_1, E0_2] := by kernel_rfl
theorem g0 : StateGood Tryz.prog codeN natW 1000 100 wsL lensL TsL pthL ccL rsL ksL TS0 :=
  ⟨tr0, _, v0, by kernel_rfl, (allG_cons (mkG (by kernel_rfl) p0_0) (allG_cons (mkG (by kernel_rfl) p0_1) (allG_cons (mkG (by kernel_rfl) p0_2) allG_nil)))⟩
theorem v1 : leaves ksL tr1 ⟨TS1.b, TS1.f, TS1.r, [], 1000⟩ = some [E1_0, E1_1, E1_2, E1_3] := by kernel_rfl
theorem g1 : StateGood Tryz.prog codeN natW 1000 100 wsL lensL TsL pthL ccL rsL ksL TS1 :=
  ⟨tr1, _, v1, by kernel_rfl, (allG_cons (mkG (by kernel_rfl) p1_0) (allG_cons (mkG (by kernel_rfl) p1_1) (allG_cons (mkG (by kernel_rfl) p1_2) (allG_cons (mkG (by kernel_rfl) p1_3) allG_nil))))⟩
theorem v2 : leaves ksL tr2 ⟨TS2.b, TS2.f, TS2.r, [], 1000⟩ = some [E2_0, E2_1, E2_2, E2_3] := by kernel_rfl
theorem g2 : StateGood Tryz.prog codeN natW 1000 100 wsL lensL TsL pthL ccL rsL ksL TS2 :=
  ⟨tr2, _, v2, by kernel_rfl, (allG_cons (mkG (by kernel_rfl) p2_0) (allG_cons (mkG (by kernel_rfl) p2_1) (allG_cons (mkG (by kernel_rfl) p2_2) (allG_cons (mkG (by kernel_rfl) p2_3) allG_nil))))⟩
theorem v3 : leaves ksL tr3 ⟨TS3.b, TS3.f, TS3.r, [], 1000⟩ = some [E3_0, E3_1, E3_2, E3_3] := by kernel_rfl
theorem g3 : StateGood Tryz.prog codeN natW 1000 100 wsL lensL TsL pthL ccL rsL ksL TS3 :=
  ⟨tr3, _, v3, by kernel_rfl, (allG_cons (mkG (by kernel_rfl) p3_0) (allG_cons (mkG (by kernel_rfl) p3_1) (allG_cons (mkG (by kernel_rfl) p3_2) (allG_cons (mkG (by kernel_rfl) p3_3) allG_nil))))⟩
theorem v4 : leaves ksL tr4 ⟨TS4.b, TS4.f, TS4.r, [], 1000⟩ = some [E4_0, E4_1, E4_2, E4_3] := by kernel_rfl
theorem g4 : StateGood Tryz.prog codeN natW 1000 100 wsL lensL TsL pthL ccL rsL ksL TS4 :=
  ⟨tr4, _, v4, by kernel_rfl, (allG_cons (mkG (by kernel_rfl) p4_0) (allG_cons (mkG (by kernel_rfl) p4_1) (allG_cons (mkG (by kernel_rfl) p4_2) (allG_cons (mkG (by kernel_rfl) p4_3) allG_nil))))⟩
theorem v5 : leaves ksL tr5 ⟨TS5.b, TS5.f, TS5.r, [], 1000⟩ = some [E5_0, E5_1, E5_2, E5_3] := by kernel_rfl
theorem g5 : StateGood Tryz.prog codeN natW 1000 100 wsL lensL TsL pthL ccL rsL ksL TS5 :=
  ⟨tr5, _, v5, by kernel_rfl, (allG_cons (mkG (by kernel_rfl) p5_0) (allG_cons (mkG (by kernel_rfl) p5_1) (allG_cons (mkG (by kernel_rfl) p5_2) (allG_cons (mkG (by kernel_rfl) p5_3) allG_nil))))⟩
theorem v6 : leaves ksL tr6 ⟨TS6.b, TS6.f, TS6.r, [], 1000⟩ = some [E6_0, E6_1, E6_2, E6_3] := by kernel_rfl
theorem g6 : StateGood Tryz.prog codeN natW 1000 100 wsL lensL TsL pthL ccL rsL ksL TS6 :=
  ⟨tr6, _, v6, by kernel_rfl, (allG_cons (mkG (by kernel_rfl) p6_0) (allG_cons (mkG (by kernel_rfl) p6_1) (allG_cons (mkG (by kernel_rfl) p6_2) (allG_cons (mkG (by kernel_rfl) p6_3) allG_nil))))⟩
theorem v7 : leaves ksL tr7 ⟨TS7.b, TS7.f, TS7.r, [], 1000⟩ = some [E7_0, E7_1, E7_2, E7_3] := by kernel_rfl
theorem g7 : StateGood Tryz.prog codeN natW 1000 100 wsL lensL TsL pthL ccL rsL ksL TS7 :=
  ⟨tr7, _, v7, by kernel_rfl, (allG_cons (mkG (by kernel_rfl) p7_0) (allG_cons (mkG (by kernel_rfl) p7_1) (allG_cons (mkG (by kernel_rfl) p7_2) (allG_cons (mkG (by kernel_rfl) p7_3) allG_nil))))⟩
theorem v8 : leaves ksL tr8 ⟨TS8.b, TS8.f, TS8.r, [], 1000⟩ = some [E8_0, E8_1, E8_2, E8_3] := by kernel_rfl
theorem g8 : StateGood Tryz.prog codeN natW 1000 100 wsL lensL TsL pthL ccL rsL ksL TS8 :=
  ⟨tr8, _, v8, by kernel_rfl, (allG_cons (mkG (by kernel_rfl) p8_0) (allG_cons (mkG (by kernel_rfl) p8_1) (allG_cons (mkG (by kernel_rfl) p8_2) (allG_cons (mkG (by kernel_rfl) p8_3) allG_nil))))⟩
theorem v9 : leaves ksL tr9 ⟨TS9.b, TS9.f, TS9.r, [], 1000⟩ = some [E9_0, E9_1, E9_2, E9_3] := by kernel_rfl
theorem g9 : StateGood Tryz.prog codeN natW 1000 100 wsL lensL TsL pthL ccL rsL ksL TS9 :=
  ⟨tr9, _, v9, by kernel_rfl, (allG_cons (mkG (by kernel_rfl) p9_0) (allG_cons (mkG (by kernel_rfl) p9_1) (allG_cons (mkG (by kernel_rfl) p9_2) (allG_cons (mkG (by kernel_rfl) p9_3) allG_nil))))⟩
theorem v10 : leaves ksL tr10 ⟨TS10.b, TS10.f, TS10.r, [], 1000⟩ = some [E10_0, E10_1, E10_2, E10_3] := by kernel_rfl
theorem g10 : StateGood Tryz.prog codeN natW 1000 100 wsL lensL TsL pthL ccL rsL ksL TS10 :=
  ⟨tr10, _, v10, by kernel_rfl, (allG_cons (mkG (by kernel_rfl) p10_0) (allG_cons (mkG (by kernel_rfl) p10_1) (allG_cons (mkG (by kernel_rfl) p10_2) (allG_cons (mkG (by kernel_rfl) p10_3) allG_nil))))⟩
theorem v11 : leaves ksL tr11 ⟨TS11.b, TS11.f, TS11.r, [], 1000⟩ = some [E11_0, E11_1, E11_2, E11_3] := by kernel_rfl
theorem g11 : StateGood Tryz.prog codeN natW 1000 100 wsL lensL TsL pthL ccL rsL ksL TS11 :=
  ⟨tr11, _, v11, by kernel_rfl, (allG_cons (mkG (by kernel_rfl) p11_0) (allG_cons (mkG (by kernel_rfl) p11_1) (allG_cons (mkG (by kernel_rfl) p11_2) (allG_cons (mkG (by kernel_rfl) p11_3) allG_nil))))⟩
theorem v12 : leaves ksL tr12 ⟨TS12.b, TS12.f, TS12.r, [], 1000⟩ = some [E12_0, E12_1, E12_2, E12_3] := by kernel_rfl
theorem g12 : StateGood Tryz.prog codeN natW 1000 100 wsL lensL TsL pthL ccL rsL ksL TS12 :=
  ⟨tr12, _, v12, by kernel_rfl, (allG_cons (mkG (by kernel_rfl) p12_0) (allG_cons (mkG (by kernel_rfl) p12_1) (allG_cons (mkG (by kernel_rfl) p12_2) (allG_cons (mkG (by kernel_rfl) p12_3) allG_nil))))⟩
theorem v13 : leaves ksL tr13 ⟨TS13.b, TS13.f, TS13.r, [], 1000⟩ = some [E13_0, E13_1, E13_2, E13_3] := by kernel_rfl
theorem g13 : StateGood Tryz.prog codeN natW 1000 100 wsL lensL TsL pthL ccL rsL ksL TS13 :=
  ⟨tr13, _, v13, by kernel_rfl, (allG_cons (mkG (by kernel_rfl) p13_0) (allG_cons (mkG (by kernel_rfl) p13_1) (allG_cons (mkG (by kernel_rfl) p13_2) (allG_cons (mkG (by kernel_rfl) p13_3) allG_nil))))⟩
theorem v14 : leaves ksL tr14 ⟨TS14.b, TS14.f, TS14.r, [], 1000⟩ = some [E14_0, E14_1, E14_2, E14_3] := by kernel_rfl
theorem g14 : StateGood Tryz.prog codeN natW 1000 100 wsL lensL TsL pthL ccL rsL ksL TS14 :=
  ⟨tr14, _, v14, by kernel_rfl, (allG_cons (mkG (by kernel_rfl) p14_0) (allG_cons (mkG (by kernel_rfl) p14_1) (allG_cons (mkG (by kernel_rfl) p14_2) (allG_cons (mkG (by kernel_rfl) p14_3) allG_nil))))⟩
theorem v15 : leaves ksL tr15 ⟨TS15.b, TS15.f, TS15.r, [], 1000⟩ = some [E15_0, E15_1, E15_2, E15_3] := by kernel_rfl
theorem g15 : StateGood Tryz.prog codeN natW 1000 100 wsL lensL TsL pthL ccL rsL ksL TS15 :=
  ⟨tr15, _, v15, by kernel_rfl, (allG_cons (mkG (by kernel_rfl) p15_0) (allG_cons (mkG (by kernel_rfl) p15_1) (allG_cons (mkG (by kernel_rfl) p15_2) (allG_cons (mkG (by kernel_rfl) p15_3) allG_nil))))⟩
theorem v16 : leaves ksL tr16 ⟨TS16.b, TS16.f, TS16.r, [], 1000⟩ = some [E16_0, E16_1, E16_2, E16_3] := by kernel_rfl
theorem g16 : StateGood Tryz.prog codeN natW 1000 100 wsL lensL TsL pthL ccL rsL ksL TS16 :=
  ⟨tr16, _, v16, by kernel_rfl, (allG_cons (mkG (by kernel_rfl) p16_0) (allG_cons (mkG (by kernel_rfl) p16_1) (allG_cons (mkG (by kernel_rfl) p16_2) (allG_cons (mkG (by kernel_rfl) p16_3) allG_nil))))⟩
theorem v17 : leaves ksL tr17 ⟨TS17.b, TS17.f, TS17.r, [], 1000⟩ = some [E17_0, E17_1, E17_2, E17_3] := by kernel_rfl
theorem g17 : StateGood Tryz.prog codeN natW 1000 100 wsL lensL TsL pthL ccL rsL ksL TS17 :=
  ⟨tr17, _, v17, by kernel_rfl, (allG_cons (mkG (by kernel_rfl) p17_0) (allG_cons (mkG (by kernel_rfl) p17_1) (allG_cons (mkG (by kernel_rfl) p17_2) (allG_cons (mkG (by kernel_rfl) p17_3) allG_nil))))⟩
theorem v18 : leaves ksL tr18 ⟨TS18.b, TS18.f, TS18.r, [], 1000⟩ = some [E18_0, E18_1, E18_2, E18_3] := by kernel_rfl
theorem g18 : StateGood Tryz.prog codeN natW 1000 100 wsL lensL TsL pthL ccL rsL ksL TS18 :=
  ⟨tr18, _, v18, by kernel_rfl, (allG_cons (mkG (by kernel_rfl) p18_0) (allG_cons (mkG (by kernel_rfl) p18_1) (allG_cons (mkG (by kernel_rfl) p18_2) (allG_cons (mkG (by kernel_rfl) p18_3) allG_nil))))⟩
theorem v19 : leaves ksL tr19 ⟨TS19.b, TS19.f, TS19.r, [], 1000⟩ = some [E19_0, E19_1, E19_2, E19_3] := by kernel_rfl
theorem g19 : StateGood Tryz.prog codeN natW 1000 100 wsL lensL TsL pthL ccL rsL ksL TS19 :=
  ⟨tr19, _, v19, by kernel_rfl, (allG_cons (mkG (by kernel_rfl) p19_0) (allG_cons (mkG (by kernel_rfl) p19_1) (allG_cons (mkG (by kernel_rfl) p19_2) (allG_cons (mkG (by kernel_rfl) p19_3) allG_nil))))⟩
theorem v20 : leaves ksL tr20 ⟨TS20.b, TS20.f, TS20.r, [], 1000⟩ = some [E20_0, E20_1, E20_2, E20_3] := by kernel_rfl
theorem g20 : StateGood Tryz.prog codeN natW 1000 100 wsL lensL TsL pthL ccL rsL ksL TS20 :=
  ⟨tr20, _, v20, by kernel_rfl, (allG_cons (mkG (by kernel_rfl) p20_0) (allG_cons (mkG (by kernel_rfl) p20_1) (allG_cons (mkG (by kernel_rfl) p20_2) (allG_cons (mkG (by kernel_rfl) p20_3) allG_nil))))⟩
theorem v21 : leaves ksL tr21 ⟨TS21.b, TS21.f, TS21.r, [], 1000⟩ = some [E21_0, E21_1, E21_2, E21_3] := by kernel_rfl
theorem g21 : StateGood Tryz.prog codeN natW 1000 100 wsL lensL TsL pthL ccL rsL ksL TS21 :=
  ⟨tr21, _, v21, by kernel_rfl, (allG_cons (mkG (by kernel_rfl) p21_0) (allG_cons (mkG (by kernel_rfl) p21_1) (allG_cons (mkG (by kernel_rfl) p21_2) (allG_cons (mkG (by kernel_rfl) p21_3) allG_nil))))⟩
theorem v22 : leaves ksL tr22 ⟨TS22.b, TS22.f, TS22.r, [], 1000⟩ = some [E22_0, E22_1, E22_2, E22_3] := by kernel_rfl
theorem g22 : StateGood Tryz.prog codeN natW 1000 100 wsL lensL TsL pthL ccL rsL ksL TS22 :=
  ⟨tr22, _, v22, by kernel_rfl, (allG_cons (mkG (by kernel_rfl) p22_0) (allG_cons (mkG (by kernel_rfl) p22_1) (allG_cons (mkG (by kernel_rfl) p22_2) (allG_cons (mkG (by kernel_rfl) p22_3) allG_nil))))⟩
theorem v23 : leaves ksL tr23 ⟨TS23.b, TS23.f, TS23.r, [], 1000⟩ = some [E23_0, E23_1, E23_2, E23_3] := by kernel_rfl
theorem g23 : StateGood Tryz.prog codeN natW 1000 100 wsL lensL TsL pthL ccL rsL ksL TS23 :=
  ⟨tr23, _, v23, by kernel_rfl, (allG_cons (mkG (by kernel_rfl) p23_0) (allG_cons (mkG (by kernel_rfl) p23_1) (allG_cons (mkG (by kernel_rfl) p23_2) (allG_cons (mkG (by kernel_rfl) p23_3) allG_nil))))⟩
theorem v24 : leaves ksL tr24 ⟨TS24.b, TS24.f, TS24.r, [], 1000⟩ = some [E24_0, E24_1, E24_2, E24_3] := by kernel_rfl
theorem g24 : StateGood Tryz.prog codeN natW 1000 100 wsL lensL TsL pthL ccL rsL ksL TS24 :=
  ⟨tr24, _, v24, by kernel_rfl, (allG_cons (mkG (by kernel_rfl) p24_0) (allG_cons (mkG (by kernel_rfl) p24_1) (allG_cons (mkG (by kernel_rfl) p24_2) (allG_cons (mkG (by kernel_rfl) p24_3) allG_nil))))⟩
theorem v25 : leaves ksL tr25 ⟨TS25.b, TS25.f, TS25.r, [], 1000⟩ = some [E25_0, E25_1, E25_2, E25_3] := by kernel_rfl
theorem g25 : StateGood Tryz.prog codeN natW 1000 100 wsL lensL TsL pthL ccL rsL ksL TS25 :=
  ⟨tr25, _, v25, by kernel_rfl, (allG_cons (mkG (by kernel_rfl) p25_0) (allG_cons (mkG (by kernel_rfl) p25_1) (allG_cons (mkG (by kernel_rfl) p25_2) (allG_cons (mkG (by kernel_rfl) p25_3) allG_nil))))⟩
theorem v26 : leaves ksL tr26 ⟨TS26.b, TS26.f, TS26.r, [], 1000⟩ = some [E26_0, E26_1, E26_2, E26_3] := by kernel_rfl
theorem g26 : StateGood Tryz.prog codeN natW 1000 100 wsL lensL TsL pthL ccL rsL ksL TS26 :=
  ⟨tr26, _, v26, by kernel_rfl, (allG_cons (mkG (by kernel_rfl) p26_0) (allG_cons (mkG (by kernel_rfl) p26_1) (allG_cons (mkG (by kernel_rfl) p26_2) (allG_cons (mkG (by kernel_rfl) p26_3) allG_nil))))⟩
theorem v27 : leaves ksL tr27 ⟨TS27.b, TS27.f, TS27.r, [], 1000⟩ = some [E27_0, E27_1, E27_2, E27_3] := by kernel_rfl
theorem g27 : StateGood Tryz.prog codeN natW 1000 100 wsL lensL TsL pthL ccL rsL ksL TS27 :=
  ⟨tr27, _, v27, by kernel_rfl, (allG_cons (mkG (by kernel_rfl) p27_0) (allG_cons (mkG (by kernel_rfl) p27_1) (allG_cons (mkG (by kernel_rfl) p27_2) (allG_cons (mkG (by kernel_rfl) p27_3) allG_nil))))⟩
theorem v28 : leaves ksL tr28 ⟨TS28.b, TS28.f, TS28.r, [], 1000⟩ = some [E28_0, E28_1, E28_2, E28_3] := by kernel_rfl
theorem g28 : StateGood Tryz.prog codeN natW 1000 100 wsL lensL TsL pthL ccL rsL ksL TS28 :=
  ⟨tr28, _, v28, by kernel_rfl, (allG_cons (mkG (by kernel_rfl) p28_0) (allG_cons (mkG (by kernel_rfl) p28_1) (allG_cons (mkG (by kernel_rfl) p28_2) (allG_cons (mkG (by kernel_rfl) p28_3) allG_nil))))⟩
theorem v29 : leaves ksL tr29 ⟨TS29.b, TS29.f, TS29.r, [], 1000⟩ = some [E29_0, E29_1, E29_2, E29_3] := by kernel_rfl
theorem g29 : StateGood Tryz.prog codeN natW 1000 100 wsL lensL TsL pthL ccL rsL ksL TS29 :=
  ⟨tr29, _, v29, by kernel_rfl, (allG_cons (mkG (by kernel_rfl) p29_0) (allG_cons (mkG (by kernel_rfl) p29_1) (allG_cons (mkG (by kernel_rfl) p29_2) (allG_cons (mkG (by kernel_rfl) p29_3) allG_nil))))⟩
theorem v30 : leaves ksL tr30 ⟨TS30.b, TS30.f, TS30.r, [], 1000⟩ = some [E30_0, E30_1, E30_2, E30_3] := by kernel_rfl
theorem g30 : StateGood Tryz.prog codeN natW 1000 100 wsL lensL TsL pthL ccL rsL ksL TS30 :=
  ⟨tr30, _, v30, by kernel_rfl, (allG_cons (mkG (by kernel_rfl) p30_0) (allG_cons (mkG (by kernel_rfl) p30_1) (allG_cons (mkG (by kernel_rfl) p30_2) (allG_cons (mkG (by kernel_rfl) p30_3) allG_nil))))⟩
theorem v31 : leaves ksL tr31 ⟨TS31.b, TS31.f, TS31.r, [], 1000⟩ = some [E31_0, E31_1, E31_2, E31_3] := by kernel_rfl
theorem g31 : StateGood Tryz.prog codeN natW 1000 100 wsL lensL TsL pthL ccL rsL ksL TS31 :=
  ⟨tr31, _, v31, by kernel_rfl, (allG_cons (mkG (by kernel_rfl) p31_0) (allG_cons (mkG (by kernel_rfl) p31_1) (allG_cons (mkG (by kernel_rfl) p31_2) (allG_cons (mkG (by kernel_rfl) p31_3) allG_nil))))⟩
theorem all : AllS (StateGood Tryz.prog codeN natW 1000 100 wsL lensL TsL pthL ccL rsL ksL) TsL := (allS_cons g0 (allS_cons g1 (allS_cons g2 (allS_cons g3 (allS_cons g4 (allS_cons g5 (allS_cons g6 (allS_cons g7 (allS_cons g8 (allS_cons g9 (allS_cons g10 (allS_cons g11 (allS_cons g12 (allS_cons g13 (allS_cons g14 (allS_cons g15 (allS_cons g16 (allS_cons g17 (allS_cons g18 (allS_cons g19 (allS_cons g20 (allS_cons g21 (allS_cons g22 (allS_cons g23 (allS_cons g24 (allS_cons g25 (allS_cons g26 (allS_cons g27 (allS_cons g28 (allS_cons g29 (allS_cons g30 (allS_cons g31 allS_nil))))))))))))))))))))))))))))))))
theorem vS : leaves ksL trS eS = some [S0, S1, S2, S3, S4, S5, S6, S7, S8, S9, S10, S11, S12, S13, S14, S15, S16, S17, S18, S19, S20, S21, S22, S23, S24, S25, S26, S27, S28, S29, S30, S31] := by kernel_rfl
theorem allSt : AllG SG [S0, S1, S2, S3, S4, S5, S6, S7, S8, S9, S10, S11, S12, S13, S14, S15, S16, S17, S18, S19, S20, S21, S22, S23, S24, S25, S26, S27, S28, S29, S30, S31] := (allG_cons ⟨_, q0⟩ (allG_cons ⟨_, q1⟩ (allG_cons ⟨_, q2⟩ (allG_cons ⟨_, q3⟩ (allG_cons ⟨_, q4⟩ (allG_cons ⟨_, q5⟩ (allG_cons ⟨_, q6⟩ (allG_cons ⟨_, q7⟩ (allG_cons ⟨_, q8⟩ (allG_cons ⟨_, q9⟩ (allG_cons ⟨_, q10⟩ (allG_cons ⟨_, q11⟩ (allG_cons ⟨_, q12⟩ (allG_cons ⟨_, q13⟩ (allG_cons ⟨_, q14⟩ (allG_cons ⟨_, q15⟩ (allG_cons ⟨_, q16⟩ (allG_cons ⟨_, q17⟩ (allG_cons ⟨_, q18⟩ (allG_cons ⟨_, q19⟩ (allG_cons ⟨_, q20⟩ (allG_cons ⟨_, q21⟩ (allG_cons ⟨_, q22⟩ (allG_cons ⟨_, q23⟩ (allG_cons ⟨_, q24⟩ (allG_cons ⟨_, q25⟩ (allG_cons ⟨_, q26⟩ (allG_cons ⟨_, q27⟩ (allG_cons ⟨_, q28⟩ (allG_cons ⟨_, q29⟩ (allG_cons ⟨_, q30⟩ (allG_cons ⟨_, q31⟩ allG_nil))))))))))))))))))))))))))))))))
theorem winis (W : World) (w0 : Win) (v0 : Value) (hk0 : w0.key = wk0) (hz0 : w0.esz = 1) (ha0 : IntArg W v0 w0) (σ : Nat → Int) (hl : LensAre [w0] lensL σ) : WinIs [w0] W σ ksL := by
  have hf0 : findW [w0] wk0 = some w0 := by
    show (match decide (w0.key = wk0) with | true => some w0 | false => findW [] wk0) = some w0
    rw [hk0]
    rfl
  refine ⟨fun j k hj => ?_⟩
  match j, hj with
  | 0, hj =>
    obtain rfl : (wk0, true) = k := Option.some.inj hj
    exact ⟨w0, v0, by rw [hk0]; exact hf0, hk0, hz0, len_of hl (by simp [lensL]) hf0, ha0⟩
  | n + 1, hj => cases hj
theorem passes (A : Key → Option Value) (W : World) (w0 : Win) (v0 : Value) (hk0 : w0.key = wk0) (hz0 : w0.esz = 1) (ha0 : IntArg W v0 w0) (hws : wsOf [w0] = wsL) : Passes Tryz.prog codeN natW 1000 100 [w0] lensL A TsL pthL ccL rsL W :=
  passes_all hws (winis W w0 v0 hk0 hz0 ha0) all
end Go.Ev
