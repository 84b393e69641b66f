/- Each pass of the loop is right: by its states. -/
import Derived.Test.YtpaliddghngcmaaGreatDoorRun0
import Derived.Test.YtpaliddghngcmaaGreatDoorRun1
import Derived.Test.YtpaliddghngcmaaGreatDoorRun2
import Derived.Test.YtpaliddghngcmaaGreatDoorRun3
import Derived.Test.YtpaliddghngcmaaGreatDoorRun4
import Derived.Test.YtpaliddghngcmaaGreatDoorRun5
namespace Go.Ev
open Go.Proofs
set_option maxRecDepth 1000000
set_option linter.unusedVariables false
theorem v0 : leaves ksL tr0 ⟨TS0.b, TS0.f, TS0.r, [], 1000⟩ = some [nthLf (Lv tr0 TS0) 0, nthLf (Lv tr0 TS0) 1, nthLf (Lv tr0 TS0) 2] := by kernel_rfl
theorem g0 : StateGoodC Tryz.prog codeN natW 1000 100 wsL lensL TsL pthL preL qL ccL rsL ksL TS0 :=
  ⟨tr0, _, v0, by kernel_rfl, (allG_cons (mkGo (by kernel_rfl) p0_0) (allG_cons (mkGo (by kernel_rfl) p0_1) (allG_cons (mkGo (by kernel_rfl) p0_2) allG_nil)))⟩
theorem v1 : leaves ksL tr1 ⟨TS1.b, TS1.f, TS1.r, [], 1000⟩ = some [nthLf (Lv tr1 TS1) 0, nthLf (Lv tr1 TS1) 1, nthLf (Lv tr1 TS1) 2, nthLf (Lv tr1 TS1) 3] := by kernel_rfl
theorem g1 : StateGoodC Tryz.prog codeN natW 1000 100 wsL lensL TsL pthL preL qL ccL rsL ksL TS1 :=
  ⟨tr1, _, v1, by kernel_rfl, (allG_cons (mkGo (by kernel_rfl) p1_0) (allG_cons (mkGo (by kernel_rfl) p1_1) (allG_cons (mkGo (by kernel_rfl) p1_2) (allG_cons (mkGo (by kernel_rfl) p1_3) allG_nil))))⟩
theorem v2 : leaves ksL tr2 ⟨TS2.b, TS2.f, TS2.r, [], 1000⟩ = some [nthLf (Lv tr2 TS2) 0, nthLf (Lv tr2 TS2) 1, nthLf (Lv tr2 TS2) 2, nthLf (Lv tr2 TS2) 3, nthLf (Lv tr2 TS2) 4] := by kernel_rfl
theorem g2 : StateGoodC Tryz.prog codeN natW 1000 100 wsL lensL TsL pthL preL qL ccL rsL ksL TS2 :=
  ⟨tr2, _, v2, by kernel_rfl, (allG_cons (mkGo (by kernel_rfl) p2_0) (allG_cons (mkGo (by kernel_rfl) p2_1) (allG_cons (mkGo (by kernel_rfl) p2_2) (allG_cons (mkGo (by kernel_rfl) p2_3) (allG_cons (mkGo (by kernel_rfl) p2_4) allG_nil)))))⟩
theorem v3 : leaves ksL tr3 ⟨TS3.b, TS3.f, TS3.r, [], 1000⟩ = some [nthLf (Lv tr3 TS3) 0, nthLf (Lv tr3 TS3) 1, nthLf (Lv tr3 TS3) 2, nthLf (Lv tr3 TS3) 3, nthLf (Lv tr3 TS3) 4, nthLf (Lv tr3 TS3) 5] := by kernel_rfl
theorem g3 : StateGoodC Tryz.prog codeN natW 1000 100 wsL lensL TsL pthL preL qL ccL rsL ksL TS3 :=
  ⟨tr3, _, v3, by kernel_rfl, (allG_cons (mkGo (by kernel_rfl) p3_0) (allG_cons (mkGo (by kernel_rfl) p3_1) (allG_cons (mkGo (by kernel_rfl) p3_2) (allG_cons (mkGo (by kernel_rfl) p3_3) (allG_cons (mkGo (by kernel_rfl) p3_4) (allG_cons (mkGo (by kernel_rfl) p3_5) allG_nil))))))⟩
theorem v4 : leaves ksL tr0 ⟨TS4.b, TS4.f, TS4.r, [], 1000⟩ = some [nthLf (Lv tr0 TS4) 0, nthLf (Lv tr0 TS4) 1, nthLf (Lv tr0 TS4) 2] := by kernel_rfl
theorem g4 : StateGoodC Tryz.prog codeN natW 1000 100 wsL lensL TsL pthL preL qL ccL rsL ksL TS4 :=
  ⟨tr0, _, v4, by kernel_rfl, (allG_cons (mkGo (by kernel_rfl) p4_0) (allG_cons (mkGo (by kernel_rfl) p4_1) (allG_cons (mkGo (by kernel_rfl) p4_2) allG_nil)))⟩
theorem v5 : leaves ksL tr0 ⟨TS5.b, TS5.f, TS5.r, [], 1000⟩ = some [nthLf (Lv tr0 TS5) 0, nthLf (Lv tr0 TS5) 1, nthLf (Lv tr0 TS5) 2] := by kernel_rfl
theorem g5 : StateGoodC Tryz.prog codeN natW 1000 100 wsL lensL TsL pthL preL qL ccL rsL ksL TS5 :=
  ⟨tr0, _, v5, by kernel_rfl, (allG_cons (mkGo (by kernel_rfl) p5_0) (allG_cons (mkGo (by kernel_rfl) p5_1) (allG_cons (mkGo (by kernel_rfl) p5_2) allG_nil)))⟩
theorem v6 : leaves ksL tr1 ⟨TS6.b, TS6.f, TS6.r, [], 1000⟩ = some [nthLf (Lv tr1 TS6) 0, nthLf (Lv tr1 TS6) 1, nthLf (Lv tr1 TS6) 2, nthLf (Lv tr1 TS6) 3] := by kernel_rfl
theorem g6 : StateGoodC Tryz.prog codeN natW 1000 100 wsL lensL TsL pthL preL qL ccL rsL ksL TS6 :=
  ⟨tr1, _, v6, by kernel_rfl, (allG_cons (mkGo (by kernel_rfl) p6_0) (allG_cons (mkGo (by kernel_rfl) p6_1) (allG_cons (mkGo (by kernel_rfl) p6_2) (allG_cons (mkGo (by kernel_rfl) p6_3) allG_nil))))⟩
theorem v7 : leaves ksL tr1 ⟨TS7.b, TS7.f, TS7.r, [], 1000⟩ = some [nthLf (Lv tr1 TS7) 0, nthLf (Lv tr1 TS7) 1, nthLf (Lv tr1 TS7) 2, nthLf (Lv tr1 TS7) 3] := by kernel_rfl
theorem g7 : StateGoodC Tryz.prog codeN natW 1000 100 wsL lensL TsL pthL preL qL ccL rsL ksL TS7 :=
  ⟨tr1, _, v7, by kernel_rfl, (allG_cons (mkGo (by kernel_rfl) p7_0) (allG_cons (mkGo (by kernel_rfl) p7_1) (allG_cons (mkGo (by kernel_rfl) p7_2) (allG_cons (mkGo (by kernel_rfl) p7_3) allG_nil))))⟩
theorem v8 : leaves ksL tr1 ⟨TS8.b, TS8.f, TS8.r, [], 1000⟩ = some [nthLf (Lv tr1 TS8) 0, nthLf (Lv tr1 TS8) 1, nthLf (Lv tr1 TS8) 2, nthLf (Lv tr1 TS8) 3] := by kernel_rfl
theorem g8 : StateGoodC Tryz.prog codeN natW 1000 100 wsL lensL TsL pthL preL qL ccL rsL ksL TS8 :=
  ⟨tr1, _, v8, by kernel_rfl, (allG_cons (mkGo (by kernel_rfl) p8_0) (allG_cons (mkGo (by kernel_rfl) p8_1) (allG_cons (mkGo (by kernel_rfl) p8_2) (allG_cons (mkGo (by kernel_rfl) p8_3) allG_nil))))⟩
theorem v9 : leaves ksL tr2 ⟨TS9.b, TS9.f, TS9.r, [], 1000⟩ = some [nthLf (Lv tr2 TS9) 0, nthLf (Lv tr2 TS9) 1, nthLf (Lv tr2 TS9) 2, nthLf (Lv tr2 TS9) 3, nthLf (Lv tr2 TS9) 4] := by kernel_rfl
theorem g9 : StateGoodC Tryz.prog codeN natW 1000 100 wsL lensL TsL pthL preL qL ccL rsL ksL TS9 :=
  ⟨tr2, _, v9, by kernel_rfl, (allG_cons (mkGo (by kernel_rfl) p9_0) (allG_cons (mkGo (by kernel_rfl) p9_1) (allG_cons (mkGo (by kernel_rfl) p9_2) (allG_cons (mkGo (by kernel_rfl) p9_3) (allG_cons (mkGo (by kernel_rfl) p9_4) allG_nil)))))⟩
theorem v10 : leaves ksL tr2 ⟨TS10.b, TS10.f, TS10.r, [], 1000⟩ = some [nthLf (Lv tr2 TS10) 0, nthLf (Lv tr2 TS10) 1, nthLf (Lv tr2 TS10) 2, nthLf (Lv tr2 TS10) 3, nthLf (Lv tr2 TS10) 4] := by kernel_rfl
theorem g10 : StateGoodC Tryz.prog codeN natW 1000 100 wsL lensL TsL pthL preL qL ccL rsL ksL TS10 :=
  ⟨tr2, _, v10, by kernel_rfl, (allG_cons (mkGo (by kernel_rfl) p10_0) (allG_cons (mkGo (by kernel_rfl) p10_1) (allG_cons (mkGo (by kernel_rfl) p10_2) (allG_cons (mkGo (by kernel_rfl) p10_3) (allG_cons (mkGo (by kernel_rfl) p10_4) allG_nil)))))⟩
theorem v11 : leaves ksL tr2 ⟨TS11.b, TS11.f, TS11.r, [], 1000⟩ = some [nthLf (Lv tr2 TS11) 0, nthLf (Lv tr2 TS11) 1, nthLf (Lv tr2 TS11) 2, nthLf (Lv tr2 TS11) 3, nthLf (Lv tr2 TS11) 4] := by kernel_rfl
theorem g11 : StateGoodC Tryz.prog codeN natW 1000 100 wsL lensL TsL pthL preL qL ccL rsL ksL TS11 :=
  ⟨tr2, _, v11, by kernel_rfl, (allG_cons (mkGo (by kernel_rfl) p11_0) (allG_cons (mkGo (by kernel_rfl) p11_1) (allG_cons (mkGo (by kernel_rfl) p11_2) (allG_cons (mkGo (by kernel_rfl) p11_3) (allG_cons (mkGo (by kernel_rfl) p11_4) allG_nil)))))⟩
theorem v12 : leaves ksL tr2 ⟨TS12.b, TS12.f, TS12.r, [], 1000⟩ = some [nthLf (Lv tr2 TS12) 0, nthLf (Lv tr2 TS12) 1, nthLf (Lv tr2 TS12) 2, nthLf (Lv tr2 TS12) 3, nthLf (Lv tr2 TS12) 4] := by kernel_rfl
theorem g12 : StateGoodC Tryz.prog codeN natW 1000 100 wsL lensL TsL pthL preL qL ccL rsL ksL TS12 :=
  ⟨tr2, _, v12, by kernel_rfl, (allG_cons (mkGo (by kernel_rfl) p12_0) (allG_cons (mkGo (by kernel_rfl) p12_1) (allG_cons (mkGo (by kernel_rfl) p12_2) (allG_cons (mkGo (by kernel_rfl) p12_3) (allG_cons (mkGo (by kernel_rfl) p12_4) allG_nil)))))⟩
theorem v13 : leaves ksL tr3 ⟨TS13.b, TS13.f, TS13.r, [], 1000⟩ = some [nthLf (Lv tr3 TS13) 0, nthLf (Lv tr3 TS13) 1, nthLf (Lv tr3 TS13) 2, nthLf (Lv tr3 TS13) 3, nthLf (Lv tr3 TS13) 4, nthLf (Lv tr3 TS13) 5] := by kernel_rfl
theorem g13 : StateGoodC Tryz.prog codeN natW 1000 100 wsL lensL TsL pthL preL qL ccL rsL ksL TS13 :=
  ⟨tr3, _, v13, by kernel_rfl, (allG_cons (mkGo (by kernel_rfl) p13_0) (allG_cons (mkGo (by kernel_rfl) p13_1) (allG_cons (mkGo (by kernel_rfl) p13_2) (allG_cons (mkGo (by kernel_rfl) p13_3) (allG_cons (mkGo (by kernel_rfl) p13_4) (allG_cons (mkGo (by kernel_rfl) p13_5) allG_nil))))))⟩
theorem v14 : leaves ksL tr3 ⟨TS14.b, TS14.f, TS14.r, [], 1000⟩ = some [nthLf (Lv tr3 TS14) 0, nthLf (Lv tr3 TS14) 1, nthLf (Lv tr3 TS14) 2, nthLf (Lv tr3 TS14) 3, nthLf (Lv tr3 TS14) 4, nthLf (Lv tr3 TS14) 5] := by kernel_rfl
theorem g14 : StateGoodC Tryz.prog codeN natW 1000 100 wsL lensL TsL pthL preL qL ccL rsL ksL TS14 :=
  ⟨tr3, _, v14, by kernel_rfl, (allG_cons (mkGo (by kernel_rfl) p14_0) (allG_cons (mkGo (by kernel_rfl) p14_1) (allG_cons (mkGo (by kernel_rfl) p14_2) (allG_cons (mkGo (by kernel_rfl) p14_3) (allG_cons (mkGo (by kernel_rfl) p14_4) (allG_cons (mkGo (by kernel_rfl) p14_5) allG_nil))))))⟩
theorem v15 : leaves ksL tr3 ⟨TS15.b, TS15.f, TS15.r, [], 1000⟩ = some [nthLf (Lv tr3 TS15) 0, nthLf (Lv tr3 TS15) 1, nthLf (Lv tr3 TS15) 2, nthLf (Lv tr3 TS15) 3, nthLf (Lv tr3 TS15) 4, nthLf (Lv tr3 TS15) 5] := by kernel_rfl
theorem g15 : StateGoodC Tryz.prog codeN natW 1000 100 wsL lensL TsL pthL preL qL ccL rsL ksL TS15 :=
  ⟨tr3, _, v15, by kernel_rfl, (allG_cons (mkGo (by kernel_rfl) p15_0) (allG_cons (mkGo (by kernel_rfl) p15_1) (allG_cons (mkGo (by kernel_rfl) p15_2) (allG_cons (mkGo (by kernel_rfl) p15_3) (allG_cons (mkGo (by kernel_rfl) p15_4) (allG_cons (mkGo (by kernel_rfl) p15_5) allG_nil))))))⟩
theorem v16 : leaves ksL tr3 ⟨TS16.b, TS16.f, TS16.r, [], 1000⟩ = some [nthLf (Lv tr3 TS16) 0, nthLf (Lv tr3 TS16) 1, nthLf (Lv tr3 TS16) 2, nthLf (Lv tr3 TS16) 3, nthLf (Lv tr3 TS16) 4, nthLf (Lv tr3 TS16) 5] := by kernel_rfl
theorem g16 : StateGoodC Tryz.prog codeN natW 1000 100 wsL lensL TsL pthL preL qL ccL rsL ksL TS16 :=
  ⟨tr3, _, v16, by kernel_rfl, (allG_cons (mkGo (by kernel_rfl) p16_0) (allG_cons (mkGo (by kernel_rfl) p16_1) (allG_cons (mkGo (by kernel_rfl) p16_2) (allG_cons (mkGo (by kernel_rfl) p16_3) (allG_cons (mkGo (by kernel_rfl) p16_4) (allG_cons (mkGo (by kernel_rfl) p16_5) allG_nil))))))⟩
theorem v17 : leaves ksL tr3 ⟨TS17.b, TS17.f, TS17.r, [], 1000⟩ = some [nthLf (Lv tr3 TS17) 0, nthLf (Lv tr3 TS17) 1, nthLf (Lv tr3 TS17) 2, nthLf (Lv tr3 TS17) 3, nthLf (Lv tr3 TS17) 4, nthLf (Lv tr3 TS17) 5] := by kernel_rfl
theorem g17 : StateGoodC Tryz.prog codeN natW 1000 100 wsL lensL TsL pthL preL qL ccL rsL ksL TS17 :=
  ⟨tr3, _, v17, by kernel_rfl, (allG_cons (mkGo (by kernel_rfl) p17_0) (allG_cons (mkGo (by kernel_rfl) p17_1) (allG_cons (mkGo (by kernel_rfl) p17_2) (allG_cons (mkGo (by kernel_rfl) p17_3) (allG_cons (mkGo (by kernel_rfl) p17_4) (allG_cons (mkGo (by kernel_rfl) p17_5) allG_nil))))))⟩
theorem v18 : leaves ksL tr1 ⟨TS18.b, TS18.f, TS18.r, [], 1000⟩ = some [nthLf (Lv tr1 TS18) 0, nthLf (Lv tr1 TS18) 1, nthLf (Lv tr1 TS18) 2, nthLf (Lv tr1 TS18) 3] := by kernel_rfl
theorem g18 : StateGoodC Tryz.prog codeN natW 1000 100 wsL lensL TsL pthL preL qL ccL rsL ksL TS18 :=
  ⟨tr1, _, v18, by kernel_rfl, (allG_cons (mkGo (by kernel_rfl) p18_0) (allG_cons (mkGo (by kernel_rfl) p18_1) (allG_cons (mkGo (by kernel_rfl) p18_2) (allG_cons (mkGo (by kernel_rfl) p18_3) allG_nil))))⟩
theorem v19 : leaves ksL tr2 ⟨TS19.b, TS19.f, TS19.r, [], 1000⟩ = some [nthLf (Lv tr2 TS19) 0, nthLf (Lv tr2 TS19) 1, nthLf (Lv tr2 TS19) 2, nthLf (Lv tr2 TS19) 3, nthLf (Lv tr2 TS19) 4] := by kernel_rfl
theorem g19 : StateGoodC Tryz.prog codeN natW 1000 100 wsL lensL TsL pthL preL qL ccL rsL ksL TS19 :=
  ⟨tr2, _, v19, by kernel_rfl, (allG_cons (mkGo (by kernel_rfl) p19_0) (allG_cons (mkGo (by kernel_rfl) p19_1) (allG_cons (mkGo (by kernel_rfl) p19_2) (allG_cons (mkGo (by kernel_rfl) p19_3) (allG_cons (mkGo (by kernel_rfl) p19_4) allG_nil)))))⟩
theorem v20 : leaves ksL tr2 ⟨TS20.b, TS20.f, TS20.r, [], 1000⟩ = some [nthLf (Lv tr2 TS20) 0, nthLf (Lv tr2 TS20) 1, nthLf (Lv tr2 TS20) 2, nthLf (Lv tr2 TS20) 3, nthLf (Lv tr2 TS20) 4] := by kernel_rfl
theorem g20 : StateGoodC Tryz.prog codeN natW 1000 100 wsL lensL TsL pthL preL qL ccL rsL ksL TS20 :=
  ⟨tr2, _, v20, by kernel_rfl, (allG_cons (mkGo (by kernel_rfl) p20_0) (allG_cons (mkGo (by kernel_rfl) p20_1) (allG_cons (mkGo (by kernel_rfl) p20_2) (allG_cons (mkGo (by kernel_rfl) p20_3) (allG_cons (mkGo (by kernel_rfl) p20_4) allG_nil)))))⟩
theorem v21 : leaves ksL tr2 ⟨TS21.b, TS21.f, TS21.r, [], 1000⟩ = some [nthLf (Lv tr2 TS21) 0, nthLf (Lv tr2 TS21) 1, nthLf (Lv tr2 TS21) 2, nthLf (Lv tr2 TS21) 3, nthLf (Lv tr2 TS21) 4] := by kernel_rfl
theorem g21 : StateGoodC Tryz.prog codeN natW 1000 100 wsL lensL TsL pthL preL qL ccL rsL ksL TS21 :=
  ⟨tr2, _, v21, by kernel_rfl, (allG_cons (mkGo (by kernel_rfl) p21_0) (allG_cons (mkGo (by kernel_rfl) p21_1) (allG_cons (mkGo (by kernel_rfl) p21_2) (allG_cons (mkGo (by kernel_rfl) p21_3) (allG_cons (mkGo (by kernel_rfl) p21_4) allG_nil)))))⟩
theorem v22 : leaves ksL tr3 ⟨TS22.b, TS22.f, TS22.r, [], 1000⟩ = some [nthLf (Lv tr3 TS22) 0, nthLf (Lv tr3 TS22) 1, nthLf (Lv tr3 TS22) 2, nthLf (Lv tr3 TS22) 3, nthLf (Lv tr3 TS22) 4, nthLf (Lv tr3 TS22) 5] := by kernel_rfl
theorem g22 : StateGoodC Tryz.prog codeN natW 1000 100 wsL lensL TsL pthL preL qL ccL rsL ksL TS22 :=
  ⟨tr3, _, v22, by kernel_rfl, (allG_cons (mkGo (by kernel_rfl) p22_0) (allG_cons (mkGo (by kernel_rfl) p22_1) (allG_cons (mkGo (by kernel_rfl) p22_2) (allG_cons (mkGo (by kernel_rfl) p22_3) (allG_cons (mkGo (by kernel_rfl) p22_4) (allG_cons (mkGo (by kernel_rfl) p22_5) allG_nil))))))⟩
theorem v23 : leaves ksL tr3 ⟨TS23.b, TS23.f, TS23.r, [], 1000⟩ = some [nthLf (Lv tr3 TS23) 0, nthLf (Lv tr3 TS23) 1, nthLf (Lv tr3 TS23) 2, nthLf (Lv tr3 TS23) 3, nthLf (Lv tr3 TS23) 4, nthLf (Lv tr3 TS23) 5] := by kernel_rfl
theorem g23 : StateGoodC Tryz.prog codeN natW 1000 100 wsL lensL TsL pthL preL qL ccL rsL ksL TS23 :=
  ⟨tr3, _, v23, by kernel_rfl, (allG_cons (mkGo (by kernel_rfl) p23_0) (allG_cons (mkGo (by kernel_rfl) p23_1) (allG_cons (mkGo (by kernel_rfl) p23_2) (allG_cons (mkGo (by kernel_rfl) p23_3) (allG_cons (mkGo (by kernel_rfl) p23_4) (allG_cons (mkGo (by kernel_rfl) p23_5) allG_nil))))))⟩
theorem v24 : leaves ksL tr3 ⟨TS24.b, TS24.f, TS24.r, [], 1000⟩ = some [nthLf (Lv tr3 TS24) 0, nthLf (Lv tr3 TS24) 1, nthLf (Lv tr3 TS24) 2, nthLf (Lv tr3 TS24) 3, nthLf (Lv tr3 TS24) 4, nthLf (Lv tr3 TS24) 5] := by kernel_rfl
theorem g24 : StateGoodC Tryz.prog codeN natW 1000 100 wsL lensL TsL pthL preL qL ccL rsL ksL TS24 :=
  ⟨tr3, _, v24, by kernel_rfl, (allG_cons (mkGo (by kernel_rfl) p24_0) (allG_cons (mkGo (by kernel_rfl) p24_1) (allG_cons (mkGo (by kernel_rfl) p24_2) (allG_cons (mkGo (by kernel_rfl) p24_3) (allG_cons (mkGo (by kernel_rfl) p24_4) (allG_cons (mkGo (by kernel_rfl) p24_5) allG_nil))))))⟩
theorem v25 : leaves ksL tr3 ⟨TS25.b, TS25.f, TS25.r, [], 1000⟩ = some [nthLf (Lv tr3 TS25) 0, nthLf (Lv tr3 TS25) 1, nthLf (Lv tr3 TS25) 2, nthLf (Lv tr3 TS25) 3, nthLf (Lv tr3 TS25) 4, nthLf (Lv tr3 TS25) 5] := by kernel_rfl
theorem g25 : StateGoodC Tryz.prog codeN natW 1000 100 wsL lensL TsL pthL preL qL ccL rsL ksL TS25 :=
  ⟨tr3, _, v25, by kernel_rfl, (allG_cons (mkGo (by kernel_rfl) p25_0) (allG_cons (mkGo (by kernel_rfl) p25_1) (allG_cons (mkGo (by kernel_rfl) p25_2) (allG_cons (mkGo (by kernel_rfl) p25_3) (allG_cons (mkGo (by kernel_rfl) p25_4) (allG_cons (mkGo (by kernel_rfl) p25_5) allG_nil))))))⟩
theorem v26 : leaves ksL tr3 ⟨TS26.b, TS26.f, TS26.r, [], 1000⟩ = some [nthLf (Lv tr3 TS26) 0, nthLf (Lv tr3 TS26) 1, nthLf (Lv tr3 TS26) 2, nthLf (Lv tr3 TS26) 3, nthLf (Lv tr3 TS26) 4, nthLf (Lv tr3 TS26) 5] := by kernel_rfl
theorem g26 : StateGoodC Tryz.prog codeN natW 1000 100 wsL lensL TsL pthL preL qL ccL rsL ksL TS26 :=
  ⟨tr3, _, v26, by kernel_rfl, (allG_cons (mkGo (by kernel_rfl) p26_0) (allG_cons (mkGo (by kernel_rfl) p26_1) (allG_cons (mkGo (by kernel_rfl) p26_2) (allG_cons (mkGo (by kernel_rfl) p26_3) (allG_cons (mkGo (by kernel_rfl) p26_4) (allG_cons (mkGo (by kernel_rfl) p26_5) allG_nil))))))⟩
theorem v27 : leaves ksL tr3 ⟨TS27.b, TS27.f, TS27.r, [], 1000⟩ = some [nthLf (Lv tr3 TS27) 0, nthLf (Lv tr3 TS27) 1, nthLf (Lv tr3 TS27) 2, nthLf (Lv tr3 TS27) 3, nthLf (Lv tr3 TS27) 4, nthLf (Lv tr3 TS27) 5] := by kernel_rfl
theorem g27 : StateGoodC Tryz.prog codeN natW 1000 100 wsL lensL TsL pthL preL qL ccL rsL ksL TS27 :=
  ⟨tr3, _, v27, by kernel_rfl, (allG_cons (mkGo (by kernel_rfl) p27_0) (allG_cons (mkGo (by kernel_rfl) p27_1) (allG_cons (mkGo (by kernel_rfl) p27_2) (allG_cons (mkGo (by kernel_rfl) p27_3) (allG_cons (mkGo (by kernel_rfl) p27_4) (allG_cons (mkGo (by kernel_rfl) p27_5) allG_nil))))))⟩
theorem v28 : leaves ksL tr2 ⟨TS28.b, TS28.f, TS28.r, [], 1000⟩ = some [nthLf (Lv tr2 TS28) 0, nthLf (Lv tr2 TS28) 1, nthLf (Lv tr2 TS28) 2, nthLf (Lv tr2 TS28) 3, nthLf (Lv tr2 TS28) 4] := by kernel_rfl
theorem g28 : StateGoodC Tryz.prog codeN natW 1000 100 wsL lensL TsL pthL preL qL ccL rsL ksL TS28 :=
  ⟨tr2, _, v28, by kernel_rfl, (allG_cons (mkGo (by kernel_rfl) p28_0) (allG_cons (mkGo (by kernel_rfl) p28_1) (allG_cons (mkGo (by kernel_rfl) p28_2) (allG_cons (mkGo (by kernel_rfl) p28_3) (allG_cons (mkGo (by kernel_rfl) p28_4) allG_nil)))))⟩
theorem v29 : leaves ksL tr3 ⟨TS29.b, TS29.f, TS29.r, [], 1000⟩ = some [nthLf (Lv tr3 TS29) 0, nthLf (Lv tr3 TS29) 1, nthLf (Lv tr3 TS29) 2, nthLf (Lv tr3 TS29) 3, nthLf (Lv tr3 TS29) 4, nthLf (Lv tr3 TS29) 5] := by kernel_rfl
theorem g29 : StateGoodC Tryz.prog codeN natW 1000 100 wsL lensL TsL pthL preL qL ccL rsL ksL TS29 :=
  ⟨tr3, _, v29, by kernel_rfl, (allG_cons (mkGo (by kernel_rfl) p29_0) (allG_cons (mkGo (by kernel_rfl) p29_1) (allG_cons (mkGo (by kernel_rfl) p29_2) (allG_cons (mkGo (by kernel_rfl) p29_3) (allG_cons (mkGo (by kernel_rfl) p29_4) (allG_cons (mkGo (by kernel_rfl) p29_5) allG_nil))))))⟩
theorem v30 : leaves ksL tr3 ⟨TS30.b, TS30.f, TS30.r, [], 1000⟩ = some [nthLf (Lv tr3 TS30) 0, nthLf (Lv tr3 TS30) 1, nthLf (Lv tr3 TS30) 2, nthLf (Lv tr3 TS30) 3, nthLf (Lv tr3 TS30) 4, nthLf (Lv tr3 TS30) 5] := by kernel_rfl
theorem g30 : StateGoodC Tryz.prog codeN natW 1000 100 wsL lensL TsL pthL preL qL ccL rsL ksL TS30 :=
  ⟨tr3, _, v30, by kernel_rfl, (allG_cons (mkGo (by kernel_rfl) p30_0) (allG_cons (mkGo (by kernel_rfl) p30_1) (allG_cons (mkGo (by kernel_rfl) p30_2) (allG_cons (mkGo (by kernel_rfl) p30_3) (allG_cons (mkGo (by kernel_rfl) p30_4) (allG_cons (mkGo (by kernel_rfl) p30_5) allG_nil))))))⟩
theorem v31 : leaves ksL tr3 ⟨TS31.b, TS31.f, TS31.r, [], 1000⟩ = some [nthLf (Lv tr3 TS31) 0, nthLf (Lv tr3 TS31) 1, nthLf (Lv tr3 TS31) 2, nthLf (Lv tr3 TS31) 3, nthLf (Lv tr3 TS31) 4, nthLf (Lv tr3 TS31) 5] := by kernel_rfl
theorem g31 : StateGoodC Tryz.prog codeN natW 1000 100 wsL lensL TsL pthL preL qL ccL rsL ksL TS31 :=
  ⟨tr3, _, v31, by kernel_rfl, (allG_cons (mkGo (by kernel_rfl) p31_0) (allG_cons (mkGo (by kernel_rfl) p31_1) (allG_cons (mkGo (by kernel_rfl) p31_2) (allG_cons (mkGo (by kernel_rfl) p31_3) (allG_cons (mkGo (by kernel_rfl) p31_4) (allG_cons (mkGo (by kernel_rfl) p31_5) allG_nil))))))⟩
theorem v32 : leaves ksL tr3 ⟨TS32.b, TS32.f, TS32.r, [], 1000⟩ = some [nthLf (Lv tr3 TS32) 0, nthLf (Lv tr3 TS32) 1, nthLf (Lv tr3 TS32) 2, nthLf (Lv tr3 TS32) 3, nthLf (Lv tr3 TS32) 4, nthLf (Lv tr3 TS32) 5] := by kernel_rfl
theorem g32 : StateGoodC Tryz.prog codeN natW 1000 100 wsL lensL TsL pthL preL qL ccL rsL ksL TS32 :=
  ⟨tr3, _, v32, by kernel_rfl, (allG_cons (mkGo (by kernel_rfl) p32_0) (allG_cons (mkGo (by kernel_rfl) p32_1) (allG_cons (mkGo (by kernel_rfl) p32_2) (allG_cons (mkGo (by kernel_rfl) p32_3) (allG_cons (mkGo (by kernel_rfl) p32_4) (allG_cons (mkGo (by kernel_rfl) p32_5) allG_nil))))))⟩
theorem v33 : leaves ksL tr3 ⟨TS33.b, TS33.f, TS33.r, [], 1000⟩ = some [nthLf (Lv tr3 TS33) 0, nthLf (Lv tr3 TS33) 1, nthLf (Lv tr3 TS33) 2, nthLf (Lv tr3 TS33) 3, nthLf (Lv tr3 TS33) 4, nthLf (Lv tr3 TS33) 5] := by kernel_rfl
theorem g33 : StateGoodC Tryz.prog codeN natW 1000 100 wsL lensL TsL pthL preL qL ccL rsL ksL TS33 :=
  ⟨tr3, _, v33, by kernel_rfl, (allG_cons (mkGo (by kernel_rfl) p33_0) (allG_cons (mkGo (by kernel_rfl) p33_1) (allG_cons (mkGo (by kernel_rfl) p33_2) (allG_cons (mkGo (by kernel_rfl) p33_3) (allG_cons (mkGo (by kernel_rfl) p33_4) (allG_cons (mkGo (by kernel_rfl) p33_5) allG_nil))))))⟩
theorem all : AllS (StateGoodC Tryz.prog codeN natW 1000 100 wsL lensL TsL pthL preL qL ccL rsL ksL) TsL := (allS_cons g0 (allS_cons g1 (allS_cons g2 (allS_cons g3 (allS_cons g4 (allS_cons g5 (allS_cons g6 (allS_cons g7 (allS_cons g8 (allS_cons g9 (allS_cons g10 (allS_cons g11 (allS_cons g12 (allS_cons g13 (allS_cons g14 (allS_cons g15 (allS_cons g16 (allS_cons g17 (allS_cons g18 (allS_cons g19 (allS_cons g20 (allS_cons g21 (allS_cons g22 (allS_cons g23 (allS_cons g24 (allS_cons g25 (allS_cons g26 (allS_cons g27 (allS_cons g28 (allS_cons g29 (allS_cons g30 (allS_cons g31 (allS_cons g32 (allS_cons g33 allS_nil))))))))))))))))))))))))))))))))))
theorem vS : leaves ksL trS eS = some [nthLf (leavesD ksL trS eS) 0, nthLf (leavesD ksL trS eS) 1, nthLf (leavesD ksL trS eS) 2, nthLf (leavesD ksL trS eS) 3] := by kernel_rfl
theorem allSt : AllG SG [nthLf (leavesD ksL trS eS) 0, nthLf (leavesD ksL trS eS) 1, nthLf (leavesD ksL trS eS) 2, nthLf (leavesD ksL trS eS) 3] := (allG_cons (mkSt q0) (allG_cons (mkSt q1) (allG_cons (mkSt q2) (allG_cons (mkSt q3) allG_nil))))
theorem winis (W : World) (w0 : Win) (v0 : Value) (hk0 : w0.key = wk0) (hz0 : w0.esz = 1) (ha0 : IntArg W v0 w0) (σ : Nat → Int) (hl : LensAre [w0] lensL σ) : WinIs [w0] W σ ksL := by
  have hf0 : findW [w0] wk0 = some w0 := by
    show (match decide (w0.key = wk0) with | true => some w0 | false => findW [] wk0) = some w0
    rw [hk0]
    rfl
  refine ⟨fun j k hj => ?_⟩
  match j, hj with
  | 0, hj =>
    obtain rfl : (wk0, true) = k := Option.some.inj hj
    exact ⟨w0, v0, by rw [hk0]; exact hf0, hk0, hz0, len_of hl (by simp [lensL]) hf0, ha0⟩
  | n + 1, hj => cases hj
theorem passes (A : Key → Option Value) (W : World) (w0 : Win) (v0 : Value) (hk0 : w0.key = wk0) (hz0 : w0.esz = 1) (ha0 : IntArg W v0 w0) (hws : wsOf [w0] = wsL) : PassesC Tryz.prog codeN natW 1000 100 [w0] lensL A TsL pthL preL qL ccL rsL W :=
  passes_allC hws (winis W w0 v0 hk0 hz0 ha0) all
end Go.Ev
