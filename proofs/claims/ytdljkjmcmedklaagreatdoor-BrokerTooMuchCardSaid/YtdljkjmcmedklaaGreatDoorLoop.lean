/- Each pass of the loop is right: by its states. -/
import Derived.Test.YtdljkjmcmedklaaGreatDoorRun0
namespace Go.Ev
open Go.Proofs
set_option maxRecDepth 1000000
set_option linter.unusedVariables false
theorem v0 : leaves ksL tr0 ⟨TS0.b, TS0.f, TS0.r, [], 1000⟩ = some [E0_0, E0_1] := by kernel_rfl
theorem g0 : StateGood Tryz.prog codeN natW 1000 100 wsL lensL TsL pthL ccL rsL ksL TS0 :=
  ⟨tr0, _, v0, by kernel_rfl, (allG_cons (mkG (by kernel_rfl) p0_0) (allG_cons (mkG (by kernel_rfl) p0_1) allG_nil))⟩
theorem v1 : leaves ksL tr0 ⟨TS1.b, TS1.f, TS1.r, [], 1000⟩ = some [E1_0, E1_1] := by kernel_rfl
theorem g1 : StateGood Tryz.prog codeN natW 1000 100 wsL lensL TsL pthL ccL rsL ksL TS1 :=
  ⟨tr0, _, v1, by kernel_rfl, (allG_cons (mkG (by kernel_rfl) p1_0) (allG_cons (mkG (by kernel_rfl) p1_1) allG_nil))⟩
theorem v2 : leaves ksL tr0 ⟨TS2.b, TS2.f, TS2.r, [], 1000⟩ = some [E2_0, E2_1] := by kernel_rfl
theorem g2 : StateGood Tryz.prog codeN natW 1000 100 wsL lensL TsL pthL ccL rsL ksL TS2 :=
  ⟨tr0, _, v2, by kernel_rfl, (allG_cons (mkG (by kernel_rfl) p2_0) (allG_cons (mkG (by kernel_rfl) p2_1) allG_nil))⟩
theorem v3 : leaves ksL tr0 ⟨TS3.b, TS3.f, TS3.r, [], 1000⟩ = some [E3_0, E3_1] := by kernel_rfl
theorem g3 : StateGood Tryz.prog codeN natW 1000 100 wsL lensL TsL pthL ccL rsL ksL TS3 :=
  ⟨tr0, _, v3, by kernel_rfl, (allG_cons (mkG (by kernel_rfl) p3_0) (allG_cons (mkG (by kernel_rfl) p3_1) allG_nil))⟩
theorem v4 : leaves ksL tr0 ⟨TS4.b, TS4.f, TS4.r, [], 1000⟩ = some [E4_0, E4_1] := by kernel_rfl
theorem g4 : StateGood Tryz.prog codeN natW 1000 100 wsL lensL TsL pthL ccL rsL ksL TS4 :=
  ⟨tr0, _, v4, by kernel_rfl, (allG_cons (mkG (by kernel_rfl) p4_0) (allG_cons (mkG (by kernel_rfl) p4_1) allG_nil))⟩
theorem v5 : leaves ksL tr0 ⟨TS5.b, TS5.f, TS5.r, [], 1000⟩ = some [E5_0, E5_1] := by kernel_rfl
theorem g5 : StateGood Tryz.prog codeN natW 1000 100 wsL lensL TsL pthL ccL rsL ksL TS5 :=
  ⟨tr0, _, v5, by kernel_rfl, (allG_cons (mkG (by kernel_rfl) p5_0) (allG_cons (mkG (by kernel_rfl) p5_1) allG_nil))⟩
theorem v6 : leaves ksL tr0 ⟨TS6.b, TS6.f, TS6.r, [], 1000⟩ = some [E6_0, E6_1] := by kernel_rfl
theorem g6 : StateGood Tryz.prog codeN natW 1000 100 wsL lensL TsL pthL ccL rsL ksL TS6 :=
  ⟨tr0, _, v6, by kernel_rfl, (allG_cons (mkG (by kernel_rfl) p6_0) (allG_cons (mkG (by kernel_rfl) p6_1) allG_nil))⟩
theorem v7 : leaves ksL tr0 ⟨TS7.b, TS7.f, TS7.r, [], 1000⟩ = some [E7_0, E7_1] := by kernel_rfl
theorem g7 : StateGood Tryz.prog codeN natW 1000 100 wsL lensL TsL pthL ccL rsL ksL TS7 :=
  ⟨tr0, _, v7, by kernel_rfl, (allG_cons (mkG (by kernel_rfl) p7_0) (allG_cons (mkG (by kernel_rfl) p7_1) allG_nil))⟩
theorem v8 : leaves ksL tr0 ⟨TS8.b, TS8.f, TS8.r, [], 1000⟩ = some [E8_0, E8_1] := by kernel_rfl
theorem g8 : StateGood Tryz.prog codeN natW 1000 100 wsL lensL TsL pthL ccL rsL ksL TS8 :=
  ⟨tr0, _, v8, by kernel_rfl, (allG_cons (mkG (by kernel_rfl) p8_0) (allG_cons (mkG (by kernel_rfl) p8_1) allG_nil))⟩
theorem v9 : leaves ksL tr0 ⟨TS9.b, TS9.f, TS9.r, [], 1000⟩ = some [E9_0, E9_1] := by kernel_rfl
theorem g9 : StateGood Tryz.prog codeN natW 1000 100 wsL lensL TsL pthL ccL rsL ksL TS9 :=
  ⟨tr0, _, v9, by kernel_rfl, (allG_cons (mkG (by kernel_rfl) p9_0) (allG_cons (mkG (by kernel_rfl) p9_1) allG_nil))⟩
theorem v10 : leaves ksL tr0 ⟨TS10.b, TS10.f, TS10.r, [], 1000⟩ = some [E10_0, E10_1] := by kernel_rfl
theorem g10 : StateGood Tryz.prog codeN natW 1000 100 wsL lensL TsL pthL ccL rsL ksL TS10 :=
  ⟨tr0, _, v10, by kernel_rfl, (allG_cons (mkG (by kernel_rfl) p10_0) (allG_cons (mkG (by kernel_rfl) p10_1) allG_nil))⟩
theorem v11 : leaves ksL tr0 ⟨TS11.b, TS11.f, TS11.r, [], 1000⟩ = some [E11_0, E11_1] := by kernel_rfl
theorem g11 : StateGood Tryz.prog codeN natW 1000 100 wsL lensL TsL pthL ccL rsL ksL TS11 :=
  ⟨tr0, _, v11, by kernel_rfl, (allG_cons (mkG (by kernel_rfl) p11_0) (allG_cons (mkG (by kernel_rfl) p11_1) allG_nil))⟩
theorem v12 : leaves ksL tr0 ⟨TS12.b, TS12.f, TS12.r, [], 1000⟩ = some [E12_0, E12_1] := by kernel_rfl
theorem g12 : StateGood Tryz.prog codeN natW 1000 100 wsL lensL TsL pthL ccL rsL ksL TS12 :=
  ⟨tr0, _, v12, by kernel_rfl, (allG_cons (mkG (by kernel_rfl) p12_0) (allG_cons (mkG (by kernel_rfl) p12_1) allG_nil))⟩
theorem v13 : leaves ksL tr0 ⟨TS13.b, TS13.f, TS13.r, [], 1000⟩ = some [E13_0, E13_1] := by kernel_rfl
theorem g13 : StateGood Tryz.prog codeN natW 1000 100 wsL lensL TsL pthL ccL rsL ksL TS13 :=
  ⟨tr0, _, v13, by kernel_rfl, (allG_cons (mkG (by kernel_rfl) p13_0) (allG_cons (mkG (by kernel_rfl) p13_1) allG_nil))⟩
theorem v14 : leaves ksL tr0 ⟨TS14.b, TS14.f, TS14.r, [], 1000⟩ = some [E14_0, E14_1] := by kernel_rfl
theorem g14 : StateGood Tryz.prog codeN natW 1000 100 wsL lensL TsL pthL ccL rsL ksL TS14 :=
  ⟨tr0, _, v14, by kernel_rfl, (allG_cons (mkG (by kernel_rfl) p14_0) (allG_cons (mkG (by kernel_rfl) p14_1) allG_nil))⟩
theorem v15 : leaves ksL tr0 ⟨TS15.b, TS15.f, TS15.r, [], 1000⟩ = some [E15_0, E15_1] := by kernel_rfl
theorem g15 : StateGood Tryz.prog codeN natW 1000 100 wsL lensL TsL pthL ccL rsL ksL TS15 :=
  ⟨tr0, _, v15, by kernel_rfl, (allG_cons (mkG (by kernel_rfl) p15_0) (allG_cons (mkG (by kernel_rfl) p15_1) allG_nil))⟩
theorem all : AllS (StateGood Tryz.prog codeN natW 1000 100 wsL lensL TsL pthL ccL rsL ksL) TsL := (allS_cons g0 (allS_cons g1 (allS_cons g2 (allS_cons g3 (allS_cons g4 (allS_cons g5 (allS_cons g6 (allS_cons g7 (allS_cons g8 (allS_cons g9 (allS_cons g10 (allS_cons g11 (allS_cons g12 (allS_cons g13 (allS_cons g14 (allS_cons g15 allS_nil))))))))))))))))
theorem vS : leaves ksL trS eS = some [S0] := by kernel_rfl
theorem allSt : AllG SG [S0] := (allG_cons ⟨_, q0⟩ allG_nil)
theorem winis (W : World) (σ : Nat → Int) (hl : LensAre [] lensL σ) : WinIs [] W σ ksL := ⟨fun j k hj => by cases hj⟩
theorem passes (A : Key → Option Value) (W : World) (hws : wsOf [] = wsL) : Passes Tryz.prog codeN natW 1000 100 [] lensL A TsL pthL ccL rsL W := passes_all hws (winis W) all
end Go.Ev
