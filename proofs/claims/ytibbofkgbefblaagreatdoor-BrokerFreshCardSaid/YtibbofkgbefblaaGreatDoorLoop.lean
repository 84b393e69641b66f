/- Each pass of the loop is right: by its states. -/
import Derived.Test.YtibbofkgbefblaaGreatDoorRun0
import Derived.Test.YtibbofkgbefblaaGreatDoorRun1
import Derived.Test.YtibbofkgbefblaaGreatDoorRun2
namespace Go.Ev
open Go.Proofs
set_option maxRecDepth 1000000
set_option linter.unusedVariables false
theorem v0 : leaves ksL tr0 ⟨TS0.b, TS0.f, TS0.r, [], 1000⟩ = some [E0_0, E0_1, E0_2, E0_3, E0_4, E0_5, E0_6, E0_7, E0_8] := by kernel_rfl
theorem g0 : StateGood Tryz.prog codeN natW 1000 100 wsL lensL TsL pthL ccL rsL ksL TS0 :=
  ⟨tr0, _, v0, by kernel_rfl, (allG_cons (mkG (by kernel_rfl) p0_0) (allG_cons (mkG (by kernel_rfl) p0_1) (allG_cons (mkG (by kernel_rfl) p0_2) (allG_cons (mkG (by kernel_rfl) p0_3) (allG_cons (mkG (by kernel_rfl) p0_4) (allG_cons (mkG (by kernel_rfl) p0_5) (allG_cons (mkG (by kernel_rfl) p0_6) (allG_cons (mkG (by kernel_rfl) p0_7) (allG_cons (mkG (by kernel_rfl) p0_8) allG_nil)))))))))⟩
theorem v1 : leaves ksL tr0 ⟨TS1.b, TS1.f, TS1.r, [], 1000⟩ = some [E1_0, E1_1, E1_2, E1_3, E1_4, E1_5, E1_6, E1_7, E1_8] := by kernel_rfl
theorem g1 : StateGood Tryz.prog codeN natW 1000 100 wsL lensL TsL pthL ccL rsL ksL TS1 :=
  ⟨tr0, _, v1, by kernel_rfl, (allG_cons (mkG (by kernel_rfl) p1_0) (allG_cons (mkG (by kernel_rfl) p1_1) (allG_cons (mkG (by kernel_rfl) p1_2) (allG_cons (mkG (by kernel_rfl) p1_3) (allG_cons (mkG (by kernel_rfl) p1_4) (allG_cons (mkG (by kernel_rfl) p1_5) (allG_cons (mkG (by kernel_rfl) p1_6) (allG_cons (mkG (by kernel_rfl) p1_7) (allG_cons (mkG (by kernel_rfl) p1_8) allG_nil)))))))))⟩
theorem v2 : leaves ksL tr0 ⟨TS2.b, TS2.f, TS2.r, [], 1000⟩ = some [E2_0, E2_1, E2_2, E2_3, E2_4, E2_5, E2_6, E2_7, E2_8] := by kernel_rfl
theorem g2 : StateGood Tryz.prog codeN natW 1000 100 wsL lensL TsL pthL ccL rsL ksL TS2 :=
  ⟨tr0, _, v2, by kernel_rfl, (allG_cons (mkG (by kernel_rfl) p2_0) (allG_cons (mkG (by kernel_rfl) p2_1) (allG_cons (mkG (by kernel_rfl) p2_2) (allG_cons (mkG (by kernel_rfl) p2_3) (allG_cons (mkG (by kernel_rfl) p2_4) (allG_cons (mkG (by kernel_rfl) p2_5) (allG_cons (mkG (by kernel_rfl) p2_6) (allG_cons (mkG (by kernel_rfl) p2_7) (allG_cons (mkG (by kernel_rfl) p2_8) allG_nil)))))))))⟩
theorem v3 : leaves ksL tr0 ⟨TS3.b, TS3.f, TS3.r, [], 1000⟩ = some [E3_0, E3_1, E3_2, E3_3, E3_4, E3_5, E3_6, E3_7, E3_8] := by kernel_rfl
theorem g3 : StateGood Tryz.prog codeN natW 1000 100 wsL lensL TsL pthL ccL rsL ksL TS3 :=
  ⟨tr0, _, v3, by kernel_rfl, (allG_cons (mkG (by kernel_rfl) p3_0) (allG_cons (mkG (by kernel_rfl) p3_1) (allG_cons (mkG (by kernel_rfl) p3_2) (allG_cons (mkG (by kernel_rfl) p3_3) (allG_cons (mkG (by kernel_rfl) p3_4) (allG_cons (mkG (by kernel_rfl) p3_5) (allG_cons (mkG (by kernel_rfl) p3_6) (allG_cons (mkG (by kernel_rfl) p3_7) (allG_cons (mkG (by kernel_rfl) p3_8) allG_nil)))))))))⟩
theorem v4 : leaves ksL tr0 ⟨TS4.b, TS4.f, TS4.r, [], 1000⟩ = some [E4_0, E4_1, E4_2, E4_3, E4_4, E4_5, E4_6, E4_7, E4_8] := by kernel_rfl
theorem g4 : StateGood Tryz.prog codeN natW 1000 100 wsL lensL TsL pthL ccL rsL ksL TS4 :=
  ⟨tr0, _, v4, by kernel_rfl, (allG_cons (mkG (by kernel_rfl) p4_0) (allG_cons (mkG (by kernel_rfl) p4_1) (allG_cons (mkG (by kernel_rfl) p4_2) (allG_cons (mkG (by kernel_rfl) p4_3) (allG_cons (mkG (by kernel_rfl) p4_4) (allG_cons (mkG (by kernel_rfl) p4_5) (allG_cons (mkG (by kernel_rfl) p4_6) (allG_cons (mkG (by kernel_rfl) p4_7) (allG_cons (mkG (by kernel_rfl) p4_8) allG_nil)))))))))⟩
theorem v5 : leaves ksL tr0 ⟨TS5.b, TS5.f, TS5.r, [], 1000⟩ = some [E5_0, E5_1, E5_2, E5_3, E5_4, E5_5, E5_6, E5_7, E5_8] := by kernel_rfl
theorem g5 : StateGood Tryz.prog codeN natW 1000 100 wsL lensL TsL pthL ccL rsL ksL TS5 :=
  ⟨tr0, _, v5, by kernel_rfl, (allG_cons (mkG (by kernel_rfl) p5_0) (allG_cons (mkG (by kernel_rfl) p5_1) (allG_cons (mkG (by kernel_rfl) p5_2) (allG_cons (mkG (by kernel_rfl) p5_3) (allG_cons (mkG (by kernel_rfl) p5_4) (allG_cons (mkG (by kernel_rfl) p5_5) (allG_cons (mkG (by kernel_rfl) p5_6) (allG_cons (mkG (by kernel_rfl) p5_7) (allG_cons (mkG (by kernel_rfl) p5_8) allG_nil)))))))))⟩
theorem v6 : leaves ksL tr0 ⟨TS6.b, TS6.f, TS6.r, [], 1000⟩ = some [E6_0, E6_1, E6_2, E6_3, E6_4, E6_5, E6_6, E6_7, E6_8] := by kernel_rfl
theorem g6 : StateGood Tryz.prog codeN natW 1000 100 wsL lensL TsL pthL ccL rsL ksL TS6 :=
  ⟨tr0, _, v6, by kernel_rfl, (allG_cons (mkG (by kernel_rfl) p6_0) (allG_cons (mkG (by kernel_rfl) p6_1) (allG_cons (mkG (by kernel_rfl) p6_2) (allG_cons (mkG (by kernel_rfl) p6_3) (allG_cons (mkG (by kernel_rfl) p6_4) (allG_cons (mkG (by kernel_rfl) p6_5) (allG_cons (mkG (by kernel_rfl) p6_6) (allG_cons (mkG (by kernel_rfl) p6_7) (allG_cons (mkG (by kernel_rfl) p6_8) allG_nil)))))))))⟩
theorem v7 : leaves ksL tr0 ⟨TS7.b, TS7.f, TS7.r, [], 1000⟩ = some [E7_0, E7_1, E7_2, E7_3, E7_4, E7_5, E7_6, E7_7, E7_8] := by kernel_rfl
theorem g7 : StateGood Tryz.prog codeN natW 1000 100 wsL lensL TsL pthL ccL rsL ksL TS7 :=
  ⟨tr0, _, v7, by kernel_rfl, (allG_cons (mkG (by kernel_rfl) p7_0) (allG_cons (mkG (by kernel_rfl) p7_1) (allG_cons (mkG (by kernel_rfl) p7_2) (allG_cons (mkG (by kernel_rfl) p7_3) (allG_cons (mkG (by kernel_rfl) p7_4) (allG_cons (mkG (by kernel_rfl) p7_5) (allG_cons (mkG (by kernel_rfl) p7_6) (allG_cons (mkG (by kernel_rfl) p7_7) (allG_cons (mkG (by kernel_rfl) p7_8) allG_nil)))))))))⟩
theorem v8 : leaves ksL tr0 ⟨TS8.b, TS8.f, TS8.r, [], 1000⟩ = some [E8_0, E8_1, E8_2, E8_3, E8_4, E8_5, E8_6, E8_7, E8_8] := by kernel_rfl
theorem g8 : StateGood Tryz.prog codeN natW 1000 100 wsL lensL TsL pthL ccL rsL ksL TS8 :=
  ⟨tr0, _, v8, by kernel_rfl, (allG_cons (mkG (by kernel_rfl) p8_0) (allG_cons (mkG (by kernel_rfl) p8_1) (allG_cons (mkG (by kernel_rfl) p8_2) (allG_cons (mkG (by kernel_rfl) p8_3) (allG_cons (mkG (by kernel_rfl) p8_4) (allG_cons (mkG (by kernel_rfl) p8_5) (allG_cons (mkG (by kernel_rfl) p8_6) (allG_cons (mkG (by kernel_rfl) p8_7) (allG_cons (mkG (by kernel_rfl) p8_8) allG_nil)))))))))⟩
theorem all : AllS (StateGood Tryz.prog codeN natW 1000 100 wsL lensL TsL pthL ccL rsL ksL) TsL := (allS_cons g0 (allS_cons g1 (allS_cons g2 (allS_cons g3 (allS_cons g4 (allS_cons g5 (allS_cons g6 (allS_cons g7 (allS_cons g8 allS_nil)))))))))
theorem vS : leaves ksL trS eS = some [S0] := by kernel_rfl
theorem allSt : AllG SG [S0] := (allG_cons ⟨_, q0⟩ allG_nil)
theorem winis (W : World) (w0 : Win) (v0 : Value) (hk0 : w0.key = wk0) (hz0 : w0.esz = 1) (ha0 : IntArg W v0 w0) (σ : Nat → Int) (hl : LensAre [w0] lensL σ) : WinIs [w0] W σ ksL := by
  have hf0 : findW [w0] wk0 = some w0 := by
    show (match decide (w0.key = wk0) with | true => some w0 | false => findW [] wk0) = some w0
    rw [hk0]
    rfl
  refine ⟨fun j k hj => ?_⟩
  match j, hj with
  | 0, hj =>
    obtain rfl : (wk0, true) = k := Option.some.inj hj
    exact ⟨w0, v0, by rw [hk0]; exact hf0, hk0, hz0, len_of hl (by simp [lensL]) hf0, ha0⟩
  | n + 1, hj => cases hj
theorem passes (A : Key → Option Value) (W : World) (w0 : Win) (v0 : Value) (hk0 : w0.key = wk0) (hz0 : w0.esz = 1) (ha0 : IntArg W v0 w0) (hws : wsOf [w0] = wsL) : Passes Tryz.prog codeN natW 1000 100 [w0] lensL A TsL pthL ccL rsL W :=
  passes_all hws (winis W w0 v0 hk0 hz0 ha0) all
end Go.Ev
