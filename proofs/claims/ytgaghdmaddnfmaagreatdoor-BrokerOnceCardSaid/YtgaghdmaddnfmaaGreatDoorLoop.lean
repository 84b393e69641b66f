/- Each pass of the loop is right: by its states. -/
import Derived.Test.YtgaghdmaddnfmaaGreatDoorRun0
import Derived.Test.YtgaghdmaddnfmaaGreatDoorRun1
namespace Go.Ev
open Go.Proofs
set_option maxRecDepth 1000000
set_option linter.unusedVariables false
theorem v0 : leaves ksL tr0 ⟨TS0.b, TS0.f, TS0.r, [], 1000⟩ = some [E0_0, E0_1, E0_2, E0_3, E0_4, E0_5, E0_6, E0_7] := by kernel_rfl
theorem g0 : StateGood Tryz.prog codeN natW 1000 100 wsL lensL TsL pthL ccL rsL ksL TS0 :=
  ⟨tr0, _, v0, by kernel_rfl, (allG_cons (mkG (by kernel_rfl) p0_0) (allG_cons (mkG (by kernel_rfl) p0_1) (allG_cons (mkG (by kernel_rfl) p0_2) (allG_cons (mkG (by kernel_rfl) p0_3) (allG_cons (mkG (by kernel_rfl) p0_4) (allG_cons (mkG (by kernel_rfl) p0_5) (allG_cons (mkG (by kernel_rfl) p0_6) (allG_cons (mkG (by kernel_rfl) p0_7) allG_nil))))))))⟩
theorem v1 : leaves ksL tr0 ⟨TS1.b, TS1.f, TS1.r, [], 1000⟩ = some [E1_0, E1_1, E1_2, E1_3, E1_4, E1_5, E1_6, E1_7] := by kernel_rfl
theorem g1 : StateGood Tryz.prog codeN natW 1000 100 wsL lensL TsL pthL ccL rsL ksL TS1 :=
  ⟨tr0, _, v1, by kernel_rfl, (allG_cons (mkG (by kernel_rfl) p1_0) (allG_cons (mkG (by kernel_rfl) p1_1) (allG_cons (mkG (by kernel_rfl) p1_2) (allG_cons (mkG (by kernel_rfl) p1_3) (allG_cons (mkG (by kernel_rfl) p1_4) (allG_cons (mkG (by kernel_rfl) p1_5) (allG_cons (mkG (by kernel_rfl) p1_6) (allG_cons (mkG (by kernel_rfl) p1_7) allG_nil))))))))⟩
theorem v2 : leaves ksL tr0 ⟨TS2.b, TS2.f, TS2.r, [], 1000⟩ = some [E2_0, E2_1, E2_2, E2_3, E2_4, E2_5, E2_6, E2_7] := by kernel_rfl
theorem g2 : StateGood Tryz.prog codeN natW 1000 100 wsL lensL TsL pthL ccL rsL ksL TS2 :=
  ⟨tr0, _, v2, by kernel_rfl, (allG_cons (mkG (by kernel_rfl) p2_0) (allG_cons (mkG (by kernel_rfl) p2_1) (allG_cons (mkG (by kernel_rfl) p2_2) (allG_cons (mkG (by kernel_rfl) p2_3) (allG_cons (mkG (by kernel_rfl) p2_4) (allG_cons (mkG (by kernel_rfl) p2_5) (allG_cons (mkG (by kernel_rfl) p2_6) (allG_cons (mkG (by kernel_rfl) p2_7) allG_nil))))))))⟩
theorem all : AllS (StateGood Tryz.prog codeN natW 1000 100 wsL lensL TsL pthL ccL rsL ksL) TsL := (allS_cons g0 (allS_cons g1 (allS_cons g2 allS_nil)))
theorem vS : leaves ksL trS eS = some [S0] := by kernel_rfl
theorem allSt : AllG SG [S0] := (allG_cons ⟨_, q0⟩ allG_nil)
theorem winis (W : World) (w0 : Win) (v0 : Value) (hk0 : w0.key = wk0) (hz0 : w0.esz = 1) (ha0 : IntArg W v0 w0) (σ : Nat → Int) (hl : LensAre [w0] lensL σ) : WinIs [w0] W σ ksL := by
  have hf0 : findW [w0] wk0 = some w0 := by
    show (match decide (w0.key = wk0) with | true => some w0 | false => findW [] wk0) = some w0
    rw [hk0]
    rfl
  refine ⟨fun j k hj => ?_⟩
  match j, hj with
  | 0, hj =>
    obtain rfl : (wk0, true) = k := Option.some.inj hj
    exact ⟨w0, v0, by rw [hk0]; exact hf0, hk0, hz0, len_of hl (by simp [lensL]) hf0, ha0⟩
  | n + 1, hj => cases hj
theorem passes (A : Key → Option Value) (W : World) (w0 : Win) (v0 : Value) (hk0 : w0.key = wk0) (hz0 : w0.esz = 1) (ha0 : IntArg W v0 w0) (hws : wsOf [w0] = wsL) : Passes Tryz.prog codeN natW 1000 100 [w0] lensL A TsL pthL ccL rsL W :=
  passes_all hws (winis W w0 v0 hk0 hz0 ha0) all
end Go.Ev
