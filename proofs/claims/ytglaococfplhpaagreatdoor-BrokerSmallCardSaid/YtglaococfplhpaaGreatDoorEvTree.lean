/- A verified evaluator for the model's code: EvWord, EvTree. -/
import Derived.Test.YtglaococfplhpaaGreatDoorEvArg
set_option linter.unusedSectionVars false
set_option linter.unusedVariables false
set_option linter.unusedSimpArgs false
namespace Go.Ev
noncomputable section
theorem mkI_nat (m : Nat) : mkInt .i64 (.ofNat m) = .nat m := by cases m <;> rfl
theorem mkI_neg (m : Nat) : mkInt .i64 (.negSucc m) = .int .i64 (.negSucc m) := by cases m <;> rfl
theorem mkI_inj {a b : Int} (h : mkInt .i64 a = mkInt .i64 b) : a = b := by
  cases a with
  | ofNat a => cases b with
    | ofNat b => rw [mkI_nat, mkI_nat] at h; injection h with h; rw [h]
    | negSucc b => rw [mkI_nat, mkI_neg] at h; cases h
  | negSucc a => cases b with
    | ofNat b => rw [mkI_nat, mkI_neg] at h; cases h
    | negSucc b => rw [mkI_neg, mkI_neg] at h; injection h
theorem toU_emod (q : Int) : (toU .i64 q : Int) = q % 18446744073709551616 := by
  cases q with
  | ofNat m =>
    show ((m % 2 ^ 64 : Nat) : Int) = (m : Int) % 18446744073709551616
    omega
  | negSucc m =>
    show ((2 ^ 64 - 1 - m % 2 ^ 64 : Nat) : Int) = Int.negSucc m % 18446744073709551616
    rw [Int.negSucc_eq]
    omega
theorem and_emod (q : Int) {n : Nat} (hn : n ≤ 31) : intOp .and .i64 q (.ofNat (2 ^ n - 1)) = some (mkInt .i64 (.ofNat (toU .i64 q % 2 ^ n))) := by
  have hp : 2 ^ n ≤ 2 ^ 31 := Nat.pow_le_pow_right (by decide) hn
  have h1 : toU .i64 (.ofNat (2 ^ n - 1)) = 2 ^ n - 1 := Nat.mod_eq_of_lt (show 2 ^ n - 1 < 2 ^ 64 by omega)
  show some (mkInt .i64 (wrapI .i64 (.ofNat (Nat.land (toU .i64 q) (toU .i64 (.ofNat (2 ^ n - 1))))))) = _
  rw [h1]
  have h2 : Nat.land (toU .i64 q) (2 ^ n - 1) = toU .i64 q % 2 ^ n := Nat.and_two_pow_sub_one_eq_mod _ n
  rw [h2]
  have h3 : toU .i64 q % 2 ^ n < 2 ^ n := Nat.mod_lt _ (Nat.two_pow_pos n)
  have h4 : wrapI .i64 (.ofNat (toU .i64 q % 2 ^ n)) = .ofNat (toU .i64 q % 2 ^ n) := by
    generalize toU .i64 q % 2 ^ n = x at h3
    rw [@wrapI_eq noSym]
    simp [IntKind.wrap, IntKind.signed, IntKind.bits]
    omega
  rw [h4]
theorem shr_ediv (q : Int) : intOp .shr .i64 q (.ofNat 4) = some (mkInt .i64 (q / 16)) := by
  cases q with
  | ofNat a =>
    show some (mkPos .i64 (Nat.div a (Nat.pow 2 (min 4 64)))) = some (mkInt .i64 ((a : Int) / 16))
    have e : ((a : Int) / 16) = Int.ofNat (a / 16) := by
      show (a : Int) / 16 = ((a / 16 : Nat) : Int)
      omega
    rw [e, mkI_nat]
    show some (mkNat (a / 16)) = _
    generalize a / 16 = x
    cases x <;> rfl
  | negSucc a =>
    show some (mkInt .i64 ((Int.negSucc a).fdiv (.ofNat (Nat.pow 2 (min 4 64))))) = _
    have e : (Int.negSucc a).fdiv (.ofNat (Nat.pow 2 (min 4 64))) = Int.negSucc a / 16 := by
      show (Int.negSucc a).fdiv 16 = _
      rw [Int.fdiv_eq_ediv_of_nonneg _ (by decide)]
    rw [e]
theorem word_rules {h g a b : Int} (h1 : intOp .and .i64 h (.ofNat 15) = some (mkInt .i64 a)) (h2 : intOp .shr .i64 h (.ofNat 4) = some (mkInt .i64 g)) (h3 : intOp .and .i64 g (.ofNat 15) = some (mkInt .i64 b)) :
    intOp .and .i64 h (.ofNat 255) = some (mkInt .i64 (a + 16 * b)) ∧ intOp .and .i64 (a + 16 * b) (.ofNat 15) = some (mkInt .i64 a) ∧ intOp .shr .i64 (a + 16 * b) (.ofNat 4) = some (mkInt .i64 b) := by
  have e15 : ∀ q : Int, intOp .and .i64 q (.ofNat 15) = some (mkInt .i64 (.ofNat (toU .i64 q % 16))) := fun q => and_emod q (n := 4) (by decide)
  have e255 : ∀ q : Int, intOp .and .i64 q (.ofNat 255) = some (mkInt .i64 (.ofNat (toU .i64 q % 256))) := fun q => and_emod q (n := 8) (by decide)
  rw [e15] at h1 h3
  rw [shr_ediv] at h2
  have a1 := mkI_inj (Option.some.inj h1)
  have a2 := mkI_inj (Option.some.inj h2)
  have a3 := mkI_inj (Option.some.inj h3)
  have u1 := toU_emod h
  have u2 := toU_emod g
  have u3 := toU_emod (a + 16 * b)
  have a1 : ((toU .i64 h % 16 : Nat) : Int) = a := a1
  have a3 : ((toU .i64 g % 16 : Nat) : Int) = b := a3
  refine ⟨?_, ?_, ?_⟩
  · rw [e255]
    congr 2
    show ((toU .i64 h % 256 : Nat) : Int) = a + 16 * b
    omega
  · rw [e15]
    congr 2
    show ((toU .i64 (a + 16 * b) % 16 : Nat) : Int) = a
    omega
  · rw [shr_ediv]
    congr 2
    omega
def isSv (n : Nat) (e : SE) : Bool := match e.k, e.l with
  | .i64, [p] => Nat.beq p.1 n && decide (p.2 = 1) && decide (e.c = 0)
  | _, _ => false
theorem isSv_eq {n : Nat} {e : SE} (h : isSv n e = true) : e = sv n := by
  obtain ⟨k, c, l⟩ := e
  unfold isSv at h
  split at h
  · rename_i p h1 h2
    simp only at h1 h2
    subst h1 h2
    simp only [Bool.and_eq_true, decide_eq_true_eq] at h
    obtain ⟨⟨h1, h2⟩, h3⟩ := h
    obtain ⟨i, z⟩ := p
    simp only at h1 h2 h3
    have h1 := Nat.eq_of_beq_eq_true h1
    subst h1 h2 h3
    rfl
  · cases h
def opIs : Bool → BinOp → Bool
  | true, .and => true
  | false, .shr => true
  | _, _ => false
def opOf : Bool → BinOp
  | true => .and
  | false => .shr
theorem opIs_eq {b : Bool} {o : BinOp} (h : opIs b o = true) : o = opOf b := by
  unfold opIs at h
  split at h
  · rfl
  · rfl
  · cases h
def isRv (b : Bool) (h c a : Nat) (q : SRule) : Bool := opIs b q.op && isSv h q.x && Nat.beq q.c c && (match q.v with
  | .sym e => isSv a e
  | _ => false)
def hasR (b : Bool) (h c a : Nat) : List SRule → Bool
  | [] => false
  | q :: r => isRv b h c a q || hasR b h c a r
theorem isRv_ok {σ : Nat → Int} {b : Bool} {h c a : Nat} {q : SRule} (hq : isRv b h c a q = true) (hr : RuleOk σ q) {z : Int} (hz : intOp (opOf b) .i64 (σ h) (.ofNat c) = some (mkInt .i64 z)) :
    intOp (opOf b) .i64 (σ h) (.ofNat c) = some (mkInt .i64 (σ a)) := by
  unfold isRv at hq
  simp only [Bool.and_eq_true] at hq
  obtain ⟨⟨⟨h1, h2⟩, h3⟩, h4⟩ := hq
  split at h4
  · rename_i e he
    have h1 := opIs_eq h1
    have h2 := isSv_eq h2
    have h3 := Nat.eq_of_beq_eq_true h3
    have h4 := isSv_eq h4
    subst h4
    obtain ⟨u, _, g2, g3⟩ := hr
    rw [h1, h2, h3] at g2
    have g2 : intOp (opOf b) .i64 (evE σ (sv h)) (.ofNat c) = some u := g2
    rw [evE_sv] at g2
    rw [he] at g3
    rw [g2]
    rcases g3 with g3 | ⟨e, g3, g4⟩
    · rw [hz] at g2
      have g2 := Option.some.inj g2
      rw [← g3] at g2
      cases z with
      | ofNat m => rw [mkI_nat] at g2; cases g2
      | negSucc m => rw [mkI_neg] at g2; cases g2
    · injection g3 with g3
      subst g3
      rw [g4, evE_sv]
      rfl
  · cases h4
theorem hasR_ok {σ : Nat → Int} {b : Bool} {h c a : Nat} {z : Int} (hz : intOp (opOf b) .i64 (σ h) (.ofNat c) = some (mkInt .i64 z)) : ∀ {r : List SRule}, hasR b h c a r = true → RulesOk σ r →
    intOp (opOf b) .i64 (σ h) (.ofNat c) = some (mkInt .i64 (σ a))
  | [], hr, _ => by cases hr
  | q :: r, hr, ho => by
    unfold hasR at hr
    rw [Bool.or_eq_true] at hr
    rcases hr with hr | hr
    · exact isRv_ok hr ho.1 hz
    · exact hasR_ok hz hr ho.2
def byteE (a b : Nat) : SE := ⟨.i64, .ofNat 0, [(a, 1), (b, 16)]⟩
theorem evE_byte (σ : Nat → Int) (a b : Nat) : evE σ (byteE a b) = σ a + 16 * σ b := by
  show (0 : Int) + (1 * σ a + (16 * σ b + 0)) = _
  omega
def joinIn (r : List SRule) (h g a b : Nat) : Bool := hasR true h 15 a r && hasR false h 4 g r && hasR true g 15 b r
def joinR (h a b : Nat) (r : List SRule) : List SRule := ⟨.and, sv h, 255, .sym (byteE a b)⟩ :: ⟨.and, byteE a b, 15, .sym (sv a)⟩ :: ⟨.shr, byteE a b, 4, .sym (sv b)⟩ :: r
theorem joinR_ok {σ : Nat → Int} {r : List SRule} {h g a b : Nat} (hj : joinIn r h g a b = true) (hr : RulesOk σ r) : RulesOk σ (joinR h a b r) := by
  unfold joinIn at hj
  simp only [Bool.and_eq_true] at hj
  obtain ⟨⟨h1, h2⟩, h3⟩ := hj
  have g1 := hasR_ok (σ := σ) (b := true) (h := h) (c := 15) (and_emod (σ h) (n := 4) (by decide)) h1 hr
  have g2 := hasR_ok (σ := σ) (b := false) (h := h) (c := 4) (shr_ediv (σ h)) h2 hr
  have g3 := hasR_ok (σ := σ) (b := true) (h := g) (c := 15) (and_emod (σ g) (n := 4) (by decide)) h3 hr
  obtain ⟨w1, w2, w3⟩ := word_rules g1 g2 g3
  refine ⟨⟨_, .inl rfl, ?_, .inr ⟨byteE a b, rfl, rfl⟩⟩, ⟨_, .inl rfl, ?_, .inr ⟨sv a, rfl, rfl⟩⟩, ⟨_, .inl rfl, ?_, .inr ⟨sv b, rfl, rfl⟩⟩, hr⟩
  · show intOp .and .i64 (evE σ (sv h)) (.ofNat 255) = some (mkInt .i64 (evE σ (byteE a b)))
    rw [evE_sv, evE_byte]; exact w1
  · show intOp .and .i64 (evE σ (byteE a b)) (.ofNat 15) = some (mkInt .i64 (evE σ (sv a)))
    rw [evE_sv, evE_byte]; exact w2
  · show intOp .shr .i64 (evE σ (byteE a b)) (.ofNat 4) = some (mkInt .i64 (evE σ (sv b)))
    rw [evE_sv, evE_byte]; exact w3
end
end Go.Ev

namespace Go.Ev
open Go.RowKit
noncomputable section
variable {P : Program}
inductive LTree where
  | leaf
  | cmp (l : LL) (cut : Int) (a b : LTree)
  | and (v m : Nat) (ts : Nat → LTree)
  | rem (v m : Nat) (ts : Nat → LTree)
  | remn (v m : Nat) (ts : Nat → LTree)
  | bit (v t : Nat) (a b : LTree)
  | shr (v c : Nat) (t : LTree)
  | mask (v m : Nat) (t : LTree)
  | join (h g a b : Nat) (t : LTree)
  | cellI (j : Nat) (t : LTree)
  | cellB (j : Nat) (a b : LTree)
structure Lf where
  b : List (Int × Int)
  f : List (LL × Int × Int)
  r : List SRule
  l : List (Key × List CV)
  u : Nat
def Lf.known (e : Lf) (A : Key → Option Value) : Known := ⟨e.b, e.f, e.r, A⟩
def noVar (n : Nat) : LL → Bool
  | [] => true
  | p :: r => !(Nat.beq p.1 n) && noVar n r
def noVarC (n : Nat) : List CV → Bool
  | [] => true
  | .sym e :: r => noVar n e.l && noVarC n r
  | .bool _ :: r => noVarC n r
  | _ :: _ => false
def noVarV (n : Nat) : CV → Bool
  | .sym e => noVar n e.l
  | .nat _ => true
  | .int _ _ => true
  | _ => false
def noVarF (n : Nat) : List (LL × Int × Int) → Bool
  | [] => true
  | q :: r => noVar n q.1 && noVarF n r
def noVarR (n : Nat) : List SRule → Bool
  | [] => true
  | q :: r => noVar n q.x.l && noVarV n q.v && noVarR n r
def noVarL (n : Nat) : List (Key × List CV) → Bool
  | [] => true
  | q :: r => noVarC n q.2 && noVarL n r
def Lf.free (e : Lf) (n : Nat) : Bool := noVarF n e.f && noVarR n e.r && noVarL n e.l && Nat.ble e.b.length n
def upV (σ : Nat → Int) (n : Nat) (z : Int) : Nat → Int := fun i => if i = n then z else σ i
theorem upd_same {σ : Nat → Int} {n : Nat} {z : Int} : upV σ n z n = z := by simp [upV]
theorem upd_other {σ : Nat → Int} {n i : Nat} {z : Int} (h : i ≠ n) : upV σ n z i = σ i := by simp [upV, h]
theorem evL_upd {σ : Nat → Int} {n : Nat} {z : Int} : ∀ {l : LL}, noVar n l = true → evL (upV σ n z) l = evL σ l
  | [], _ => rfl
  | p :: r, h => by
    unfold noVar at h
    rw [Bool.and_eq_true] at h
    have hne : p.1 ≠ n := fun e => by
      have h1 := h.1
      rw [e] at h1
      simp at h1
    show p.2 * upV σ n z p.1 + evL (upV σ n z) r = p.2 * σ p.1 + evL σ r
    rw [upd_other hne, evL_upd h.2]
theorem factsOk_upd {σ : Nat → Int} {n : Nat} {z : Int} : ∀ {f : List (LL × Int × Int)}, noVarF n f = true → FactsOk σ f → FactsOk (upV σ n z) f
  | [], _, _ => trivial
  | q :: r, h, hf => by
    unfold noVarF at h
    rw [Bool.and_eq_true] at h
    refine ⟨?_, factsOk_upd h.2 hf.2⟩
    rw [evL_upd h.1]; exact hf.1
theorem ruleOk_upd {σ : Nat → Int} {n : Nat} {z : Int} {q : SRule} (h1 : noVar n q.x.l = true) (h2 : noVarV n q.v = true) (h : RuleOk σ q) : RuleOk (upV σ n z) q := by
  obtain ⟨u, g1, g2, g3⟩ := h
  refine ⟨u, g1, ?_, ?_⟩
  · unfold evE at g2 ⊢
    rw [evL_upd h1]; exact g2
  · rcases g3 with g3 | ⟨e, g3, g4⟩
    · exact .inl g3
    · refine .inr ⟨e, g3, ?_⟩
      rw [g3] at h2
      unfold evE at g4 ⊢
      rw [evL_upd (l := e.l) h2]; exact g4
theorem rulesOk_upd {σ : Nat → Int} {n : Nat} {z : Int} : ∀ {r : List SRule}, noVarR n r = true → RulesOk σ r → RulesOk (upV σ n z) r
  | [], _, _ => trivial
  | q :: r, h, hr => by
    unfold noVarR at h
    rw [Bool.and_eq_true, Bool.and_eq_true] at h
    exact ⟨ruleOk_upd h.1.1 h.1.2 hr.1, rulesOk_upd h.2 hr.2⟩
theorem boundsOk_upd {σ : Nat → Int} {n : Nat} {z : Int} : ∀ {b : List (Int × Int)} {k : Nat}, k + b.length ≤ n → BoundsOk σ k b → BoundsOk (upV σ n z) k b
  | [], _, _, _ => trivial
  | q :: r, k, h, hb => by
    simp only [List.length_cons] at h
    refine ⟨?_, boundsOk_upd (by omega) hb.2⟩
    rw [upd_other (by omega)]; exact hb.1
theorem boundsOk_snoc {σ : Nat → Int} {lo hi : Int} : ∀ {b : List (Int × Int)} {k : Nat}, BoundsOk σ k b → lo ≤ σ (k + b.length) → σ (k + b.length) ≤ hi → BoundsOk σ k (b ++ [(lo, hi)])
  | [], k, _, h1, h2 => ⟨⟨h1, h2⟩, trivial⟩
  | q :: r, k, hb, h1, h2 => by
    simp only [List.length_cons] at h1 h2
    have e : k + 1 + r.length = k + (r.length + 1) := by omega
    exact ⟨hb.1, boundsOk_snoc hb.2 (by rw [e]; exact h1) (by rw [e]; exact h2)⟩
def sameOn (σ σ' : Nat → Int) : List CV → Prop
  | [] => True
  | .sym e :: r => evL σ' e.l = evL σ e.l ∧ sameOn σ σ' r
  | _ :: r => sameOn σ σ' r
def WinsOk (wins : List Win) (w0 : World) (i : Int) (σ : Nat → Int) (l : List (Key × List CV)) : Prop :=
  ∀ q ∈ l, ∀ σ' K', sameOn σ σ' q.2 → WinOk (linSym σ' K') wins w0 i q
theorem sameOn_refl {σ : Nat → Int} : ∀ {l : List CV}, sameOn σ σ l
  | [] => trivial
  | c :: r => by
    unfold sameOn
    split <;> first | trivial | (rename_i h; injection h with h1 h2; subst h1 h2; exact ⟨rfl, sameOn_refl⟩) | (rename_i h; injection h with h1 h2; subst h1 h2; exact sameOn_refl)
theorem sameOn_upd {σ σ' : Nat → Int} {n : Nat} {z : Int} : ∀ {l : List CV}, noVarC n l = true → sameOn (upV σ n z) σ' l → sameOn σ σ' l
  | [], _, _ => trivial
  | .sym e :: r, h, hs => by
    unfold noVarC at h
    rw [Bool.and_eq_true] at h
    obtain ⟨h1, h2⟩ := hs
    rw [evL_upd h.1] at h1
    exact ⟨h1, sameOn_upd h.2 h2⟩
  | .bool b :: r, h, hs => sameOn_upd (l := r) (by simpa [noVarC] using h) hs
  | .nat _ :: _, h, _ => by simp [noVarC] at h
  | .int _ _ :: _, h, _ => by simp [noVarC] at h
  | .anyi _ :: _, h, _ => by simp [noVarC] at h
  | .str _ :: _, h, _ => by simp [noVarC] at h
  | .nilptr :: _, h, _ => by simp [noVarC] at h
  | .ptr _ _ :: _, h, _ => by simp [noVarC] at h
  | .nilsl :: _, h, _ => by simp [noVarC] at h
  | .sl .. :: _, h, _ => by simp [noVarC] at h
  | .nilmap :: _, h, _ => by simp [noVarC] at h
  | .map _ :: _, h, _ => by simp [noVarC] at h
  | .func .. :: _, h, _ => by simp [noVarC] at h
  | .nilfunc :: _, h, _ => by simp [noVarC] at h
  | .iface .. :: _, h, _ => by simp [noVarC] at h
  | .niliface :: _, h, _ => by simp [noVarC] at h
  | .agg _ :: _, h, _ => by simp [noVarC] at h
  | .tup _ :: _, h, _ => by simp [noVarC] at h
  | .win .. :: _, h, _ => by simp [noVarC] at h
  | .sst _ :: _, h, _ => by simp [noVarC] at h
  | .any :: _, h, _ => by simp [noVarC] at h
theorem winsOk_upd {wins : List Win} {w0 : World} {i : Int} {σ : Nat → Int} {n : Nat} {z : Int} {l : List (Key × List CV)} (h : noVarL n l = true) (hw : WinsOk wins w0 i σ l) : WinsOk wins w0 i (upV σ n z) l := by
  intro q hq σ' K' hs
  have : ∀ {l : List (Key × List CV)}, noVarL n l = true → q ∈ l → noVarC n q.2 = true := by
    intro l
    induction l with
    | nil => intro _ hq; cases hq
    | cons x r ih =>
      intro h hq
      unfold noVarL at h
      rw [Bool.and_eq_true] at h
      rcases List.mem_cons.1 hq with rfl | hq
      · exact h.1
      · exact ih h.2 hq
  exact hw q hq σ' K' (sameOn_upd (this h hq) hs)
structure LfOk (wins : List Win) (w0 : World) (i : Int) (σ : Nat → Int) (e : Lf) : Prop where
  b : BoundsOk σ 0 e.b
  f : FactsOk σ e.f
  r : RulesOk σ e.r
  w : WinsOk wins w0 i σ e.l
theorem LfOk.known {wins : List Win} {w0 : World} {i : Int} {σ : Nat → Int} {e : Lf} (h : LfOk wins w0 i σ e) (A : Key → Option Value) : KnownOk σ (e.known A) := knownOk h.b h.f h.r
theorem LfOk.upd {wins : List Win} {w0 : World} {i : Int} {σ : Nat → Int} {e : Lf} (h : LfOk wins w0 i σ e) {n : Nat} (hn : e.free n = true) (z : Int) : LfOk wins w0 i (Go.Ev.upV σ n z) e := by
  unfold Lf.free at hn
  simp only [Bool.and_eq_true] at hn
  obtain ⟨⟨⟨h1, h2⟩, h3⟩, h4⟩ := hn
  exact ⟨boundsOk_upd (by have := @ble_yes noSym _ _ h4; omega) h.b, factsOk_upd h1 h.f, rulesOk_upd h2 h.r, winsOk_upd h3 h.w⟩
def catO (a b : Option (List Lf)) : Option (List Lf) := match a, b with
  | some x, some y => some (x ++ y)
  | _, _ => none
def uptoC (m : Nat) (g : Nat → Option (List Lf)) : Option (List Lf) := Nat.rec (motive := fun _ => Option (List Lf)) (g 0) (fun j ih => catO ih (g (Nat.succ j))) m
def rng0 (e : Lf) (l : LL) : Option (Int × Int) := rng (e.known (fun _ => none)) l
def inWin (e : Lf) (j : Nat) : Bool := match rng0 e [(0, 1), (Nat.succ j, -1)], rng0 e [(0, 1)] with
  | some p, some q => decide (p.2 < 0) && decide (0 ≤ q.1)
  | _, _ => false
def addF (e : Lf) (q : LL × Int × Int) : Lf := { e with f := q :: e.f }
def addR (e : Lf) (q : SRule) : Lf := { e with r := q :: e.r }
def addW (e : Lf) (q : Key × List CV) : Lf := { e with l := q :: e.l }
def newB (e : Lf) (lo hi : Int) : Lf := { e with b := e.b ++ [(lo, hi)] }
def newU (e : Lf) : Lf := { e with u := Nat.succ e.u }
def guardC (b : Bool) (o : Option (List Lf)) : Option (List Lf) := match b with
  | true => o
  | false => none
def unlessC (lo hi : Int) (o : Option (List Lf)) : Option (List Lf) := match decide (hi < lo) with
  | true => some []
  | false => o
def leaves (ks : List (Key × Bool)) : LTree → Lf → Option (List Lf)
  | .leaf, e => some [e]
  | .cmp l cut a b, e => match rng0 e l with
    | none => none
    | some q => catO (unlessC q.1 (min q.2 (cut - 1)) (leaves ks a (addF e (l, q.1, min q.2 (cut - 1))))) (unlessC (max q.1 cut) q.2 (leaves ks b (addF e (l, max q.1 cut, q.2))))
  | .and v m ts, e => guardC (Nat.ble m 127) (uptoC m fun j => leaves ks (ts j) (addR e (rv .and v m (mkInt .i64 (.ofNat j)))))
  | .rem v m ts, e => uptoC (2 * m) fun j => leaves ks (ts j) (addR e (rv .rem v (m + 1) (mkInt .i64 (Int.ofNat j - Int.ofNat m))))
  | .remn v m ts, e => match rng0 e [(v, 1)] with
    | none => none
    | some q => guardC (decide (0 ≤ q.1)) (uptoC m fun j => leaves ks (ts j) (addR e (rv .rem v (m + 1) (mkInt .i64 (.ofNat j)))))
  | .bit v t a b, e => guardC (Nat.ble t 6) (catO (leaves ks a (addR e (rv .and v (2 ^ t) (mkInt .i64 (.ofNat 0))))) (leaves ks b (addR e (rv .and v (2 ^ t) (mkInt .i64 (.ofNat (2 ^ t)))))))
  | .shr v c t, e => guardC (e.free e.u && !(Nat.beq v e.u)) (leaves ks t (addR (newU e) (rv .shr v c (.sym (sv e.u)))))
  | .mask v m t, e => guardC (e.free e.b.length && !(Nat.beq v e.b.length) && Nat.ble m 4294967295 && Nat.ble (Nat.succ e.b.length) 1000) (leaves ks t (addR (newB e 0 (.ofNat m)) (rv .and v m (.sym (sv e.b.length)))))
  | .join h g a b t, e => guardC (joinIn e.r h g a b) (leaves ks t { e with r := joinR h a b e.r })
  | .cellI j t, e => match nth ks j with
    | some (k, true) => guardC (inWin e j && e.free e.u) (leaves ks t (addW (newU e) (k, [.sym (sv e.u)])))
    | _ => none
  | .cellB j a b, e => match nth ks j with
    | some (k, false) => guardC (inWin e j) (catO (leaves ks a (addW e (k, [.bool false]))) (leaves ks b (addW e (k, [.bool true]))))
    | _ => none
def KindArg (w0 : World) (v : Value) (wn : Win) : Bool → Prop
  | true => IntArg w0 v wn
  | false => BoolArg w0 v wn
structure WinIs (wins : List Win) (w0 : World) (σ : Nat → Int) (ks : List (Key × Bool)) : Prop where
  len : ∀ j k, nth ks j = some k → ∃ wn v, findW wins wn.key = some wn ∧ wn.key = k.1 ∧ wn.esz = 1 ∧ σ (Nat.succ j) = wn.len ∧ KindArg w0 v wn k.2
theorem catO_some {a b : Option (List Lf)} {l : List Lf} (h : catO a b = some l) : ∃ x y, a = some x ∧ b = some y ∧ l = x ++ y := by
  unfold catO at h
  split at h
  · injection h with h; exact ⟨_, _, rfl, rfl, h.symm⟩
  · cases h
theorem upto_some {g : Nat → Option (List Lf)} : ∀ {m : Nat} {l : List Lf}, uptoC m g = some l → ∀ j, j ≤ m → ∃ x, g j = some x ∧ ∀ e ∈ x, e ∈ l
  | 0, l, h, j, hj => by
    obtain rfl : j = 0 := by omega
    exact ⟨l, h, fun e he => he⟩
  | m + 1, l, h, j, hj => by
    obtain ⟨x, y, h1, h2, rfl⟩ := catO_some (a := uptoC m g) (b := g (m + 1)) h
    by_cases e : j = m + 1
    · subst e; exact ⟨y, h2, fun e he => List.mem_append_right _ he⟩
    · obtain ⟨z, h3, h4⟩ := upto_some h1 j (by omega)
      exact ⟨z, h3, fun e he => List.mem_append_left _ (h4 e he)⟩
theorem guard_some {b : Bool} {o : Option (List Lf)} {l : List Lf} (h : guardC b o = some l) : b = true ∧ o = some l := by
  unfold guardC at h
  split at h
  · exact ⟨rfl, h⟩
  · cases h
theorem unlessC_some {lo hi : Int} {o : Option (List Lf)} {l : List Lf} (h : unlessC lo hi o = some l) (hle : lo ≤ hi) : o = some l := by
  unfold unlessC at h
  rw [decide_eq_false (by omega)] at h
  exact h
section
variable {wins : List Win} {w0 : World} {i : Int} {ks : List (Key × Bool)}
theorem rng0_ok {σ : Nat → Int} {e : Lf} (h : LfOk wins w0 i σ e) {l : LL} {q : Int × Int} (hq : rng0 e l = some q) : q.1 ≤ evL σ l ∧ evL σ l ≤ q.2 :=
  rng_spec (h.known _) hq
theorem evL_one {σ : Nat → Int} {v : Nat} : evL σ [(v, 1)] = σ v := by
  show 1 * σ v + 0 = _; omega
theorem inWin_ok {σ : Nat → Int} {e : Lf} (h : LfOk wins w0 i σ e) {j : Nat} (hi : inWin e j = true) : 0 ≤ σ 0 ∧ σ 0 < σ (Nat.succ j) := by
  unfold inWin at hi
  split at hi
  · rename_i p q hp hq
    rw [Bool.and_eq_true, decide_eq_true_eq, decide_eq_true_eq] at hi
    have g1 := (rng0_ok h hp).2
    have g2 := (rng0_ok h hq).1
    rw [evL_one] at g2
    have e : evL σ [(0, 1), (Nat.succ j, -1)] = 1 * σ 0 + (-1 * σ (Nat.succ j) + 0) := rfl
    rw [e] at g1
    omega
  · cases hi
theorem leaves_ok : ∀ (t : LTree) (e : Lf) (σ : Nat → Int) {ls : List Lf}, leaves ks t e = some ls → LfOk wins w0 i σ e → WinIs wins w0 σ ks → σ 0 = i → ks.length < e.b.length → e.b.length ≤ 1000 → 1000 ≤ e.u →
    ∃ e' ∈ ls, ∃ σ', LfOk wins w0 i σ' e' ∧ ∀ j, (j < e.b.length ∨ (1000 ≤ j ∧ j < e.u)) → σ' j = σ j
  | .leaf, e, σ, ls, h, he, _, _, _, _, _ => by
    injection h with h; subst h
    exact ⟨e, by simp, σ, he, fun _ _ => rfl⟩
  | .cmp l cut a b, e, σ, ls, h, he, hw, h0, hk, h1, h2 => by
    unfold leaves at h
    split at h
    · cases h
    · rename_i q hq
      obtain ⟨x, y, hx, hy, rfl⟩ := catO_some h
      obtain ⟨g1, g2⟩ := rng0_ok he hq
      by_cases hc : evL σ l < cut
      · have hx := unlessC_some hx (by omega)
        obtain ⟨e', m, σ', r1, r2⟩ := leaves_ok a _ σ hx ⟨he.b, ⟨⟨g1, by simp only; omega⟩, he.f⟩, he.r, he.w⟩ hw h0 hk h1 h2
        exact ⟨e', List.mem_append_left _ m, σ', r1, r2⟩
      · have hy := unlessC_some hy (by omega)
        obtain ⟨e', m, σ', r1, r2⟩ := leaves_ok b _ σ hy ⟨he.b, ⟨⟨by simp only; omega, g2⟩, he.f⟩, he.r, he.w⟩ hw h0 hk h1 h2
        exact ⟨e', List.mem_append_right _ m, σ', r1, r2⟩
  | .and v m ts, e, σ, ls, h, he, hw, h0, hk, h1, h2 => by
    unfold leaves at h
    obtain ⟨hm, h⟩ := guard_some h
    obtain ⟨j, hj, hr⟩ := and_cases (σ v) m (@ble_yes noSym _ _ hm)
    obtain ⟨x, hx, hin⟩ := upto_some h j hj
    obtain ⟨e', m, σ', r1, r2⟩ := leaves_ok (ts j) _ σ hx ⟨he.b, he.f, ⟨rv_ok hr, he.r⟩, he.w⟩ hw h0 hk h1 h2
    exact ⟨e', hin _ m, σ', r1, r2⟩
  | .rem v m ts, e, σ, ls, h, he, hw, h0, hk, h1, h2 => by
    unfold leaves at h
    obtain ⟨z, hz, hr⟩ := rem_cases (σ v) m
    obtain ⟨x, hx, hin⟩ := upto_some h (z + m).toNat (by omega)
    have e1 : (Int.ofNat (z + m).toNat - Int.ofNat m) = z := by
      show (((z + m).toNat : Nat) : Int) - (m : Int) = z
      omega
    rw [e1] at hx
    obtain ⟨e', m, σ', r1, r2⟩ := leaves_ok (ts (z + m).toNat) _ σ hx ⟨he.b, he.f, ⟨rv_ok hr, he.r⟩, he.w⟩ hw h0 hk h1 h2
    exact ⟨e', hin _ m, σ', r1, r2⟩
  | .remn v m ts, e, σ, ls, h, he, hw, h0, hk, h1, h2 => by
    unfold leaves at h
    split at h
    · cases h
    · rename_i q hq
      obtain ⟨hq0, h⟩ := guard_some h
      rw [decide_eq_true_eq] at hq0
      have g := (rng0_ok he hq).1
      rw [evL_one] at g
      obtain ⟨j, hj, hr⟩ := remn_cases (σ v) (by omega) m
      obtain ⟨x, hx, hin⟩ := upto_some h j hj
      obtain ⟨e', m, σ', r1, r2⟩ := leaves_ok (ts j) _ σ hx ⟨he.b, he.f, ⟨rv_ok hr, he.r⟩, he.w⟩ hw h0 hk h1 h2
      exact ⟨e', hin _ m, σ', r1, r2⟩
  | .bit v t a b, e, σ, ls, h, he, hw, h0, hk, h1, h2 => by
    unfold leaves at h
    obtain ⟨ht, h⟩ := guard_some h
    obtain ⟨x, y, hx, hy, rfl⟩ := catO_some h
    have ht := @ble_yes noSym _ _ ht
    rcases bit_cases (σ v) t (by omega) with hr | hr
    · obtain ⟨e', m, σ', r1, r2⟩ := leaves_ok a _ σ hx ⟨he.b, he.f, ⟨rv_ok hr, he.r⟩, he.w⟩ hw h0 hk h1 h2
      exact ⟨e', List.mem_append_left _ m, σ', r1, r2⟩
    · obtain ⟨e', m, σ', r1, r2⟩ := leaves_ok b _ σ hy ⟨he.b, he.f, ⟨rv_ok hr, he.r⟩, he.w⟩ hw h0 hk h1 h2
      exact ⟨e', List.mem_append_right _ m, σ', r1, r2⟩
  | .shr v c t, e, σ, ls, h, he, hw, h0, hk, h1, h2 => by
    unfold leaves at h
    obtain ⟨hg, h⟩ := guard_some h
    rw [Bool.and_eq_true] at hg
    have hne : v ≠ e.u := fun q => by have := hg.2; rw [q] at this; simp at this
    obtain ⟨z, hr⟩ := shr_cases (σ v) c
    have he' := he.upd hg.1 z
    have hr' : RuleOk (upV σ e.u z) (rv .shr v c (.sym (sv e.u))) := rv_sym (by rw [upd_other hne, upd_same]; exact hr)
    obtain ⟨e', m, σ', r1, r2⟩ := leaves_ok t _ (upV σ e.u z) h ⟨he'.b, he'.f, ⟨hr', he'.r⟩, he'.w⟩
      ⟨fun j k hj => by
        obtain ⟨wn, v, q1, q2, q3, q4, q5⟩ := hw.len j k hj
        have hlt : j < ks.length := by
          rw [@nth_eq noSym] at hj
          exact (List.getElem?_eq_some_iff.1 hj).1
        exact ⟨wn, v, q1, q2, q3, by rw [upd_other (by show j + 1 ≠ e.u; omega)]; exact q4, q5⟩⟩ (by rw [upd_other (by omega)]; exact h0) hk h1 (by show 1000 ≤ e.u + 1; omega)
    exact ⟨e', m, σ', r1, fun j hj => by rw [r2 j (show j < e.b.length ∨ (1000 ≤ j ∧ j < e.u + 1) by omega), upd_other (by omega)]⟩
  | .mask v m t, e, σ, ls, h, he, hw, h0, hk, h1, h2 => by
    unfold leaves at h
    obtain ⟨hg, h⟩ := guard_some h
    simp only [Bool.and_eq_true] at hg
    obtain ⟨⟨⟨g1, g2⟩, g3⟩, g4⟩ := hg
    have hb := @ble_yes noSym _ _ g4
    have hne : v ≠ e.b.length := fun q => by rw [q] at g2; simp at g2
    obtain ⟨z, hz, hr⟩ := mask_cases (σ v) m (@ble_yes noSym _ _ g3)
    have he' := he.upd g1 (.ofNat z)
    have hr' : RuleOk (upV σ e.b.length (.ofNat z)) (rv .and v m (.sym (sv e.b.length))) := rv_sym (by rw [upd_other hne, upd_same]; exact hr)
    obtain ⟨e', m', σ', r1, r2⟩ := leaves_ok t _ (upV σ e.b.length (.ofNat z)) h
        ⟨boundsOk_snoc he'.b (by rw [Nat.zero_add, upd_same]; exact Int.natCast_nonneg z) (by rw [Nat.zero_add, upd_same]; exact Int.ofNat_le.2 hz), he'.f, ⟨hr', he'.r⟩, he'.w⟩
        ⟨fun j k hj => by
          obtain ⟨wn, v, q1, q2, q3, q4, q5⟩ := hw.len j k hj
          have hlt : j < ks.length := by
            rw [@nth_eq noSym] at hj
            exact (List.getElem?_eq_some_iff.1 hj).1
          exact ⟨wn, v, q1, q2, q3, by rw [upd_other (by show j + 1 ≠ e.b.length; omega)]; exact q4, q5⟩⟩ (by rw [upd_other (by omega)]; exact h0) (by show _ < (e.b ++ _).length; simp; omega) (by show (e.b ++ _).length ≤ _; simp; omega) h2
    exact ⟨e', m', σ', r1, fun j hj => by rw [r2 j (show j < (e.b ++ [((0 : Int), Int.ofNat m)]).length ∨ (1000 ≤ j ∧ j < e.u) by simp; omega), upd_other (by omega)]⟩
  | .join h' g a b t, e, σ, ls, h, he, hw, h0, hk, h1, h2 => by
    unfold leaves at h
    obtain ⟨hg, h⟩ := guard_some h
    exact leaves_ok t { e with r := joinR h' a b e.r } σ h ⟨he.b, he.f, joinR_ok hg he.r, he.w⟩ hw h0 hk h1 h2
  | .cellI j t, e, σ, ls, h, he, hw, h0, hk, h1, h2 => by
    unfold leaves at h
    split at h
    · rename_i k hj
      obtain ⟨hg, h⟩ := guard_some h
      rw [Bool.and_eq_true] at hg
      obtain ⟨wn, v, q1, q2, q3, q4, q5⟩ := hw.len j _ hj
      obtain ⟨g1, g2⟩ := inWin_ok he hg.1
      obtain ⟨q, hq⟩ := int_cell (i := σ 0) q5 q3 q1 g1 (by rw [q4] at g2; exact g2)
      have he' := he.upd hg.2 q
      have hne : e.u ≠ 0 := by omega
      obtain ⟨e', m, σ', r1, r2⟩ := leaves_ok t _ (upV σ e.u q) h
        ⟨he'.b, he'.f, he'.r, fun x hx σ' K' hs => by
          rcases List.mem_cons.1 hx with rfl | hx
          · have e1 : σ' e.u = q := by
              have := hs.1
              have e2 : evL σ' [(e.u, 1)] = evL (upV σ e.u q) [(e.u, 1)] := this
              rw [evL_one, evL_one, upd_same] at e2
              exact e2
            have := hq σ' K' e.u e1
            rw [h0, q2] at this
            exact this
          · exact he'.w x hx σ' K' hs⟩
        ⟨fun j k hj => by
          obtain ⟨wn, v, q1, q2, q3, q4, q5⟩ := hw.len j k hj
          have hlt : j < ks.length := by
            rw [@nth_eq noSym] at hj
            exact (List.getElem?_eq_some_iff.1 hj).1
          exact ⟨wn, v, q1, q2, q3, by rw [upd_other (by show j + 1 ≠ e.u; omega)]; exact q4, q5⟩⟩ (by rw [upd_other (fun q => hne q.symm)]; exact h0) hk h1 (by show 1000 ≤ e.u + 1; omega)
      exact ⟨e', m, σ', r1, fun j hj => by rw [r2 j (show j < e.b.length ∨ (1000 ≤ j ∧ j < e.u + 1) by omega), upd_other (by omega)]⟩
    · cases h
  | .cellB j a b, e, σ, ls, h, he, hw, h0, hk, h1, h2 => by
    unfold leaves at h
    split at h
    · rename_i k hj
      obtain ⟨hg, h⟩ := guard_some h
      obtain ⟨x, y, hx, hy, rfl⟩ := catO_some h
      obtain ⟨wn, v, q1, q2, q3, q4, q5⟩ := hw.len j _ hj
      obtain ⟨g1, g2⟩ := inWin_ok he hg
      rcases bool_cell (i := σ 0) q5 q3 q1 g1 (by rw [q4] at g2; exact g2) with hq | hq
      · obtain ⟨e', m, σ', r1, r2⟩ := leaves_ok a _ σ hx ⟨he.b, he.f, he.r, fun x hx σ' K' hs => by
          rcases List.mem_cons.1 hx with rfl | hx
          · have := hq σ' K'
            rw [h0, q2] at this
            exact this
          · exact he.w x hx σ' K' hs⟩ hw h0 hk h1 h2
        exact ⟨e', List.mem_append_left _ m, σ', r1, r2⟩
      · obtain ⟨e', m, σ', r1, r2⟩ := leaves_ok b _ σ hy ⟨he.b, he.f, he.r, fun x hx σ' K' hs => by
          rcases List.mem_cons.1 hx with rfl | hx
          · have := hq σ' K'
            rw [h0, q2] at this
            exact this
          · exact he.w x hx σ' K' hs⟩ hw h0 hk h1 h2
        exact ⟨e', List.mem_append_right _ m, σ', r1, r2⟩
    · cases h
end
def AllG (Q : Lf → Prop) : List Lf → Prop
  | [] => True
  | e :: l => Q e ∧ AllG Q l
theorem allG_mem {Q : Lf → Prop} : ∀ {l : List Lf}, AllG Q l → ∀ e ∈ l, Q e
  | [], _, e, he => by cases he
  | x :: l, h, e, he => by
    rcases List.mem_cons.1 he with rfl | he
    · exact h.1
    · exact allG_mem h.2 e he
def lensIn (m : Nat) : List (Key × Nat) → Bool
  | [] => true
  | q :: r => Nat.ble (Nat.succ q.2) m && lensIn m r
theorem lensIn_ok {m : Nat} : ∀ {l : List (Key × Nat)}, lensIn m l = true → ∀ q ∈ l, q.2 < m
  | [], _, q, h => by cases h
  | x :: r, h, q, hq => by
    unfold lensIn at h
    rw [Bool.and_eq_true] at h
    rcases List.mem_cons.1 hq with rfl | hq
    · exact @ble_yes noSym _ _ h.1
    · exact lensIn_ok h.2 q hq
def LeafGood (P : Program) (code : FuncId → CFn) (nat : Nats) (fuel G : Nat) (ws L : List (Key × Nat)) (Ts : List TS) (p : List Stp) (cc : CCode) (rs : List CRes) (T : TS) (e : Lf) : Prop :=
  apartK T.objs e.l = true ∧ ∃ hs, ∀ (s : Nat → Int) (A : Key → Option Value), passOf P code nat fuel G ws L Ts p cc rs T e.l (linSym s (e.known A)) (e.known A) hs = true
def StateGood (P : Program) (code : FuncId → CFn) (nat : Nats) (fuel G : Nat) (ws L : List (Key × Nat)) (Ts : List TS) (p : List Stp) (cc : CCode) (rs : List CRes) (ks : List (Key × Bool)) (T : TS) : Prop :=
  ∃ (tree : LTree) (ls : List Lf), leaves ks tree ⟨T.b, T.f, T.r, [], 1000⟩ = some ls ∧ (Nat.ble (Nat.succ ks.length) T.b.length && Nat.ble T.b.length 1000 && lensIn T.b.length L) = true ∧
    AllG (LeafGood P code nat fuel G ws L Ts p cc rs T) ls
def AllS (Q : TS → Prop) : List TS → Prop
  | [] => True
  | T :: l => Q T ∧ AllS Q l
theorem allS_nth {Q : TS → Prop} : ∀ {l : List TS} {t : Nat} {T : TS}, AllS Q l → nth l t = some T → Q T
  | [], _, _, _, h => by cases h
  | x :: l, 0, T, h, hn => by
    injection hn with hn
    subst hn
    exact h.1
  | x :: l, t + 1, T, h, hn => allS_nth (t := t) h.2 hn
theorem passes_all {code : FuncId → CFn} {nat : Nats} {fuel G : Nat} {wins : List Win} {ws L : List (Key × Nat)} {A : Key → Option Value} {Ts : List TS} {p : List Stp} {cc : CCode} {rs : List CRes} {w0 : World} {ks : List (Key × Bool)}
    (hws : wsOf wins = ws) (hwin : ∀ σ, LensAre wins L σ → WinIs wins w0 σ ks) (h : AllS (StateGood P code nat fuel G ws L Ts p cc rs ks) Ts) : Passes P code nat fuel G wins L A Ts p cc rs w0 := by
  intro t T hT σ hb hf hr hlen
  obtain ⟨tree, ls, h1, h2, h3⟩ := allS_nth h hT
  rw [Bool.and_eq_true, Bool.and_eq_true] at h2
  have g1 := @ble_yes noSym _ _ h2.1.1
  have g2 := @ble_yes noSym _ _ h2.1.2
  obtain ⟨e, hm, σ', r1, r2⟩ := leaves_ok (wins := wins) (w0 := w0) (i := σ 0) tree _ σ h1 ⟨hb, hf, hr, fun q hq => by cases hq⟩ (hwin σ hlen) rfl (by show ks.length < T.b.length; omega) g2 (Nat.le_refl _)
  obtain ⟨hap, hs, hpass⟩ := allG_mem h3 e hm
  refine ⟨σ', e.known A, e.l, hs, fun j hj => r2 j (.inl hj), fun q hq => r2 _ (.inl (lensIn_ok h2.2 q hq)), rfl, r1.known A, fun q hq => r1.w q hq σ' _ sameOn_refl, hap, ?_⟩
  rw [hws]
  exact hpass σ' A
theorem calls_tree {code : FuncId → CFn} {nat : Nats} {fuel : Nat} {f : FuncId} {fn : Func} {c b : Code} {cc : CCode} {p : List Stp} {rs : List CRes} {G : Nat} {wins : List Win} {ws L : List (Key × Nat)} {A : Key → Option Value} {Ts : List TS} {bound : Int} {w0 : World}
    {ks : List (Key × Bool)} {tree : LTree} {e0 : Lf} {ls : List Lf} {σ : Nat → Int} {args : List CV} {args' : Array Value} {n : Key} (hws : wsOf wins = ws)
    (hls : leaves ks tree e0 = some ls) (hchk : (Nat.ble (Nat.succ ks.length) e0.b.length && Nat.ble e0.b.length 1000 && Nat.ble 1000 e0.u && lensIn e0.b.length L) = true)
    (hall : AllG (fun e => ∃ hs, ∀ (s : Nat → Int) (A : Key → Option Value), startOf P code nat fuel G ws L Ts p cc args n (linSym s (e.known A)) (e.known A) hs = true) ls)
    (h0 : LfOk wins w0 (σ 0) σ e0) (hlen : LensAre wins L σ) (hwin : ∀ σ, LensAre wins L σ → WinIs wins w0 σ ks)
    (hm : P.follows .mixedOrders = true) (hcode : CodeOk P code) (hnat : ∀ [Sym] [SymFact P], NatsOk P nat) (hf : P.funcs[f]? = some fn) (hb : fn.body = some c) (hcf : compFn P f = .mk cc rs) (hsub : subC p c = some b)
    (hG : P.globals.size ≤ G) (hn : G ≤ n.ix) (hw : winB G n.ix ws = true) (hA : ArgsAre A wins) (hB : ∀ x ∈ wins, ∀ y ∈ wins, x.B = y.B → x.key = y.key) (hbd : boundIs bound Ts = true)
    (hargs : ∀ σ' K', K'.arg = A → (∀ j, (j < e0.b.length ∨ (1000 ≤ j ∧ j < e0.u)) → σ' j = σ j) → @VRels (linSym σ' K') (psiW G wins) args args'.toList)
    (hgood : Passes P code nat fuel G wins L A Ts p cc rs w0) : Calls P f args' w0 fun e w => e = .returned (.bool true) ∧ Below w0.heap.size w0 w := by
  simp only [Bool.and_eq_true] at hchk
  obtain ⟨⟨⟨g1, g2⟩, g3⟩, g4⟩ := hchk
  have g1 := @ble_yes noSym _ _ g1
  obtain ⟨e, hmem, σ', r1, r2⟩ := leaves_ok (wins := wins) (w0 := w0) (i := σ 0) tree e0 σ hls h0 (hwin σ hlen) rfl (by omega) (@ble_yes noSym _ _ g2) (@ble_yes noSym _ _ g3)
  obtain ⟨hs, hrun⟩ := allG_mem hall e hmem
  subst hws
  exact loop_calls (K := e.known A) (r1.known A) rfl (fun q hq => by
    obtain ⟨wn, h1, h2⟩ := hlen q hq
    exact ⟨wn, h1, by rw [r2 _ (.inl (lensIn_ok g4 q hq))]; exact h2⟩) hm hcode hnat hf hb hcf hsub hG hn hw hA hB hbd (hargs σ' _ rfl r2) (hrun σ' A) hgood
theorem allG_nil {Q : Lf → Prop} : AllG Q [] := trivial
theorem allG_cons {Q : Lf → Prop} {e : Lf} {l : List Lf} (h : Q e) (r : AllG Q l) : AllG Q (e :: l) := ⟨h, r⟩
theorem allS_nil {Q : TS → Prop} : AllS Q [] := trivial
theorem allS_cons {Q : TS → Prop} {T : TS} {l : List TS} (h : Q T) (r : AllS Q l) : AllS Q (T :: l) := ⟨h, r⟩
theorem relsV {σ : Nat → Int} {K : Known} {ψ : Psi} {i : Nat} {a : Int} {l : List CV} {m : List Value} (ha : σ i = a) (h : @VRels (linSym σ K) ψ l m) : @VRels (linSym σ K) ψ (.sym (sv i) :: l) (.int .i64 a :: m) := by
  subst ha
  exact relsI h
theorem relsA {σ : Nat → Int} {K : Known} {ψ : Psi} {a : Int} {l : List CV} {m : List Value} (h : @VRels (linSym σ K) ψ l m) : @VRels (linSym σ K) ψ (.anyi .i64 :: l) (.int .i64 a :: m) :=
  (@vrels_cons' (linSym σ K) _ _ _ _ _).2 ⟨(@vrel_anyi (linSym σ K) _ _ _).2 ⟨a, rfl⟩, h⟩
theorem len_of {wins : List Win} {L : List (Key × Nat)} {σ : Nat → Int} {w : Win} {k : Key} {j : Nat} (h : LensAre wins L σ) (hm : (k, j) ∈ L) (hw : findW wins k = some w) : σ j = w.len := by
  obtain ⟨wn, h1, h2⟩ := h _ hm
  simp only at h1
  rw [hw] at h1
  injection h1 with h1
  subst h1
  exact h2
end
end Go.Ev

