/- A verified evaluator for the model's code: EvWord, EvTree. -/
import Derived.Test.YtpcoeilcgjaddaaGreatDoorEvArg
set_option linter.unusedSectionVars false
set_option linter.unusedVariables false
set_option linter.unusedSimpArgs false
namespace Go.Ev
noncomputable section
theorem uQ (m : Nat) : mkInt .i64 (.ofNat m) = .nat m := by cases m <;> rfl
theorem zAz (m : Nat) : mkInt .i64 (.negSucc m) = .int .i64 (.negSucc m) := by cases m <;> rfl
theorem zG8 {a b : Int} (h : mkInt .i64 a = mkInt .i64 b) : a = b := by
  cases a with
  | ofNat a => cases b with
    | ofNat b => rw [uQ, uQ] at h; injection h with h; rw [h]
    | negSucc b => rw [uQ, zAz] at h; cases h
  | negSucc a => cases b with
    | ofNat b => rw [uQ, zAz] at h; cases h
    | negSucc b => rw [zAz, zAz] at h; injection h
theorem zDQ (q : Int) : (toU .i64 q : Int) = q % 18446744073709551616 := by
  cases q with
  | ofNat m =>
    show ((m % 2 ^ 64 : Nat) : Int) = (m : Int) % 18446744073709551616
    omega
  | negSucc m =>
    show ((2 ^ 64 - 1 - m % 2 ^ 64 : Nat) : Int) = Int.negSucc m % 18446744073709551616
    rw [Int.negSucc_eq]
    omega
theorem zA2 (q : Int) {n : Nat} (hn : n ≤ 31) : yH .and .i64 q (.ofNat (2 ^ n - 1)) = some (mkInt .i64 (.ofNat (toU .i64 q % 2 ^ n))) := by
  have hp : 2 ^ n ≤ 2 ^ 31 := Nat.pow_le_pow_right (by decide) hn
  have h1 : toU .i64 (.ofNat (2 ^ n - 1)) = 2 ^ n - 1 := Nat.mod_eq_of_lt (show 2 ^ n - 1 < 2 ^ 64 by omega)
  show some (mkInt .i64 (yZ .i64 (.ofNat (Nat.land (toU .i64 q) (toU .i64 (.ofNat (2 ^ n - 1))))))) = _
  rw [h1]
  have h2 : Nat.land (toU .i64 q) (2 ^ n - 1) = toU .i64 q % 2 ^ n := Nat.and_two_pow_sub_one_eq_mod _ n
  rw [h2]
  have h3 : toU .i64 q % 2 ^ n < 2 ^ n := Nat.mod_lt _ (Nat.two_pow_pos n)
  have h4 : yZ .i64 (.ofNat (toU .i64 q % 2 ^ n)) = .ofNat (toU .i64 q % 2 ^ n) := by
    generalize toU .i64 q % 2 ^ n = x at h3
    rw [@yl zZ]
    simp [IntKind.wrap, IntKind.signed, IntKind.bits]
    omega
  rw [h4]
theorem zEe (q : Int) : yH .shr .i64 q (.ofNat 4) = some (mkInt .i64 (q / 16)) := by
  cases q with
  | ofNat a =>
    show some (ql .i64 (Nat.div a (Nat.pow 2 (min 4 64)))) = some (mkInt .i64 ((a : Int) / 16))
    have e : ((a : Int) / 16) = Int.ofNat (a / 16) := by
      show (a : Int) / 16 = ((a / 16 : Nat) : Int)
      omega
    rw [e, uQ]
    show some (qq (a / 16)) = _
    generalize a / 16 = x
    cases x <;> rfl
  | negSucc a =>
    show some (mkInt .i64 ((Int.negSucc a).fdiv (.ofNat (Nat.pow 2 (min 4 64))))) = _
    have e : (Int.negSucc a).fdiv (.ofNat (Nat.pow 2 (min 4 64))) = Int.negSucc a / 16 := by
      show (Int.negSucc a).fdiv 16 = _
      rw [Int.fdiv_eq_ediv_of_nonneg _ (by decide)]
    rw [e]
theorem zIV {h g a b : Int} (h1 : yH .and .i64 h (.ofNat 15) = some (mkInt .i64 a)) (h2 : yH .shr .i64 h (.ofNat 4) = some (mkInt .i64 g)) (h3 : yH .and .i64 g (.ofNat 15) = some (mkInt .i64 b)) :
    yH .and .i64 h (.ofNat 255) = some (mkInt .i64 (a + 16 * b)) ∧ yH .and .i64 (a + 16 * b) (.ofNat 15) = some (mkInt .i64 a) ∧ yH .shr .i64 (a + 16 * b) (.ofNat 4) = some (mkInt .i64 b) := by
  have e15 : ∀ q : Int, yH .and .i64 q (.ofNat 15) = some (mkInt .i64 (.ofNat (toU .i64 q % 16))) := fun q => zA2 q (n := 4) (by decide)
  have e255 : ∀ q : Int, yH .and .i64 q (.ofNat 255) = some (mkInt .i64 (.ofNat (toU .i64 q % 256))) := fun q => zA2 q (n := 8) (by decide)
  rw [e15] at h1 h3
  rw [zEe] at h2
  have a1 := zG8 (Option.some.inj h1)
  have a2 := zG8 (Option.some.inj h2)
  have a3 := zG8 (Option.some.inj h3)
  have u1 := zDQ h
  have u2 := zDQ g
  have u3 := zDQ (a + 16 * b)
  have a1 : ((toU .i64 h % 16 : Nat) : Int) = a := a1
  have a3 : ((toU .i64 g % 16 : Nat) : Int) = b := a3
  refine ⟨?_, ?_, ?_⟩
  · rw [e255]
    congr 2
    show ((toU .i64 h % 256 : Nat) : Int) = a + 16 * b
    omega
  · rw [e15]
    congr 2
    show ((toU .i64 (a + 16 * b) % 16 : Nat) : Int) = a
    omega
  · rw [zEe]
    congr 2
    omega
def zO0 (n : Nat) (e : SE) : Bool := match e.k, e.l with
  | .i64, [p] => Nat.beq p.1 n && decide (p.2 = 1) && decide (e.c = 0)
  | _, _ => false
theorem zKm {n : Nat} {e : SE} (h : zO0 n e = true) : e = sv n := by
  obtain ⟨k, c, l⟩ := e
  unfold zO0 at h
  split at h
  · rename_i p h1 h2
    simp only at h1 h2
    subst h1 h2
    simp only [Bool.and_eq_true, decide_eq_true_eq] at h
    obtain ⟨⟨h1, h2⟩, h3⟩ := h
    obtain ⟨i, z⟩ := p
    simp only at h1 h2 h3
    have h1 := Nat.eq_of_beq_eq_true h1
    subst h1 h2 h3
    rfl
  · cases h
def zP2 : Bool → BinOp → Bool
  | true, .and => true
  | false, .shr => true
  | _, _ => false
def zLX : Bool → BinOp
  | true => .and
  | false => .shr
theorem zOJ {b : Bool} {o : BinOp} (h : zP2 b o = true) : o = zLX b := by
  unfold zP2 at h
  split at h
  · rfl
  · rfl
  · cases h
def zQh (b : Bool) (h c a : Nat) (q : SRule) : Bool := zP2 b q.op && zO0 h q.x && Nat.beq q.c c && (match q.v with
  | .sym e => zO0 a e
  | _ => false)
def zL3 (b : Bool) (h c a : Nat) : List SRule → Bool
  | [] => false
  | q :: r => zQh b h c a q || zL3 b h c a r
theorem zO4 {σ : Nat → Int} {b : Bool} {h c a : Nat} {q : SRule} (hq : zQh b h c a q = true) (hr : x8 σ q) {z : Int} (hz : yH (zLX b) .i64 (σ h) (.ofNat c) = some (mkInt .i64 z)) :
    yH (zLX b) .i64 (σ h) (.ofNat c) = some (mkInt .i64 (σ a)) := by
  unfold zQh at hq
  simp only [Bool.and_eq_true] at hq
  obtain ⟨⟨⟨h1, h2⟩, h3⟩, h4⟩ := hq
  split at h4
  · rename_i e he
    have h1 := zOJ h1
    have h2 := zKm h2
    have h3 := Nat.eq_of_beq_eq_true h3
    have h4 := zKm h4
    subst h4
    obtain ⟨u, _, g2, g3⟩ := hr
    rw [h1, h2, h3] at g2
    have g2 : yH (zLX b) .i64 (evE σ (sv h)) (.ofNat c) = some u := g2
    rw [jo] at g2
    rw [he] at g3
    rw [g2]
    rcases g3 with g3 | ⟨e, g3, g4⟩
    · rw [hz] at g2
      have g2 := Option.some.inj g2
      rw [← g3] at g2
      cases z with
      | ofNat m => rw [uQ] at g2; cases g2
      | negSucc m => rw [zAz] at g2; cases g2
    · injection g3 with g3
      subst g3
      rw [g4, jo]
      rfl
  · cases h4
theorem zCY {σ : Nat → Int} {b : Bool} {h c a : Nat} {z : Int} (hz : yH (zLX b) .i64 (σ h) (.ofNat c) = some (mkInt .i64 z)) : ∀ {r : List SRule}, zL3 b h c a r = true → xn σ r →
    yH (zLX b) .i64 (σ h) (.ofNat c) = some (mkInt .i64 (σ a))
  | [], hr, _ => by cases hr
  | q :: r, hr, ho => by
    unfold zL3 at hr
    rw [Bool.or_eq_true] at hr
    rcases hr with hr | hr
    · exact zO4 hr ho.1 hz
    · exact zCY hz hr ho.2
def zCn (a b : Nat) : SE := ⟨.i64, .ofNat 0, [(a, 1), (b, 16)]⟩
theorem zD4 (σ : Nat → Int) (a b : Nat) : evE σ (zCn a b) = σ a + 16 * σ b := by
  show (0 : Int) + (1 * σ a + (16 * σ b + 0)) = _
  omega
def zJh (r : List SRule) (h g a b : Nat) : Bool := zL3 true h 15 a r && zL3 false h 4 g r && zL3 true g 15 b r
def zOl (h a b : Nat) (r : List SRule) : List SRule := ⟨.and, sv h, 255, .sym (zCn a b)⟩ :: ⟨.and, zCn a b, 15, .sym (sv a)⟩ :: ⟨.shr, zCn a b, 4, .sym (sv b)⟩ :: r
theorem zNa {σ : Nat → Int} {r : List SRule} {h g a b : Nat} (hj : zJh r h g a b = true) (hr : xn σ r) : xn σ (zOl h a b r) := by
  unfold zJh at hj
  simp only [Bool.and_eq_true] at hj
  obtain ⟨⟨h1, h2⟩, h3⟩ := hj
  have g1 := zCY (σ := σ) (b := true) (h := h) (c := 15) (zA2 (σ h) (n := 4) (by decide)) h1 hr
  have g2 := zCY (σ := σ) (b := false) (h := h) (c := 4) (zEe (σ h)) h2 hr
  have g3 := zCY (σ := σ) (b := true) (h := g) (c := 15) (zA2 (σ g) (n := 4) (by decide)) h3 hr
  obtain ⟨w1, w2, w3⟩ := zIV g1 g2 g3
  refine ⟨⟨_, .inl rfl, ?_, .inr ⟨zCn a b, rfl, rfl⟩⟩, ⟨_, .inl rfl, ?_, .inr ⟨sv a, rfl, rfl⟩⟩, ⟨_, .inl rfl, ?_, .inr ⟨sv b, rfl, rfl⟩⟩, hr⟩
  · show yH .and .i64 (evE σ (sv h)) (.ofNat 255) = some (mkInt .i64 (evE σ (zCn a b)))
    rw [jo, zD4]; exact w1
  · show yH .and .i64 (evE σ (zCn a b)) (.ofNat 15) = some (mkInt .i64 (evE σ (sv a)))
    rw [jo, zD4]; exact w2
  · show yH .shr .i64 (evE σ (zCn a b)) (.ofNat 4) = some (mkInt .i64 (evE σ (sv b)))
    rw [jo, zD4]; exact w3
end
end Go.Ev

namespace Go.Ev
open Go.RowKit
noncomputable section
variable {P : Program}
inductive LTree where
  | leaf
  | cmp (l : LL) (cut : Int) (a b : LTree)
  | and (v m : Nat) (ts : Nat → LTree)
  | rem (v m : Nat) (ts : Nat → LTree)
  | remn (v m : Nat) (ts : Nat → LTree)
  | bit (v t : Nat) (a b : LTree)
  | shr (v c : Nat) (t : LTree)
  | mask (v m : Nat) (t : LTree)
  | join (h g a b : Nat) (t : LTree)
  | cellI (j : Nat) (t : LTree)
  | cellB (j : Nat) (a b : LTree)
  | pin (v : Nat) (ts : Nat → LTree)
  | shrb (v c : Nat) (t : LTree)
structure Lf where
  b : List (Int × Int)
  f : List (LL × Int × Int)
  r : List SRule
  l : List (Key × List CV)
  u : Nat
def Lf.known (e : Lf) (A : Key → Option Value) : zY := ⟨e.b, e.f, e.r, A⟩
def zCi (n : Nat) : LL → Bool
  | [] => true
  | p :: r => !(Nat.beq p.1 n) && zCi n r
def y8 (n : Nat) : List CV → Bool
  | [] => true
  | .sym e :: r => zCi n e.l && y8 n r
  | .bool _ :: r => y8 n r
  | _ :: _ => false
def zMv (n : Nat) : CV → Bool
  | .sym e => zCi n e.l
  | .nat _ => true
  | .int _ _ => true
  | _ => false
def zGB (n : Nat) : List (LL × Int × Int) → Bool
  | [] => true
  | q :: r => zCi n q.1 && zGB n r
def zHe (n : Nat) : List SRule → Bool
  | [] => true
  | q :: r => zCi n q.x.l && zMv n q.v && zHe n r
def zDU (n : Nat) : List (Key × List CV) → Bool
  | [] => true
  | q :: r => y8 n q.2 && zDU n r
def Lf.free (e : Lf) (n : Nat) : Bool := zGB n e.f && zHe n e.r && zDU n e.l && Nat.ble e.b.length n
def upV (σ : Nat → Int) (n : Nat) (z : Int) : Nat → Int := fun i => if i = n then z else σ i
theorem upd_same {σ : Nat → Int} {n : Nat} {z : Int} : upV σ n z n = z := by simp [upV]
theorem upd_other {σ : Nat → Int} {n i : Nat} {z : Int} (h : i ≠ n) : upV σ n z i = σ i := by simp [upV, h]
theorem zAG {σ : Nat → Int} {n : Nat} {z : Int} : ∀ {l : LL}, zCi n l = true → evL (upV σ n z) l = evL σ l
  | [], _ => rfl
  | p :: r, h => by
    unfold zCi at h
    rw [Bool.and_eq_true] at h
    have hne : p.1 ≠ n := fun e => by
      have h1 := h.1
      rw [e] at h1
      simp at h1
    show p.2 * upV σ n z p.1 + evL (upV σ n z) r = p.2 * σ p.1 + evL σ r
    rw [upd_other hne, zAG h.2]
theorem zCC {σ : Nat → Int} {n : Nat} {z : Int} : ∀ {f : List (LL × Int × Int)}, zGB n f = true → qr σ f → qr (upV σ n z) f
  | [], _, _ => trivial
  | q :: r, h, hf => by
    unfold zGB at h
    rw [Bool.and_eq_true] at h
    refine ⟨?_, zCC h.2 hf.2⟩
    rw [zAG h.1]; exact hf.1
theorem zJs {σ : Nat → Int} {n : Nat} {z : Int} {q : SRule} (h1 : zCi n q.x.l = true) (h2 : zMv n q.v = true) (h : x8 σ q) : x8 (upV σ n z) q := by
  obtain ⟨u, g1, g2, g3⟩ := h
  refine ⟨u, g1, ?_, ?_⟩
  · unfold evE at g2 ⊢
    rw [zAG h1]; exact g2
  · rcases g3 with g3 | ⟨e, g3, g4⟩
    · exact .inl g3
    · refine .inr ⟨e, g3, ?_⟩
      rw [g3] at h2
      unfold evE at g4 ⊢
      rw [zAG (l := e.l) h2]; exact g4
theorem zCE {σ : Nat → Int} {n : Nat} {z : Int} : ∀ {r : List SRule}, zHe n r = true → xn σ r → xn (upV σ n z) r
  | [], _, _ => trivial
  | q :: r, h, hr => by
    unfold zHe at h
    rw [Bool.and_eq_true, Bool.and_eq_true] at h
    exact ⟨zJs h.1.1 h.1.2 hr.1, zCE h.2 hr.2⟩
theorem zA3 {σ : Nat → Int} {n : Nat} {z : Int} : ∀ {b : List (Int × Int)} {k : Nat}, k + b.length ≤ n → yt σ k b → yt (upV σ n z) k b
  | [], _, _, _ => trivial
  | q :: r, k, h, hb => by
    simp only [List.length_cons] at h
    refine ⟨?_, zA3 (by omega) hb.2⟩
    rw [upd_other (by omega)]; exact hb.1
theorem wC {σ : Nat → Int} {lo hi : Int} : ∀ {b : List (Int × Int)} {k : Nat}, yt σ k b → lo ≤ σ (k + b.length) → σ (k + b.length) ≤ hi → yt σ k (b ++ [(lo, hi)])
  | [], k, _, h1, h2 => ⟨⟨h1, h2⟩, trivial⟩
  | q :: r, k, hb, h1, h2 => by
    simp only [List.length_cons] at h1 h2
    have e : k + 1 + r.length = k + (r.length + 1) := by omega
    exact ⟨hb.1, wC hb.2 (by rw [e]; exact h1) (by rw [e]; exact h2)⟩
def zAp (σ σ' : Nat → Int) : List CV → Prop
  | [] => True
  | .sym e :: r => evL σ' e.l = evL σ e.l ∧ zAp σ σ' r
  | _ :: r => zAp σ σ' r
def zIK (wins : List Win) (w0 : World) (i : Int) (σ : Nat → Int) (l : List (Key × List CV)) : Prop :=
  ∀ q ∈ l, ∀ σ' K', zAp σ σ' q.2 → zCB (linSym σ' K') wins w0 i q
theorem vk {σ : Nat → Int} : ∀ {l : List CV}, zAp σ σ l
  | [] => trivial
  | c :: r => by
    unfold zAp
    split <;> first | trivial | (rename_i h; injection h with h1 h2; subst h1 h2; exact ⟨rfl, vk⟩) | (rename_i h; injection h with h1 h2; subst h1 h2; exact vk)
theorem ut {σ σ' : Nat → Int} {n : Nat} {z : Int} : ∀ {l : List CV}, y8 n l = true → zAp (upV σ n z) σ' l → zAp σ σ' l
  | [], _, _ => trivial
  | .sym e :: r, h, hs => by
    unfold y8 at h
    rw [Bool.and_eq_true] at h
    obtain ⟨h1, h2⟩ := hs
    rw [zAG h.1] at h1
    exact ⟨h1, ut h.2 h2⟩
  | .bool b :: r, h, hs => ut (l := r) (by simpa [y8] using h) hs
  | .nat _ :: _, h, _ => by simp [y8] at h
  | .int _ _ :: _, h, _ => by simp [y8] at h
  | .anyi _ :: _, h, _ => by simp [y8] at h
  | .str _ :: _, h, _ => by simp [y8] at h
  | .nilptr :: _, h, _ => by simp [y8] at h
  | .ptr _ _ :: _, h, _ => by simp [y8] at h
  | .nilsl :: _, h, _ => by simp [y8] at h
  | .sl .. :: _, h, _ => by simp [y8] at h
  | .nilmap :: _, h, _ => by simp [y8] at h
  | .map _ :: _, h, _ => by simp [y8] at h
  | .func .. :: _, h, _ => by simp [y8] at h
  | .nilfunc :: _, h, _ => by simp [y8] at h
  | .iface .. :: _, h, _ => by simp [y8] at h
  | .niliface :: _, h, _ => by simp [y8] at h
  | .agg _ :: _, h, _ => by simp [y8] at h
  | .tup _ :: _, h, _ => by simp [y8] at h
  | .win .. :: _, h, _ => by simp [y8] at h
  | .sst _ :: _, h, _ => by simp [y8] at h
  | .any :: _, h, _ => by simp [y8] at h
theorem zJT {wins : List Win} {w0 : World} {i : Int} {σ : Nat → Int} {n : Nat} {z : Int} {l : List (Key × List CV)} (h : zDU n l = true) (hw : zIK wins w0 i σ l) : zIK wins w0 i (upV σ n z) l := by
  intro q hq σ' K' hs
  have : ∀ {l : List (Key × List CV)}, zDU n l = true → q ∈ l → y8 n q.2 = true := by
    intro l
    induction l with
    | nil => intro _ hq; cases hq
    | cons x r ih =>
      intro h hq
      unfold zDU at h
      rw [Bool.and_eq_true] at h
      rcases List.mem_cons.1 hq with rfl | hq
      · exact h.1
      · exact ih h.2 hq
  exact hw q hq σ' K' (ut (this h hq) hs)
structure zEL (wins : List Win) (w0 : World) (i : Int) (σ : Nat → Int) (e : Lf) : Prop where
  b : yt σ 0 e.b
  f : qr σ e.f
  r : xn σ e.r
  w : zIK wins w0 i σ e.l
theorem zEL.known {wins : List Win} {w0 : World} {i : Int} {σ : Nat → Int} {e : Lf} (h : zEL wins w0 i σ e) (A : Key → Option Value) : KnownOk σ (e.known A) := zK4 h.b h.f h.r
theorem zEL.upd {wins : List Win} {w0 : World} {i : Int} {σ : Nat → Int} {e : Lf} (h : zEL wins w0 i σ e) {n : Nat} (hn : e.free n = true) (z : Int) : zEL wins w0 i (Go.Ev.upV σ n z) e := by
  unfold Lf.free at hn
  simp only [Bool.and_eq_true] at hn
  obtain ⟨⟨⟨h1, h2⟩, h3⟩, h4⟩ := hn
  exact ⟨zA3 (by have := @zM zZ _ _ h4; omega) h.b, zCC h1 h.f, zCE h2 h.r, zJT h3 h.w⟩
def zLU (a b : Option (List Lf)) : Option (List Lf) := match a, b with
  | some x, some y => some (x ++ y)
  | _, _ => none
def zE1 (m : Nat) (g : Nat → Option (List Lf)) : Option (List Lf) := Nat.rec (motive := fun _ => Option (List Lf)) (g 0) (fun j ih => zLU ih (g (Nat.succ j))) m
def zNP (e : Lf) (l : LL) : Option (Int × Int) := rng (e.known (fun _ => none)) l
def zK0 (e : Lf) (j : Nat) : Bool := match zNP e [(0, 1), (Nat.succ j, -1)], zNP e [(0, 1)] with
  | some p, some q => decide (p.2 < 0) && decide (0 ≤ q.1)
  | _, _ => false
def zQM (e : Lf) (q : LL × Int × Int) : Lf := { e with f := q :: e.f }
def zHy (e : Lf) (q : SRule) : Lf := { e with r := q :: e.r }
def zP5 (e : Lf) (q : Key × List CV) : Lf := { e with l := q :: e.l }
def zQz (e : Lf) (lo hi : Int) : Lf := { e with b := e.b ++ [(lo, hi)] }
def zQy (e : Lf) : Lf := { e with u := Nat.succ e.u }
def kV (b : Bool) (o : Option (List Lf)) : Option (List Lf) := match b with
  | true => o
  | false => none
def zC0 (lo hi : Int) (o : Option (List Lf)) : Option (List Lf) := match decide (hi < lo) with
  | true => some []
  | false => o
def zHq (b : List (Int × Int)) (v : Nat) (q : Int × Int) : List (Int × Int) := match b with
  | [] => []
  | x :: r => match v with
    | 0 => q :: r
    | v + 1 => x :: zHq r v q
def zQp (e : Lf) (v : Nat) (z : Int) : Lf := { e with b := zHq e.b v (z, z) }
def leaves (ks : List (Key × Bool)) : LTree → Lf → Option (List Lf)
  | .leaf, e => some [e]
  | .cmp l cut a b, e => match zNP e l with
    | none => none
    | some q => zLU (zC0 q.1 (min q.2 (cut - 1)) (leaves ks a (zQM e (l, q.1, min q.2 (cut - 1))))) (zC0 (max q.1 cut) q.2 (leaves ks b (zQM e (l, max q.1 cut, q.2))))
  | .and v m ts, e => kV (Nat.ble m 127) (zE1 m fun j => leaves ks (ts j) (zHy e (rv .and v m (mkInt .i64 (.ofNat j)))))
  | .rem v m ts, e => zE1 (2 * m) fun j => leaves ks (ts j) (zHy e (rv .rem v (m + 1) (mkInt .i64 (Int.ofNat j - Int.ofNat m))))
  | .remn v m ts, e => match zNP e [(v, 1)] with
    | none => none
    | some q => kV (decide (0 ≤ q.1)) (zE1 m fun j => leaves ks (ts j) (zHy e (rv .rem v (m + 1) (mkInt .i64 (.ofNat j)))))
  | .bit v t a b, e => kV (Nat.ble t 6) (zLU (leaves ks a (zHy e (rv .and v (2 ^ t) (mkInt .i64 (.ofNat 0))))) (leaves ks b (zHy e (rv .and v (2 ^ t) (mkInt .i64 (.ofNat (2 ^ t)))))))
  | .shr v c t, e => kV (e.free e.u && !(Nat.beq v e.u)) (leaves ks t (zHy (zQy e) (rv .shr v c (.sym (sv e.u)))))
  | .mask v m t, e => kV (e.free e.b.length && !(Nat.beq v e.b.length) && Nat.ble m 4294967295 && Nat.ble (Nat.succ e.b.length) 1000) (leaves ks t (zHy (zQz e 0 (.ofNat m)) (rv .and v m (.sym (sv e.b.length)))))
  | .join h g a b t, e => kV (zJh e.r h g a b) (leaves ks t { e with r := zOl h a b e.r })
  | .cellI j t, e => match nth ks j with
    | some (k, true) => kV (zK0 e j && e.free e.u) (leaves ks t (zP5 (zQy e) (k, [.sym (sv e.u)])))
    | _ => none
  | .cellB j a b, e => match nth ks j with
    | some (k, false) => kV (zK0 e j) (zLU (leaves ks a (zP5 e (k, [.bool false]))) (leaves ks b (zP5 e (k, [.bool true]))))
    | _ => none
  | .pin v ts, e => match nth e.b v with
    | some q => zE1 (q.2 - q.1).toNat fun j => leaves ks (ts j) (zQp e v (q.1 + Int.ofNat j))
    | none => none
  | .shrb v c t, e => match nth e.b v with
    | some q => kV (e.free e.b.length && !(Nat.beq v e.b.length) && Nat.ble (Nat.succ e.b.length) 1000 && decide (0 ≤ q.1) && Nat.ble c 60) (leaves ks t (zHy (zQz e (q.1 / 2 ^ c) (q.2 / 2 ^ c)) (rv .shr v c (.sym (sv e.b.length)))))
    | none => none
def zO7 (w0 : World) (v : Value) (wn : Win) : Bool → Prop
  | true => IntArg w0 v wn
  | false => zKh w0 v wn
structure WinIs (wins : List Win) (w0 : World) (σ : Nat → Int) (ks : List (Key × Bool)) : Prop where
  len : ∀ j k, nth ks j = some k → ∃ wn v, findW wins wn.key = some wn ∧ wn.key = k.1 ∧ wn.esz = 1 ∧ σ (Nat.succ j) = wn.len ∧ zO7 w0 v wn k.2
theorem uJ {a b : Option (List Lf)} {l : List Lf} (h : zLU a b = some l) : ∃ x y, a = some x ∧ b = some y ∧ l = x ++ y := by
  unfold zLU at h
  split at h
  · injection h with h; exact ⟨_, _, rfl, rfl, h.symm⟩
  · cases h
theorem wk {g : Nat → Option (List Lf)} : ∀ {m : Nat} {l : List Lf}, zE1 m g = some l → ∀ j, j ≤ m → ∃ x, g j = some x ∧ ∀ e ∈ x, e ∈ l
  | 0, l, h, j, hj => by
    obtain rfl : j = 0 := by omega
    exact ⟨l, h, fun e he => he⟩
  | m + 1, l, h, j, hj => by
    obtain ⟨x, y, h1, h2, rfl⟩ := uJ (a := zE1 m g) (b := g (m + 1)) h
    by_cases e : j = m + 1
    · subst e; exact ⟨y, h2, fun e he => List.mem_append_right _ he⟩
    · obtain ⟨z, h3, h4⟩ := wk h1 j (by omega)
      exact ⟨z, h3, fun e he => List.mem_append_left _ (h4 e he)⟩
theorem xf {b : Bool} {o : Option (List Lf)} {l : List Lf} (h : kV b o = some l) : b = true ∧ o = some l := by
  unfold kV at h
  split at h
  · exact ⟨rfl, h⟩
  · cases h
theorem zA6 {lo hi : Int} {o : Option (List Lf)} {l : List Lf} (h : zC0 lo hi o = some l) (hle : lo ≤ hi) : o = some l := by
  unfold zC0 at h
  rw [decide_eq_false (by omega)] at h
  exact h
theorem zBp : ∀ {b : List (Int × Int)} {v : Nat} {q : Int × Int}, (zHq b v q).length = b.length
  | [], _, _ => rfl
  | _ :: r, 0, _ => rfl
  | _ :: r, v + 1, _ => by simp [zHq, zBp (b := r)]
theorem wu {σ : Nat → Int} : ∀ {b : List (Int × Int)} {k v : Nat} {q : Int × Int}, yt σ k b → nth b v = some q → q.1 ≤ σ (k + v) ∧ σ (k + v) ≤ q.2
  | [], _, _, _, _, h => by cases h
  | x :: r, k, 0, q, hb, h => by
    injection h with h; subst h
    exact hb.1
  | x :: r, k, v + 1, q, hb, h => by
    have := wu hb.2 (v := v) h
    rw [show k + 1 + v = k + (v + 1) from by omega] at this
    exact this
theorem zAx {σ : Nat → Int} {z : Int} : ∀ {b : List (Int × Int)} {k v : Nat}, yt σ k b → σ (k + v) = z → yt σ k (zHq b v (z, z))
  | [], _, _, _, _ => trivial
  | x :: r, k, 0, hb, h => ⟨by rw [← h]; exact ⟨Int.le_refl _, Int.le_refl _⟩, hb.2⟩
  | x :: r, k, v + 1, hb, h => ⟨hb.1, zAx (b := r) (k := k + 1) (v := v) hb.2 (by rw [show k + 1 + v = k + (v + 1) from by omega]; exact h)⟩
section
variable {wins : List Win} {w0 : World} {i : Int} {ks : List (Key × Bool)}
theorem zCV {σ : Nat → Int} {e : Lf} (h : zEL wins w0 i σ e) {l : LL} {q : Int × Int} (hq : zNP e l = some q) : q.1 ≤ evL σ l ∧ evL σ l ≤ q.2 :=
  yr (h.known _) hq
theorem zCT {σ : Nat → Int} {v : Nat} : evL σ [(v, 1)] = σ v := by
  show 1 * σ v + 0 = _; omega
theorem zHR {σ : Nat → Int} {e : Lf} (h : zEL wins w0 i σ e) {j : Nat} (hi : zK0 e j = true) : 0 ≤ σ 0 ∧ σ 0 < σ (Nat.succ j) := by
  unfold zK0 at hi
  split at hi
  · rename_i p q hp hq
    rw [Bool.and_eq_true, decide_eq_true_eq, decide_eq_true_eq] at hi
    have g1 := (zCV h hp).2
    have g2 := (zCV h hq).1
    rw [zCT] at g2
    have e : evL σ [(0, 1), (Nat.succ j, -1)] = 1 * σ 0 + (-1 * σ (Nat.succ j) + 0) := rfl
    rw [e] at g1
    omega
  · cases hi
theorem yg : ∀ (t : LTree) (e : Lf) (σ : Nat → Int) {ls : List Lf}, leaves ks t e = some ls → zEL wins w0 i σ e → WinIs wins w0 σ ks → σ 0 = i → ks.length < e.b.length → e.b.length ≤ 1000 → 1000 ≤ e.u →
    ∃ e' ∈ ls, ∃ σ', zEL wins w0 i σ' e' ∧ ∀ j, (j < e.b.length ∨ (1000 ≤ j ∧ j < e.u)) → σ' j = σ j
  | .leaf, e, σ, ls, h, he, _, _, _, _, _ => by
    injection h with h; subst h
    exact ⟨e, by simp, σ, he, fun _ _ => rfl⟩
  | .cmp l cut a b, e, σ, ls, h, he, hw, h0, hk, h1, h2 => by
    unfold leaves at h
    split at h
    · cases h
    · rename_i q hq
      obtain ⟨x, y, hx, hy, rfl⟩ := uJ h
      obtain ⟨g1, g2⟩ := zCV he hq
      by_cases hc : evL σ l < cut
      · have hx := zA6 hx (by omega)
        obtain ⟨e', m, σ', r1, r2⟩ := yg a _ σ hx ⟨he.b, ⟨⟨g1, by simp only; omega⟩, he.f⟩, he.r, he.w⟩ hw h0 hk h1 h2
        exact ⟨e', List.mem_append_left _ m, σ', r1, r2⟩
      · have hy := zA6 hy (by omega)
        obtain ⟨e', m, σ', r1, r2⟩ := yg b _ σ hy ⟨he.b, ⟨⟨by simp only; omega, g2⟩, he.f⟩, he.r, he.w⟩ hw h0 hk h1 h2
        exact ⟨e', List.mem_append_right _ m, σ', r1, r2⟩
  | .and v m ts, e, σ, ls, h, he, hw, h0, hk, h1, h2 => by
    unfold leaves at h
    obtain ⟨hm, h⟩ := xf h
    obtain ⟨j, hj, hr⟩ := zLN (σ v) m (@zM zZ _ _ hm)
    obtain ⟨x, hx, hin⟩ := wk h j hj
    obtain ⟨e', m, σ', r1, r2⟩ := yg (ts j) _ σ hx ⟨he.b, he.f, ⟨zFq hr, he.r⟩, he.w⟩ hw h0 hk h1 h2
    exact ⟨e', hin _ m, σ', r1, r2⟩
  | .rem v m ts, e, σ, ls, h, he, hw, h0, hk, h1, h2 => by
    unfold leaves at h
    obtain ⟨z, hz, hr⟩ := zBX (σ v) m
    obtain ⟨x, hx, hin⟩ := wk h (z + m).toNat (by omega)
    have e1 : (Int.ofNat (z + m).toNat - Int.ofNat m) = z := by
      show (((z + m).toNat : Nat) : Int) - (m : Int) = z
      omega
    rw [e1] at hx
    obtain ⟨e', m, σ', r1, r2⟩ := yg (ts (z + m).toNat) _ σ hx ⟨he.b, he.f, ⟨zFq hr, he.r⟩, he.w⟩ hw h0 hk h1 h2
    exact ⟨e', hin _ m, σ', r1, r2⟩
  | .remn v m ts, e, σ, ls, h, he, hw, h0, hk, h1, h2 => by
    unfold leaves at h
    split at h
    · cases h
    · rename_i q hq
      obtain ⟨hq0, h⟩ := xf h
      rw [decide_eq_true_eq] at hq0
      have g := (zCV he hq).1
      rw [zCT] at g
      obtain ⟨j, hj, hr⟩ := zJG (σ v) (by omega) m
      obtain ⟨x, hx, hin⟩ := wk h j hj
      obtain ⟨e', m, σ', r1, r2⟩ := yg (ts j) _ σ hx ⟨he.b, he.f, ⟨zFq hr, he.r⟩, he.w⟩ hw h0 hk h1 h2
      exact ⟨e', hin _ m, σ', r1, r2⟩
  | .bit v t a b, e, σ, ls, h, he, hw, h0, hk, h1, h2 => by
    unfold leaves at h
    obtain ⟨ht, h⟩ := xf h
    obtain ⟨x, y, hx, hy, rfl⟩ := uJ h
    have ht := @zM zZ _ _ ht
    rcases zLq (σ v) t (by omega) with hr | hr
    · obtain ⟨e', m, σ', r1, r2⟩ := yg a _ σ hx ⟨he.b, he.f, ⟨zFq hr, he.r⟩, he.w⟩ hw h0 hk h1 h2
      exact ⟨e', List.mem_append_left _ m, σ', r1, r2⟩
    · obtain ⟨e', m, σ', r1, r2⟩ := yg b _ σ hy ⟨he.b, he.f, ⟨zFq hr, he.r⟩, he.w⟩ hw h0 hk h1 h2
      exact ⟨e', List.mem_append_right _ m, σ', r1, r2⟩
  | .shr v c t, e, σ, ls, h, he, hw, h0, hk, h1, h2 => by
    unfold leaves at h
    obtain ⟨hg, h⟩ := xf h
    rw [Bool.and_eq_true] at hg
    have hne : v ≠ e.u := fun q => by have := hg.2; rw [q] at this; simp at this
    obtain ⟨z, hr⟩ := zLA (σ v) c
    have he' := he.upd hg.1 z
    have hr' : x8 (upV σ e.u z) (rv .shr v c (.sym (sv e.u))) := zIP (by rw [upd_other hne, upd_same]; exact hr)
    obtain ⟨e', m, σ', r1, r2⟩ := yg t _ (upV σ e.u z) h ⟨he'.b, he'.f, ⟨hr', he'.r⟩, he'.w⟩
      ⟨fun j k hj => by
        obtain ⟨wn, v, q1, q2, q3, q4, q5⟩ := hw.len j k hj
        have hlt : j < ks.length := by
          rw [@yV zZ] at hj
          exact (List.getElem?_eq_some_iff.1 hj).1
        exact ⟨wn, v, q1, q2, q3, by rw [upd_other (by show j + 1 ≠ e.u; omega)]; exact q4, q5⟩⟩ (by rw [upd_other (by omega)]; exact h0) hk h1 (by show 1000 ≤ e.u + 1; omega)
    exact ⟨e', m, σ', r1, fun j hj => by rw [r2 j (show j < e.b.length ∨ (1000 ≤ j ∧ j < e.u + 1) by omega), upd_other (by omega)]⟩
  | .mask v m t, e, σ, ls, h, he, hw, h0, hk, h1, h2 => by
    unfold leaves at h
    obtain ⟨hg, h⟩ := xf h
    simp only [Bool.and_eq_true] at hg
    obtain ⟨⟨⟨g1, g2⟩, g3⟩, g4⟩ := hg
    have hb := @zM zZ _ _ g4
    have hne : v ≠ e.b.length := fun q => by rw [q] at g2; simp at g2
    obtain ⟨z, hz, hr⟩ := zJS (σ v) m (@zM zZ _ _ g3)
    have he' := he.upd g1 (.ofNat z)
    have hr' : x8 (upV σ e.b.length (.ofNat z)) (rv .and v m (.sym (sv e.b.length))) := zIP (by rw [upd_other hne, upd_same]; exact hr)
    obtain ⟨e', m', σ', r1, r2⟩ := yg t _ (upV σ e.b.length (.ofNat z)) h
        ⟨wC he'.b (by rw [Nat.zero_add, upd_same]; exact Int.natCast_nonneg z) (by rw [Nat.zero_add, upd_same]; exact Int.ofNat_le.2 hz), he'.f, ⟨hr', he'.r⟩, he'.w⟩
        ⟨fun j k hj => by
          obtain ⟨wn, v, q1, q2, q3, q4, q5⟩ := hw.len j k hj
          have hlt : j < ks.length := by
            rw [@yV zZ] at hj
            exact (List.getElem?_eq_some_iff.1 hj).1
          exact ⟨wn, v, q1, q2, q3, by rw [upd_other (by show j + 1 ≠ e.b.length; omega)]; exact q4, q5⟩⟩ (by rw [upd_other (by omega)]; exact h0) (by show _ < (e.b ++ _).length; simp; omega) (by show (e.b ++ _).length ≤ _; simp; omega) h2
    exact ⟨e', m', σ', r1, fun j hj => by rw [r2 j (show j < (e.b ++ [((0 : Int), Int.ofNat m)]).length ∨ (1000 ≤ j ∧ j < e.u) by simp; omega), upd_other (by omega)]⟩
  | .join h' g a b t, e, σ, ls, h, he, hw, h0, hk, h1, h2 => by
    unfold leaves at h
    obtain ⟨hg, h⟩ := xf h
    exact yg t { e with r := zOl h' a b e.r } σ h ⟨he.b, he.f, zNa hg he.r, he.w⟩ hw h0 hk h1 h2
  | .cellI j t, e, σ, ls, h, he, hw, h0, hk, h1, h2 => by
    unfold leaves at h
    split at h
    · rename_i k hj
      obtain ⟨hg, h⟩ := xf h
      rw [Bool.and_eq_true] at hg
      obtain ⟨wn, v, q1, q2, q3, q4, q5⟩ := hw.len j _ hj
      obtain ⟨g1, g2⟩ := zHR he hg.1
      obtain ⟨q, hq⟩ := zMh (i := σ 0) q5 q3 q1 g1 (by rw [q4] at g2; exact g2)
      have he' := he.upd hg.2 q
      have hne : e.u ≠ 0 := by omega
      obtain ⟨e', m, σ', r1, r2⟩ := yg t _ (upV σ e.u q) h
        ⟨he'.b, he'.f, he'.r, fun x hx σ' K' hs => by
          rcases List.mem_cons.1 hx with rfl | hx
          · have e1 : σ' e.u = q := by
              have := hs.1
              have e2 : evL σ' [(e.u, 1)] = evL (upV σ e.u q) [(e.u, 1)] := this
              rw [zCT, zCT, upd_same] at e2
              exact e2
            have := hq σ' K' e.u e1
            rw [h0, q2] at this
            exact this
          · exact he'.w x hx σ' K' hs⟩
        ⟨fun j k hj => by
          obtain ⟨wn, v, q1, q2, q3, q4, q5⟩ := hw.len j k hj
          have hlt : j < ks.length := by
            rw [@yV zZ] at hj
            exact (List.getElem?_eq_some_iff.1 hj).1
          exact ⟨wn, v, q1, q2, q3, by rw [upd_other (by show j + 1 ≠ e.u; omega)]; exact q4, q5⟩⟩ (by rw [upd_other (fun q => hne q.symm)]; exact h0) hk h1 (by show 1000 ≤ e.u + 1; omega)
      exact ⟨e', m, σ', r1, fun j hj => by rw [r2 j (show j < e.b.length ∨ (1000 ≤ j ∧ j < e.u + 1) by omega), upd_other (by omega)]⟩
    · cases h
  | .cellB j a b, e, σ, ls, h, he, hw, h0, hk, h1, h2 => by
    unfold leaves at h
    split at h
    · rename_i k hj
      obtain ⟨hg, h⟩ := xf h
      obtain ⟨x, y, hx, hy, rfl⟩ := uJ h
      obtain ⟨wn, v, q1, q2, q3, q4, q5⟩ := hw.len j _ hj
      obtain ⟨g1, g2⟩ := zHR he hg
      rcases zLf (i := σ 0) q5 q3 q1 g1 (by rw [q4] at g2; exact g2) with hq | hq
      · obtain ⟨e', m, σ', r1, r2⟩ := yg a _ σ hx ⟨he.b, he.f, he.r, fun x hx σ' K' hs => by
          rcases List.mem_cons.1 hx with rfl | hx
          · have := hq σ' K'
            rw [h0, q2] at this
            exact this
          · exact he.w x hx σ' K' hs⟩ hw h0 hk h1 h2
        exact ⟨e', List.mem_append_left _ m, σ', r1, r2⟩
      · obtain ⟨e', m, σ', r1, r2⟩ := yg b _ σ hy ⟨he.b, he.f, he.r, fun x hx σ' K' hs => by
          rcases List.mem_cons.1 hx with rfl | hx
          · have := hq σ' K'
            rw [h0, q2] at this
            exact this
          · exact he.w x hx σ' K' hs⟩ hw h0 hk h1 h2
        exact ⟨e', List.mem_append_right _ m, σ', r1, r2⟩
    · cases h
  | .pin v ts, e, σ, ls, h, he, hw, h0, hk, h1, h2 => by
    unfold leaves at h
    split at h
    · rename_i q hq
      have hb := wu he.b hq
      rw [Nat.zero_add] at hb
      obtain ⟨x, hx, hin⟩ := wk h (σ v - q.1).toNat (by omega)
      have ez : q.1 + Int.ofNat (σ v - q.1).toNat = σ v := by
        show q.1 + (((σ v - q.1).toNat : Nat) : Int) = σ v
        omega
      rw [ez] at hx
      obtain ⟨e', m, σ', r1, r2⟩ := yg (ts (σ v - q.1).toNat) (zQp e v (σ v)) σ hx ⟨zAx he.b (by rw [Nat.zero_add]), he.f, he.r, he.w⟩ hw h0 (by show _ < (zHq e.b v _).length; rw [zBp]; exact hk) (by show (zHq e.b v _).length ≤ _; rw [zBp]; exact h1) h2
      exact ⟨e', hin _ m, σ', r1, fun j hj => r2 j (by show j < (zHq e.b v _).length ∨ _; rw [zBp]; exact hj)⟩
    · cases h
  | .shrb v c t, e, σ, ls, h, he, hw, h0, hk, h1, h2 => by
    unfold leaves at h
    split at h
    · rename_i q hq
      obtain ⟨hg, h⟩ := xf h
      simp only [Bool.and_eq_true] at hg
      obtain ⟨⟨⟨⟨g1, g2⟩, g3⟩, g4⟩, g5⟩ := hg
      have hbl := @zM zZ _ _ g3
      have hc := @zM zZ _ _ g5
      rw [decide_eq_true_eq] at g4
      have hne : v ≠ e.b.length := fun q => by rw [q] at g2; simp at g2
      have hb := wu he.b hq
      rw [Nat.zero_add] at hb
      obtain ⟨a, ha⟩ : ∃ a : Nat, σ v = Int.ofNat a := ⟨(σ v).toNat, by show σ v = (((σ v).toNat : Nat) : Int); omega⟩
      have hz : yH .shr .i64 (σ v) (.ofNat c) = some (mkInt .i64 (σ v / 2 ^ c)) := by
        rw [ha]
        have e1 : (Int.ofNat a / 2 ^ c : Int) = Int.ofNat (a / 2 ^ c) := by
          show ((a : Int) / 2 ^ c) = ((a / 2 ^ c : Nat) : Int)
          rw [Int.natCast_ediv, Int.natCast_pow]; rfl
        rw [e1]
        show some (ql .i64 (Nat.div a (Nat.pow 2 (min c IntKind.i64.bits)))) = _
        have e2 : min c IntKind.i64.bits = c := by
          show min c 64 = c
          omega
        rw [e2]
        show some (ql .i64 (a / 2 ^ c)) = some (mkInt .i64 (Int.ofNat (a / 2 ^ c)))
        cases a / 2 ^ c <;> rfl
      have he' := he.upd g1 (σ v / 2 ^ c)
      have hr' : x8 (upV σ e.b.length (σ v / 2 ^ c)) (rv .shr v c (.sym (sv e.b.length))) := zIP (by rw [upd_other hne, upd_same]; exact hz)
      have hpos : (0 : Int) < 2 ^ c := Int.pow_pos (by decide)
      have hlo : q.1 / 2 ^ c ≤ σ v / 2 ^ c := Int.ediv_le_ediv hpos hb.1
      have hhi : σ v / 2 ^ c ≤ q.2 / 2 ^ c := Int.ediv_le_ediv hpos hb.2
      obtain ⟨e', m', σ', r1, r2⟩ := yg t _ (upV σ e.b.length (σ v / 2 ^ c)) h
          ⟨wC he'.b (by rw [Nat.zero_add, upd_same]; exact hlo) (by rw [Nat.zero_add, upd_same]; exact hhi), he'.f, ⟨hr', he'.r⟩, he'.w⟩
          ⟨fun j k hj => by
            obtain ⟨wn, v, q1, q2, q3, q4, q5⟩ := hw.len j k hj
            have hlt : j < ks.length := by
              rw [@yV zZ] at hj
              exact (List.getElem?_eq_some_iff.1 hj).1
            exact ⟨wn, v, q1, q2, q3, by rw [upd_other (by show j + 1 ≠ e.b.length; omega)]; exact q4, q5⟩⟩ (by rw [upd_other (by omega)]; exact h0) (by show _ < (e.b ++ _).length; simp; omega) (by show (e.b ++ _).length ≤ _; simp; omega) h2
      exact ⟨e', m', σ', r1, fun j hj => by rw [r2 j (show j < (e.b ++ [((q.1 / 2 ^ c : Int), (q.2 / 2 ^ c : Int))]).length ∨ (1000 ≤ j ∧ j < e.u) by simp; omega), upd_other (by omega)]⟩
    · cases h
end
def AllG (Q : Lf → Prop) : List Lf → Prop
  | [] => True
  | e :: l => Q e ∧ AllG Q l
theorem zBv {Q : Lf → Prop} : ∀ {l : List Lf}, AllG Q l → ∀ e ∈ l, Q e
  | [], _, e, he => by cases he
  | x :: l, h, e, he => by
    rcases List.mem_cons.1 he with rfl | he
    · exact h.1
    · exact zBv h.2 e he
def zD7 (m : Nat) : List (Key × Nat) → Bool
  | [] => true
  | q :: r => Nat.ble (Nat.succ q.2) m && zD7 m r
theorem zB2 {m : Nat} : ∀ {l : List (Key × Nat)}, zD7 m l = true → ∀ q ∈ l, q.2 < m
  | [], _, q, h => by cases h
  | x :: r, h, q, hq => by
    unfold zD7 at h
    rw [Bool.and_eq_true] at h
    rcases List.mem_cons.1 hq with rfl | hq
    · exact @zM zZ _ _ h.1
    · exact zB2 h.2 q hq
def AllS (Q : TS → Prop) : List TS → Prop
  | [] => True
  | T :: l => Q T ∧ AllS Q l
theorem allS_nth {Q : TS → Prop} : ∀ {l : List TS} {t : Nat} {T : TS}, AllS Q l → nth l t = some T → Q T
  | [], _, _, _, h => by cases h
  | x :: l, 0, T, h, hn => by
    injection hn with hn
    subst hn
    exact h.1
  | x :: l, t + 1, T, h, hn => allS_nth (t := t) h.2 hn
theorem allG_nil {Q : Lf → Prop} : AllG Q [] := trivial
theorem allG_cons {Q : Lf → Prop} {e : Lf} {l : List Lf} (h : Q e) (r : AllG Q l) : AllG Q (e :: l) := ⟨h, r⟩
theorem allS_nil {Q : TS → Prop} : AllS Q [] := trivial
theorem allS_cons {Q : TS → Prop} {T : TS} {l : List TS} (h : Q T) (r : AllS Q l) : AllS Q (T :: l) := ⟨h, r⟩
theorem relsA {σ : Nat → Int} {K : zY} {ψ : Psi} {a : Int} {l : List CV} {m : List Value} (h : @zS (linSym σ K) ψ l m) : @zS (linSym σ K) ψ (.anyi .i64 :: l) (.int .i64 a :: m) :=
  (@zT (linSym σ K) _ _ _ _ _).2 ⟨(@yC (linSym σ K) _ _ _).2 ⟨a, rfl⟩, h⟩
theorem len_of {wins : List Win} {L : List (Key × Nat)} {σ : Nat → Int} {w : Win} {k : Key} {j : Nat} (h : LensAre wins L σ) (hm : (k, j) ∈ L) (hw : findW wins k = some w) : σ j = w.len := by
  obtain ⟨wn, h1, h2⟩ := h _ hm
  simp only at h1
  rw [hw] at h1
  injection h1 with h1
  subst h1
  exact h2
end
end Go.Ev


