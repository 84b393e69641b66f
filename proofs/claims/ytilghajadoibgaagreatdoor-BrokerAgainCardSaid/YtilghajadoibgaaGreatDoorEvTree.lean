/- A verified evaluator for the model's code: EvWord, EvTree. -/
import Derived.Test.YtilghajadoibgaaGreatDoorEvArg
set_option linter.unusedSectionVars false
set_option linter.unusedVariables false
set_option linter.unusedSimpArgs false
namespace Go.Ev
noncomputable section
theorem uE (m : Nat) : zU .i64 (.ofNat m) = .nat m := by cases m <;> rfl
theorem zAx (m : Nat) : zU .i64 (.negSucc m) = .int .i64 (.negSucc m) := by cases m <;> rfl
theorem zGm {a b : Int} (h : zU .i64 a = zU .i64 b) : a = b := by
  cases a with
  | ofNat a => cases b with
    | ofNat b => rw [uE, uE] at h; injection h with h; rw [h]
    | negSucc b => rw [uE, zAx] at h; cases h
  | negSucc a => cases b with
    | ofNat b => rw [uE, zAx] at h; cases h
    | negSucc b => rw [zAx, zAx] at h; injection h
theorem zC3 (q : Int) : (toU .i64 q : Int) = q % 18446744073709551616 := by
  cases q with
  | ofNat m =>
    show ((m % 2 ^ 64 : Nat) : Int) = (m : Int) % 18446744073709551616
    omega
  | negSucc m =>
    show ((2 ^ 64 - 1 - m % 2 ^ 64 : Nat) : Int) = Int.negSucc m % 18446744073709551616
    rw [Int.negSucc_eq]
    omega
theorem zAH (q : Int) {n : Nat} (hn : n ≤ 31) : yH .and .i64 q (.ofNat (2 ^ n - 1)) = some (zU .i64 (.ofNat (toU .i64 q % 2 ^ n))) := by
  have hp : 2 ^ n ≤ 2 ^ 31 := Nat.pow_le_pow_right (by decide) hn
  have h1 : toU .i64 (.ofNat (2 ^ n - 1)) = 2 ^ n - 1 := Nat.mod_eq_of_lt (show 2 ^ n - 1 < 2 ^ 64 by omega)
  show some (zU .i64 (yW .i64 (.ofNat (Nat.land (toU .i64 q) (toU .i64 (.ofNat (2 ^ n - 1))))))) = _
  rw [h1]
  have h2 : Nat.land (toU .i64 q) (2 ^ n - 1) = toU .i64 q % 2 ^ n := Nat.and_two_pow_sub_one_eq_mod _ n
  rw [h2]
  have h3 : toU .i64 q % 2 ^ n < 2 ^ n := Nat.mod_lt _ (Nat.two_pow_pos n)
  have h4 : yW .i64 (.ofNat (toU .i64 q % 2 ^ n)) = .ofNat (toU .i64 q % 2 ^ n) := by
    generalize toU .i64 q % 2 ^ n = x at h3
    rw [@yj zX]
    simp [IntKind.wrap, IntKind.signed, IntKind.bits]
    omega
  rw [h4]
theorem zD6 (q : Int) : yH .shr .i64 q (.ofNat 4) = some (zU .i64 (q / 16)) := by
  cases q with
  | ofNat a =>
    show some (qb .i64 (Nat.div a (Nat.pow 2 (min 4 64)))) = some (zU .i64 ((a : Int) / 16))
    have e : ((a : Int) / 16) = Int.ofNat (a / 16) := by
      show (a : Int) / 16 = ((a / 16 : Nat) : Int)
      omega
    rw [e, uE]
    show some (jY (a / 16)) = _
    generalize a / 16 = x
    cases x <;> rfl
  | negSucc a =>
    show some (zU .i64 ((Int.negSucc a).fdiv (.ofNat (Nat.pow 2 (min 4 64))))) = _
    have e : (Int.negSucc a).fdiv (.ofNat (Nat.pow 2 (min 4 64))) = Int.negSucc a / 16 := by
      show (Int.negSucc a).fdiv 16 = _
      rw [Int.fdiv_eq_ediv_of_nonneg _ (by decide)]
    rw [e]
theorem zIl {h g a b : Int} (h1 : yH .and .i64 h (.ofNat 15) = some (zU .i64 a)) (h2 : yH .shr .i64 h (.ofNat 4) = some (zU .i64 g)) (h3 : yH .and .i64 g (.ofNat 15) = some (zU .i64 b)) :
    yH .and .i64 h (.ofNat 255) = some (zU .i64 (a + 16 * b)) ∧ yH .and .i64 (a + 16 * b) (.ofNat 15) = some (zU .i64 a) ∧ yH .shr .i64 (a + 16 * b) (.ofNat 4) = some (zU .i64 b) := by
  have e15 : ∀ q : Int, yH .and .i64 q (.ofNat 15) = some (zU .i64 (.ofNat (toU .i64 q % 16))) := fun q => zAH q (n := 4) (by decide)
  have e255 : ∀ q : Int, yH .and .i64 q (.ofNat 255) = some (zU .i64 (.ofNat (toU .i64 q % 256))) := fun q => zAH q (n := 8) (by decide)
  rw [e15] at h1 h3
  rw [zD6] at h2
  have a1 := zGm (Option.some.inj h1)
  have a2 := zGm (Option.some.inj h2)
  have a3 := zGm (Option.some.inj h3)
  have u1 := zC3 h
  have u2 := zC3 g
  have u3 := zC3 (a + 16 * b)
  have a1 : ((toU .i64 h % 16 : Nat) : Int) = a := a1
  have a3 : ((toU .i64 g % 16 : Nat) : Int) = b := a3
  refine ⟨?_, ?_, ?_⟩
  · rw [e255]
    congr 2
    show ((toU .i64 h % 256 : Nat) : Int) = a + 16 * b
    omega
  · rw [e15]
    congr 2
    show ((toU .i64 (a + 16 * b) % 16 : Nat) : Int) = a
    omega
  · rw [zD6]
    congr 2
    omega
def zNO (n : Nat) (e : SE) : Bool := match e.k, e.l with
  | .i64, [p] => Nat.beq p.1 n && decide (p.2 = 1) && decide (e.c = 0)
  | _, _ => false
theorem zJt {n : Nat} {e : SE} (h : zNO n e = true) : e = sv n := by
  obtain ⟨k, c, l⟩ := e
  unfold zNO at h
  split at h
  · rename_i p h1 h2
    simp only at h1 h2
    subst h1 h2
    simp only [Bool.and_eq_true, decide_eq_true_eq] at h
    obtain ⟨⟨h1, h2⟩, h3⟩ := h
    obtain ⟨i, z⟩ := p
    simp only at h1 h2 h3
    have h1 := Nat.eq_of_beq_eq_true h1
    subst h1 h2 h3
    rfl
  · cases h
def zPG : Bool → BinOp → Bool
  | true, .and => true
  | false, .shr => true
  | _, _ => false
def zK5 : Bool → BinOp
  | true => .and
  | false => .shr
theorem zOk {b : Bool} {o : BinOp} (h : zPG b o = true) : o = zK5 b := by
  unfold zPG at h
  split at h
  · rfl
  · rfl
  · cases h
def zPC (b : Bool) (h c a : Nat) (q : yt) : Bool := zPG b q.op && zNO h q.x && Nat.beq q.c c && (match q.v with
  | .sym e => zNO a e
  | _ => false)
def zK9 (b : Bool) (h c a : Nat) : List yt → Bool
  | [] => false
  | q :: r => zPC b h c a q || zK9 b h c a r
theorem zOa {σ : Nat → Int} {b : Bool} {h c a : Nat} {q : yt} (hq : zPC b h c a q = true) (hr : x7 σ q) {z : Int} (hz : yH (zK5 b) .i64 (σ h) (.ofNat c) = some (zU .i64 z)) :
    yH (zK5 b) .i64 (σ h) (.ofNat c) = some (zU .i64 (σ a)) := by
  unfold zPC at hq
  simp only [Bool.and_eq_true] at hq
  obtain ⟨⟨⟨h1, h2⟩, h3⟩, h4⟩ := hq
  split at h4
  · rename_i e he
    have h1 := zOk h1
    have h2 := zJt h2
    have h3 := Nat.eq_of_beq_eq_true h3
    have h4 := zJt h4
    subst h4
    obtain ⟨u, _, g2, g3⟩ := hr
    rw [h1, h2, h3] at g2
    have g2 : yH (zK5 b) .i64 (evE σ (sv h)) (.ofNat c) = some u := g2
    rw [je] at g2
    rw [he] at g3
    rw [g2]
    rcases g3 with g3 | ⟨e, g3, g4⟩
    · rw [hz] at g2
      have g2 := Option.some.inj g2
      rw [← g3] at g2
      cases z with
      | ofNat m => rw [uE] at g2; cases g2
      | negSucc m => rw [zAx] at g2; cases g2
    · injection g3 with g3
      subst g3
      rw [g4, je]
      rfl
  · cases h4
theorem zCr {σ : Nat → Int} {b : Bool} {h c a : Nat} {z : Int} (hz : yH (zK5 b) .i64 (σ h) (.ofNat c) = some (zU .i64 z)) : ∀ {r : List yt}, zK9 b h c a r = true → xp σ r →
    yH (zK5 b) .i64 (σ h) (.ofNat c) = some (zU .i64 (σ a))
  | [], hr, _ => by cases hr
  | q :: r, hr, ho => by
    unfold zK9 at hr
    rw [Bool.or_eq_true] at hr
    rcases hr with hr | hr
    · exact zOa hr ho.1 hz
    · exact zCr hz hr ho.2
def zBW (a b : Nat) : SE := ⟨.i64, .ofNat 0, [(a, 1), (b, 16)]⟩
theorem zDt (σ : Nat → Int) (a b : Nat) : evE σ (zBW a b) = σ a + 16 * σ b := by
  show (0 : Int) + (1 * σ a + (16 * σ b + 0)) = _
  omega
def zH8 (r : List yt) (h g a b : Nat) : Bool := zK9 true h 15 a r && zK9 false h 4 g r && zK9 true g 15 b r
def zMm (h a b : Nat) (r : List yt) : List yt := ⟨.and, sv h, 255, .sym (zBW a b)⟩ :: ⟨.and, zBW a b, 15, .sym (sv a)⟩ :: ⟨.shr, zBW a b, 4, .sym (sv b)⟩ :: r
theorem zL8 {σ : Nat → Int} {r : List yt} {h g a b : Nat} (hj : zH8 r h g a b = true) (hr : xp σ r) : xp σ (zMm h a b r) := by
  unfold zH8 at hj
  simp only [Bool.and_eq_true] at hj
  obtain ⟨⟨h1, h2⟩, h3⟩ := hj
  have g1 := zCr (σ := σ) (b := true) (h := h) (c := 15) (zAH (σ h) (n := 4) (by decide)) h1 hr
  have g2 := zCr (σ := σ) (b := false) (h := h) (c := 4) (zD6 (σ h)) h2 hr
  have g3 := zCr (σ := σ) (b := true) (h := g) (c := 15) (zAH (σ g) (n := 4) (by decide)) h3 hr
  obtain ⟨w1, w2, w3⟩ := zIl g1 g2 g3
  refine ⟨⟨_, .inl rfl, ?_, .inr ⟨zBW a b, rfl, rfl⟩⟩, ⟨_, .inl rfl, ?_, .inr ⟨sv a, rfl, rfl⟩⟩, ⟨_, .inl rfl, ?_, .inr ⟨sv b, rfl, rfl⟩⟩, hr⟩
  · show yH .and .i64 (evE σ (sv h)) (.ofNat 255) = some (zU .i64 (evE σ (zBW a b)))
    rw [je, zDt]; exact w1
  · show yH .and .i64 (evE σ (zBW a b)) (.ofNat 15) = some (zU .i64 (evE σ (sv a)))
    rw [je, zDt]; exact w2
  · show yH .shr .i64 (evE σ (zBW a b)) (.ofNat 4) = some (zU .i64 (evE σ (sv b)))
    rw [je, zDt]; exact w3
end
end Go.Ev

namespace Go.Ev
open Go.RowKit
noncomputable section
variable {P : Program}
inductive LTree where
  | leaf
  | cmp (l : LL) (cut : Int) (a b : LTree)
  | and (v m : Nat) (ts : Nat → LTree)
  | rem (v m : Nat) (ts : Nat → LTree)
  | remn (v m : Nat) (ts : Nat → LTree)
  | bit (v t : Nat) (a b : LTree)
  | shr (v c : Nat) (t : LTree)
  | mask (v m : Nat) (t : LTree)
  | join (h g a b : Nat) (t : LTree)
  | cellI (j : Nat) (t : LTree)
  | cellB (j : Nat) (a b : LTree)
  | pin (v : Nat) (ts : Nat → LTree)
  | shrb (v c : Nat) (t : LTree)
structure Lf where
  b : List (Int × Int)
  f : List (LL × Int × Int)
  r : List yt
  l : List (Key × List CV)
  u : Nat
def Lf.known (e : Lf) (A : Key → Option Value) : ze := ⟨e.b, e.f, e.r, A⟩
def zBR (n : Nat) : LL → Bool
  | [] => true
  | p :: r => !(Nat.beq p.1 n) && zBR n r
def y7 (n : Nat) : List CV → Bool
  | [] => true
  | .sym e :: r => zBR n e.l && y7 n r
  | .bool _ :: r => y7 n r
  | _ :: _ => false
def zMh (n : Nat) : CV → Bool
  | .sym e => zBR n e.l
  | .nat _ => true
  | .int _ _ => true
  | _ => false
def zFT (n : Nat) : List (LL × Int × Int) → Bool
  | [] => true
  | q :: r => zBR n q.1 && zFT n r
def zFJ (n : Nat) : List yt → Bool
  | [] => true
  | q :: r => zBR n q.x.l && zMh n q.v && zFJ n r
def zDU (n : Nat) : List (Key × List CV) → Bool
  | [] => true
  | q :: r => y7 n q.2 && zDU n r
def Lf.free (e : Lf) (n : Nat) : Bool := zFT n e.f && zFJ n e.r && zDU n e.l && Nat.ble e.b.length n
def upV (σ : Nat → Int) (n : Nat) (z : Int) : Nat → Int := fun i => if i = n then z else σ i
theorem upd_same {σ : Nat → Int} {n : Nat} {z : Int} : upV σ n z n = z := by simp [upV]
theorem upd_other {σ : Nat → Int} {n i : Nat} {z : Int} (h : i ≠ n) : upV σ n z i = σ i := by simp [upV, h]
theorem zAC {σ : Nat → Int} {n : Nat} {z : Int} : ∀ {l : LL}, zBR n l = true → evL (upV σ n z) l = evL σ l
  | [], _ => rfl
  | p :: r, h => by
    unfold zBR at h
    rw [Bool.and_eq_true] at h
    have hne : p.1 ≠ n := fun e => by
      have h1 := h.1
      rw [e] at h1
      simp at h1
    show p.2 * upV σ n z p.1 + evL (upV σ n z) r = p.2 * σ p.1 + evL σ r
    rw [upd_other hne, zAC h.2]
theorem zBI {σ : Nat → Int} {n : Nat} {z : Int} : ∀ {f : List (LL × Int × Int)}, zFT n f = true → qo σ f → qo (upV σ n z) f
  | [], _, _ => trivial
  | q :: r, h, hf => by
    unfold zFT at h
    rw [Bool.and_eq_true] at h
    refine ⟨?_, zBI h.2 hf.2⟩
    rw [zAC h.1]; exact hf.1
theorem zII {σ : Nat → Int} {n : Nat} {z : Int} {q : yt} (h1 : zBR n q.x.l = true) (h2 : zMh n q.v = true) (h : x7 σ q) : x7 (upV σ n z) q := by
  obtain ⟨u, g1, g2, g3⟩ := h
  refine ⟨u, g1, ?_, ?_⟩
  · unfold evE at g2 ⊢
    rw [zAC h1]; exact g2
  · rcases g3 with g3 | ⟨e, g3, g4⟩
    · exact .inl g3
    · refine .inr ⟨e, g3, ?_⟩
      rw [g3] at h2
      unfold evE at g4 ⊢
      rw [zAC (l := e.l) h2]; exact g4
theorem zB9 {σ : Nat → Int} {n : Nat} {z : Int} : ∀ {r : List yt}, zFJ n r = true → xp σ r → xp (upV σ n z) r
  | [], _, _ => trivial
  | q :: r, h, hr => by
    unfold zFJ at h
    rw [Bool.and_eq_true, Bool.and_eq_true] at h
    exact ⟨zII h.1.1 h.1.2 hr.1, zB9 h.2 hr.2⟩
theorem zAX {σ : Nat → Int} {n : Nat} {z : Int} : ∀ {b : List (Int × Int)} {k : Nat}, k + b.length ≤ n → yp σ k b → yp (upV σ n z) k b
  | [], _, _, _ => trivial
  | q :: r, k, h, hb => by
    simp only [List.length_cons] at h
    refine ⟨?_, zAX (by omega) hb.2⟩
    rw [upd_other (by omega)]; exact hb.1
theorem kq {σ : Nat → Int} {lo hi : Int} : ∀ {b : List (Int × Int)} {k : Nat}, yp σ k b → lo ≤ σ (k + b.length) → σ (k + b.length) ≤ hi → yp σ k (b ++ [(lo, hi)])
  | [], k, _, h1, h2 => ⟨⟨h1, h2⟩, trivial⟩
  | q :: r, k, hb, h1, h2 => by
    simp only [List.length_cons] at h1 h2
    have e : k + 1 + r.length = k + (r.length + 1) := by omega
    exact ⟨hb.1, kq hb.2 (by rw [e]; exact h1) (by rw [e]; exact h2)⟩
def ug (σ σ' : Nat → Int) : List CV → Prop
  | [] => True
  | .sym e :: r => evL σ' e.l = evL σ e.l ∧ ug σ σ' r
  | _ :: r => ug σ σ' r
def zId (wins : List Win) (w0 : World) (i : Int) (σ : Nat → Int) (l : List (Key × List CV)) : Prop :=
  ∀ q ∈ l, ∀ σ' K', ug σ σ' q.2 → zBH (linSym σ' K') wins w0 i q
theorem vl {σ : Nat → Int} : ∀ {l : List CV}, ug σ σ l
  | [] => trivial
  | c :: r => by
    unfold ug
    split <;> first | trivial | (rename_i h; injection h with h1 h2; subst h1 h2; exact ⟨rfl, vl⟩) | (rename_i h; injection h with h1 h2; subst h1 h2; exact vl)
theorem uv {σ σ' : Nat → Int} {n : Nat} {z : Int} : ∀ {l : List CV}, y7 n l = true → ug (upV σ n z) σ' l → ug σ σ' l
  | [], _, _ => trivial
  | .sym e :: r, h, hs => by
    unfold y7 at h
    rw [Bool.and_eq_true] at h
    obtain ⟨h1, h2⟩ := hs
    rw [zAC h.1] at h1
    exact ⟨h1, uv h.2 h2⟩
  | .bool b :: r, h, hs => uv (l := r) (by simpa [y7] using h) hs
  | .nat _ :: _, h, _ => by simp [y7] at h
  | .int _ _ :: _, h, _ => by simp [y7] at h
  | .anyi _ :: _, h, _ => by simp [y7] at h
  | .str _ :: _, h, _ => by simp [y7] at h
  | .nilptr :: _, h, _ => by simp [y7] at h
  | .ptr _ _ :: _, h, _ => by simp [y7] at h
  | .nilsl :: _, h, _ => by simp [y7] at h
  | .sl .. :: _, h, _ => by simp [y7] at h
  | .nilmap :: _, h, _ => by simp [y7] at h
  | .map _ :: _, h, _ => by simp [y7] at h
  | .func .. :: _, h, _ => by simp [y7] at h
  | .nilfunc :: _, h, _ => by simp [y7] at h
  | .iface .. :: _, h, _ => by simp [y7] at h
  | .niliface :: _, h, _ => by simp [y7] at h
  | .agg _ :: _, h, _ => by simp [y7] at h
  | .tup _ :: _, h, _ => by simp [y7] at h
  | .win .. :: _, h, _ => by simp [y7] at h
  | .sst _ :: _, h, _ => by simp [y7] at h
  | .any :: _, h, _ => by simp [y7] at h
theorem zID {wins : List Win} {w0 : World} {i : Int} {σ : Nat → Int} {n : Nat} {z : Int} {l : List (Key × List CV)} (h : zDU n l = true) (hw : zId wins w0 i σ l) : zId wins w0 i (upV σ n z) l := by
  intro q hq σ' K' hs
  have : ∀ {l : List (Key × List CV)}, zDU n l = true → q ∈ l → y7 n q.2 = true := by
    intro l
    induction l with
    | nil => intro _ hq; cases hq
    | cons x r ih =>
      intro h hq
      unfold zDU at h
      rw [Bool.and_eq_true] at h
      rcases List.mem_cons.1 hq with rfl | hq
      · exact h.1
      · exact ih h.2 hq
  exact hw q hq σ' K' (uv (this h hq) hs)
structure zD9 (wins : List Win) (w0 : World) (i : Int) (σ : Nat → Int) (e : Lf) : Prop where
  b : yp σ 0 e.b
  f : qo σ e.f
  r : xp σ e.r
  w : zId wins w0 i σ e.l
theorem zD9.known {wins : List Win} {w0 : World} {i : Int} {σ : Nat → Int} {e : Lf} (h : zD9 wins w0 i σ e) (A : Key → Option Value) : KnownOk σ (e.known A) := zOE h.b h.f h.r
theorem zD9.upd {wins : List Win} {w0 : World} {i : Int} {σ : Nat → Int} {e : Lf} (h : zD9 wins w0 i σ e) {n : Nat} (hn : e.free n = true) (z : Int) : zD9 wins w0 i (Go.Ev.upV σ n z) e := by
  unfold Lf.free at hn
  simp only [Bool.and_eq_true] at hn
  obtain ⟨⟨⟨h1, h2⟩, h3⟩, h4⟩ := hn
  exact ⟨zAX (by have := @zP zX _ _ h4; omega) h.b, zBI h1 h.f, zB9 h2 h.r, zID h3 h.w⟩
def zLo (a b : Option (List Lf)) : Option (List Lf) := match a, b with
  | some x, some y => some (x ++ y)
  | _, _ => none
def zER (m : Nat) (g : Nat → Option (List Lf)) : Option (List Lf) := Nat.rec (motive := fun _ => Option (List Lf)) (g 0) (fun j ih => zLo ih (g (Nat.succ j))) m
def zNv (e : Lf) (l : LL) : Option (Int × Int) := rng (e.known (fun _ => none)) l
def zJD (e : Lf) (j : Nat) : Bool := match zNv e [(0, 1), (Nat.succ j, -1)], zNv e [(0, 1)] with
  | some p, some q => decide (p.2 < 0) && decide (0 ≤ q.1)
  | _, _ => false
def zPI (e : Lf) (q : LL × Int × Int) : Lf := { e with f := q :: e.f }
def zHJ (e : Lf) (q : yt) : Lf := { e with r := q :: e.r }
def zPe (e : Lf) (q : Key × List CV) : Lf := { e with l := q :: e.l }
def zPH (e : Lf) (lo hi : Int) : Lf := { e with b := e.b ++ [(lo, hi)] }
def zPR (e : Lf) : Lf := { e with u := Nat.succ e.u }
def j0 (b : Bool) (o : Option (List Lf)) : Option (List Lf) := match b with
  | true => o
  | false => none
def zCu (lo hi : Int) (o : Option (List Lf)) : Option (List Lf) := match decide (hi < lo) with
  | true => some []
  | false => o
def zHG (b : List (Int × Int)) (v : Nat) (q : Int × Int) : List (Int × Int) := match b with
  | [] => []
  | x :: r => match v with
    | 0 => q :: r
    | v + 1 => x :: zHG r v q
def zPL (e : Lf) (v : Nat) (z : Int) : Lf := { e with b := zHG e.b v (z, z) }
def leaves (ks : List (Key × Bool)) : LTree → Lf → Option (List Lf)
  | .leaf, e => some [e]
  | .cmp l cut a b, e => match zNv e l with
    | none => none
    | some q => zLo (zCu q.1 (min q.2 (cut - 1)) (leaves ks a (zPI e (l, q.1, min q.2 (cut - 1))))) (zCu (max q.1 cut) q.2 (leaves ks b (zPI e (l, max q.1 cut, q.2))))
  | .and v m ts, e => j0 (Nat.ble m 127) (zER m fun j => leaves ks (ts j) (zHJ e (rv .and v m (zU .i64 (.ofNat j)))))
  | .rem v m ts, e => zER (2 * m) fun j => leaves ks (ts j) (zHJ e (rv .rem v (m + 1) (zU .i64 (Int.ofNat j - Int.ofNat m))))
  | .remn v m ts, e => match zNv e [(v, 1)] with
    | none => none
    | some q => j0 (decide (0 ≤ q.1)) (zER m fun j => leaves ks (ts j) (zHJ e (rv .rem v (m + 1) (zU .i64 (.ofNat j)))))
  | .bit v t a b, e => j0 (Nat.ble t 6) (zLo (leaves ks a (zHJ e (rv .and v (2 ^ t) (zU .i64 (.ofNat 0))))) (leaves ks b (zHJ e (rv .and v (2 ^ t) (zU .i64 (.ofNat (2 ^ t)))))))
  | .shr v c t, e => j0 (e.free e.u && !(Nat.beq v e.u)) (leaves ks t (zHJ (zPR e) (rv .shr v c (.sym (sv e.u)))))
  | .mask v m t, e => j0 (e.free e.b.length && !(Nat.beq v e.b.length) && Nat.ble m 4294967295 && Nat.ble (Nat.succ e.b.length) 1000) (leaves ks t (zHJ (zPH e 0 (.ofNat m)) (rv .and v m (.sym (sv e.b.length)))))
  | .join h g a b t, e => j0 (zH8 e.r h g a b) (leaves ks t { e with r := zMm h a b e.r })
  | .cellI j t, e => match nth ks j with
    | some (k, true) => j0 (zJD e j && e.free e.u) (leaves ks t (zPe (zPR e) (k, [.sym (sv e.u)])))
    | _ => none
  | .cellB j a b, e => match nth ks j with
    | some (k, false) => j0 (zJD e j) (zLo (leaves ks a (zPe e (k, [.bool false]))) (leaves ks b (zPe e (k, [.bool true]))))
    | _ => none
  | .pin v ts, e => match nth e.b v with
    | some q => zER (q.2 - q.1).toNat fun j => leaves ks (ts j) (zPL e v (q.1 + Int.ofNat j))
    | none => none
  | .shrb v c t, e => match nth e.b v with
    | some q => j0 (e.free e.b.length && !(Nat.beq v e.b.length) && Nat.ble (Nat.succ e.b.length) 1000 && decide (0 ≤ q.1) && Nat.ble c 60) (leaves ks t (zHJ (zPH e (q.1 / 2 ^ c) (q.2 / 2 ^ c)) (rv .shr v c (.sym (sv e.b.length)))))
    | none => none
def zOc (w0 : World) (v : Value) (wn : Win) : Bool → Prop
  | true => IntArg w0 v wn
  | false => zJi w0 v wn
structure WinIs (wins : List Win) (w0 : World) (σ : Nat → Int) (ks : List (Key × Bool)) : Prop where
  len : ∀ j k, nth ks j = some k → ∃ wn v, findW wins wn.key = some wn ∧ wn.key = k.1 ∧ wn.esz = 1 ∧ σ (Nat.succ j) = wn.len ∧ zOc w0 v wn k.2
theorem vt {a b : Option (List Lf)} {l : List Lf} (h : zLo a b = some l) : ∃ x y, a = some x ∧ b = some y ∧ l = x ++ y := by
  unfold zLo at h
  split at h
  · injection h with h; exact ⟨_, _, rfl, rfl, h.symm⟩
  · cases h
theorem wI {g : Nat → Option (List Lf)} : ∀ {m : Nat} {l : List Lf}, zER m g = some l → ∀ j, j ≤ m → ∃ x, g j = some x ∧ ∀ e ∈ x, e ∈ l
  | 0, l, h, j, hj => by
    obtain rfl : j = 0 := by omega
    exact ⟨l, h, fun e he => he⟩
  | m + 1, l, h, j, hj => by
    obtain ⟨x, y, h1, h2, rfl⟩ := vt (a := zER m g) (b := g (m + 1)) h
    by_cases e : j = m + 1
    · subst e; exact ⟨y, h2, fun e he => List.mem_append_right _ he⟩
    · obtain ⟨z, h3, h4⟩ := wI h1 j (by omega)
      exact ⟨z, h3, fun e he => List.mem_append_left _ (h4 e he)⟩
theorem xf {b : Bool} {o : Option (List Lf)} {l : List Lf} (h : j0 b o = some l) : b = true ∧ o = some l := by
  unfold j0 at h
  split at h
  · exact ⟨rfl, h⟩
  · cases h
theorem u7 {lo hi : Int} {o : Option (List Lf)} {l : List Lf} (h : zCu lo hi o = some l) (hle : lo ≤ hi) : o = some l := by
  unfold zCu at h
  rw [decide_eq_false (by omega)] at h
  exact h
theorem zAD : ∀ {b : List (Int × Int)} {v : Nat} {q : Int × Int}, (zHG b v q).length = b.length
  | [], _, _ => rfl
  | _ :: r, 0, _ => rfl
  | _ :: r, v + 1, _ => by simp [zHG, zAD (b := r)]
theorem wt {σ : Nat → Int} : ∀ {b : List (Int × Int)} {k v : Nat} {q : Int × Int}, yp σ k b → nth b v = some q → q.1 ≤ σ (k + v) ∧ σ (k + v) ≤ q.2
  | [], _, _, _, _, h => by cases h
  | x :: r, k, 0, q, hb, h => by
    injection h with h; subst h
    exact hb.1
  | x :: r, k, v + 1, q, hb, h => by
    have := wt hb.2 (v := v) h
    rw [show k + 1 + v = k + (v + 1) from by omega] at this
    exact this
theorem zAB {σ : Nat → Int} {z : Int} : ∀ {b : List (Int × Int)} {k v : Nat}, yp σ k b → σ (k + v) = z → yp σ k (zHG b v (z, z))
  | [], _, _, _, _ => trivial
  | x :: r, k, 0, hb, h => ⟨by rw [← h]; exact ⟨Int.le_refl _, Int.le_refl _⟩, hb.2⟩
  | x :: r, k, v + 1, hb, h => ⟨hb.1, zAB (b := r) (k := k + 1) (v := v) hb.2 (by rw [show k + 1 + v = k + (v + 1) from by omega]; exact h)⟩
section
variable {wins : List Win} {w0 : World} {i : Int} {ks : List (Key × Bool)}
theorem zCm {σ : Nat → Int} {e : Lf} (h : zD9 wins w0 i σ e) {l : LL} {q : Int × Int} (hq : zNv e l = some q) : q.1 ≤ evL σ l ∧ evL σ l ≤ q.2 :=
  yu (h.known _) hq
theorem zCq {σ : Nat → Int} {v : Nat} : evL σ [(v, 1)] = σ v := by
  show 1 * σ v + 0 = _; omega
theorem zGE {σ : Nat → Int} {e : Lf} (h : zD9 wins w0 i σ e) {j : Nat} (hi : zJD e j = true) : 0 ≤ σ 0 ∧ σ 0 < σ (Nat.succ j) := by
  unfold zJD at hi
  split at hi
  · rename_i p q hp hq
    rw [Bool.and_eq_true, decide_eq_true_eq, decide_eq_true_eq] at hi
    have g1 := (zCm h hp).2
    have g2 := (zCm h hq).1
    rw [zCq] at g2
    have e : evL σ [(0, 1), (Nat.succ j, -1)] = 1 * σ 0 + (-1 * σ (Nat.succ j) + 0) := rfl
    rw [e] at g1
    omega
  · cases hi
theorem ya : ∀ (t : LTree) (e : Lf) (σ : Nat → Int) {ls : List Lf}, leaves ks t e = some ls → zD9 wins w0 i σ e → WinIs wins w0 σ ks → σ 0 = i → ks.length < e.b.length → e.b.length ≤ 1000 → 1000 ≤ e.u →
    ∃ e' ∈ ls, ∃ σ', zD9 wins w0 i σ' e' ∧ ∀ j, (j < e.b.length ∨ (1000 ≤ j ∧ j < e.u)) → σ' j = σ j
  | .leaf, e, σ, ls, h, he, _, _, _, _, _ => by
    injection h with h; subst h
    exact ⟨e, by simp, σ, he, fun _ _ => rfl⟩
  | .cmp l cut a b, e, σ, ls, h, he, hw, h0, hk, h1, h2 => by
    unfold leaves at h
    split at h
    · cases h
    · rename_i q hq
      obtain ⟨x, y, hx, hy, rfl⟩ := vt h
      obtain ⟨g1, g2⟩ := zCm he hq
      by_cases hc : evL σ l < cut
      · have hx := u7 hx (by omega)
        obtain ⟨e', m, σ', r1, r2⟩ := ya a _ σ hx ⟨he.b, ⟨⟨g1, by simp only; omega⟩, he.f⟩, he.r, he.w⟩ hw h0 hk h1 h2
        exact ⟨e', List.mem_append_left _ m, σ', r1, r2⟩
      · have hy := u7 hy (by omega)
        obtain ⟨e', m, σ', r1, r2⟩ := ya b _ σ hy ⟨he.b, ⟨⟨by simp only; omega, g2⟩, he.f⟩, he.r, he.w⟩ hw h0 hk h1 h2
        exact ⟨e', List.mem_append_right _ m, σ', r1, r2⟩
  | .and v m ts, e, σ, ls, h, he, hw, h0, hk, h1, h2 => by
    unfold leaves at h
    obtain ⟨hm, h⟩ := xf h
    obtain ⟨j, hj, hr⟩ := zKB (σ v) m (@zP zX _ _ hm)
    obtain ⟨x, hx, hin⟩ := wI h j hj
    obtain ⟨e', m, σ', r1, r2⟩ := ya (ts j) _ σ hx ⟨he.b, he.f, ⟨zG6 hr, he.r⟩, he.w⟩ hw h0 hk h1 h2
    exact ⟨e', hin _ m, σ', r1, r2⟩
  | .rem v m ts, e, σ, ls, h, he, hw, h0, hk, h1, h2 => by
    unfold leaves at h
    obtain ⟨z, hz, hr⟩ := zFu (σ v) m
    obtain ⟨x, hx, hin⟩ := wI h (z + m).toNat (by omega)
    have e1 : (Int.ofNat (z + m).toNat - Int.ofNat m) = z := by
      show (((z + m).toNat : Nat) : Int) - (m : Int) = z
      omega
    rw [e1] at hx
    obtain ⟨e', m, σ', r1, r2⟩ := ya (ts (z + m).toNat) _ σ hx ⟨he.b, he.f, ⟨zG6 hr, he.r⟩, he.w⟩ hw h0 hk h1 h2
    exact ⟨e', hin _ m, σ', r1, r2⟩
  | .remn v m ts, e, σ, ls, h, he, hw, h0, hk, h1, h2 => by
    unfold leaves at h
    split at h
    · cases h
    · rename_i q hq
      obtain ⟨hq0, h⟩ := xf h
      rw [decide_eq_true_eq] at hq0
      have g := (zCm he hq).1
      rw [zCq] at g
      obtain ⟨j, hj, hr⟩ := zIa (σ v) (by omega) m
      obtain ⟨x, hx, hin⟩ := wI h j hj
      obtain ⟨e', m, σ', r1, r2⟩ := ya (ts j) _ σ hx ⟨he.b, he.f, ⟨zG6 hr, he.r⟩, he.w⟩ hw h0 hk h1 h2
      exact ⟨e', hin _ m, σ', r1, r2⟩
  | .bit v t a b, e, σ, ls, h, he, hw, h0, hk, h1, h2 => by
    unfold leaves at h
    obtain ⟨ht, h⟩ := xf h
    obtain ⟨x, y, hx, hy, rfl⟩ := vt h
    have ht := @zP zX _ _ ht
    rcases zK4 (σ v) t (by omega) with hr | hr
    · obtain ⟨e', m, σ', r1, r2⟩ := ya a _ σ hx ⟨he.b, he.f, ⟨zG6 hr, he.r⟩, he.w⟩ hw h0 hk h1 h2
      exact ⟨e', List.mem_append_left _ m, σ', r1, r2⟩
    · obtain ⟨e', m, σ', r1, r2⟩ := ya b _ σ hy ⟨he.b, he.f, ⟨zG6 hr, he.r⟩, he.w⟩ hw h0 hk h1 h2
      exact ⟨e', List.mem_append_right _ m, σ', r1, r2⟩
  | .shr v c t, e, σ, ls, h, he, hw, h0, hk, h1, h2 => by
    unfold leaves at h
    obtain ⟨hg, h⟩ := xf h
    rw [Bool.and_eq_true] at hg
    have hne : v ≠ e.u := fun q => by have := hg.2; rw [q] at this; simp at this
    obtain ⟨z, hr⟩ := zLw (σ v) c
    have he' := he.upd hg.1 z
    have hr' : x7 (upV σ e.u z) (rv .shr v c (.sym (sv e.u))) := zIh (by rw [upd_other hne, upd_same]; exact hr)
    obtain ⟨e', m, σ', r1, r2⟩ := ya t _ (upV σ e.u z) h ⟨he'.b, he'.f, ⟨hr', he'.r⟩, he'.w⟩
      ⟨fun j k hj => by
        obtain ⟨wn, v, q1, q2, q3, q4, q5⟩ := hw.len j k hj
        have hlt : j < ks.length := by
          rw [@yV zX] at hj
          exact (List.getElem?_eq_some_iff.1 hj).1
        exact ⟨wn, v, q1, q2, q3, by rw [upd_other (by show j + 1 ≠ e.u; omega)]; exact q4, q5⟩⟩ (by rw [upd_other (by omega)]; exact h0) hk h1 (by show 1000 ≤ e.u + 1; omega)
    exact ⟨e', m, σ', r1, fun j hj => by rw [r2 j (show j < e.b.length ∨ (1000 ≤ j ∧ j < e.u + 1) by omega), upd_other (by omega)]⟩
  | .mask v m t, e, σ, ls, h, he, hw, h0, hk, h1, h2 => by
    unfold leaves at h
    obtain ⟨hg, h⟩ := xf h
    simp only [Bool.and_eq_true] at hg
    obtain ⟨⟨⟨g1, g2⟩, g3⟩, g4⟩ := hg
    have hb := @zP zX _ _ g4
    have hne : v ≠ e.b.length := fun q => by rw [q] at g2; simp at g2
    obtain ⟨z, hz, hr⟩ := zJf (σ v) m (@zP zX _ _ g3)
    have he' := he.upd g1 (.ofNat z)
    have hr' : x7 (upV σ e.b.length (.ofNat z)) (rv .and v m (.sym (sv e.b.length))) := zIh (by rw [upd_other hne, upd_same]; exact hr)
    obtain ⟨e', m', σ', r1, r2⟩ := ya t _ (upV σ e.b.length (.ofNat z)) h
        ⟨kq he'.b (by rw [Nat.zero_add, upd_same]; exact Int.natCast_nonneg z) (by rw [Nat.zero_add, upd_same]; exact Int.ofNat_le.2 hz), he'.f, ⟨hr', he'.r⟩, he'.w⟩
        ⟨fun j k hj => by
          obtain ⟨wn, v, q1, q2, q3, q4, q5⟩ := hw.len j k hj
          have hlt : j < ks.length := by
            rw [@yV zX] at hj
            exact (List.getElem?_eq_some_iff.1 hj).1
          exact ⟨wn, v, q1, q2, q3, by rw [upd_other (by show j + 1 ≠ e.b.length; omega)]; exact q4, q5⟩⟩ (by rw [upd_other (by omega)]; exact h0) (by show _ < (e.b ++ _).length; simp; omega) (by show (e.b ++ _).length ≤ _; simp; omega) h2
    exact ⟨e', m', σ', r1, fun j hj => by rw [r2 j (show j < (e.b ++ [((0 : Int), Int.ofNat m)]).length ∨ (1000 ≤ j ∧ j < e.u) by simp; omega), upd_other (by omega)]⟩
  | .join h' g a b t, e, σ, ls, h, he, hw, h0, hk, h1, h2 => by
    unfold leaves at h
    obtain ⟨hg, h⟩ := xf h
    exact ya t { e with r := zMm h' a b e.r } σ h ⟨he.b, he.f, zL8 hg he.r, he.w⟩ hw h0 hk h1 h2
  | .cellI j t, e, σ, ls, h, he, hw, h0, hk, h1, h2 => by
    unfold leaves at h
    split at h
    · rename_i k hj
      obtain ⟨hg, h⟩ := xf h
      rw [Bool.and_eq_true] at hg
      obtain ⟨wn, v, q1, q2, q3, q4, q5⟩ := hw.len j _ hj
      obtain ⟨g1, g2⟩ := zGE he hg.1
      obtain ⟨q, hq⟩ := zNw (i := σ 0) q5 q3 q1 g1 (by rw [q4] at g2; exact g2)
      have he' := he.upd hg.2 q
      have hne : e.u ≠ 0 := by omega
      obtain ⟨e', m, σ', r1, r2⟩ := ya t _ (upV σ e.u q) h
        ⟨he'.b, he'.f, he'.r, fun x hx σ' K' hs => by
          rcases List.mem_cons.1 hx with rfl | hx
          · have e1 : σ' e.u = q := by
              have := hs.1
              have e2 : evL σ' [(e.u, 1)] = evL (upV σ e.u q) [(e.u, 1)] := this
              rw [zCq, zCq, upd_same] at e2
              exact e2
            have := hq σ' K' e.u e1
            rw [h0, q2] at this
            exact this
          · exact he'.w x hx σ' K' hs⟩
        ⟨fun j k hj => by
          obtain ⟨wn, v, q1, q2, q3, q4, q5⟩ := hw.len j k hj
          have hlt : j < ks.length := by
            rw [@yV zX] at hj
            exact (List.getElem?_eq_some_iff.1 hj).1
          exact ⟨wn, v, q1, q2, q3, by rw [upd_other (by show j + 1 ≠ e.u; omega)]; exact q4, q5⟩⟩ (by rw [upd_other (fun q => hne q.symm)]; exact h0) hk h1 (by show 1000 ≤ e.u + 1; omega)
      exact ⟨e', m, σ', r1, fun j hj => by rw [r2 j (show j < e.b.length ∨ (1000 ≤ j ∧ j < e.u + 1) by omega), upd_other (by omega)]⟩
    · cases h
  | .cellB j a b, e, σ, ls, h, he, hw, h0, hk, h1, h2 => by
    unfold leaves at h
    split at h
    · rename_i k hj
      obtain ⟨hg, h⟩ := xf h
      obtain ⟨x, y, hx, hy, rfl⟩ := vt h
      obtain ⟨wn, v, q1, q2, q3, q4, q5⟩ := hw.len j _ hj
      obtain ⟨g1, g2⟩ := zGE he hg
      rcases zK0 (i := σ 0) q5 q3 q1 g1 (by rw [q4] at g2; exact g2) with hq | hq
      · obtain ⟨e', m, σ', r1, r2⟩ := ya a _ σ hx ⟨he.b, he.f, he.r, fun x hx σ' K' hs => by
          rcases List.mem_cons.1 hx with rfl | hx
          · have := hq σ' K'
            rw [h0, q2] at this
            exact this
          · exact he.w x hx σ' K' hs⟩ hw h0 hk h1 h2
        exact ⟨e', List.mem_append_left _ m, σ', r1, r2⟩
      · obtain ⟨e', m, σ', r1, r2⟩ := ya b _ σ hy ⟨he.b, he.f, he.r, fun x hx σ' K' hs => by
          rcases List.mem_cons.1 hx with rfl | hx
          · have := hq σ' K'
            rw [h0, q2] at this
            exact this
          · exact he.w x hx σ' K' hs⟩ hw h0 hk h1 h2
        exact ⟨e', List.mem_append_right _ m, σ', r1, r2⟩
    · cases h
  | .pin v ts, e, σ, ls, h, he, hw, h0, hk, h1, h2 => by
    unfold leaves at h
    split at h
    · rename_i q hq
      have hb := wt he.b hq
      rw [Nat.zero_add] at hb
      obtain ⟨x, hx, hin⟩ := wI h (σ v - q.1).toNat (by omega)
      have ez : q.1 + Int.ofNat (σ v - q.1).toNat = σ v := by
        show q.1 + (((σ v - q.1).toNat : Nat) : Int) = σ v
        omega
      rw [ez] at hx
      obtain ⟨e', m, σ', r1, r2⟩ := ya (ts (σ v - q.1).toNat) (zPL e v (σ v)) σ hx ⟨zAB he.b (by rw [Nat.zero_add]), he.f, he.r, he.w⟩ hw h0 (by show _ < (zHG e.b v _).length; rw [zAD]; exact hk) (by show (zHG e.b v _).length ≤ _; rw [zAD]; exact h1) h2
      exact ⟨e', hin _ m, σ', r1, fun j hj => r2 j (by show j < (zHG e.b v _).length ∨ _; rw [zAD]; exact hj)⟩
    · cases h
  | .shrb v c t, e, σ, ls, h, he, hw, h0, hk, h1, h2 => by
    unfold leaves at h
    split at h
    · rename_i q hq
      obtain ⟨hg, h⟩ := xf h
      simp only [Bool.and_eq_true] at hg
      obtain ⟨⟨⟨⟨g1, g2⟩, g3⟩, g4⟩, g5⟩ := hg
      have hbl := @zP zX _ _ g3
      have hc := @zP zX _ _ g5
      rw [decide_eq_true_eq] at g4
      have hne : v ≠ e.b.length := fun q => by rw [q] at g2; simp at g2
      have hb := wt he.b hq
      rw [Nat.zero_add] at hb
      obtain ⟨a, ha⟩ : ∃ a : Nat, σ v = Int.ofNat a := ⟨(σ v).toNat, by show σ v = (((σ v).toNat : Nat) : Int); omega⟩
      have hz : yH .shr .i64 (σ v) (.ofNat c) = some (zU .i64 (σ v / 2 ^ c)) := by
        rw [ha]
        have e1 : (Int.ofNat a / 2 ^ c : Int) = Int.ofNat (a / 2 ^ c) := by
          show ((a : Int) / 2 ^ c) = ((a / 2 ^ c : Nat) : Int)
          rw [Int.natCast_ediv, Int.natCast_pow]; rfl
        rw [e1]
        show some (qb .i64 (Nat.div a (Nat.pow 2 (min c IntKind.i64.bits)))) = _
        have e2 : min c IntKind.i64.bits = c := by
          show min c 64 = c
          omega
        rw [e2]
        show some (qb .i64 (a / 2 ^ c)) = some (zU .i64 (Int.ofNat (a / 2 ^ c)))
        cases a / 2 ^ c <;> rfl
      have he' := he.upd g1 (σ v / 2 ^ c)
      have hr' : x7 (upV σ e.b.length (σ v / 2 ^ c)) (rv .shr v c (.sym (sv e.b.length))) := zIh (by rw [upd_other hne, upd_same]; exact hz)
      have hpos : (0 : Int) < 2 ^ c := Int.pow_pos (by decide)
      have hlo : q.1 / 2 ^ c ≤ σ v / 2 ^ c := Int.ediv_le_ediv hpos hb.1
      have hhi : σ v / 2 ^ c ≤ q.2 / 2 ^ c := Int.ediv_le_ediv hpos hb.2
      obtain ⟨e', m', σ', r1, r2⟩ := ya t _ (upV σ e.b.length (σ v / 2 ^ c)) h
          ⟨kq he'.b (by rw [Nat.zero_add, upd_same]; exact hlo) (by rw [Nat.zero_add, upd_same]; exact hhi), he'.f, ⟨hr', he'.r⟩, he'.w⟩
          ⟨fun j k hj => by
            obtain ⟨wn, v, q1, q2, q3, q4, q5⟩ := hw.len j k hj
            have hlt : j < ks.length := by
              rw [@yV zX] at hj
              exact (List.getElem?_eq_some_iff.1 hj).1
            exact ⟨wn, v, q1, q2, q3, by rw [upd_other (by show j + 1 ≠ e.b.length; omega)]; exact q4, q5⟩⟩ (by rw [upd_other (by omega)]; exact h0) (by show _ < (e.b ++ _).length; simp; omega) (by show (e.b ++ _).length ≤ _; simp; omega) h2
      exact ⟨e', m', σ', r1, fun j hj => by rw [r2 j (show j < (e.b ++ [((q.1 / 2 ^ c : Int), (q.2 / 2 ^ c : Int))]).length ∨ (1000 ≤ j ∧ j < e.u) by simp; omega), upd_other (by omega)]⟩
    · cases h
end
def AllG (Q : Lf → Prop) : List Lf → Prop
  | [] => True
  | e :: l => Q e ∧ AllG Q l
theorem uz {Q : Lf → Prop} : ∀ {l : List Lf}, AllG Q l → ∀ e ∈ l, Q e
  | [], _, e, he => by cases he
  | x :: l, h, e, he => by
    rcases List.mem_cons.1 he with rfl | he
    · exact h.1
    · exact uz h.2 e he
def uq (m : Nat) : List (Key × Nat) → Bool
  | [] => true
  | q :: r => Nat.ble (Nat.succ q.2) m && uq m r
theorem zBw {m : Nat} : ∀ {l : List (Key × Nat)}, uq m l = true → ∀ q ∈ l, q.2 < m
  | [], _, q, h => by cases h
  | x :: r, h, q, hq => by
    unfold uq at h
    rw [Bool.and_eq_true] at h
    rcases List.mem_cons.1 hq with rfl | hq
    · exact @zP zX _ _ h.1
    · exact zBw h.2 q hq
def AllS (Q : TS → Prop) : List TS → Prop
  | [] => True
  | T :: l => Q T ∧ AllS Q l
theorem zH0 {Q : TS → Prop} : ∀ {l : List TS} {t : Nat} {T : TS}, AllS Q l → nth l t = some T → Q T
  | [], _, _, _, h => by cases h
  | x :: l, 0, T, h, hn => by
    injection hn with hn
    subst hn
    exact h.1
  | x :: l, t + 1, T, h, hn => zH0 (t := t) h.2 hn
theorem allG_nil {Q : Lf → Prop} : AllG Q [] := trivial
theorem allG_cons {Q : Lf → Prop} {e : Lf} {l : List Lf} (h : Q e) (r : AllG Q l) : AllG Q (e :: l) := ⟨h, r⟩
theorem zNp {Q : TS → Prop} : AllS Q [] := trivial
theorem zKQ {Q : TS → Prop} {T : TS} {l : List TS} (h : Q T) (r : AllS Q l) : AllS Q (T :: l) := ⟨h, r⟩
theorem len_of {wins : List Win} {L : List (Key × Nat)} {σ : Nat → Int} {w : Win} {k : Key} {j : Nat} (h : LensAre wins L σ) (hm : (k, j) ∈ L) (hw : findW wins k = some w) : σ j = w.len := by
  obtain ⟨wn, h1, h2⟩ := h _ hm
  simp only at h1
  rw [hw] at h1
  injection h1 with h1
  subst h1
  exact h2
end
end Go.Ev


