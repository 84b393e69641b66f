/- A verified evaluator for the model's code: EvWord, EvTree. -/
import Derived.Test.YtaimebepiomgcaaGreatDoorEvArg
set_option linter.unusedSectionVars false
set_option linter.unusedVariables false
set_option linter.unusedSimpArgs false
namespace Go.Ev
noncomputable section
theorem uS (m : Nat) : zU .i64 (.ofNat m) = .nat m := by cases m <;> rfl
theorem zBd (m : Nat) : zU .i64 (.negSucc m) = .int .i64 (.negSucc m) := by cases m <;> rfl
theorem zF6 {a b : Int} (h : zU .i64 a = zU .i64 b) : a = b := by
  cases a with
  | ofNat a => cases b with
    | ofNat b => rw [uS, uS] at h; injection h with h; rw [h]
    | negSucc b => rw [uS, zBd] at h; cases h
  | negSucc a => cases b with
    | ofNat b => rw [uS, zBd] at h; cases h
    | negSucc b => rw [zBd, zBd] at h; injection h
theorem zDV (q : Int) : (toU .i64 q : Int) = q % 18446744073709551616 := by
  cases q with
  | ofNat m =>
    show ((m % 2 ^ 64 : Nat) : Int) = (m : Int) % 18446744073709551616
    omega
  | negSucc m =>
    show ((2 ^ 64 - 1 - m % 2 ^ 64 : Nat) : Int) = Int.negSucc m % 18446744073709551616
    rw [Int.negSucc_eq]
    omega
theorem zBg (q : Int) {n : Nat} (hn : n ≤ 31) : yL .and .i64 q (.ofNat (2 ^ n - 1)) = some (zU .i64 (.ofNat (toU .i64 q % 2 ^ n))) := by
  have hp : 2 ^ n ≤ 2 ^ 31 := Nat.pow_le_pow_right (by decide) hn
  have h1 : toU .i64 (.ofNat (2 ^ n - 1)) = 2 ^ n - 1 := Nat.mod_eq_of_lt (show 2 ^ n - 1 < 2 ^ 64 by omega)
  show some (zU .i64 (ya .i64 (.ofNat (Nat.land (toU .i64 q) (toU .i64 (.ofNat (2 ^ n - 1))))))) = _
  rw [h1]
  have h2 : Nat.land (toU .i64 q) (2 ^ n - 1) = toU .i64 q % 2 ^ n := Nat.and_two_pow_sub_one_eq_mod _ n
  rw [h2]
  have h3 : toU .i64 q % 2 ^ n < 2 ^ n := Nat.mod_lt _ (Nat.two_pow_pos n)
  have h4 : ya .i64 (.ofNat (toU .i64 q % 2 ^ n)) = .ofNat (toU .i64 q % 2 ^ n) := by
    generalize toU .i64 q % 2 ^ n = x at h3
    rw [@yk zW]
    simp [IntKind.wrap, IntKind.signed, IntKind.bits]
    omega
  rw [h4]
theorem zCX (q : Int) : yL .shr .i64 q (.ofNat 4) = some (zU .i64 (q / 16)) := by
  cases q with
  | ofNat a =>
    show some (qj .i64 (Nat.div a (Nat.pow 2 (min 4 64)))) = some (zU .i64 ((a : Int) / 16))
    have e : ((a : Int) / 16) = Int.ofNat (a / 16) := by
      show (a : Int) / 16 = ((a / 16 : Nat) : Int)
      omega
    rw [e, uS]
    show some (jn (a / 16)) = _
    generalize a / 16 = x
    cases x <;> rfl
  | negSucc a =>
    show some (zU .i64 ((Int.negSucc a).fdiv (.ofNat (Nat.pow 2 (min 4 64))))) = _
    have e : (Int.negSucc a).fdiv (.ofNat (Nat.pow 2 (min 4 64))) = Int.negSucc a / 16 := by
      show (Int.negSucc a).fdiv 16 = _
      rw [Int.fdiv_eq_ediv_of_nonneg _ (by decide)]
    rw [e]
theorem zIN {h g a b : Int} (h1 : yL .and .i64 h (.ofNat 15) = some (zU .i64 a)) (h2 : yL .shr .i64 h (.ofNat 4) = some (zU .i64 g)) (h3 : yL .and .i64 g (.ofNat 15) = some (zU .i64 b)) :
    yL .and .i64 h (.ofNat 255) = some (zU .i64 (a + 16 * b)) ∧ yL .and .i64 (a + 16 * b) (.ofNat 15) = some (zU .i64 a) ∧ yL .shr .i64 (a + 16 * b) (.ofNat 4) = some (zU .i64 b) := by
  have e15 : ∀ q : Int, yL .and .i64 q (.ofNat 15) = some (zU .i64 (.ofNat (toU .i64 q % 16))) := fun q => zBg q (n := 4) (by decide)
  have e255 : ∀ q : Int, yL .and .i64 q (.ofNat 255) = some (zU .i64 (.ofNat (toU .i64 q % 256))) := fun q => zBg q (n := 8) (by decide)
  rw [e15] at h1 h3
  rw [zCX] at h2
  have a1 := zF6 (Option.some.inj h1)
  have a2 := zF6 (Option.some.inj h2)
  have a3 := zF6 (Option.some.inj h3)
  have u1 := zDV h
  have u2 := zDV g
  have u3 := zDV (a + 16 * b)
  have a1 : ((toU .i64 h % 16 : Nat) : Int) = a := a1
  have a3 : ((toU .i64 g % 16 : Nat) : Int) = b := a3
  refine ⟨?_, ?_, ?_⟩
  · rw [e255]
    congr 2
    show ((toU .i64 h % 256 : Nat) : Int) = a + 16 * b
    omega
  · rw [e15]
    congr 2
    show ((toU .i64 (a + 16 * b) % 16 : Nat) : Int) = a
    omega
  · rw [zCX]
    congr 2
    omega
def zO2 (n : Nat) (e : SE) : Bool := match e.k, e.l with
  | .i64, [p] => Nat.beq p.1 n && decide (p.2 = 1) && decide (e.c = 0)
  | _, _ => false
theorem zKT {n : Nat} {e : SE} (h : zO2 n e = true) : e = sv n := by
  obtain ⟨k, c, l⟩ := e
  unfold zO2 at h
  split at h
  · rename_i p h1 h2
    simp only at h1 h2
    subst h1 h2
    simp only [Bool.and_eq_true, decide_eq_true_eq] at h
    obtain ⟨⟨h1, h2⟩, h3⟩ := h
    obtain ⟨i, z⟩ := p
    simp only at h1 h2 h3
    have h1 := Nat.eq_of_beq_eq_true h1
    subst h1 h2 h3
    rfl
  · cases h
def zP2 : Bool → BinOp → Bool
  | true, .and => true
  | false, .shr => true
  | _, _ => false
def zLP : Bool → BinOp
  | true => .and
  | false => .shr
theorem zOf {b : Bool} {o : BinOp} (h : zP2 b o = true) : o = zLP b := by
  unfold zP2 at h
  split at h
  · rfl
  · rfl
  · cases h
def zP1 (b : Bool) (h c a : Nat) (q : yy) : Bool := zP2 b q.op && zO2 h q.x && Nat.beq q.c c && (match q.v with
  | .sym e => zO2 a e
  | _ => false)
def zL2 (b : Bool) (h c a : Nat) : List yy → Bool
  | [] => false
  | q :: r => zP1 b h c a q || zL2 b h c a r
theorem zOE {σ : Nat → Int} {b : Bool} {h c a : Nat} {q : yy} (hq : zP1 b h c a q = true) (hr : qF σ q) {z : Int} (hz : yL (zLP b) .i64 (σ h) (.ofNat c) = some (zU .i64 z)) :
    yL (zLP b) .i64 (σ h) (.ofNat c) = some (zU .i64 (σ a)) := by
  unfold zP1 at hq
  simp only [Bool.and_eq_true] at hq
  obtain ⟨⟨⟨h1, h2⟩, h3⟩, h4⟩ := hq
  split at h4
  · rename_i e he
    have h1 := zOf h1
    have h2 := zKT h2
    have h3 := Nat.eq_of_beq_eq_true h3
    have h4 := zKT h4
    subst h4
    obtain ⟨u, _, g2, g3⟩ := hr
    rw [h1, h2, h3] at g2
    have g2 : yL (zLP b) .i64 (evE σ (sv h)) (.ofNat c) = some u := g2
    rw [jv] at g2
    rw [he] at g3
    rw [g2]
    rcases g3 with g3 | ⟨e, g3, g4⟩
    · rw [hz] at g2
      have g2 := Option.some.inj g2
      rw [← g3] at g2
      cases z with
      | ofNat m => rw [uS] at g2; cases g2
      | negSucc m => rw [zBd] at g2; cases g2
    · injection g3 with g3
      subst g3
      rw [g4, jv]
      rfl
  · cases h4
theorem zCM {σ : Nat → Int} {b : Bool} {h c a : Nat} {z : Int} (hz : yL (zLP b) .i64 (σ h) (.ofNat c) = some (zU .i64 z)) : ∀ {r : List yy}, zL2 b h c a r = true → xv σ r →
    yL (zLP b) .i64 (σ h) (.ofNat c) = some (zU .i64 (σ a))
  | [], hr, _ => by cases hr
  | q :: r, hr, ho => by
    unfold zL2 at hr
    rw [Bool.or_eq_true] at hr
    rcases hr with hr | hr
    · exact zOE hr ho.1 hz
    · exact zCM hz hr ho.2
def zB3 (a b : Nat) : SE := ⟨.i64, .ofNat 0, [(a, 1), (b, 16)]⟩
theorem zDm (σ : Nat → Int) (a b : Nat) : evE σ (zB3 a b) = σ a + 16 * σ b := by
  show (0 : Int) + (1 * σ a + (16 * σ b + 0)) = _
  omega
def zIM (r : List yy) (h g a b : Nat) : Bool := zL2 true h 15 a r && zL2 false h 4 g r && zL2 true g 15 b r
def zNn (h a b : Nat) (r : List yy) : List yy := ⟨.and, sv h, 255, .sym (zB3 a b)⟩ :: ⟨.and, zB3 a b, 15, .sym (sv a)⟩ :: ⟨.shr, zB3 a b, 4, .sym (sv b)⟩ :: r
theorem zNf {σ : Nat → Int} {r : List yy} {h g a b : Nat} (hj : zIM r h g a b = true) (hr : xv σ r) : xv σ (zNn h a b r) := by
  unfold zIM at hj
  simp only [Bool.and_eq_true] at hj
  obtain ⟨⟨h1, h2⟩, h3⟩ := hj
  have g1 := zCM (σ := σ) (b := true) (h := h) (c := 15) (zBg (σ h) (n := 4) (by decide)) h1 hr
  have g2 := zCM (σ := σ) (b := false) (h := h) (c := 4) (zCX (σ h)) h2 hr
  have g3 := zCM (σ := σ) (b := true) (h := g) (c := 15) (zBg (σ g) (n := 4) (by decide)) h3 hr
  obtain ⟨w1, w2, w3⟩ := zIN g1 g2 g3
  refine ⟨⟨_, .inl rfl, ?_, .inr ⟨zB3 a b, rfl, rfl⟩⟩, ⟨_, .inl rfl, ?_, .inr ⟨sv a, rfl, rfl⟩⟩, ⟨_, .inl rfl, ?_, .inr ⟨sv b, rfl, rfl⟩⟩, hr⟩
  · show yL .and .i64 (evE σ (sv h)) (.ofNat 255) = some (zU .i64 (evE σ (zB3 a b)))
    rw [jv, zDm]; exact w1
  · show yL .and .i64 (evE σ (zB3 a b)) (.ofNat 15) = some (zU .i64 (evE σ (sv a)))
    rw [jv, zDm]; exact w2
  · show yL .shr .i64 (evE σ (zB3 a b)) (.ofNat 4) = some (zU .i64 (evE σ (sv b)))
    rw [jv, zDm]; exact w3
end
end Go.Ev

namespace Go.Ev
open Go.RowKit
noncomputable section
variable {P : Program}
inductive LTree where
  | leaf
  | cmp (l : LL) (cut : Int) (a b : LTree)
  | and (v m : Nat) (ts : Nat → LTree)
  | rem (v m : Nat) (ts : Nat → LTree)
  | remn (v m : Nat) (ts : Nat → LTree)
  | bit (v t : Nat) (a b : LTree)
  | shr (v c : Nat) (t : LTree)
  | mask (v m : Nat) (t : LTree)
  | join (h g a b : Nat) (t : LTree)
  | cellI (j : Nat) (t : LTree)
  | cellB (j : Nat) (a b : LTree)
  | pin (v : Nat) (ts : Nat → LTree)
  | shrb (v c : Nat) (t : LTree)
structure Lf where
  b : List (Int × Int)
  f : List (LL × Int × Int)
  r : List yy
  l : List (Key × List CV)
  u : Nat
def Lf.known (e : Lf) (A : Key → Option Value) : ze := ⟨e.b, e.f, e.r, A⟩
def zCg (n : Nat) : LL → Bool
  | [] => true
  | p :: r => !(Nat.beq p.1 n) && zCg n r
def yx (n : Nat) : List CV → Bool
  | [] => true
  | .sym e :: r => zCg n e.l && yx n r
  | .bool _ :: r => yx n r
  | _ :: _ => false
def zMS (n : Nat) : CV → Bool
  | .sym e => zCg n e.l
  | .nat _ => true
  | .int _ _ => true
  | _ => false
def zGk (n : Nat) : List (LL × Int × Int) → Bool
  | [] => true
  | q :: r => zCg n q.1 && zGk n r
def zGS (n : Nat) : List yy → Bool
  | [] => true
  | q :: r => zCg n q.x.l && zMS n q.v && zGS n r
def zC1 (n : Nat) : List (Key × List CV) → Bool
  | [] => true
  | q :: r => yx n q.2 && zC1 n r
def Lf.free (e : Lf) (n : Nat) : Bool := zGk n e.f && zGS n e.r && zC1 n e.l && Nat.ble e.b.length n
def upV (σ : Nat → Int) (n : Nat) (z : Int) : Nat → Int := fun i => if i = n then z else σ i
theorem upd_same {σ : Nat → Int} {n : Nat} {z : Int} : upV σ n z n = z := by simp [upV]
theorem upd_other {σ : Nat → Int} {n i : Nat} {z : Int} (h : i ≠ n) : upV σ n z i = σ i := by simp [upV, h]
theorem zAC {σ : Nat → Int} {n : Nat} {z : Int} : ∀ {l : LL}, zCg n l = true → evL (upV σ n z) l = evL σ l
  | [], _ => rfl
  | p :: r, h => by
    unfold zCg at h
    rw [Bool.and_eq_true] at h
    have hne : p.1 ≠ n := fun e => by
      have h1 := h.1
      rw [e] at h1
      simp at h1
    show p.2 * upV σ n z p.1 + evL (upV σ n z) r = p.2 * σ p.1 + evL σ r
    rw [upd_other hne, zAC h.2]
theorem zCn {σ : Nat → Int} {n : Nat} {z : Int} : ∀ {f : List (LL × Int × Int)}, zGk n f = true → qt σ f → qt (upV σ n z) f
  | [], _, _ => trivial
  | q :: r, h, hf => by
    unfold zGk at h
    rw [Bool.and_eq_true] at h
    refine ⟨?_, zCn h.2 hf.2⟩
    rw [zAC h.1]; exact hf.1
theorem zJj {σ : Nat → Int} {n : Nat} {z : Int} {q : yy} (h1 : zCg n q.x.l = true) (h2 : zMS n q.v = true) (h : qF σ q) : qF (upV σ n z) q := by
  obtain ⟨u, g1, g2, g3⟩ := h
  refine ⟨u, g1, ?_, ?_⟩
  · unfold evE at g2 ⊢
    rw [zAC h1]; exact g2
  · rcases g3 with g3 | ⟨e, g3, g4⟩
    · exact .inl g3
    · refine .inr ⟨e, g3, ?_⟩
      rw [g3] at h2
      unfold evE at g4 ⊢
      rw [zAC (l := e.l) h2]; exact g4
theorem zBW {σ : Nat → Int} {n : Nat} {z : Int} : ∀ {r : List yy}, zGS n r = true → xv σ r → xv (upV σ n z) r
  | [], _, _ => trivial
  | q :: r, h, hr => by
    unfold zGS at h
    rw [Bool.and_eq_true, Bool.and_eq_true] at h
    exact ⟨zJj h.1.1 h.1.2 hr.1, zBW h.2 hr.2⟩
theorem zAz {σ : Nat → Int} {n : Nat} {z : Int} : ∀ {b : List (Int × Int)} {k : Nat}, k + b.length ≤ n → yu σ k b → yu (upV σ n z) k b
  | [], _, _, _ => trivial
  | q :: r, k, h, hb => by
    simp only [List.length_cons] at h
    refine ⟨?_, zAz (by omega) hb.2⟩
    rw [upd_other (by omega)]; exact hb.1
theorem wH {σ : Nat → Int} {lo hi : Int} : ∀ {b : List (Int × Int)} {k : Nat}, yu σ k b → lo ≤ σ (k + b.length) → σ (k + b.length) ≤ hi → yu σ k (b ++ [(lo, hi)])
  | [], k, _, h1, h2 => ⟨⟨h1, h2⟩, trivial⟩
  | q :: r, k, hb, h1, h2 => by
    simp only [List.length_cons] at h1 h2
    have e : k + 1 + r.length = k + (r.length + 1) := by omega
    exact ⟨hb.1, wH hb.2 (by rw [e]; exact h1) (by rw [e]; exact h2)⟩
def uo (σ σ' : Nat → Int) : List CV → Prop
  | [] => True
  | .sym e :: r => evL σ' e.l = evL σ e.l ∧ uo σ σ' r
  | _ :: r => uo σ σ' r
def zJk (wins : List Win) (w0 : World) (i : Int) (σ : Nat → Int) (l : List (Key × List CV)) : Prop :=
  ∀ q ∈ l, ∀ σ' K', uo σ σ' q.2 → zCa (linSym σ' K') wins w0 i q
theorem vf {σ : Nat → Int} : ∀ {l : List CV}, uo σ σ l
  | [] => trivial
  | c :: r => by
    unfold uo
    split <;> first | trivial | (rename_i h; injection h with h1 h2; subst h1 h2; exact ⟨rfl, vf⟩) | (rename_i h; injection h with h1 h2; subst h1 h2; exact vf)
theorem uu {σ σ' : Nat → Int} {n : Nat} {z : Int} : ∀ {l : List CV}, yx n l = true → uo (upV σ n z) σ' l → uo σ σ' l
  | [], _, _ => trivial
  | .sym e :: r, h, hs => by
    unfold yx at h
    rw [Bool.and_eq_true] at h
    obtain ⟨h1, h2⟩ := hs
    rw [zAC h.1] at h1
    exact ⟨h1, uu h.2 h2⟩
  | .bool b :: r, h, hs => uu (l := r) (by simpa [yx] using h) hs
  | .nat _ :: _, h, _ => by simp [yx] at h
  | .int _ _ :: _, h, _ => by simp [yx] at h
  | .anyi _ :: _, h, _ => by simp [yx] at h
  | .str _ :: _, h, _ => by simp [yx] at h
  | .nilptr :: _, h, _ => by simp [yx] at h
  | .ptr _ _ :: _, h, _ => by simp [yx] at h
  | .nilsl :: _, h, _ => by simp [yx] at h
  | .sl .. :: _, h, _ => by simp [yx] at h
  | .nilmap :: _, h, _ => by simp [yx] at h
  | .map _ :: _, h, _ => by simp [yx] at h
  | .func .. :: _, h, _ => by simp [yx] at h
  | .nilfunc :: _, h, _ => by simp [yx] at h
  | .iface .. :: _, h, _ => by simp [yx] at h
  | .niliface :: _, h, _ => by simp [yx] at h
  | .agg _ :: _, h, _ => by simp [yx] at h
  | .tup _ :: _, h, _ => by simp [yx] at h
  | .win .. :: _, h, _ => by simp [yx] at h
  | .sst _ :: _, h, _ => by simp [yx] at h
  | .few .. :: _, h, _ => by simp [yx] at h
  | .elt .. :: _, h, _ => by simp [yx] at h
  | .any :: _, h, _ => by simp [yx] at h
theorem zJt {wins : List Win} {w0 : World} {i : Int} {σ : Nat → Int} {n : Nat} {z : Int} {l : List (Key × List CV)} (h : zC1 n l = true) (hw : zJk wins w0 i σ l) : zJk wins w0 i (upV σ n z) l := by
  intro q hq σ' K' hs
  have : ∀ {l : List (Key × List CV)}, zC1 n l = true → q ∈ l → yx n q.2 = true := by
    intro l
    induction l with
    | nil => intro _ hq; cases hq
    | cons x r ih =>
      intro h hq
      unfold zC1 at h
      rw [Bool.and_eq_true] at h
      rcases List.mem_cons.1 hq with rfl | hq
      · exact h.1
      · exact ih h.2 hq
  exact hw q hq σ' K' (uu (this h hq) hs)
structure zEl (wins : List Win) (w0 : World) (i : Int) (σ : Nat → Int) (e : Lf) : Prop where
  b : yu σ 0 e.b
  f : qt σ e.f
  r : xv σ e.r
  w : zJk wins w0 i σ e.l
theorem zEl.known {wins : List Win} {w0 : World} {i : Int} {σ : Nat → Int} {e : Lf} (h : zEl wins w0 i σ e) (A : Key → Option Value) : KnownOk σ (e.known A) := zOr h.b h.f h.r
theorem zEl.upd {wins : List Win} {w0 : World} {i : Int} {σ : Nat → Int} {e : Lf} (h : zEl wins w0 i σ e) {n : Nat} (hn : e.free n = true) (z : Int) : zEl wins w0 i (Go.Ev.upV σ n z) e := by
  unfold Lf.free at hn
  simp only [Bool.and_eq_true] at hn
  obtain ⟨⟨⟨h1, h2⟩, h3⟩, h4⟩ := hn
  exact ⟨zAz (by have := @zP zW _ _ h4; omega) h.b, zCn h1 h.f, zBW h2 h.r, zJt h3 h.w⟩
def zKZ (a b : Option (List Lf)) : Option (List Lf) := match a, b with
  | some x, some y => some (x ++ y)
  | _, _ => none
def zFq (m : Nat) (g : Nat → Option (List Lf)) : Option (List Lf) := Nat.rec (motive := fun _ => Option (List Lf)) (g 0) (fun j ih => zKZ ih (g (Nat.succ j))) m
def zN0 (e : Lf) (l : LL) : Option (Int × Int) := rng (e.known (fun _ => none)) l
def zKh (e : Lf) (j : Nat) : Bool := match zN0 e [(0, 1), (Nat.succ j, -1)], zN0 e [(0, 1)] with
  | some p, some q => decide (p.2 < 0) && decide (0 ≤ q.1)
  | _, _ => false
def zQf (e : Lf) (q : LL × Int × Int) : Lf := { e with f := q :: e.f }
def zH3 (e : Lf) (q : yy) : Lf := { e with r := q :: e.r }
def zPH (e : Lf) (q : Key × List CV) : Lf := { e with l := q :: e.l }
def zQa (e : Lf) (lo hi : Int) : Lf := { e with b := e.b ++ [(lo, hi)] }
def zQB (e : Lf) : Lf := { e with u := Nat.succ e.u }
def kQ (b : Bool) (o : Option (List Lf)) : Option (List Lf) := match b with
  | true => o
  | false => none
def zCz (lo hi : Int) (o : Option (List Lf)) : Option (List Lf) := match decide (hi < lo) with
  | true => some []
  | false => o
def zIo (b : List (Int × Int)) (v : Nat) (q : Int × Int) : List (Int × Int) := match b with
  | [] => []
  | x :: r => match v with
    | 0 => q :: r
    | v + 1 => x :: zIo r v q
def zP8 (e : Lf) (v : Nat) (z : Int) : Lf := { e with b := zIo e.b v (z, z) }
def leaves (ks : List (Key × Bool)) : LTree → Lf → Option (List Lf)
  | .leaf, e => some [e]
  | .cmp l cut a b, e => match zN0 e l with
    | none => none
    | some q => zKZ (zCz q.1 (min q.2 (cut - 1)) (leaves ks a (zQf e (l, q.1, min q.2 (cut - 1))))) (zCz (max q.1 cut) q.2 (leaves ks b (zQf e (l, max q.1 cut, q.2))))
  | .and v m ts, e => kQ (Nat.ble m 127) (zFq m fun j => leaves ks (ts j) (zH3 e (rv .and v m (zU .i64 (.ofNat j)))))
  | .rem v m ts, e => zFq (2 * m) fun j => leaves ks (ts j) (zH3 e (rv .rem v (m + 1) (zU .i64 (Int.ofNat j - Int.ofNat m))))
  | .remn v m ts, e => match zN0 e [(v, 1)] with
    | none => none
    | some q => kQ (decide (0 ≤ q.1)) (zFq m fun j => leaves ks (ts j) (zH3 e (rv .rem v (m + 1) (zU .i64 (.ofNat j)))))
  | .bit v t a b, e => kQ (Nat.ble t 6) (zKZ (leaves ks a (zH3 e (rv .and v (2 ^ t) (zU .i64 (.ofNat 0))))) (leaves ks b (zH3 e (rv .and v (2 ^ t) (zU .i64 (.ofNat (2 ^ t)))))))
  | .shr v c t, e => kQ (e.free e.u && !(Nat.beq v e.u)) (leaves ks t (zH3 (zQB e) (rv .shr v c (.sym (sv e.u)))))
  | .mask v m t, e => kQ (e.free e.b.length && !(Nat.beq v e.b.length) && Nat.ble m 4294967295 && Nat.ble (Nat.succ e.b.length) 1000) (leaves ks t (zH3 (zQa e 0 (.ofNat m)) (rv .and v m (.sym (sv e.b.length)))))
  | .join h g a b t, e => kQ (zIM e.r h g a b) (leaves ks t { e with r := zNn h a b e.r })
  | .cellI j t, e => match nth ks j with
    | some (k, true) => kQ (zKh e j && e.free e.u) (leaves ks t (zPH (zQB e) (k, [.sym (sv e.u)])))
    | _ => none
  | .cellB j a b, e => match nth ks j with
    | some (k, false) => kQ (zKh e j) (zKZ (leaves ks a (zPH e (k, [.bool false]))) (leaves ks b (zPH e (k, [.bool true]))))
    | _ => none
  | .pin v ts, e => match nth e.b v with
    | some q => zFq (q.2 - q.1).toNat fun j => leaves ks (ts j) (zP8 e v (q.1 + Int.ofNat j))
    | none => none
  | .shrb v c t, e => match nth e.b v with
    | some q => kQ (e.free e.b.length && !(Nat.beq v e.b.length) && Nat.ble (Nat.succ e.b.length) 1000 && decide (0 ≤ q.1) && Nat.ble c 60) (leaves ks t (zH3 (zQa e (q.1 / 2 ^ c) (q.2 / 2 ^ c)) (rv .shr v c (.sym (sv e.b.length)))))
    | none => none
def zOI (w0 : World) (v : Value) (wn : Win) : Bool → Prop
  | true => IntArg w0 v wn
  | false => zJO w0 v wn
structure WinIs (wins : List Win) (w0 : World) (σ : Nat → Int) (ks : List (Key × Bool)) : Prop where
  len : ∀ j k, nth ks j = some k → ∃ wn v, findW wins wn.key = some wn ∧ wn.key = k.1 ∧ wn.esz = 1 ∧ σ (Nat.succ j) = wn.len ∧ zOI w0 v wn k.2
theorem uT {a b : Option (List Lf)} {l : List Lf} (h : zKZ a b = some l) : ∃ x y, a = some x ∧ b = some y ∧ l = x ++ y := by
  unfold zKZ at h
  split at h
  · injection h with h; exact ⟨_, _, rfl, rfl, h.symm⟩
  · cases h
theorem we {g : Nat → Option (List Lf)} : ∀ {m : Nat} {l : List Lf}, zFq m g = some l → ∀ j, j ≤ m → ∃ x, g j = some x ∧ ∀ e ∈ x, e ∈ l
  | 0, l, h, j, hj => by
    obtain rfl : j = 0 := by omega
    exact ⟨l, h, fun e he => he⟩
  | m + 1, l, h, j, hj => by
    obtain ⟨x, y, h1, h2, rfl⟩ := uT (a := zFq m g) (b := g (m + 1)) h
    by_cases e : j = m + 1
    · subst e; exact ⟨y, h2, fun e he => List.mem_append_right _ he⟩
    · obtain ⟨z, h3, h4⟩ := we h1 j (by omega)
      exact ⟨z, h3, fun e he => List.mem_append_left _ (h4 e he)⟩
theorem xo {b : Bool} {o : Option (List Lf)} {l : List Lf} (h : kQ b o = some l) : b = true ∧ o = some l := by
  unfold kQ at h
  split at h
  · exact ⟨rfl, h⟩
  · cases h
theorem zAT {lo hi : Int} {o : Option (List Lf)} {l : List Lf} (h : zCz lo hi o = some l) (hle : lo ≤ hi) : o = some l := by
  unfold zCz at h
  rw [decide_eq_false (by omega)] at h
  exact h
theorem zBf : ∀ {b : List (Int × Int)} {v : Nat} {q : Int × Int}, (zIo b v q).length = b.length
  | [], _, _ => rfl
  | _ :: r, 0, _ => rfl
  | _ :: r, v + 1, _ => by simp [zIo, zBf (b := r)]
theorem wv {σ : Nat → Int} : ∀ {b : List (Int × Int)} {k v : Nat} {q : Int × Int}, yu σ k b → nth b v = some q → q.1 ≤ σ (k + v) ∧ σ (k + v) ≤ q.2
  | [], _, _, _, _, h => by cases h
  | x :: r, k, 0, q, hb, h => by
    injection h with h; subst h
    exact hb.1
  | x :: r, k, v + 1, q, hb, h => by
    have := wv hb.2 (v := v) h
    rw [show k + 1 + v = k + (v + 1) from by omega] at this
    exact this
theorem zA8 {σ : Nat → Int} {z : Int} : ∀ {b : List (Int × Int)} {k v : Nat}, yu σ k b → σ (k + v) = z → yu σ k (zIo b v (z, z))
  | [], _, _, _, _ => trivial
  | x :: r, k, 0, hb, h => ⟨by rw [← h]; exact ⟨Int.le_refl _, Int.le_refl _⟩, hb.2⟩
  | x :: r, k, v + 1, hb, h => ⟨hb.1, zA8 (b := r) (k := k + 1) (v := v) hb.2 (by rw [show k + 1 + v = k + (v + 1) from by omega]; exact h)⟩
section
variable {wins : List Win} {w0 : World} {i : Int} {ks : List (Key × Bool)}
theorem zCF {σ : Nat → Int} {e : Lf} (h : zEl wins w0 i σ e) {l : LL} {q : Int × Int} (hq : zN0 e l = some q) : q.1 ≤ evL σ l ∧ evL σ l ≤ q.2 :=
  yr (h.known _) hq
theorem zCD {σ : Nat → Int} {v : Nat} : evL σ [(v, 1)] = σ v := by
  show 1 * σ v + 0 = _; omega
theorem zHi {σ : Nat → Int} {e : Lf} (h : zEl wins w0 i σ e) {j : Nat} (hi : zKh e j = true) : 0 ≤ σ 0 ∧ σ 0 < σ (Nat.succ j) := by
  unfold zKh at hi
  split at hi
  · rename_i p q hp hq
    rw [Bool.and_eq_true, decide_eq_true_eq, decide_eq_true_eq] at hi
    have g1 := (zCF h hp).2
    have g2 := (zCF h hq).1
    rw [zCD] at g2
    have e : evL σ [(0, 1), (Nat.succ j, -1)] = 1 * σ 0 + (-1 * σ (Nat.succ j) + 0) := rfl
    rw [e] at g1
    omega
  · cases hi
theorem yd : ∀ (t : LTree) (e : Lf) (σ : Nat → Int) {ls : List Lf}, leaves ks t e = some ls → zEl wins w0 i σ e → WinIs wins w0 σ ks → σ 0 = i → ks.length < e.b.length → e.b.length ≤ 1000 → 1000 ≤ e.u →
    ∃ e' ∈ ls, ∃ σ', zEl wins w0 i σ' e' ∧ ∀ j, (j < e.b.length ∨ (1000 ≤ j ∧ j < e.u)) → σ' j = σ j
  | .leaf, e, σ, ls, h, he, _, _, _, _, _ => by
    injection h with h; subst h
    exact ⟨e, by simp, σ, he, fun _ _ => rfl⟩
  | .cmp l cut a b, e, σ, ls, h, he, hw, h0, hk, h1, h2 => by
    unfold leaves at h
    split at h
    · cases h
    · rename_i q hq
      obtain ⟨x, y, hx, hy, rfl⟩ := uT h
      obtain ⟨g1, g2⟩ := zCF he hq
      by_cases hc : evL σ l < cut
      · have hx := zAT hx (by omega)
        obtain ⟨e', m, σ', r1, r2⟩ := yd a _ σ hx ⟨he.b, ⟨⟨g1, by simp only; omega⟩, he.f⟩, he.r, he.w⟩ hw h0 hk h1 h2
        exact ⟨e', List.mem_append_left _ m, σ', r1, r2⟩
      · have hy := zAT hy (by omega)
        obtain ⟨e', m, σ', r1, r2⟩ := yd b _ σ hy ⟨he.b, ⟨⟨by simp only; omega, g2⟩, he.f⟩, he.r, he.w⟩ hw h0 hk h1 h2
        exact ⟨e', List.mem_append_right _ m, σ', r1, r2⟩
  | .and v m ts, e, σ, ls, h, he, hw, h0, hk, h1, h2 => by
    unfold leaves at h
    obtain ⟨hm, h⟩ := xo h
    obtain ⟨j, hj, hr⟩ := zK8 (σ v) m (@zP zW _ _ hm)
    obtain ⟨x, hx, hin⟩ := we h j hj
    obtain ⟨e', m, σ', r1, r2⟩ := yd (ts j) _ σ hx ⟨he.b, he.f, ⟨zHQ hr, he.r⟩, he.w⟩ hw h0 hk h1 h2
    exact ⟨e', hin _ m, σ', r1, r2⟩
  | .rem v m ts, e, σ, ls, h, he, hw, h0, hk, h1, h2 => by
    unfold leaves at h
    obtain ⟨z, hz, hr⟩ := zEK (σ v) m
    obtain ⟨x, hx, hin⟩ := we h (z + m).toNat (by omega)
    have e1 : (Int.ofNat (z + m).toNat - Int.ofNat m) = z := by
      show (((z + m).toNat : Nat) : Int) - (m : Int) = z
      omega
    rw [e1] at hx
    obtain ⟨e', m, σ', r1, r2⟩ := yd (ts (z + m).toNat) _ σ hx ⟨he.b, he.f, ⟨zHQ hr, he.r⟩, he.w⟩ hw h0 hk h1 h2
    exact ⟨e', hin _ m, σ', r1, r2⟩
  | .remn v m ts, e, σ, ls, h, he, hw, h0, hk, h1, h2 => by
    unfold leaves at h
    split at h
    · cases h
    · rename_i q hq
      obtain ⟨hq0, h⟩ := xo h
      rw [decide_eq_true_eq] at hq0
      have g := (zCF he hq).1
      rw [zCD] at g
      obtain ⟨j, hj, hr⟩ := zIF (σ v) (by omega) m
      obtain ⟨x, hx, hin⟩ := we h j hj
      obtain ⟨e', m, σ', r1, r2⟩ := yd (ts j) _ σ hx ⟨he.b, he.f, ⟨zHQ hr, he.r⟩, he.w⟩ hw h0 hk h1 h2
      exact ⟨e', hin _ m, σ', r1, r2⟩
  | .bit v t a b, e, σ, ls, h, he, hw, h0, hk, h1, h2 => by
    unfold leaves at h
    obtain ⟨ht, h⟩ := xo h
    obtain ⟨x, y, hx, hy, rfl⟩ := uT h
    have ht := @zP zW _ _ ht
    rcases zL1 (σ v) t (by omega) with hr | hr
    · obtain ⟨e', m, σ', r1, r2⟩ := yd a _ σ hx ⟨he.b, he.f, ⟨zHQ hr, he.r⟩, he.w⟩ hw h0 hk h1 h2
      exact ⟨e', List.mem_append_left _ m, σ', r1, r2⟩
    · obtain ⟨e', m, σ', r1, r2⟩ := yd b _ σ hy ⟨he.b, he.f, ⟨zHQ hr, he.r⟩, he.w⟩ hw h0 hk h1 h2
      exact ⟨e', List.mem_append_right _ m, σ', r1, r2⟩
  | .shr v c t, e, σ, ls, h, he, hw, h0, hk, h1, h2 => by
    unfold leaves at h
    obtain ⟨hg, h⟩ := xo h
    rw [Bool.and_eq_true] at hg
    have hne : v ≠ e.u := fun q => by have := hg.2; rw [q] at this; simp at this
    obtain ⟨z, hr⟩ := zLZ (σ v) c
    have he' := he.upd hg.1 z
    have hr' : qF (upV σ e.u z) (rv .shr v c (.sym (sv e.u))) := zIY (by rw [upd_other hne, upd_same]; exact hr)
    obtain ⟨e', m, σ', r1, r2⟩ := yd t _ (upV σ e.u z) h ⟨he'.b, he'.f, ⟨hr', he'.r⟩, he'.w⟩
      ⟨fun j k hj => by
        obtain ⟨wn, v, q1, q2, q3, q4, q5⟩ := hw.len j k hj
        have hlt : j < ks.length := by
          rw [@yN zW] at hj
          exact (List.getElem?_eq_some_iff.1 hj).1
        exact ⟨wn, v, q1, q2, q3, by rw [upd_other (by show j + 1 ≠ e.u; omega)]; exact q4, q5⟩⟩ (by rw [upd_other (by omega)]; exact h0) hk h1 (by show 1000 ≤ e.u + 1; omega)
    exact ⟨e', m, σ', r1, fun j hj => by rw [r2 j (show j < e.b.length ∨ (1000 ≤ j ∧ j < e.u + 1) by omega), upd_other (by omega)]⟩
  | .mask v m t, e, σ, ls, h, he, hw, h0, hk, h1, h2 => by
    unfold leaves at h
    obtain ⟨hg, h⟩ := xo h
    simp only [Bool.and_eq_true] at hg
    obtain ⟨⟨⟨g1, g2⟩, g3⟩, g4⟩ := hg
    have hb := @zP zW _ _ g4
    have hne : v ≠ e.b.length := fun q => by rw [q] at g2; simp at g2
    obtain ⟨z, hz, hr⟩ := zJA (σ v) m (@zP zW _ _ g3)
    have he' := he.upd g1 (.ofNat z)
    have hr' : qF (upV σ e.b.length (.ofNat z)) (rv .and v m (.sym (sv e.b.length))) := zIY (by rw [upd_other hne, upd_same]; exact hr)
    obtain ⟨e', m', σ', r1, r2⟩ := yd t _ (upV σ e.b.length (.ofNat z)) h
        ⟨wH he'.b (by rw [Nat.zero_add, upd_same]; exact Int.natCast_nonneg z) (by rw [Nat.zero_add, upd_same]; exact Int.ofNat_le.2 hz), he'.f, ⟨hr', he'.r⟩, he'.w⟩
        ⟨fun j k hj => by
          obtain ⟨wn, v, q1, q2, q3, q4, q5⟩ := hw.len j k hj
          have hlt : j < ks.length := by
            rw [@yN zW] at hj
            exact (List.getElem?_eq_some_iff.1 hj).1
          exact ⟨wn, v, q1, q2, q3, by rw [upd_other (by show j + 1 ≠ e.b.length; omega)]; exact q4, q5⟩⟩ (by rw [upd_other (by omega)]; exact h0) (by show _ < (e.b ++ _).length; simp; omega) (by show (e.b ++ _).length ≤ _; simp; omega) h2
    exact ⟨e', m', σ', r1, fun j hj => by rw [r2 j (show j < (e.b ++ [((0 : Int), Int.ofNat m)]).length ∨ (1000 ≤ j ∧ j < e.u) by simp; omega), upd_other (by omega)]⟩
  | .join h' g a b t, e, σ, ls, h, he, hw, h0, hk, h1, h2 => by
    unfold leaves at h
    obtain ⟨hg, h⟩ := xo h
    exact yd t { e with r := zNn h' a b e.r } σ h ⟨he.b, he.f, zNf hg he.r, he.w⟩ hw h0 hk h1 h2
  | .cellI j t, e, σ, ls, h, he, hw, h0, hk, h1, h2 => by
    unfold leaves at h
    split at h
    · rename_i k hj
      obtain ⟨hg, h⟩ := xo h
      rw [Bool.and_eq_true] at hg
      obtain ⟨wn, v, q1, q2, q3, q4, q5⟩ := hw.len j _ hj
      obtain ⟨g1, g2⟩ := zHi he hg.1
      obtain ⟨q, hq⟩ := zM6 (i := σ 0) q5 q3 q1 g1 (by rw [q4] at g2; exact g2)
      have he' := he.upd hg.2 q
      have hne : e.u ≠ 0 := by omega
      obtain ⟨e', m, σ', r1, r2⟩ := yd t _ (upV σ e.u q) h
        ⟨he'.b, he'.f, he'.r, fun x hx σ' K' hs => by
          rcases List.mem_cons.1 hx with rfl | hx
          · have e1 : σ' e.u = q := by
              have := hs.1
              have e2 : evL σ' [(e.u, 1)] = evL (upV σ e.u q) [(e.u, 1)] := this
              rw [zCD, zCD, upd_same] at e2
              exact e2
            have := hq σ' K' e.u e1
            rw [h0, q2] at this
            exact this
          · exact he'.w x hx σ' K' hs⟩
        ⟨fun j k hj => by
          obtain ⟨wn, v, q1, q2, q3, q4, q5⟩ := hw.len j k hj
          have hlt : j < ks.length := by
            rw [@yN zW] at hj
            exact (List.getElem?_eq_some_iff.1 hj).1
          exact ⟨wn, v, q1, q2, q3, by rw [upd_other (by show j + 1 ≠ e.u; omega)]; exact q4, q5⟩⟩ (by rw [upd_other (fun q => hne q.symm)]; exact h0) hk h1 (by show 1000 ≤ e.u + 1; omega)
      exact ⟨e', m, σ', r1, fun j hj => by rw [r2 j (show j < e.b.length ∨ (1000 ≤ j ∧ j < e.u + 1) by omega), upd_other (by omega)]⟩
    · cases h
  | .cellB j a b, e, σ, ls, h, he, hw, h0, hk, h1, h2 => by
    unfold leaves at h
    split at h
    · rename_i k hj
      obtain ⟨hg, h⟩ := xo h
      obtain ⟨x, y, hx, hy, rfl⟩ := uT h
      obtain ⟨wn, v, q1, q2, q3, q4, q5⟩ := hw.len j _ hj
      obtain ⟨g1, g2⟩ := zHi he hg
      rcases zLs (i := σ 0) q5 q3 q1 g1 (by rw [q4] at g2; exact g2) with hq | hq
      · obtain ⟨e', m, σ', r1, r2⟩ := yd a _ σ hx ⟨he.b, he.f, he.r, fun x hx σ' K' hs => by
          rcases List.mem_cons.1 hx with rfl | hx
          · have := hq σ' K'
            rw [h0, q2] at this
            exact this
          · exact he.w x hx σ' K' hs⟩ hw h0 hk h1 h2
        exact ⟨e', List.mem_append_left _ m, σ', r1, r2⟩
      · obtain ⟨e', m, σ', r1, r2⟩ := yd b _ σ hy ⟨he.b, he.f, he.r, fun x hx σ' K' hs => by
          rcases List.mem_cons.1 hx with rfl | hx
          · have := hq σ' K'
            rw [h0, q2] at this
            exact this
          · exact he.w x hx σ' K' hs⟩ hw h0 hk h1 h2
        exact ⟨e', List.mem_append_right _ m, σ', r1, r2⟩
    · cases h
  | .pin v ts, e, σ, ls, h, he, hw, h0, hk, h1, h2 => by
    unfold leaves at h
    split at h
    · rename_i q hq
      have hb := wv he.b hq
      rw [Nat.zero_add] at hb
      obtain ⟨x, hx, hin⟩ := we h (σ v - q.1).toNat (by omega)
      have ez : q.1 + Int.ofNat (σ v - q.1).toNat = σ v := by
        show q.1 + (((σ v - q.1).toNat : Nat) : Int) = σ v
        omega
      rw [ez] at hx
      obtain ⟨e', m, σ', r1, r2⟩ := yd (ts (σ v - q.1).toNat) (zP8 e v (σ v)) σ hx ⟨zA8 he.b (by rw [Nat.zero_add]), he.f, he.r, he.w⟩ hw h0 (by show _ < (zIo e.b v _).length; rw [zBf]; exact hk) (by show (zIo e.b v _).length ≤ _; rw [zBf]; exact h1) h2
      exact ⟨e', hin _ m, σ', r1, fun j hj => r2 j (by show j < (zIo e.b v _).length ∨ _; rw [zBf]; exact hj)⟩
    · cases h
  | .shrb v c t, e, σ, ls, h, he, hw, h0, hk, h1, h2 => by
    unfold leaves at h
    split at h
    · rename_i q hq
      obtain ⟨hg, h⟩ := xo h
      simp only [Bool.and_eq_true] at hg
      obtain ⟨⟨⟨⟨g1, g2⟩, g3⟩, g4⟩, g5⟩ := hg
      have hbl := @zP zW _ _ g3
      have hc := @zP zW _ _ g5
      rw [decide_eq_true_eq] at g4
      have hne : v ≠ e.b.length := fun q => by rw [q] at g2; simp at g2
      have hb := wv he.b hq
      rw [Nat.zero_add] at hb
      obtain ⟨a, ha⟩ : ∃ a : Nat, σ v = Int.ofNat a := ⟨(σ v).toNat, by show σ v = (((σ v).toNat : Nat) : Int); omega⟩
      have hz : yL .shr .i64 (σ v) (.ofNat c) = some (zU .i64 (σ v / 2 ^ c)) := by
        rw [ha]
        have e1 : (Int.ofNat a / 2 ^ c : Int) = Int.ofNat (a / 2 ^ c) := by
          show ((a : Int) / 2 ^ c) = ((a / 2 ^ c : Nat) : Int)
          rw [Int.natCast_ediv, Int.natCast_pow]; rfl
        rw [e1]
        show some (qj .i64 (Nat.div a (Nat.pow 2 (min c IntKind.i64.bits)))) = _
        have e2 : min c IntKind.i64.bits = c := by
          show min c 64 = c
          omega
        rw [e2]
        show some (qj .i64 (a / 2 ^ c)) = some (zU .i64 (Int.ofNat (a / 2 ^ c)))
        cases a / 2 ^ c <;> rfl
      have he' := he.upd g1 (σ v / 2 ^ c)
      have hr' : qF (upV σ e.b.length (σ v / 2 ^ c)) (rv .shr v c (.sym (sv e.b.length))) := zIY (by rw [upd_other hne, upd_same]; exact hz)
      have hpos : (0 : Int) < 2 ^ c := Int.pow_pos (by decide)
      have hlo : q.1 / 2 ^ c ≤ σ v / 2 ^ c := Int.ediv_le_ediv hpos hb.1
      have hhi : σ v / 2 ^ c ≤ q.2 / 2 ^ c := Int.ediv_le_ediv hpos hb.2
      obtain ⟨e', m', σ', r1, r2⟩ := yd t _ (upV σ e.b.length (σ v / 2 ^ c)) h
          ⟨wH he'.b (by rw [Nat.zero_add, upd_same]; exact hlo) (by rw [Nat.zero_add, upd_same]; exact hhi), he'.f, ⟨hr', he'.r⟩, he'.w⟩
          ⟨fun j k hj => by
            obtain ⟨wn, v, q1, q2, q3, q4, q5⟩ := hw.len j k hj
            have hlt : j < ks.length := by
              rw [@yN zW] at hj
              exact (List.getElem?_eq_some_iff.1 hj).1
            exact ⟨wn, v, q1, q2, q3, by rw [upd_other (by show j + 1 ≠ e.b.length; omega)]; exact q4, q5⟩⟩ (by rw [upd_other (by omega)]; exact h0) (by show _ < (e.b ++ _).length; simp; omega) (by show (e.b ++ _).length ≤ _; simp; omega) h2
      exact ⟨e', m', σ', r1, fun j hj => by rw [r2 j (show j < (e.b ++ [((q.1 / 2 ^ c : Int), (q.2 / 2 ^ c : Int))]).length ∨ (1000 ≤ j ∧ j < e.u) by simp; omega), upd_other (by omega)]⟩
    · cases h
end
def AllG (Q : Lf → Prop) : List Lf → Prop
  | [] => True
  | e :: l => Q e ∧ AllG Q l
theorem zAq {Q : Lf → Prop} : ∀ {l : List Lf}, AllG Q l → ∀ e ∈ l, Q e
  | [], _, e, he => by cases he
  | x :: l, h, e, he => by
    rcases List.mem_cons.1 he with rfl | he
    · exact h.1
    · exact zAq h.2 e he
def zBy (m : Nat) : List (Key × Nat) → Bool
  | [] => true
  | q :: r => Nat.ble (Nat.succ q.2) m && zBy m r
theorem zBx {m : Nat} : ∀ {l : List (Key × Nat)}, zBy m l = true → ∀ q ∈ l, q.2 < m
  | [], _, q, h => by cases h
  | x :: r, h, q, hq => by
    unfold zBy at h
    rw [Bool.and_eq_true] at h
    rcases List.mem_cons.1 hq with rfl | hq
    · exact @zP zW _ _ h.1
    · exact zBx h.2 q hq
def AllS (Q : TS → Prop) : List TS → Prop
  | [] => True
  | T :: l => Q T ∧ AllS Q l
theorem zHa {Q : TS → Prop} : ∀ {l : List TS} {t : Nat} {T : TS}, AllS Q l → nth l t = some T → Q T
  | [], _, _, _, h => by cases h
  | x :: l, 0, T, h, hn => by
    injection hn with hn
    subst hn
    exact h.1
  | x :: l, t + 1, T, h, hn => zHa (t := t) h.2 hn
theorem allG_nil {Q : Lf → Prop} : AllG Q [] := trivial
theorem allG_cons {Q : Lf → Prop} {e : Lf} {l : List Lf} (h : Q e) (r : AllG Q l) : AllG Q (e :: l) := ⟨h, r⟩
theorem zMN {Q : TS → Prop} : AllS Q [] := trivial
theorem zLC {Q : TS → Prop} {T : TS} {l : List TS} (h : Q T) (r : AllS Q l) : AllS Q (T :: l) := ⟨h, r⟩
theorem relsV {σ : Nat → Int} {K : ze} {ψ : Psi} {i : Nat} {a : Int} {l : List CV} {m : List Value} (ha : σ i = a) (h : @zT (linSym σ K) ψ l m) : @zT (linSym σ K) ψ (.sym (sv i) :: l) (.int .i64 a :: m) := by
  subst ha
  exact zQb h
theorem len_of {wins : List Win} {L : List (Key × Nat)} {σ : Nat → Int} {w : Win} {k : Key} {j : Nat} (h : LensAre wins L σ) (hm : (k, j) ∈ L) (hw : findW wins k = some w) : σ j = w.len := by
  obtain ⟨wn, h1, h2⟩ := h _ hm
  simp only at h1
  rw [hw] at h1
  injection h1 with h1
  subst h1
  exact h2
end
end Go.Ev


