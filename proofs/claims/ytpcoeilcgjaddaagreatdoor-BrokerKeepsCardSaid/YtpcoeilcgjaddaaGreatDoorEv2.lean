/- A verified evaluator for the model's code: EvC, EvOpt, EvD, EvE, EvF. -/
import Derived.Test.YtpcoeilcgjaddaaGreatDoorEv1
import Derived.Laws.Sem
import Derived.Laws.Cells
import Derived.Laws.CopyRow
import Derived.Laws.Entries
import Derived.ChangeKeysEq
import Derived.Laws.Slices
import Derived.Laws.StructEq
import Derived.Laws.Append
set_option linter.unusedSectionVars false
set_option linter.unusedVariables false
set_option linter.unusedSimpArgs false
namespace Go.Ev
variable [Sym]
theorem LV.get_nil (d : Dg) : LV.nil.get d = CV.any := by cases d <;> rfl
theorem LV.get_upd_same (f : CV → CV) (d : Dg) (t : LV) : (LV.upd f d t).get d = f (t.get d) := by cases d <;> cases t <;> rfl
theorem LV.get_upd_other (f : CV → CV) (d e : Dg) (t : LV) (h : e ≠ d) : (LV.upd f d t).get e = t.get e := by
  cases d <;> cases e <;> first | exact absurd rfl h | (cases t <;> rfl)
theorem L1.get_nil (d : Dg) : L1.nil.get d = LV.nil := by cases d <;> rfl
theorem L1.get_upd_same (f : LV → LV) (d : Dg) (t : L1) : (L1.upd f d t).get d = f (t.get d) := by cases d <;> cases t <;> rfl
theorem L1.get_upd_other (f : LV → LV) (d e : Dg) (t : L1) (h : e ≠ d) : (L1.upd f d t).get e = t.get e := by
  cases d <;> cases e <;> first | exact absurd rfl h | (cases t <;> rfl)
theorem HV.get_nil (d : Dg) : HV.nil.get d = none := by cases d <;> rfl
theorem HV.get_upd_same (f : Option CObj → Option CObj) (d : Dg) (t : HV) : (HV.upd f d t).get d = f (t.get d) := by cases d <;> cases t <;> rfl
theorem HV.get_upd_other (f : Option CObj → Option CObj) (d e : Dg) (t : HV) (h : e ≠ d) : (HV.upd f d t).get e = t.get e := by
  cases d <;> cases e <;> first | exact absurd rfl h | (cases t <;> rfl)
theorem H1.get_nil (d : Dg) : H1.nil.get d = HV.nil := by cases d <;> rfl
theorem H1.get_upd_same (f : HV → HV) (d : Dg) (t : H1) : (H1.upd f d t).get d = f (t.get d) := by cases d <;> cases t <;> rfl
theorem H1.get_upd_other (f : HV → HV) (d e : Dg) (t : H1) (h : e ≠ d) : (H1.upd f d t).get e = t.get e := by
  cases d <;> cases e <;> first | exact absurd rfl h | (cases t <;> rfl)
theorem H2.get_nil (d : Dg) : H2.nil.get d = H1.nil := by cases d <;> rfl
theorem H2.get_upd_same (f : H1 → H1) (d : Dg) (t : H2) : (H2.upd f d t).get d = f (t.get d) := by cases d <;> cases t <;> rfl
theorem H2.get_upd_other (f : H1 → H1) (d e : Dg) (t : H2) (h : e ≠ d) : (H2.upd f d t).get e = t.get e := by
  cases d <;> cases e <;> first | exact absurd rfl h | (cases t <;> rfl)
theorem H3.get_nil (d : Dg) : H3.nil.get d = H2.nil := by cases d <;> rfl
theorem H3.get_upd_same (f : H2 → H2) (d : Dg) (t : H3) : (H3.upd f d t).get d = f (t.get d) := by cases d <;> cases t <;> rfl
theorem H3.get_upd_other (f : H2 → H2) (d e : Dg) (t : H3) (h : e ≠ d) : (H3.upd f d t).get e = t.get e := by
  cases d <;> cases e <;> first | exact absurd rfl h | (cases t <;> rfl)
theorem zEl (o : Option CObj) (k : Key) (h : Heap) : yK k (yv o k h) = o := by
  cases k; simp only [yK, yv, H3.get_upd_same, H2.get_upd_same, H1.get_upd_same, HV.get_upd_same]
theorem zCL (o : Option CObj) (k j : Key) (h : Heap) (hne : j ≠ k) : yK j (yv o k h) = yK j h := by
  obtain ⟨a, b, c, d⟩ := k
  obtain ⟨a', b', c', d'⟩ := j
  simp only [yK, yv]
  by_cases h1 : a' = a
  · subst h1
    rw [H3.get_upd_same]
    by_cases h2 : b' = b
    · subst h2
      rw [H2.get_upd_same]
      by_cases h3 : c' = c
      · subst h3
        rw [H1.get_upd_same]
        by_cases h4 : d' = d
        · subst h4; exact absurd rfl hne
        · rw [HV.get_upd_other _ _ _ _ h4]
      · rw [H1.get_upd_other _ _ _ _ h3]
    · rw [H2.get_upd_other _ _ _ _ h2]
  · rw [H3.get_upd_other _ _ _ _ h1]
theorem zFJ (o : Option CObj) (k j : Key) (h : Heap) : yK j (yv o k h) = if j = k then o else yK j h := by
  split
  · subst_vars; exact zEl ..
  · exact zCL _ _ _ _ ‹_›
theorem zDZ (p : Loc) : qK p Tm.nil = .any := by
  cases p <;> simp only [qK, Tm.nil, LV.get_nil, L1.get_nil]
theorem qo (v : CV) (p : Loc) (t : Tm) : qK p (kP v p t) = v := by
  cases p <;> cases t <;> simp only [qK, kP, LV.get_upd_same, L1.get_upd_same]
theorem xK (v : CV) (p q : Loc) (t : Tm) (hne : q ≠ p) : qK q (kP v p t) = qK q t := by
  cases t
  cases p with
  | s d => cases q with
    | s d' =>
      have : d' ≠ d := fun e => hne (by rw [e])
      simp only [qK, kP, LV.get_upd_other _ _ _ _ this]
    | w c' d' => rfl
  | w c d => cases q with
    | s d' => rfl
    | w c' d' =>
      simp only [qK, kP]
      by_cases h1 : c' = c
      · subst h1
        rw [L1.get_upd_same]
        have : d' ≠ d := fun e => hne (by rw [e])
        rw [LV.get_upd_other _ _ _ _ this]
      · rw [L1.get_upd_other _ _ _ _ h1]
theorem zBM {a b : Nat} (h : b < a) : Nat.ble a b = false := by
  cases e : Nat.ble a b with
  | false => rfl
  | true => have := Nat.le_of_ble_eq_true e; omega
theorem zM {a b : Nat} (h : Nat.ble a b = true) : a ≤ b := Nat.le_of_ble_eq_true h
theorem kS {a b : Nat} (h : a ≠ b) : Nat.beq a b = false := by
  cases e : Nat.beq a b with
  | false => rfl
  | true => exact absurd (Nat.eq_of_beq_eq_true e) h
theorem yG {a b : Nat} (h : Nat.beq a b = true) : a = b := Nat.eq_of_beq_eq_true h
theorem qU (a : Nat) : Nat.beq a a = true := by simp
theorem Dg.ix_lt (d : Dg) : d.ix < 16 := by cases d <;> decide
theorem Dg.ix_inj {a b : Dg} (h : a.ix = b.ix) : a = b := by
  cases a <;> cases b <;> first | rfl | (exfalso; revert h; decide)
theorem Dg.succ_some {d e : Dg} (h : d.succ = some e) : e.ix = d.ix + 1 := by
  cases d <;> simp only [Dg.succ, Option.some.injEq, reduceCtorEq] at h <;> subst h <;> rfl
theorem Dg.succ_none {d : Dg} (h : d.succ = none) : d.ix = 15 := by
  cases d <;> simp only [Dg.succ, reduceCtorEq] at h <;> rfl
theorem Dg.ix_ofN {n : Nat} (h : n < 16) : (Dg.ofN n).ix = n := by
  match n, h with
  | 0, _ | 1, _ | 2, _ | 3, _ | 4, _ | 5, _ | 6, _ | 7, _ | 8, _ | 9, _ | 10, _ | 11, _ | 12, _ | 13, _ | 14, _ | 15, _ => rfl
  | n + 16, h => omega
theorem Key.ix_le (k : Key) : k.ix ≤ 65535 := by
  obtain ⟨a, b, c, d⟩ := k
  have := a.ix_lt; have := b.ix_lt; have := c.ix_lt; have := d.ix_lt
  simp only [Key.ix]; omega
theorem Key.ix_inj {j k : Key} (h : j.ix = k.ix) : j = k := by
  obtain ⟨a, b, c, d⟩ := j
  obtain ⟨a', b', c', d'⟩ := k
  have := a.ix_lt; have := b.ix_lt; have := c.ix_lt; have := d.ix_lt
  have := a'.ix_lt; have := b'.ix_lt; have := c'.ix_lt; have := d'.ix_lt
  simp only [Key.ix] at h
  have h4 : d.ix = d'.ix := by omega
  have h3 : c.ix = c'.ix := by omega
  have h2 : b.ix = b'.ix := by omega
  have h1 : a.ix = a'.ix := by omega
  rw [Dg.ix_inj h1, Dg.ix_inj h2, Dg.ix_inj h3, Dg.ix_inj h4]
theorem Key.ix_succ {k : Key} (h : k.ix < 65535) : k.succ.ix = k.ix + 1 := by
  obtain ⟨a, b, c, d⟩ := k
  simp only [Key.ix] at h ⊢
  simp only [Key.succ]
  have hz : Dg.d0.ix = 0 := rfl
  cases hd : d.succ with
  | some d' => have := Dg.succ_some hd; simp only []; omega
  | none =>
    have := Dg.succ_none hd
    cases hc : c.succ with
    | some c' => have := Dg.succ_some hc; simp only []; omega
    | none =>
      have := Dg.succ_none hc
      cases hb : b.succ with
      | some b' => have := Dg.succ_some hb; simp only []; omega
      | none =>
        have := Dg.succ_none hb
        cases ha : a.succ with
        | some a' => have := Dg.succ_some ha; simp only []; omega
        | none => have := Dg.succ_none ha; omega
theorem Key.ix_succ_top {k : Key} (h : k.ix = 65535) : k.succ.ix = 65535 := by
  obtain ⟨a, b, c, d⟩ := k
  have := a.ix_lt; have := b.ix_lt; have := c.ix_lt; have := d.ix_lt
  simp only [Key.ix] at h
  have ha : a = .d15 := Dg.ix_inj (by show a.ix = 15; omega)
  have hb : b = .d15 := Dg.ix_inj (by show b.ix = 15; omega)
  have hc : c = .d15 := Dg.ix_inj (by show c.ix = 15; omega)
  have hd : d = .d15 := Dg.ix_inj (by show d.ix = 15; omega)
  subst_vars; rfl
theorem Key.ix_le_succ (k : Key) : k.ix ≤ k.succ.ix := by
  have := k.ix_le
  by_cases h : k.ix = 65535
  · rw [Key.ix_succ_top h]; omega
  · rw [Key.ix_succ (by omega)]; omega
def Key.room (k : Key) : Prop := k.ix < 65535
theorem Key.room_of_succ {k : Key} (h : k.succ.room) : k.room := by
  have := k.ix_le
  unfold Key.room at *
  by_cases h' : k.ix = 65535
  · rw [Key.ix_succ_top h'] at h; omega
  · omega
theorem Key.ix_ofNat {n : Nat} (h : n ≤ 65535) : (Key.ofNat n).ix = n := by
  simp only [Key.ofNat, Key.ix, Dg.ix_ofN (Nat.mod_lt _ (by omega : 16 > 0))]
  omega
theorem Loc.ofNat_inj {a b : Nat} (ha : a ≤ 271) (hb : b ≤ 271) (h : Loc.ofNat a = Loc.ofNat b) : a = b := by
  unfold Loc.ofNat at h
  by_cases h1 : a ≤ 15 <;> by_cases h2 : b ≤ 15
  · rw [Nat.ble_eq_true_of_le h1, Nat.ble_eq_true_of_le h2] at h
    injection h with h
    have := congrArg Dg.ix h
    rw [Dg.ix_ofN (by omega), Dg.ix_ofN (by omega)] at this
    exact this
  · rw [Nat.ble_eq_true_of_le h1, (zBM (by omega) : Nat.ble b 15 = false)] at h
    cases h
  · rw [Nat.ble_eq_true_of_le h2, (zBM (by omega) : Nat.ble a 15 = false)] at h
    cases h
  · rw [(zBM (by omega) : Nat.ble a 15 = false), (zBM (by omega) : Nat.ble b 15 = false)] at h
    injection h with h1 h2
    have e1 := congrArg Dg.ix h1
    have e2 := congrArg Dg.ix h2
    rw [Dg.ix_ofN (by omega), Dg.ix_ofN (by omega)] at e1 e2
    omega
theorem yV {α : Type} (l : List α) (k : Nat) : nth l k = l[k]? := by
  induction l generalizing k with
  | nil => rfl
  | cons x xs ih => cases k with
    | zero => rfl
    | succ k => simp [nth, ih]
theorem k8 (l : List CV) (k : Nat) : zD8 l k = l[k]? := by
  induction l generalizing k with
  | nil => rfl
  | cons x xs ih => cases k with
    | zero => rfl
    | succ k => simpa [zD8] using ih k
theorem zGU (l : List Nat) (k : Nat) : zO1 l k = l[k]? := by
  induction l generalizing k with
  | nil => rfl
  | cons x xs ih => cases k with
    | zero => rfl
    | succ k => simpa [zO1] using ih k
theorem zMx (l : List CV) (k : Nat) : zK5 l k = l.drop k := by
  induction l generalizing k with
  | nil => simp [zK5]
  | cons x xs ih => cases k with
    | zero => rfl
    | succ k => simpa [zK5] using ih k
theorem zN8 (l : List Nat) (k : Nat) : zKF l k = l.drop k := by
  induction l generalizing k with
  | nil => simp [zKF]
  | cons x xs ih => cases k with
    | zero => rfl
    | succ k => simpa [zKF] using ih k
theorem zNJ (l : List CV) (k : Nat) : zKo l k = if k ≤ l.length then some (l.take k) else none := by
  induction l generalizing k with
  | nil => cases k with
    | zero => rfl
    | succ k => rfl
  | cons x xs ih => cases k with
    | zero => rfl
    | succ k =>
      have : zKo (x :: xs) (k + 1) = zFC x (zKo xs k) := rfl
      rw [this, ih]
      by_cases h : k ≤ xs.length
      · rw [if_pos h, if_pos (by simpa using h)]; rfl
      · rw [if_neg h, if_neg (by simpa using h)]; rfl
theorem zIA (l : List Nat) (k : Nat) : zHV l k = if k ≤ l.length then some (l.take k) else none := by
  induction l generalizing k with
  | nil => cases k with
    | zero => rfl
    | succ k => rfl
  | cons x xs ih => cases k with
    | zero => rfl
    | succ k =>
      have : zHV (x :: xs) (k + 1) = zJ0 x (zHV xs k) := rfl
      rw [this, ih]
      by_cases h : k ≤ xs.length
      · rw [if_pos h, if_pos (by simpa using h)]; rfl
      · rw [if_neg h, if_neg (by simpa using h)]; rfl
theorem zF8 {l r : List CV} {off n : Nat} (h : uj l off n = some r) : (n = 0 ∨ off + n ≤ l.length) ∧ r = (l.drop off).take n := by
  unfold uj at h
  rw [zNJ, zMx] at h
  split at h
  · rename_i hle
    rw [List.length_drop] at hle
    exact ⟨by omega, (Option.some.inj h).symm⟩
  · cases h
theorem xz {l r : List CV} {off n : Nat} (h : uj l off n = some r) : r.length = n ∧ ∀ i, i < n → r[i]? = l[off + i]? := by
  obtain ⟨hle, rfl⟩ := zF8 h
  refine ⟨by simp; omega, fun i hi => ?_⟩
  rw [List.getElem?_take_of_lt hi, List.getElem?_drop]
theorem zLm {l r : List Nat} {off n : Nat} (h : zP6 l off n = some r) : (n = 0 ∨ off + n ≤ l.length) ∧ r = (l.drop off).take n := by
  unfold zP6 at h
  rw [zIA, zN8] at h
  split at h
  · rename_i hle
    rw [List.length_drop] at hle
    exact ⟨by omega, (Option.some.inj h).symm⟩
  · cases h
theorem zDR {xs l r : List CV} {s : Nat} (h : zCv xs s l = some r) : xs.length = s ∧ s ≤ l.length ∧ r = xs ++ l.drop s := by
  induction xs generalizing s l r with
  | nil => cases s with
    | zero => exact ⟨rfl, Nat.zero_le _, (Option.some.inj h).symm⟩
    | succ s => cases h
  | cons x xs ih => cases s with
    | zero => cases h
    | succ s => cases l with
      | nil => cases h
      | cons y l =>
        have e : zCv (x :: xs) (s + 1) (y :: l) = zFC x (zCv xs s l) := rfl
        rw [e] at h
        cases hr : zCv xs s l with
        | none => rw [hr] at h; cases h
        | some r' =>
          rw [hr] at h
          obtain ⟨h1, h2, h3⟩ := ih hr
          injection h with h
          exact ⟨by simp [h1], by simpa using h2, by rw [← h, h3]; simp⟩
theorem zIn {xs l r : List CV} {s k : Nat} (h : qe xs s l k = some r) : xs.length = s ∧ k + s ≤ l.length ∧ r = l.take k ++ xs ++ l.drop (k + s) := by
  induction l generalizing k r with
  | nil => cases k with
    | zero =>
      obtain ⟨h1, h2, h3⟩ := zDR (show zCv xs s [] = some r from h)
      exact ⟨h1, by simpa using h2, by simpa using h3⟩
    | succ k => cases h
  | cons y l ih => cases k with
    | zero =>
      obtain ⟨h1, h2, h3⟩ := zDR (show zCv xs s (y :: l) = some r from h)
      exact ⟨h1, by simpa using h2, by simpa using h3⟩
    | succ k =>
      have e : qe xs s (y :: l) (k + 1) = zFC y (qe xs s l k) := rfl
      rw [e] at h
      cases hr : qe xs s l k with
      | none => rw [hr] at h; cases h
      | some r' =>
        rw [hr] at h
        obtain ⟨h1, h2, h3⟩ := ih hr
        injection h with h
        refine ⟨h1, by simp; omega, ?_⟩
        rw [← h, h3]
        have : k + 1 + s = (k + s) + 1 := by omega
        simp [this]
theorem ww {xs l r : List CV} {s k : Nat} (h : qe xs s l k = some r) : xs.length = s ∧ k + s ≤ l.length ∧ r.length = l.length ∧
    (∀ i, i < s → r[k + i]? = xs[i]?) ∧ (∀ i, i < k ∨ k + s ≤ i → r[i]? = l[i]?) := by
  obtain ⟨h1, h2, rfl⟩ := zIn h
  have hk : (l.take k).length = k := by simp; omega
  refine ⟨h1, h2, by simp; omega, fun i hi => ?_, fun i hi => ?_⟩
  · rw [List.append_assoc, List.getElem?_append_right (by omega), hk, Nat.add_sub_cancel_left, List.getElem?_append_left (by omega)]
  · rcases hi with hi | hi
    · rw [List.append_assoc, List.getElem?_append_left (by omega), List.getElem?_take_of_lt hi]
    · rw [List.getElem?_append_right (by simp; omega), List.getElem?_drop]
      congr 1; simp; omega
theorem vN (l : List Nat) : zAZ l = l.length := by
  induction l with
  | nil => rfl
  | cons x xs ih => simp only [List.length_cons, ← ih]; rfl
theorem zGw (l : List CE) : zPk l = l.length := by
  induction l with
  | nil => rfl
  | cons x xs ih => simp only [List.length_cons, ← ih]; rfl
theorem zOA (a b : List Nat) : zQg a b = a ++ b := by
  induction a with
  | nil => rfl
  | cons x xs ih => simp only [List.cons_append, ← ih]; rfl
theorem kx (a b : List CV) : zB9 a b = a ++ b := by
  induction a with
  | nil => rfl
  | cons x xs ih => simp only [List.cons_append, ← ih]; rfl
theorem zCx (x : List CV) (n : Nat) : (ja x n).length = n * x.length := by
  induction n with
  | zero => simp [ja]
  | succ n ih => rw [ja, List.length_append, ih, Nat.succ_mul]; omega
theorem zNj {x : List CV} (n : Nat) {i : Nat} (h : i < n * x.length) : (ja x n)[i]? = x[i % x.length]? := by
  induction n generalizing i with
  | zero => simp at h
  | succ n ih =>
    rw [ja]
    by_cases hi : i < x.length
    · rw [List.getElem?_append_left hi, Nat.mod_eq_of_lt hi]
    · rw [List.getElem?_append_right (by omega), ih (by rw [Nat.succ_mul] at h; omega)]
      congr 1
      rw [Nat.mod_eq_sub_mod (by omega : i ≥ x.length)]
theorem wZ (a b : List Nat) : xw a b = decide (a = b) := by
  induction a generalizing b with
  | nil => cases b <;> simp [xw]
  | cons x xs ih => cases b with
    | nil => simp [xw]
    | cons y ys =>
      have e : xw (x :: xs) (y :: ys) = (match Nat.beq x y with | false => false | true => xw xs ys) := by
        cases h : Nat.beq x y <;> simp [xw, h]
      rw [e, ih]
      by_cases h : x = y
      · subst h; simp
      · rw [kS h]; simp [h]
theorem zk (a b : Int) : yy a b = decide (a = b) := by
  cases a with
  | ofNat a => cases b with
    | ofNat b =>
      show Nat.beq a b = _
      by_cases h : a = b
      · subst h; simp
      · rw [kS h]; simp; omega
    | negSucc b => show false = _; simp
  | negSucc a => cases b with
    | ofNat b => show false = _; simp
    | negSucc b =>
      show Nat.beq a b = _
      by_cases h : a = b
      · subst h; simp
      · rw [kS h]; simp [h]
theorem xk (a b : Int) : kY a b = decide (a < b) := by
  cases a with
  | ofNat a => cases b with
    | ofNat b =>
      show Nat.ble (a + 1) b = _
      by_cases h : a < b
      · rw [Nat.ble_eq_true_of_le h]; simp [h]
      · rw [(zBM (by omega) : Nat.ble (a + 1) b = false)]; simp; omega
    | negSucc b => show false = _; simp; omega
  | negSucc a => cases b with
    | ofNat b => show true = _; simp; omega
    | negSucc b =>
      show Nat.ble (b + 1) a = _
      by_cases h : b < a
      · rw [Nat.ble_eq_true_of_le h]; simp; omega
      · rw [(zBM (by omega) : Nat.ble (b + 1) a = false)]; simp; omega
theorem xB (j k : IntKind) : kEq j k = decide (j = k) := by cases j <;> cases k <;> rfl
theorem kw (b : Bool) : zBc b = !b := by cases b <;> rfl
end Go.Ev

namespace Go.Ev
def zGQ : List zR → Nat → zR
  | [], _ => .k .any
  | x :: _, 0 => x
  | _ :: l, n + 1 => zGQ l n
def jk (s : List zR) (x : zR) : zR := match x with
  | .e i => zGQ s i
  | .l p => .l p
  | .k v => .k v
def wv (g : zR → zR) : Option zR → Option zR
  | none => none
  | some x => some (g x)
def zC1 (g : zR → zR) : List zR → List zR
  | [] => []
  | x :: l => g x :: zC1 g l
def zLO (g : zR → zR) : List zG9 → List zG9
  | [] => []
  | p :: l => ⟨p.off, p.size, g p.arg⟩ :: zLO g l
def zEc (g : zR → zR) : COp → COp
  | .mv x => .mv (g x)
  | .pick c a b => .pick (g c) (g a) (g b)
  | .alloc cs => .alloc cs
  | .box x => .box (g x)
  | .build z ps => .build z (zLO g ps)
  | .bslice z l e ps => .bslice z l e (zLO g ps)
  | .load1 x => .load1 (g x)
  | .loadN s x => .loadN s (g x)
  | .store s a x => .store s (g a) (g x)
  | .nilck x => .nilck (g x)
  | .arith op x y => .arith op (g x) (g y)
  | .eq n k c x y => .eq n k c (g x) (g y)
  | .un op x => .un op (g x)
  | .cvInt k x => .cvInt k (g x)
  | .cvStr x => .cvStr (g x)
  | .cvSB x => .cvSB (g x)
  | .cvMark x => .cvMark (g x)
  | .cvBS x => .cvBS (g x)
  | .iface t x => .iface t (g x)
  | .mkfn f a b => .mkfn f (zC1 g a) (zC1 g b)
  | .mkmap => .mkmap
  | .mkslice z e b l c => .mkslice z e b (g l) (g c)
  | .slArr l e x a b c => .slArr l e (g x) (wv g a) (wv g b) (wv g c)
  | .slSl e x a b c => .slSl e (g x) (wv g a) (wv g b) (wv g c)
  | .slStr x a b => .slStr (g x) (wv g a) (wv g b)
  | .addOff k x => .addOff k (g x)
  | .part a o s x => .part a o s (g x)
  | .ixArr l e x i => .ixArr l e (g x) (g i)
  | .ixSl e x i => .ixSl e (g x) (g i)
  | .ixAgg l e a x i => .ixAgg l e a (g x) (g i)
  | .ixStr x i => .ixStr (g x) (g i)
  | .lookup kk z ok x k => .lookup kk z ok (g x) (g k)
  | .mapupd kk m k v => .mapupd kk (g m) (g k) (g v)
  | .rangeStr x => .rangeStr (g x)
  | .rangeMap x => .rangeMap (g x)
  | .next s x => .next s (g x)
  | .entry x => .entry (g x)
  | .tassert t z ok x => .tassert t z ok (g x)
  | .tiface t z ok x => .tiface t z ok (g x)
  | .extract i x => .extract i (g x)
  | .call f a => .call f (zC1 g a)
  | .ext e a => .ext e (zC1 g a)
  | .callv f a => .callv (g f) (zC1 g a)
  | .invoke r n a => .invoke (g r) n (zC1 g a)
  | .append e b s x => .append e b (g s) (g x)
  | .appz z e s x => .appz z e (g s) (g x)
  | .copy e d x => .copy e (g d) (g x)
  | .lenStr x => .lenStr (g x)
  | .lenSl x => .lenSl (g x)
  | .lenMap x => .lenMap (g x)
  | .capSl x => .capSl (g x)
  | .delete kk m k => .delete kk (g m) (g k)
  | .clearMap x => .clearMap (g x)
  | .clearSl z e x => .clearSl z e (g x)
  | .minmax mx x r => .minmax mx (g x) (zC1 g r)
  | .defer f a => .defer (g f) (zC1 g a)
  | .recov => .recov
  | .bad c => .bad c
noncomputable section
section
variable [Sym] {P : Program} {g : zR → zR} {es es' : List CV} {tm : Tm}
theorem zKW (hg : ∀ x, aV es' tm (g x) = aV es tm x) : ∀ l, aVs es' tm (zC1 g l) = aVs es tm l
  | [] => rfl
  | x :: l => by
    show aV es' tm (g x) :: aVs es' tm (zC1 g l) = aV es tm x :: aVs es tm l
    rw [hg, zKW hg l]
theorem zE4 (hg : ∀ x, aV es' tm (g x) = aV es tm x) : ∀ ps cells, vn es' tm (zLO g ps) cells = vn es tm ps cells
  | [], _ => rfl
  | p :: l, cells => by
    show Option.rec (motive := fun _ => Option (List CV)) none (vn es' tm (zLO g l)) (zA8 p.size p.off cells (cellsOf (aV es' tm (g p.arg)))) = Option.rec (motive := fun _ => Option (List CV)) none (vn es tm l) (zA8 p.size p.off cells (cellsOf (aV es tm p.arg)))
    rw [hg, show vn es' tm (zLO g l) = vn es tm l from funext (zE4 hg l)]
theorem zJi (hg : ∀ x, aV es' tm (g x) = aV es tm x) (x : Option zR) (y d : Nat) (k : Nat → OR) (e : Nat) : zAr es' tm (wv g x) y d k e = zAr es tm x y d k e := by
  cases x with
  | none => rfl
  | some x =>
    show vV (aV es' tm (g x)) (fun i => yc (Nat.ble i y) (k i) e) e = vV (aV es tm x) (fun i => yc (Nat.ble i y) (k i) e) e
    rw [hg]
theorem zH0 (hg : ∀ x, aV es' tm (g x) = aV es tm x) (l c : Nat) (x y z : Option zR) (k : Nat → Nat → Nat → OR) (e : Nat) : qZ es' tm l c (wv g x) (wv g y) (wv g z) k e = qZ es tm l c x y z k e := by
  unfold qZ
  simp only [zJi hg]
theorem zHE (hg : ∀ x, aV es' tm (g x) = aV es tm x) (h : Heap) (b : Key) (o c s : Nat) (ex : Bool) (x y z : Option zR) (k : OR) : ub es' tm h b o c s ex (wv g x) (wv g y) (wv g z) k = ub es tm h b o c s ex x y z k := by
  cases ex <;> cases x <;> cases y <;> cases z <;> first | rfl | (simp only [wv, ub, hg])
theorem zI8 (x : Option zR) : (wv g x).isSome = x.isSome := by cases x <;> rfl
theorem zDn (hg : ∀ x, aV es' tm (g x) = aV es tm x) (op : COp) (h : Heap) (n : Key) : yA P (zEc g op) es' tm h n = yA P op es tm h n := by
  have h1 := zKW (g := g) hg
  have h2 := zE4 (g := g) hg
  have h3 := zH0 (g := g) hg
  have h4 := zHE (g := g) hg
  have h5 : ∀ (l c : Nat) (x y : Option zR) (k : Nat → Nat → Nat → OR) (e : Nat), qZ es' tm l c (wv g x) (wv g y) none k e = qZ es tm l c x y none k e := fun l c x y k e => h3 l c x y none k e
  cases op <;> first
    | rfl
    | (simp only [zEc, yA, xMv, zPq, zMO, zQC, zMz, zKL, zNH, zM5, zNf, zMD, zN0, xEq, xUn, zNg, zNc, zPK, zJZ, zPN, zMF, zPu, zNq, zHF, zM7, zPB, zMt, zKa, zPo, zMX, zPI, zOj, zMV, zKG, zJ7, zFx, zFa, zPO, zNK,
        zHl, zKl, zIs, zPw, zPD, zN7, zKK, uM, zKd, zE3, zKj, zMI, zKp, zN3, zK7, zFm, zHZ, zKk, zNn, zNu, zQo, hg, h1, h2, h3, h4, h5, zI8])
end
end
def zKJ (p d : Loc) : Bool := decide (p = d)
def noW (p : Loc) : List xx → Bool
  | [] => true
  | i :: r => (match i with
    | .i _ => true
    | .o _ d => !zKJ p d
    | .g _ _ _ none => true
    | .g _ _ _ (some d) => !zKJ p d) && noW p r
def zGO (op : COp) : Option zR := match op with
  | .mv x => some x
  | _ => none
def zJO (i : xx) : Option Loc := match i with
  | .o op d => (match zGO op with
    | some (.e 0) => some d
    | _ => none)
  | _ => none
def inl (y : zR) (r : List xx) : Bool := match y with
  | .l p => noW p r
  | _ => true
def upA (x : zR) : zR := match x with
  | .e i => .e (i + 1)
  | .l p => .l p
  | .k v => .k v
def shA (s : List zR) : List zR := .e 0 :: s.map upA
def qy : List xx → Option COp → List zR → List xx
  | [], none, _ => []
  | [], some q, _ => [.i q]
  | i :: r, q, s => match q, zJO i with
    | some q, some d => .o q d :: qy r none (.e 0 :: s)
    | q, _ => (match q with
      | some q => [.i q]
      | none => []) ++ (match i with
      | .i op => (match zGO op with
        | some x => (match inl (jk s x) r with
          | true => qy r none (jk s x :: s)
          | false => qy r (some (.mv (jk s x))) (shA s))
        | none => qy r (some (zEc (jk s) op)) (shA s))
      | .o op d => .o (zEc (jk s) op) d :: qy r none (shA s)
      | .g x w op d => .g (jk s x) w (zEc (jk s) op) d :: qy r none (shA s))
def vC : CCode → CCode
  | .region ops => .region (qy ops none [])
  | .seq a b => .seq (vC a) (vC b)
  | .cond x a b => .cond x (vC a) (vC b)
  | .block i b => .block i (vC b)
  | .loop b => .loop (vC b)
  | .scope b => .scope (vC b)
  | .skip => .skip
  | .dregion l => .dregion l
  | .exit i => .exit i
  | .ret => .ret
  | .bad c => .bad c
def zKR : CFn → CFn
  | .mk b r => .mk (vC b) r
  | .mkD o b r => .mkD o (vC b) r
  | .ext e => .ext e
  | .bad c => .bad c
def zCO (i : xx) (r : List xx) (s : List zR) : List xx := match i with
  | .i op => (match zGO op with
    | some x => (match inl (jk s x) r with
      | true => qy r none (jk s x :: s)
      | false => qy r (some (.mv (jk s x))) (shA s))
    | none => qy r (some (zEc (jk s) op)) (shA s))
  | .o op d => .o (zEc (jk s) op) d :: qy r none (shA s)
  | .g x w op d => .g (jk s x) w (zEc (jk s) op) d :: qy r none (shA s)
theorem zLa (i : xx) (r : List xx) (s : List zR) : qy (i :: r) none s = zCO i r s := by
  cases i <;> rfl
theorem zLV (i : xx) (r : List xx) (q : COp) (s : List zR) : qy (i :: r) (some q) s = match zJO i with
    | some d => .o q d :: qy r none (.e 0 :: s)
    | none => .i q :: zCO i r s := by
  show (match some q, zJO i with
    | some q, some d => xx.o q d :: qy r none (.e 0 :: s)
    | q, _ => (match q with
      | some q => [xx.i q]
      | none => []) ++ zCO i r s) = _
  cases zJO i <;> rfl
theorem zLw {op : COp} {r : List xx} {s : List zR} (h : zGO op = none) : zCO (.i op) r s = qy r (some (zEc (jk s) op)) (shA s) := by
  unfold zCO
  simp only [h]
theorem zMc {x : zR} {r : List xx} {s : List zR} (h : inl (jk s x) r = true) : zCO (.i (.mv x)) r s = qy r none (jk s x :: s) := by
  unfold zCO
  simp only [zGO, h]
theorem zJR {x : zR} {r : List xx} {s : List zR} (h : inl (jk s x) r = false) : zCO (.i (.mv x)) r s = qy r (some (.mv (jk s x))) (shA s) := by
  unfold zCO
  simp only [zGO, h]
theorem zF1 {op : COp} {x : zR} (h : zGO op = some x) : op = .mv x := by
  unfold zGO at h
  split at h
  · injection h with h; rw [h]
  · cases h
theorem zLQ {i : xx} {d : Loc} (h : zJO i = some d) : i = .o (.mv (.e 0)) d := by
  unfold zJO at h
  split at h
  · rename_i op d'
    split at h
    · rename_i e
      injection h with h
      rw [zF1 e, h]
    · cases h
  · cases h
def zQN (i : xx) : Option Loc := match i with
  | .i _ => none
  | .o _ d => some d
  | .g _ _ _ d => d
theorem vc {p : Loc} {i : xx} {r : List xx} (h : noW p (i :: r) = true) : noW p r = true ∧ ∀ d, zQN i = some d → d ≠ p := by
  unfold noW at h
  rw [Bool.and_eq_true] at h
  refine ⟨h.2, fun d hd e => ?_⟩
  subst e
  have h1 := h.1
  cases i with
  | i _ => cases hd
  | o _ d' =>
    injection hd with hd
    subst hd
    simp [zKJ] at h1
  | g _ _ _ d' =>
    have hd : d' = some d := hd
    subst hd
    simp [zKJ] at h1
noncomputable section
section
variable [Sym] {P : Program} {call : yI}
theorem x9 {k k' : KE} {d d' : Option Loc} {es es' : List CV} {tm : Tm} {ds : xT}
    (H : ∀ v ds h n, zu d v tm (fun tm => k (v :: es) tm ds h n) = zu d' v tm (fun tm => k' (v :: es') tm ds h n)) :
    ∀ (r : OR) (h : Heap) (n : Key), after r call k d es tm ds h n = after r call k' d' es' tm ds h n
  | .val v, h, n => H v ds h n
  | .read v, h, n => H v ds h n
  | .alloc o v, h, n => H v ds (yv (some o) n h) n.succ
  | .eff v h' n', _, _ => H v ds h' n'
  | .call f args, h, n => by
    have : ∀ r : R, R.rec (motive := fun _ => R) (fun _ _ _ _ _ => .err 300) (fun v h n => zu d v tm fun tm => k (v :: es) tm ds h n) (fun c => .err c) (fun _ _ a b => .fork a b) r =
        R.rec (motive := fun _ => R) (fun _ _ _ _ _ => .err 300) (fun v h n => zu d' v tm fun tm => k' (v :: es') tm ds h n) (fun c => .err c) (fun _ _ a b => .fork a b) r := by
      intro r
      induction r with
      | ok => rfl
      | ret v h n => exact H v ds h n
      | err => rfl
      | fork a b iha ihb => show R.fork _ _ = R.fork _ _; rw [iha, ihb]
    exact this (call false f args h n)
  | .dfr f args, h, n => H .undef ((f, args) :: ds) h n
  | .recov, h, n => H .niliface ds h n
  | .err c, _, _ => rfl
  | .fork a b, h, n => by
    show R.fork (after a call k d es tm ds h n) (after b call k d es tm ds h n) = R.fork (after a call k' d' es' tm ds h n) (after b call k' d' es' tm ds h n)
    rw [x9 H a, x9 H b]
def wF (s : List zR) (es es' : List CV) (tm : Tm) : Prop := ∀ x, aV es' tm (jk s x) = aV es tm x
theorem zIh {s : List zR} {es es' : List CV} {tm : Tm} {y : zR} {v : CV} (h : wF s es es' tm) (hy : aV es' tm y = v) : wF (y :: s) (v :: es) es' tm := by
  intro x
  cases x with
  | e i => cases i with
    | zero => exact hy
    | succ i => exact h (.e i)
  | l p => rfl
  | k v => rfl
theorem zQH {es : List CV} {tm : Tm} {v : CV} (x : zR) : aV (v :: es) tm (upA x) = aV es tm x := by cases x <;> rfl
theorem zH4 {v : CV} {es : List CV} {tm : Tm} : ∀ (s : List zR) (i : Nat), aV (v :: es) tm (zGQ (s.map upA) i) = aV es tm (zGQ s i)
  | [], _ => rfl
  | x :: _, 0 => zQH x
  | _ :: s, i + 1 => zH4 s i
theorem zGD {s : List zR} {es es' : List CV} {tm : Tm} (h : wF s es es' tm) (v : CV) : wF (shA s) (v :: es) (v :: es') tm := by
  intro x
  cases x with
  | e i => cases i with
    | zero => rfl
    | succ i =>
      show aV (v :: es') tm (zGQ (s.map upA) i) = aV es tm (.e i)
      rw [zH4]
      exact h (.e i)
  | l p => rfl
  | k v => rfl
def OkW (s : List zR) (ops : List xx) : Prop := ∀ p, zR.l p ∈ s → noW p ops = true
theorem zIu : ∀ {s : List zR} {i : Nat} {p : Loc}, zGQ s i = .l p → zR.l p ∈ s
  | [], _, _, h => by cases h
  | x :: _, 0, _, h => by
    have h : x = _ := h
    rw [h]; simp
  | _ :: s, i + 1, _, h => List.mem_cons_of_mem _ (zIu (s := s) h)
theorem zKN {s : List zR} {es es' : List CV} {tm : Tm} {d : Loc} {v : CV} (h : wF s es es' tm) (hs : ∀ p, zR.l p ∈ s → d ≠ p) : wF s es es' (kP v d tm) := by
  intro x
  cases x with
  | e i =>
    have h0 : aV es' tm (zGQ s i) = aV es tm (.e i) := h (.e i)
    show aV es' (kP v d tm) (zGQ s i) = aV es tm (.e i)
    rw [← h0]
    cases hc : zGQ s i with
    | e j => rfl
    | l p =>
      show qK p (kP v d tm) = qK p tm
      exact xK v d p tm (fun e => hs p (zIu hc) e.symm)
    | k w => rfl
  | l p => rfl
  | k v => rfl
theorem zJW {s : List zR} {p : Loc} (h : zR.l p ∈ shA s) : zR.l p ∈ s := by
  unfold shA at h
  rcases List.mem_cons.1 h with h | h
  · cases h
  · obtain ⟨x, hx, e⟩ := List.mem_map.1 h
    cases x with
    | e i => cases e
    | l q => injection e with e; rw [← e]; exact hx
    | k v => cases e
theorem zEn {s : List zR} {i : xx} {r : List xx} (h : OkW s (i :: r)) : OkW (shA s) r := fun p hp => (vc (h p (zJW hp))).1
theorem zK8 : ∀ (ops : List xx),
    (∀ (s : List zR) (es es' : List CV) (tm : Tm) (ds : xT) (h : Heap) (n : Key), wF s es es' tm → OkW s ops → yd P call (qy ops none s) es' tm ds h n = yd P call ops es tm ds h n) ∧
    (∀ (q : COp) (s : List zR) (es es' : List CV) (tm : Tm) (ds : xT) (h : Heap) (n : Key), (∀ v, wF s (v :: es) (v :: es') tm) → OkW s ops → yd P call (qy ops (some q) s) es' tm ds h n = after (yA P q es' tm h n) call (yd P call ops) none es tm ds h n)
  | [] => ⟨fun s es es' tm ds h n hi ho => rfl, fun q s es es' tm ds h n hi ho => by
    show after (yA P q es' tm h n) call (yd P call []) none es' tm ds h n = after (yA P q es' tm h n) call (yd P call []) none es tm ds h n
    exact x9 (k := yd P call []) (k' := yd P call []) (d := none) (d' := none) (es := es') (es' := es) (fun v ds h n => rfl) _ _ _⟩
  | i :: r => by
    obtain ⟨ih1, ih2⟩ := zK8 r
    have body : ∀ (s : List zR) (es es' : List CV) (tm : Tm) (ds : xT) (h : Heap) (n : Key), wF s es es' tm → OkW s (i :: r) → yd P call (zCO i r s) es' tm ds h n = yd P call (i :: r) es tm ds h n := by
      intro s es es' tm ds h n hi ho
      have hput : ∀ d, zQN i = some d → ∀ v, wF (shA s) (v :: es) (v :: es') (kP v d tm) := fun d hd v => zKN (zGD hi v) fun p hp => (vc (ho p (zJW hp))).2 d hd
      cases i with
      | i op =>
        cases hm : zGO op with
        | none =>
          rw [zLw hm]
          refine (ih2 _ _ es es' tm ds h n (zGD hi) (zEn ho)).trans ?_
          rw [zDn hi]
          rfl
        | some x =>
          obtain rfl := zF1 hm
          cases hl : inl (jk s x) r with
          | true =>
            rw [zMc hl]
            refine (ih1 _ (aV es tm x :: es) es' tm ds h n (zIh hi (hi x)) fun p hp => ?_).trans rfl
            rcases List.mem_cons.1 hp with hp | hp
            · rw [← hp] at hl
              exact hl
            · exact (vc (ho p hp)).1
          | false =>
            rw [zJR hl]
            refine (ih2 _ _ es es' tm ds h n (zGD hi) (zEn ho)).trans ?_
            show yd P call r (aV es' tm (jk s x) :: es) tm ds h n = yd P call r (aV es tm x :: es) tm ds h n
            rw [hi x]
      | o op d =>
        show after (yA P (zEc (jk s) op) es' tm h n) call (yd P call (qy r none (shA s))) (some d) es' tm ds h n = after (yA P op es tm h n) call (yd P call r) (some d) es tm ds h n
        rw [zDn hi]
        refine x9 (k := yd P call (qy r none (shA s))) (k' := yd P call r) (d := some d) (d' := some d) (es := es') (es' := es) (fun v ds h n => ?_) _ _ _
        exact ih1 _ _ _ _ _ _ _ (hput d rfl v) (zEn ho)
      | g x w op d =>
        show iG P call (jk s x) w (zEc (jk s) op) d (yd P call (qy r none (shA s))) es' tm ds h n = iG P call x w op d (yd P call r) es tm ds h n
        have H : ∀ v ds h n, zu d v tm (fun tm => yd P call (qy r none (shA s)) (v :: es') tm ds h n) = zu d v tm (fun tm => yd P call r (v :: es) tm ds h n) := by
          intro v ds h n
          cases d with
          | none => exact ih1 _ _ _ _ _ _ _ (zGD hi v) (zEn ho)
          | some d => exact ih1 _ _ _ _ _ _ _ (hput d rfl v) (zEn ho)
        unfold iG
        rw [hi x, zDn hi]
        cases qv w (aV es tm x) with
        | true => exact x9 H _ _ _
        | false => cases jq (aV es tm x) with
          | true => exact H .undef ds h n
          | false => rfl
    refine ⟨fun s es es' tm ds h n hi ho => ?_, fun q s es es' tm ds h n hi ho => ?_⟩
    · rw [zLa]
      exact body s es es' tm ds h n hi ho
    · rw [zLV]
      cases hf : zJO i with
      | some d =>
        obtain rfl := zLQ hf
        show after (yA P q es' tm h n) call (yd P call (qy r none (.e 0 :: s))) (some d) es' tm ds h n = _
        refine x9 (k := yd P call (qy r none (.e 0 :: s))) (k' := yd P call (.o (.mv (.e 0)) d :: r)) (d := some d) (d' := none) (es := es') (es' := es) (fun v ds h n => ?_) _ _ _
        refine (ih1 _ (v :: v :: es) (v :: es') (kP v d tm) ds h n (zIh (zKN (hi v) fun p hp => (vc (ho p hp)).2 d rfl) rfl) fun p hp => ?_).trans rfl
        rcases List.mem_cons.1 hp with hp | hp
        · cases hp
        · exact (vc (ho p hp)).1
      | none =>
        show after (yA P q es' tm h n) call (yd P call (zCO i r s)) none es' tm ds h n = _
        refine x9 (k := yd P call (zCO i r s)) (k' := yd P call (i :: r)) (d := none) (d' := none) (es := es') (es' := es) (fun v ds h n => ?_) _ _ _
        exact body s (v :: es) (v :: es') tm ds h n (hi v) ho
theorem zLy (ops : List xx) : yd P call (qy ops none []) [] = yd P call ops [] := by
  funext tm ds h n
  exact (zK8 ops).1 [] [] [] tm ds h n (fun x => by cases x <;> rfl) (fun p hp => by cases hp)
theorem zDu (c : CCode) : zd P call (vC c) = zd P call c := by
  induction c with
  | region ops => exact zLy ops
  | seq a b iha ihb =>
    show (fun tm ds h n => xZ (zd P call (vC b)) (zd P call (vC a) tm ds h n)) = _
    rw [iha, ihb]; rfl
  | cond x a b iha ihb =>
    show (fun tm ds h n => zGc (zd P call (vC a)) (zd P call (vC b)) (aV [] tm x) tm ds h n) = _
    rw [iha, ihb]; rfl
  | block i b ih =>
    show (fun tm ds h n => wG i (zd P call (vC b) tm ds h n)) = _
    rw [ih]; rfl
  | loop b ih =>
    show uk uC (zd P call (vC b)) = _
    rw [ih]; rfl
  | scope b ih =>
    show zd P call (vC b) = _
    rw [ih]; rfl
  | _ => rfl
theorem zFe (d : Bool) (fn : CFn) (args : List CV) (h : Heap) (n : Key) : uq P d call (zKR fn) args h n = uq P d call fn args h n := by
  cases fn with
  | mk b r =>
    show yX d call r (zd P call (vC b) (xy args 0 .nil) [] h n) = _
    rw [zDu]; rfl
  | mkD o b r =>
    cases d with
    | true =>
      show yX true call r (xZ (zd P call (vC b)) (yd P call o [] (xy args 0 .nil) [] h n)) = _
      rw [zDu]; rfl
    | false => rfl
  | ext e => rfl
  | bad c => rfl
end
end
end Go.Ev

namespace Go.Ev
variable [Sym]
structure Pl where
  blk : Nat
  off : Nat
  sz : Nat
  ck : Nat → Nat
abbrev Psi := Key → Option Pl
mutual
def zJ (ψ : Psi) : CV → Value → Prop
  | .bool b, v => v = .bool b
  | .nat n, v => v = .int .i64 (Int.ofNat n)
  | .int k n, v => v = .int k n
  | .anyi k, v => ∃ n, v = .int k n
  | .str s, v => ∃ b, v = .string b ∧ zm b = s
  | .nilptr, v => v = .pointer none
  | .ptr b o, v => ∃ p, ψ b = some p ∧ v = .pointer (some ⟨p.blk, p.off + o, none⟩)
  | .nilsl, v => v = .slice none 0 0
  | .sl b o len cap esz ex, v => ∃ p x cap', ψ b = some p ∧ v = .slice (some ⟨p.blk, x, none⟩) len cap' ∧ cap ≤ cap' ∧ len ≤ cap' ∧ (ex = true → cap' = cap) ∧
      ((x = p.off + o ∧ (ex = false → x + cap' * esz = p.sz)) ∨ cap' = 0)
  | .nilmap, v => v = .map none
  | .map b, v => ∃ p, ψ b = some p ∧ v = .map (some p.blk)
  | .func fn a c, v => ∃ a' c', v = .func fn a' c' ∧ zS ψ a a'.toList ∧ zS ψ c c'.toList
  | .nilfunc, v => v = .nilFunc
  | .iface t x, v => ∃ y, v = .iface t y ∧ zJ ψ x y
  | .niliface, v => v = .nilIface
  | .agg cs, v => ∃ a, v = .agg a ∧ zS ψ cs a.toList
  | .tup cs, v => ∃ a, v = .tuple a ∧ zS ψ cs a.toList
  | .sym i, v => v = Sym.val i
  | .win b esz e n, v => Sym.arg b = some v ∧ ∃ base : Option Addr, ∃ len cap : Nat, ∃ i : Int, v = .slice base len cap ∧ Sym.val n = .int .i64 len ∧ Sym.val e = .int .i64 i ∧
      (0 ≤ i → i < len → ∃ p x, ψ b = some p ∧ base = some ⟨p.blk, x, none⟩ ∧ p.off = x + i.toNat * esz)
  | .sst l, v => ∃ b : ByteArray, v = .string b ∧ zS ψ l (b.data.toList.map fun x => Value.int .u8 (Int.ofNat x.toNat))
  | .big n, v => ∃ m : Nat, v = .int .i64 (Int.ofNat m) ∧ n ≤ m
  | .any, _ => True
def zS (ψ : Psi) : List CV → List Value → Prop
  | [], l => l = []
  | c :: cs, l => ∃ v r, l = v :: r ∧ zJ ψ c v ∧ zS ψ cs r
end
def Psi.le (ψ ψ' : Psi) : Prop := ∀ k p, ψ k = some p → ψ' k = some p
theorem Psi.le_refl (ψ : Psi) : ψ.le ψ := fun _ _ h => h
theorem Psi.le_trans {a b c : Psi} (h : a.le b) (h' : b.le c) : a.le c := fun k p e => h' k p (h k p e)
mutual
theorem zJ.mono {ψ ψ' : Psi} (hle : ψ.le ψ') : ∀ (c : CV) {v : Value}, zJ ψ c v → zJ ψ' c v
  | .bool _, _, h => h
  | .nat _, _, h => h
  | .int _ _, _, h => h
  | .anyi _, _, h => h
  | .str _, _, h => h
  | .nilptr, _, h => h
  | .ptr _ _, _, h => by
    unfold zJ at h ⊢
    obtain ⟨p, hp, e⟩ := h
    exact ⟨p, hle _ _ hp, e⟩
  | .nilsl, _, h => h
  | .sl .., _, h => by
    unfold zJ at h ⊢
    obtain ⟨p, x, c, hp, r⟩ := h
    exact ⟨p, x, c, hle _ _ hp, r⟩
  | .nilmap, _, h => h
  | .map _, _, h => by
    unfold zJ at h ⊢
    obtain ⟨p, hp, e⟩ := h
    exact ⟨p, hle _ _ hp, e⟩
  | .func _ a c, _, h => by
    unfold zJ at h ⊢
    obtain ⟨a', c', e, h1, h2⟩ := h
    exact ⟨a', c', e, zS.mono hle a h1, zS.mono hle c h2⟩
  | .nilfunc, _, h => h
  | .iface _ x, _, h => by
    unfold zJ at h ⊢
    obtain ⟨y, e, h1⟩ := h
    exact ⟨y, e, zJ.mono hle x h1⟩
  | .niliface, _, h => h
  | .agg cs, _, h => by
    unfold zJ at h ⊢
    obtain ⟨a, e, h1⟩ := h
    exact ⟨a, e, zS.mono hle cs h1⟩
  | .tup cs, _, h => by
    unfold zJ at h ⊢
    obtain ⟨a, e, h1⟩ := h
    exact ⟨a, e, zS.mono hle cs h1⟩
  | .sym _, _, h => h
  | .win .., _, h => by
    unfold zJ at h ⊢
    obtain ⟨h0, base, len, cap, i, h1, h2, h3, h4⟩ := h
    refine ⟨h0, base, len, cap, i, h1, h2, h3, fun q1 q2 => ?_⟩
    obtain ⟨p, x, hp, r⟩ := h4 q1 q2
    exact ⟨p, x, hle _ _ hp, r⟩
  | .sst l, _, h => by
    unfold zJ at h ⊢
    obtain ⟨b, e, h1⟩ := h
    exact ⟨b, e, zS.mono hle l h1⟩
  | .big _, _, h => h
  | .any, _, _ => by unfold zJ; trivial
theorem zS.mono {ψ ψ' : Psi} (hle : ψ.le ψ') : ∀ (cs : List CV) {l : List Value}, zS ψ cs l → zS ψ' cs l
  | [], _, h => h
  | c :: cs, _, h => by
    unfold zS at h ⊢
    obtain ⟨v, r, e, h1, h2⟩ := h
    exact ⟨v, r, e, zJ.mono hle c h1, zS.mono hle cs h2⟩
end
section
variable {ψ : Psi}
theorem zL {l : List Value} : zS ψ [] l ↔ l = [] := by unfold zS; rfl
theorem zX {c : CV} {cs : List CV} {l : List Value} : zS ψ (c :: cs) l ↔ ∃ v r, l = v :: r ∧ zJ ψ c v ∧ zS ψ cs r := by
  rw [zS]
theorem zT {c : CV} {cs : List CV} {v : Value} {r : List Value} : zS ψ (c :: cs) (v :: r) ↔ zJ ψ c v ∧ zS ψ cs r := by
  rw [zX]
  constructor
  · rintro ⟨v', r', e, h1, h2⟩; cases e; exact ⟨h1, h2⟩
  · rintro ⟨h1, h2⟩; exact ⟨v, r, rfl, h1, h2⟩
theorem zS.length {cs : List CV} {l : List Value} (h : zS ψ cs l) : l.length = cs.length := by
  induction cs generalizing l with
  | nil => rw [zL] at h; subst h; rfl
  | cons c cs ih =>
    rw [zX] at h
    obtain ⟨v, r, rfl, _, h2⟩ := h
    simp [ih h2]
theorem xj {cs : List CV} {l : List Value} : zS ψ cs l ↔ l.length = cs.length ∧ ∀ (i : Nat) (c : CV) (v : Value), cs[i]? = some c → l[i]? = some v → zJ ψ c v := by
  induction cs generalizing l with
  | nil => rw [zL]; cases l <;> simp
  | cons c cs ih =>
    cases l with
    | nil => rw [zX]; simp
    | cons v r =>
      rw [zT, ih]
      constructor
      · rintro ⟨h1, h2, h3⟩
        refine ⟨by simp [h2], fun i d u hd hu => ?_⟩
        cases i with
        | zero => simp at hd hu; subst hd; subst hu; exact h1
        | succ i => exact h3 i d u (by simpa using hd) (by simpa using hu)
      · rintro ⟨h1, h2⟩
        refine ⟨h2 0 c v rfl rfl, by simpa using h1, fun i d u hd hu => h2 (i + 1) d u (by simpa using hd) (by simpa using hu)⟩
theorem zS.get {cs : List CV} {l : List Value} (h : zS ψ cs l) {i : Nat} {c : CV} (hc : cs[i]? = some c) : ∃ v, l[i]? = some v ∧ zJ ψ c v := by
  obtain ⟨h1, h2⟩ := xj.1 h
  have hi : i < cs.length := by
    rcases Nat.lt_or_ge i cs.length with h | h
    · exact h
    · rw [List.getElem?_eq_none h] at hc; cases hc
  have : l[i]? = some (l[i]'(by omega)) := List.getElem?_eq_getElem _
  exact ⟨_, this, h2 i c _ hc this⟩
theorem zS.append {a b : List CV} {l m : List Value} (h : zS ψ a l) (h' : zS ψ b m) : zS ψ (a ++ b) (l ++ m) := by
  induction a generalizing l with
  | nil => rw [zL] at h; subst h; exact h'
  | cons c a ih =>
    rw [zX] at h
    obtain ⟨v, r, rfl, h1, h2⟩ := h
    exact zT.2 ⟨h1, ih h2⟩
theorem zS.take {cs : List CV} {l : List Value} (h : zS ψ cs l) (n : Nat) : zS ψ (cs.take n) (l.take n) := by
  obtain ⟨h1, h2⟩ := xj.1 h
  refine xj.2 ⟨by simp [h1], fun i c v hc hv => ?_⟩
  rw [List.getElem?_take] at hc hv
  split at hc
  · rename_i hi; rw [if_pos hi] at hv; exact h2 i c v hc hv
  · cases hc
theorem zS.drop {cs : List CV} {l : List Value} (h : zS ψ cs l) (n : Nat) : zS ψ (cs.drop n) (l.drop n) := by
  obtain ⟨h1, h2⟩ := xj.1 h
  refine xj.2 ⟨by simp [h1], fun i c v hc hv => ?_⟩
  rw [List.getElem?_drop] at hc hv
  exact h2 _ c v hc hv
theorem zH {b : Bool} {v : Value} : zJ ψ (.bool b) v ↔ v = .bool b := by rw [zJ]
theorem zU {n : Nat} {v : Value} : zJ ψ (.nat n) v ↔ v = .int .i64 (Int.ofNat n) := by rw [zJ]
theorem zc {k : IntKind} {n : Int} {v : Value} : zJ ψ (.int k n) v ↔ v = .int k n := by rw [zJ]
theorem yC {k : IntKind} {v : Value} : zJ ψ (.anyi k) v ↔ ∃ n, v = .int k n := by rw [zJ]
theorem zh {s : List Nat} {v : Value} : zJ ψ (.str s) v ↔ ∃ b, v = .string b ∧ zm b = s := by rw [zJ]
theorem yx {v : Value} : zJ ψ .nilptr v ↔ v = .pointer none := by rw [zJ]
theorem zj {b : Key} {o : Nat} {v : Value} : zJ ψ (.ptr b o) v ↔ ∃ p, ψ b = some p ∧ v = .pointer (some ⟨p.blk, p.off + o, none⟩) := by rw [zJ]
theorem zl {v : Value} : zJ ψ .nilsl v ↔ v = .slice none 0 0 := by rw [zJ]
theorem zw {b : Key} {o len cap esz : Nat} {ex : Bool} {v : Value} : zJ ψ (.sl b o len cap esz ex) v ↔ ∃ p x cap', ψ b = some p ∧ v = .slice (some ⟨p.blk, x, none⟩) len cap' ∧ cap ≤ cap' ∧ len ≤ cap' ∧
    (ex = true → cap' = cap) ∧ ((x = p.off + o ∧ (ex = false → x + cap' * esz = p.sz)) ∨ cap' = 0) := by rw [zJ]
theorem zt {v : Value} : zJ ψ .nilmap v ↔ v = .map none := by rw [zJ]
theorem yY {b : Key} {v : Value} : zJ ψ (.map b) v ↔ ∃ p, ψ b = some p ∧ v = .map (some p.blk) := by rw [zJ]
theorem yk {fn : Fn} {a c : List CV} {v : Value} : zJ ψ (.func fn a c) v ↔ ∃ a' c', v = .func fn a' c' ∧ zS ψ a a'.toList ∧ zS ψ c c'.toList := by rw [zJ]
theorem yi {v : Value} : zJ ψ .nilfunc v ↔ v = .nilFunc := by rw [zJ]
theorem z7 {t : TypeId} {x : CV} {v : Value} : zJ ψ (.iface t x) v ↔ ∃ y, v = .iface t y ∧ zJ ψ x y := by rw [zJ]
theorem z8 {v : Value} : zJ ψ .niliface v ↔ v = .nilIface := by rw [zJ]
theorem yU {cs : List CV} {v : Value} : zJ ψ (.agg cs) v ↔ ∃ a, v = .agg a ∧ zS ψ cs a.toList := by rw [zJ]
theorem z6 {cs : List CV} {v : Value} : zJ ψ (.tup cs) v ↔ ∃ a, v = .tuple a ∧ zS ψ cs a.toList := by rw [zJ]
theorem yh {i : SE} {v : Value} : zJ ψ (.sym i) v ↔ v = Sym.val i := by rw [zJ]
theorem qV {b : Key} {esz : Nat} {e n : SE} {v : Value} : zJ ψ (.win b esz e n) v ↔ Sym.arg b = some v ∧ ∃ base : Option Addr, ∃ len cap : Nat, ∃ i : Int, v = .slice base len cap ∧ Sym.val n = .int .i64 len ∧ Sym.val e = .int .i64 i ∧ (0 ≤ i → i < len → ∃ p x, ψ b = some p ∧ base = some ⟨p.blk, x, none⟩ ∧ p.off = x + i.toNat * esz) := by rw [zJ]
theorem xI {l : List CV} {v : Value} : zJ ψ (.sst l) v ↔ ∃ b : ByteArray, v = .string b ∧ zS ψ l (b.data.toList.map fun x => Value.int .u8 (Int.ofNat x.toNat)) := by rw [zJ]
theorem qN {n : Nat} {v : Value} : zJ ψ (.big n) v ↔ ∃ m : Nat, v = .int .i64 (Int.ofNat m) ∧ n ≤ m := by rw [zJ]
theorem qP {v : Value} : zJ ψ .any v := by rw [zJ]; trivial
theorem qd : zJ ψ .undef undef := z6.2 ⟨#[], rfl, zL.2 rfl⟩
end
def zAs (ψ : Psi) (ck : Nat → Nat) (c : CE) (e : MapEntry) : Prop := zJ ψ c.key e.key ∧ zJ ψ c.val e.val ∧ e.born = ck c.born
def yD (ψ : Psi) (ck : Nat → Nat) : List CE → List MapEntry → Prop
  | [], l => l = []
  | c :: cs, l => ∃ e r, l = e :: r ∧ zAs ψ ck c e ∧ yD ψ ck cs r
structure wt (ck : Nat → Nat) (clock : Nat) : Prop where
  one : ∀ a b, ck a = ck b → a = b
  cmp : ∀ k x, x < clock + k ↔ ck x < ck (clock + k)
  run : ∀ k, ck (clock + k) = ck clock + k
def zAy (ck : Nat → Nat) (y : Nat) : Prop := ∀ x, x < y ↔ ck x < ck y
theorem wt.id (clock : Nat) : wt (fun n => n) clock := ⟨fun _ _ h => h, fun _ _ => Iff.rfl, fun _ => rfl⟩
theorem wt.succ {ck : Nat → Nat} {clock : Nat} (h : wt ck clock) : wt ck (clock + 1) :=
  ⟨h.one, fun k x => by rw [show clock + 1 + k = clock + (1 + k) from by omega]; exact h.cmp (1 + k) x, fun k => by rw [show clock + 1 + k = clock + (1 + k) from by omega, h.run, h.run 1]; omega⟩
theorem wt.here {ck : Nat → Nat} {clock : Nat} (h : wt ck clock) : zAy ck clock := fun x => h.cmp 0 x
theorem wt.step {ck : Nat → Nat} {clock : Nat} (h : wt ck clock) : ck (clock + 1) = ck clock + 1 := h.run 1
theorem wt.inj {ck : Nat → Nat} {clock : Nat} (h : wt ck clock) {a b : Nat} : ck a = ck b ↔ a = b := ⟨h.one a b, fun e => by rw [e]⟩
def xA (ψ : Psi) (ck : Nat → Nat) (es : List CE) (l : List MapEntry) : Prop := ∃ l', l'.Perm l ∧ yD ψ ck es l'
theorem xA.nil {ψ : Psi} {ck : Nat → Nat} : xA ψ ck [] [] := ⟨[], List.Perm.refl _, rfl⟩
def yR (ψ : Psi) (w : World) (p : Pl) (vs : List CV) : Prop :=
  ∃ arr elem fz, w.heap[p.blk]? = some (.cells arr elem fz) ∧ arr.size = p.sz ∧ p.off + vs.length ≤ p.sz ∧ (fz.1 = fz.2 ∨ p.sz ≤ fz.1) ∧
    ∀ i c, vs[i]? = some c → ∃ x, arr[p.off + i]? = some x ∧ zJ ψ c x
def zBT (ψ : Psi) (w : World) (p : Pl) (vs : List CV) : Prop :=
  ∃ arr elem fz, w.heap[p.blk]? = some (.cells arr elem fz) ∧ arr.size = p.sz ∧ p.off + vs.length ≤ p.sz ∧
    ∀ i c, vs[i]? = some c → ∃ x, arr[p.off + i]? = some x ∧ zJ ψ c x
def jp (ψ : Psi) (w : World) (p : Pl) (u : Bool) (vs : List CV) : Prop :=
  ∃ arr elem fz, w.heap[p.blk]? = some (.cells arr elem fz) ∧ arr.size = p.sz ∧ p.off + vs.length = p.sz ∧ (fz.1 = fz.2 ∨ u = false ∧ p.sz ≤ fz.1) ∧
    ∀ i c, vs[i]? = some c → ∃ x, arr[p.off + i]? = some x ∧ zJ ψ c x
theorem jp.toCells {ψ : Psi} {w : World} {p : Pl} {u : Bool} {vs : List CV} (h : jp ψ w p u vs) : yR ψ w p vs :=
  let ⟨a, e, f, h1, h2, h3, h4, h5⟩ := h
  ⟨a, e, f, h1, h2, Nat.le_of_eq h3, h4.elim .inl (fun h => .inr h.2), h5⟩
theorem yR.toRo {ψ : Psi} {w : World} {p : Pl} {vs : List CV} (h : yR ψ w p vs) : zBT ψ w p vs :=
  let ⟨a, e, f, h1, h2, h3, _, h5⟩ := h
  ⟨a, e, f, h1, h2, h3, h5⟩
def xE (ψ : Psi) (w : World) (p : Pl) : CObj → Prop
  | .cells vs => yR ψ w p vs
  | .ro vs => zBT ψ w p vs
  | .map es clock => ∃ arr, w.heap[p.blk]? = some (.map arr (p.ck clock)) ∧ xA ψ p.ck es arr.toList ∧ wt p.ck clock
  | .striter s pos => ∃ b, w.heap[p.blk]? = some (.stringIter b pos) ∧ zm b = s ∧ p.off = 0
  | .full u vs => jp ψ w p u vs
  | .mapiter m since seen stepped => ∃ m' ck, w.heap[p.blk]? = some (.mapIter m' (ck since) (seen.map ck).toArray (ck stepped)) ∧ p.off = 0 ∧
      (match m with
       | none => m' = none
       | some k => ∃ q, ψ k = some q ∧ m' = some q.blk ∧ ck = q.ck ∧ zAy ck since ∧ zAy ck stepped)
abbrev Fam := Key → Option CObj
noncomputable def Heap.fam (h : Heap) : Fam := fun k => yK k h
def CObj.isRo : CObj → Bool
  | .ro _ => true
  | _ => false
def qA (ψ : Psi) (g : Fam) (w : World) : Prop := ∀ k o p, g k = some o → ψ k = some p → xE ψ w p o
structure Rel (ψ : Psi) (g : Fam) (w : World) : Prop where
  on : qA ψ g w
  tot : ∀ k o, g k = some o → ∃ p, ψ k = some p
  inj : ∀ k₁ k₂ o₁ o₂ p₁ p₂, g k₁ = some o₁ → g k₂ = some o₂ → ψ k₁ = some p₁ → ψ k₂ = some p₂ → (o₁.isRo = false ∨ o₂.isRo = false) → p₁.blk = p₂.blk → k₁ = k₂
structure zq (ψ : Psi) (g : Fam) (n : Key) (w : World) (ψ' : Psi) (g' : Fam) (n' : Key) (w' : World) : Prop where
  ext : ψ.le ψ'
  out : ∀ k, (k.ix < n.ix ∨ n'.ix ≤ k.ix) → ψ' k = ψ k
  rel : Rel ψ' g' w'
  frame : ∀ B, B < w.heap.size → (∀ k o p, g k = some o → o.isRo = false → ψ k = some p → p.blk ≠ B) → w'.heap[B]? = w.heap[B]?
  img : ∀ k o p, g' k = some o → o.isRo = false → ψ' k = some p → (∃ k₀ o₀ p₀, g k₀ = some o₀ ∧ o₀.isRo = false ∧ ψ k₀ = some p₀ ∧ p₀.blk = p.blk) ∨ w.heap.size ≤ p.blk
  size : w.heap.size ≤ w'.heap.size
  tape : w'.tape = w.tape
  os : w'.os = w.os
  output : w'.output = w.output
  mono : n.ix ≤ n'.ix
  imgA : ∀ k o p, g' k = some o → ψ' k = some p → (∃ k₀ o₀ p₀, g k₀ = some o₀ ∧ ψ k₀ = some p₀ ∧ p₀.blk = p.blk) ∨ w.heap.size ≤ p.blk
theorem zq.refl {ψ : Psi} {g : Fam} {n : Key} {w : World} (h : Rel ψ g w) : zq ψ g n w ψ g n w :=
  ⟨Psi.le_refl _, fun _ _ => rfl, h, fun _ _ _ => rfl, fun k o p h1 h2 h3 => .inl ⟨k, o, p, h1, h2, h3, rfl⟩, Nat.le_refl _, rfl, rfl, rfl, Nat.le_refl _, fun k o p h1 h3 => .inl ⟨k, o, p, h1, h3, rfl⟩⟩
theorem zq.trans {ψ ψ₁ ψ₂ : Psi} {g g₁ g₂ : Fam} {n n₁ n₂ : Key} {w w₁ w₂ : World} (h : zq ψ g n w ψ₁ g₁ n₁ w₁) (h' : zq ψ₁ g₁ n₁ w₁ ψ₂ g₂ n₂ w₂) :
    zq ψ g n w ψ₂ g₂ n₂ w₂ := by
  have hm := h.mono
  have hm' := h'.mono
  refine ⟨Psi.le_trans h.ext h'.ext, fun k hk => ?_, h'.rel, fun B hB hfree => ?_, fun k o p h1 h2 h3 => ?_, Nat.le_trans h.size h'.size,
    h'.tape.trans h.tape, h'.os.trans h.os, h'.output.trans h.output, Nat.le_trans hm hm', fun k o p h1 h3 => ?_⟩
  · rw [h'.out k (by omega), h.out k (by omega)]
  · rw [h'.frame B (Nat.lt_of_lt_of_le hB h.size), h.frame B hB hfree]
    intro k o p hk hro hp e
    rcases h.img k o p hk hro hp with ⟨k₀, o₀, p₀, a, b, c, d⟩ | hge
    · exact hfree k₀ o₀ p₀ a b c (d.trans e)
    · omega
  · rcases h'.img k o p h1 h2 h3 with ⟨k₀, o₀, p₀, a, b, c, d⟩ | hge
    · rcases h.img k₀ o₀ p₀ a b c with ⟨k₁, o₁, p₁, a', b', c', d'⟩ | hge
      · exact .inl ⟨k₁, o₁, p₁, a', b', c', d'.trans d⟩
      · exact .inr (by omega)
    · exact .inr (Nat.le_trans h.size hge)
  · rcases h'.imgA k o p h1 h3 with ⟨k₀, o₀, p₀, a, c, d⟩ | hge
    · rcases h.imgA k₀ o₀ p₀ a c with ⟨k₁, o₁, p₁, a', c', d'⟩ | hge
      · exact .inl ⟨k₁, o₁, p₁, a', c', d'.trans d⟩
      · exact .inr (by omega)
    · exact .inr (Nat.le_trans h.size hge)
end Go.Ev

namespace Go.Ev
variable [Sym]
theorem xE.congr {ψ : Psi} {w w' : World} {p : Pl} {o : CObj} (h : w'.heap[p.blk]? = w.heap[p.blk]?) (ho : xE ψ w p o) : xE ψ w' p o := by
  cases o with
  | cells vs => obtain ⟨arr, e, fz, h1, r⟩ := ho; exact ⟨arr, e, fz, h.trans h1, r⟩
  | ro vs => obtain ⟨arr, e, fz, h1, r⟩ := ho; exact ⟨arr, e, fz, h.trans h1, r⟩
  | map es c => obtain ⟨arr, h1, r⟩ := ho; exact ⟨arr, h.trans h1, r⟩
  | striter s q => obtain ⟨b, h1, r⟩ := ho; exact ⟨b, h.trans h1, r⟩
  | full u vs => obtain ⟨arr, e, fz, h1, r⟩ := ho; exact ⟨arr, e, fz, h.trans h1, r⟩
  | mapiter m a b c => obtain ⟨m', ck, h1, r⟩ := ho; exact ⟨m', ck, h.trans h1, r⟩
theorem yD.mono {ψ ψ' : Psi} (hle : ψ.le ψ') {ck : Nat → Nat} : ∀ {es : List CE} {l : List MapEntry}, yD ψ ck es l → yD ψ' ck es l
  | [], _, h => h
  | c :: es, _, h => by
    obtain ⟨e, r, rfl, ⟨h1, h2, h3⟩, h4⟩ := h
    exact ⟨e, r, rfl, ⟨h1.mono hle, h2.mono hle, h3⟩, yD.mono hle h4⟩
theorem xA.mono {ψ ψ' : Psi} (hle : ψ.le ψ') {ck : Nat → Nat} {es : List CE} {l : List MapEntry} (h : xA ψ ck es l) : xA ψ' ck es l :=
  let ⟨l', hp, hc⟩ := h
  ⟨l', hp, hc.mono hle⟩
theorem xE.mono {ψ ψ' : Psi} (hle : ψ.le ψ') {w : World} {p : Pl} {o : CObj} (ho : xE ψ w p o) : xE ψ' w p o := by
  cases o with
  | cells vs =>
    obtain ⟨arr, e, fz, h1, h2, h3, h4, h5⟩ := ho
    exact ⟨arr, e, fz, h1, h2, h3, h4, fun i c hc => let ⟨x, a, b⟩ := h5 i c hc; ⟨x, a, b.mono hle⟩⟩
  | ro vs =>
    obtain ⟨arr, e, fz, h1, h2, h3, h5⟩ := ho
    exact ⟨arr, e, fz, h1, h2, h3, fun i c hc => let ⟨x, a, b⟩ := h5 i c hc; ⟨x, a, b.mono hle⟩⟩
  | map es c => obtain ⟨arr, h1, r, h2⟩ := ho; exact ⟨arr, h1, r.mono hle, h2⟩
  | striter s q => exact ho
  | full u vs =>
    obtain ⟨arr, e, fz, h1, h2, h3, h4, h5⟩ := ho
    exact ⟨arr, e, fz, h1, h2, h3, h4, fun i c hc => let ⟨x, a, b⟩ := h5 i c hc; ⟨x, a, b.mono hle⟩⟩
  | mapiter m a b c =>
    obtain ⟨m', ck, h1, h2, r⟩ := ho
    refine ⟨m', ck, h1, h2, ?_⟩
    cases m with
    | none => exact r
    | some k => obtain ⟨q, h3, h4⟩ := r; exact ⟨q, hle _ _ h3, h4⟩
theorem xE.lt {ψ : Psi} {w : World} {p : Pl} {o : CObj} (ho : xE ψ w p o) : p.blk < w.heap.size := by
  have key : ∀ {o : Obj}, w.heap[p.blk]? = some o → p.blk < w.heap.size := by
    intro o h
    rcases Nat.lt_or_ge p.blk w.heap.size with h' | h'
    · exact h'
    · rw [Array.getElem?_eq_none h'] at h; cases h
  cases o with
  | cells vs => obtain ⟨arr, e, fz, h1, _⟩ := ho; exact key h1
  | ro vs => obtain ⟨arr, e, fz, h1, _⟩ := ho; exact key h1
  | map es c => obtain ⟨arr, h1, _⟩ := ho; exact key h1
  | striter s q => obtain ⟨b, h1, _⟩ := ho; exact key h1
  | full u vs => obtain ⟨arr, e, fz, h1, _⟩ := ho; exact key h1
  | mapiter m a b c => obtain ⟨m', ck, h1, _⟩ := ho; exact key h1
def Fam.upd (g : Fam) (k : Key) (o : Option CObj) : Fam := fun j => if j = k then o else g j
theorem zz (o : Option CObj) (k : Key) (h : Heap) : Heap.fam (yv o k h) = Fam.upd (Heap.fam h) k o := by
  funext j; exact zFJ o k j h
theorem Fam.upd_same (g : Fam) (k : Key) (o : Option CObj) : g.upd k o k = o := by simp [Fam.upd]
theorem Fam.upd_other (g : Fam) {k j : Key} (o : Option CObj) (h : j ≠ k) : g.upd k o j = g j := by simp [Fam.upd, h]
theorem Rel.sub {ψ : Psi} {g g' : Fam} {w : World} (h : Rel ψ g w) (hs : ∀ k o, g' k = some o → g k = some o) : Rel ψ g' w :=
  ⟨fun k o p a b => h.on k o p (hs k o a) b, fun k o a => h.tot k o (hs k o a), fun k₁ k₂ o₁ o₂ p₁ p₂ a b => h.inj k₁ k₂ o₁ o₂ p₁ p₂ (hs _ _ a) (hs _ _ b)⟩
end Go.Ev
namespace Go
def World.upB (w : World) (B : Nat) (o : Obj) : World := { w with heap := w.heap.setIfInBounds B o }
end Go
namespace Go.Ev
variable [Sym]
theorem xY {w : World} {B : Nat} (o : Obj) (h : B < w.heap.size) : (w.upB B o).heap[B]? = some o := by
  simp [World.upB, h]
theorem wS {w : World} {B C : Nat} (o : Obj) (h : C ≠ B) : (w.upB B o).heap[C]? = w.heap[C]? := by
  simp only [World.upB, Array.getElem?_setIfInBounds]
  rw [if_neg (fun e => h e.symm)]
theorem zDB (w : World) (B : Nat) (o : Obj) : (w.upB B o).heap.size = w.heap.size := by simp [World.upB]
theorem qp {ψ : Psi} {g : Fam} {n k : Key} {w : World} {p : Pl} {o o' : CObj} {ob : Obj} (h : Rel ψ g w) (hk : g k = some o) (hro : o.isRo = false)
    (hp : ψ k = some p) (ho' : xE ψ (w.upB p.blk ob) p o') : zq ψ g n w ψ (g.upd k (some o')) n (w.upB p.blk ob) := by
  have hlt := (h.on k o p hk hp).lt
  refine ⟨Psi.le_refl _, fun _ _ => rfl, ⟨?_, ?_, ?_⟩, ?_, ?_, by rw [zDB]; exact Nat.le_refl _, rfl, rfl, rfl, Nat.le_refl _, ?_⟩
  · intro j q pj hq hpj
    by_cases hj : j = k
    · subst hj
      rw [Fam.upd_same] at hq
      rw [hp] at hpj
      injection hq with hq; injection hpj with hpj
      subst hq; subst hpj; exact ho'
    · rw [Fam.upd_other _ _ hj] at hq
      refine xE.congr (wS _ fun e => hj ?_) (h.on j q pj hq hpj)
      exact h.inj j k q o pj p hq hk hpj hp (.inr hro) e
  · intro j q hq
    by_cases hj : j = k
    · subst hj; exact ⟨p, hp⟩
    · rw [Fam.upd_other _ _ hj] at hq; exact h.tot j q hq
  · intro k₁ k₂ o₁ o₂ p₁ p₂ h1 h2 h3 h4 hr e
    have e1 : ∃ q, g k₁ = some q ∧ (o₁.isRo = false → q.isRo = false) := by
      by_cases hj : k₁ = k
      · subst hj; exact ⟨o, hk, fun _ => hro⟩
      · rw [Fam.upd_other _ _ hj] at h1; exact ⟨_, h1, fun h => h⟩
    have e2 : ∃ q, g k₂ = some q ∧ (o₂.isRo = false → q.isRo = false) := by
      by_cases hj : k₂ = k
      · subst hj; exact ⟨o, hk, fun _ => hro⟩
      · rw [Fam.upd_other _ _ hj] at h2; exact ⟨_, h2, fun h => h⟩
    obtain ⟨q1, e1, r1⟩ := e1; obtain ⟨q2, e2, r2⟩ := e2
    exact h.inj k₁ k₂ q1 q2 p₁ p₂ e1 e2 h3 h4 (hr.imp r1 r2) e
  · intro B _ hfree
    exact wS _ fun e => hfree k o p hk hro hp e.symm
  · intro j q pj hq hroj hpj
    by_cases hj : j = k
    · subst hj
      rw [hp] at hpj; injection hpj with hpj; subst hpj
      exact .inl ⟨j, o, p, hk, hro, hp, rfl⟩
    · rw [Fam.upd_other _ _ hj] at hq
      exact .inl ⟨j, q, pj, hq, hroj, hpj, rfl⟩
  · intro j q pj hq hpj
    by_cases hj : j = k
    · subst hj
      rw [hp] at hpj; injection hpj with hpj; subst hpj
      exact .inl ⟨j, o, p, hk, hp, rfl⟩
    · rw [Fam.upd_other _ _ hj] at hq
      exact .inl ⟨j, q, pj, hq, hpj, rfl⟩
structure New (w w' : World) : Prop where
  size : w'.heap.size = w.heap.size + 1
  old : ∀ B, B < w.heap.size → w'.heap[B]? = w.heap[B]?
  tape : w'.tape = w.tape
  os : w'.os = w.os
  output : w'.output = w.output
def Psi.upd (ψ : Psi) (k : Key) (p : Pl) : Psi := fun j => if j = k then some p else ψ j
theorem Psi.upd_same (ψ : Psi) (k : Key) (p : Pl) : ψ.upd k p k = some p := by simp [Psi.upd]
theorem Psi.upd_other (ψ : Psi) {k j : Key} (p : Pl) (h : j ≠ k) : ψ.upd k p j = ψ j := by simp [Psi.upd, h]
theorem Psi.le_upd {ψ : Psi} {k : Key} (p : Pl) (h : ψ k = none) : ψ.le (ψ.upd k p) := by
  intro j q hj
  by_cases e : j = k
  · subst e; rw [h] at hj; cases hj
  · rw [Psi.upd_other _ _ e]; exact hj
theorem kT {ψ : Psi} {g : Fam} {n : Key} {w w' : World} {sz : Nat} {ck : Nat → Nat} {o : CObj} (h : Rel ψ g w) (hn : n.room) (hnone : ψ n = none) (hw : New w w')
    (ho : xE (ψ.upd n ⟨w.heap.size, 0, sz, ck⟩) w' ⟨w.heap.size, 0, sz, ck⟩ o) :
    zq ψ g n w (ψ.upd n ⟨w.heap.size, 0, sz, ck⟩) (g.upd n (some o)) n.succ w' := by
  have hix := Key.ix_succ hn
  have hle := Psi.le_upd (ψ := ψ) (k := n) ⟨w.heap.size, 0, sz, ck⟩ hnone
  have hgn : ∀ j q, g j = some q → j ≠ n := by
    intro j q hj e
    subst e
    obtain ⟨p, hp⟩ := h.tot j q hj
    rw [hnone] at hp; cases hp
  refine ⟨hle, fun k hk => ?_, ⟨?_, ?_, ?_⟩, fun B hB _ => hw.old B hB, ?_, by rw [hw.size]; omega, hw.tape, hw.os, hw.output, by omega, ?_⟩
  · exact Psi.upd_other _ _ (fun e => by subst e; omega)
  · intro j q pj hq hpj
    by_cases hj : j = n
    · subst hj
      rw [Fam.upd_same] at hq; rw [Psi.upd_same] at hpj
      injection hq with hq; injection hpj with hpj
      subst hq; subst hpj; exact ho
    · rw [Fam.upd_other _ _ hj] at hq; rw [Psi.upd_other _ _ hj] at hpj
      have := h.on j q pj hq hpj
      exact xE.congr (hw.old _ this.lt) (this.mono hle)
  · intro j q hq
    by_cases hj : j = n
    · subst hj; exact ⟨_, Psi.upd_same _ _ _⟩
    · rw [Fam.upd_other _ _ hj] at hq
      obtain ⟨p, hp⟩ := h.tot j q hq
      exact ⟨p, hle _ _ hp⟩
  · intro k₁ k₂ o₁ o₂ p₁ p₂ h1 h2 h3 h4 hr e
    by_cases j1 : k₁ = n <;> by_cases j2 : k₂ = n
    · rw [j1, j2]
    · exfalso
      subst j1
      rw [Psi.upd_same] at h3; injection h3 with h3; subst h3
      rw [Fam.upd_other _ _ j2] at h2; rw [Psi.upd_other _ _ j2] at h4
      have := (h.on _ _ _ h2 h4).lt
      simp only at e; omega
    · exfalso
      subst j2
      rw [Psi.upd_same] at h4; injection h4 with h4; subst h4
      rw [Fam.upd_other _ _ j1] at h1; rw [Psi.upd_other _ _ j1] at h3
      have := (h.on _ _ _ h1 h3).lt
      simp only at e; omega
    · rw [Fam.upd_other _ _ j1] at h1; rw [Psi.upd_other _ _ j1] at h3
      rw [Fam.upd_other _ _ j2] at h2; rw [Psi.upd_other _ _ j2] at h4
      exact h.inj _ _ _ _ _ _ h1 h2 h3 h4 hr e
  · intro j q pj hq hro hpj
    by_cases hj : j = n
    · subst hj
      rw [Psi.upd_same] at hpj; injection hpj with hpj; subst hpj
      exact .inr (Nat.le_refl _)
    · rw [Fam.upd_other _ _ hj] at hq; rw [Psi.upd_other _ _ hj] at hpj
      exact .inl ⟨j, q, pj, hq, hro, hpj, rfl⟩
  · intro j q pj hq hpj
    by_cases hj : j = n
    · subst hj
      rw [Psi.upd_same] at hpj; injection hpj with hpj; subst hpj
      exact .inr (Nat.le_refl _)
    · rw [Fam.upd_other _ _ hj] at hq; rw [Psi.upd_other _ _ hj] at hpj
      exact .inl ⟨j, q, pj, hq, hpj, rfl⟩
theorem zMs {ψ : Psi} {g : Fam} {n : Key} {w : World} (h : Rel ψ g w) (b : Key) : zq ψ g n w ψ (g.upd b none) n w := by
  have hs : ∀ k o, g.upd b none k = some o → g k = some o := by
    intro k o hk
    by_cases e : k = b
    · subst e; rw [Fam.upd_same] at hk; cases hk
    · rwa [Fam.upd_other _ _ e] at hk
  exact ⟨Psi.le_refl _, fun _ _ => rfl, h.sub hs, fun _ _ _ => rfl, fun k o p h1 h2 h3 => .inl ⟨k, o, p, hs k o h1, h2, h3, rfl⟩, Nat.le_refl _, rfl, rfl, rfl, Nat.le_refl _, fun k o p h1 h3 => .inl ⟨k, o, p, hs k o h1, h3, rfl⟩⟩
theorem zL5 {ψ : Psi} {g : Fam} {n b : Key} {w : World} {p p' : Pl} {o o' : CObj} {ob : Obj} (h : Rel ψ g w) (hn : n.room) (hnone : ψ n = none) (hb : g b = some o)
    (hro : o.isRo = false) (hp : ψ b = some p) (hpp : p'.blk = p.blk) (ho' : xE (ψ.upd n p') (w.upB p.blk ob) p' o') :
    zq ψ g n w (ψ.upd n p') ((g.upd b none).upd n (some o')) n.succ (w.upB p.blk ob) := by
  have hix := Key.ix_succ hn
  have hle := Psi.le_upd (ψ := ψ) (k := n) p' hnone
  have hlt := (h.on b o p hb hp).lt
  have hgn : ∀ j q, g j = some q → j ≠ n := by
    intro j q hj e
    subst e
    obtain ⟨p, hp⟩ := h.tot j q hj
    rw [hnone] at hp; cases hp
  have hold : ∀ j q, j ≠ n → ((g.upd b none).upd n (some o')) j = some q → j ≠ b ∧ g j = some q := by
    intro j q hj hq
    rw [Fam.upd_other _ _ hj] at hq
    by_cases e : j = b
    · subst e; rw [Fam.upd_same] at hq; cases hq
    · rw [Fam.upd_other _ _ e] at hq; exact ⟨e, hq⟩
  refine ⟨hle, fun k hk => ?_, ⟨?_, ?_, ?_⟩, ?_, ?_, by rw [zDB]; exact Nat.le_refl _, rfl, rfl, rfl, by omega, ?_⟩
  · exact Psi.upd_other _ _ (fun e => by subst e; omega)
  · intro j q pj hq hpj
    by_cases hj : j = n
    · subst hj
      rw [Fam.upd_same] at hq; rw [Psi.upd_same] at hpj
      injection hq with hq; injection hpj with hpj
      subst hq; subst hpj; exact ho'
    · obtain ⟨hjb, hq⟩ := hold j q hj hq
      rw [Psi.upd_other _ _ hj] at hpj
      refine xE.congr (wS _ fun e => hjb (h.inj j b q o pj p hq hb hpj hp (.inr hro) e)) ((h.on j q pj hq hpj).mono hle)
  · intro j q hq
    by_cases hj : j = n
    · subst hj; exact ⟨_, Psi.upd_same _ _ _⟩
    · obtain ⟨_, hq⟩ := hold j q hj hq
      obtain ⟨p, hp⟩ := h.tot j q hq
      exact ⟨p, hle _ _ hp⟩
  · intro k₁ k₂ o₁ o₂ p₁ p₂ h1 h2 h3 h4 hr e
    by_cases j1 : k₁ = n <;> by_cases j2 : k₂ = n
    · rw [j1, j2]
    · exfalso
      subst j1
      rw [Psi.upd_same] at h3; injection h3 with h3; subst h3
      obtain ⟨hjb, h2⟩ := hold _ _ j2 h2
      rw [Psi.upd_other _ _ j2] at h4
      exact hjb (h.inj _ b _ o _ p h2 hb h4 hp (.inr hro) (e.symm.trans hpp))
    · exfalso
      subst j2
      rw [Psi.upd_same] at h4; injection h4 with h4; subst h4
      obtain ⟨hjb, h1⟩ := hold _ _ j1 h1
      rw [Psi.upd_other _ _ j1] at h3
      exact hjb (h.inj _ b _ o _ p h1 hb h3 hp (.inr hro) (e.trans hpp))
    · obtain ⟨_, h1⟩ := hold _ _ j1 h1
      obtain ⟨_, h2⟩ := hold _ _ j2 h2
      rw [Psi.upd_other _ _ j1] at h3; rw [Psi.upd_other _ _ j2] at h4
      exact h.inj _ _ _ _ _ _ h1 h2 h3 h4 hr e
  · intro B _ hfree
    exact wS _ fun e => hfree b o p hb hro hp e.symm
  · intro j q pj hq hroj hpj
    by_cases hj : j = n
    · subst hj
      rw [Psi.upd_same] at hpj; injection hpj with hpj; subst hpj
      exact .inl ⟨b, o, p, hb, hro, hp, hpp.symm⟩
    · obtain ⟨_, hq⟩ := hold j q hj hq
      rw [Psi.upd_other _ _ hj] at hpj
      exact .inl ⟨j, q, pj, hq, hroj, hpj, rfl⟩
  · intro j q pj hq hpj
    by_cases hj : j = n
    · subst hj
      rw [Psi.upd_same] at hpj; injection hpj with hpj; subst hpj
      exact .inl ⟨b, o, p, hb, hp, hpp.symm⟩
    · obtain ⟨_, hq⟩ := hold j q hj hq
      rw [Psi.upd_other _ _ hj] at hpj
      exact .inl ⟨j, q, pj, hq, hpj, rfl⟩
theorem xL (b o n : Nat) : (⟨b, o, none⟩ : Addr).add n = ⟨b, o + n, none⟩ := by unfold Addr.add; split <;> simp_all
section
variable {ψ : Psi} {w : World} {P : Program}
theorem zBT.cell {p : Pl} {vs : List CV} (h : zBT ψ w p vs) {i : Nat} {c : CV} (hc : vs[i]? = some c) :
    ∃ x, w.cell? ⟨p.blk, p.off + i, none⟩ = some x ∧ zJ ψ c x := by
  obtain ⟨arr, e, fz, h1, h2, h3, h5⟩ := h
  obtain ⟨x, hx, hr⟩ := h5 i c hc
  exact ⟨x, by simp [World.cell?, h1, hx], hr⟩
theorem zBL {p : Pl} {vs : List CV} (h : zBT ψ w p vs) {i : Nat} {c : CV} (hc : vs[i]? = some c) :
    ∃ x, (load ⟨p.blk, p.off + i, none⟩).run P w = .ok x w ∧ zJ ψ c x := by
  obtain ⟨x, hx, hr⟩ := h.cell hc
  exact ⟨x, by rw [run_load, hx], hr⟩
theorem xN {p : Pl} {vs l : List CV} (h : zBT ψ w p vs) {off s : Nat} (hl : uj vs off s = some l) :
    ∃ xs : List Value, (loadCells ⟨p.blk, p.off + off, none⟩ s).run P w = .ok xs.toArray w ∧ zS ψ l xs := by
  obtain ⟨hlen, hget⟩ := xz hl
  have key : ∀ j, j < s → ∃ x, w.cell? ((⟨p.blk, p.off + off, none⟩ : Addr).add j) = some x ∧ ∀ c, l[j]? = some c → zJ ψ c x := by
    intro j hj
    have hc : l[j]? = some (l[j]'(by omega)) := List.getElem?_eq_getElem _
    have hv := (hget j hj).symm.trans hc
    obtain ⟨x, hx, hr⟩ := h.cell hv
    rw [xL]
    refine ⟨x, by rw [Nat.add_assoc]; exact hx, fun c hc' => ?_⟩
    rw [hc] at hc'; injection hc' with hc'; subst hc'; exact hr
  have cells : ∀ m, m ≤ s → ∃ xs : List Value, xs.length = m ∧ ∀ j, j < m → ∃ x, xs[j]? = some x ∧ w.cell? ((⟨p.blk, p.off + off, none⟩ : Addr).add j) = some x ∧
      ∀ c, l[j]? = some c → zJ ψ c x := by
    intro m
    induction m with
    | zero => exact fun _ => ⟨[], rfl, fun j hj => by omega⟩
    | succ m ih =>
      intro hm
      obtain ⟨xs, hxl, hxs⟩ := ih (by omega)
      obtain ⟨x, hx, hr⟩ := key m (by omega)
      refine ⟨xs ++ [x], by simp [hxl], fun j hj => ?_⟩
      by_cases e : j = m
      · subst e; exact ⟨x, by rw [List.getElem?_append_right (by omega)]; simp [hxl], hx, hr⟩
      · obtain ⟨y, hy, r⟩ := hxs j (by omega)
        exact ⟨y, by rw [List.getElem?_append_left (by omega)]; exact hy, r⟩
  obtain ⟨xs, hxl, hxs⟩ := cells s (Nat.le_refl _)
  refine ⟨xs, ?_, xj.2 ⟨by omega, fun i c v hc hv => ?_⟩⟩
  · have := run_loadCells_list (P := P) w ⟨p.blk, p.off + off, none⟩ xs (fun j v hv => by
      have hj : j < s := by
        rcases Nat.lt_or_ge j xs.length with h | h
        · omega
        · rw [List.getElem?_eq_none h] at hv; cases hv
      obtain ⟨x, hx, hc, _⟩ := hxs j hj
      rw [hx] at hv; injection hv with hv; subst hv; exact hc)
    rwa [hxl] at this
  · have hj : i < s := by
      rcases Nat.lt_or_ge i l.length with h | h
      · omega
      · rw [List.getElem?_eq_none h] at hc; cases hc
    obtain ⟨x, hx, _, hr⟩ := hxs i hj
    rw [hx] at hv; injection hv with hv; subst hv
    exact hr c hc
theorem ka (B o : Nat) (t : TypeId) (fz : Nat × Nat) : ∀ (vs : List Value) (i : Nat) (cur : Array Value) (w : World), w.heap[B]? = some (.cells cur t fz) →
    (fz.1 = fz.2 ∨ cur.size ≤ fz.1) → o + i + vs.length ≤ cur.size → (∀ v ∈ vs, v.oneCell' = true) →
    (storeCells ⟨B, o, none⟩ vs i).run P w = .ok () (w.upB B (.cells (cur.toList.take (o + i) ++ vs ++ cur.toList.drop (o + i + vs.length)).toArray t fz))
  | [], i, cur, w, hg, _, _, _ => by
    simp only [storeCells, List.append_nil, List.length_nil, Nat.add_zero, List.take_append_drop, Array.toArray_toList, Sem.run_pure]
    congr 1
    unfold World.upB
    have hB : B < w.heap.size := by
      rcases Nat.lt_or_ge B w.heap.size with h | h
      · exact h
      · rw [Array.getElem?_eq_none h] at hg; cases hg
    have : w.heap.setIfInBounds B (.cells cur t fz) = w.heap := by
      apply Array.ext_getElem?
      intro j
      rw [Array.getElem?_setIfInBounds]
      split
      · rename_i e; subst e; simp [hB] at hg ⊢; exact hg.symm
      · rfl
    rw [this]
  | v :: rest, i, cur, w, hg, hfz, hl, h1 => by
    have hi : o + i < cur.size := by simp at hl; omega
    have hB : B < w.heap.size := by
      rcases Nat.lt_or_ge B w.heap.size with h | h
      · exact h
      · rw [Array.getElem?_eq_none h] at hg; cases hg
    have hcell : w.cell? ⟨B, o + i, none⟩ = some cur[o + i] := by simp [World.cell?, hg, hi]
    have hfro : w.frozen? ⟨B, o + i, none⟩ = false := by
      simp only [World.frozen?, hg]
      rcases hfz with h | h
      · simp; omega
      · simp; omega
    have hset : w.setCell ⟨B, o + i, none⟩ v = w.upB B (.cells (cur.setIfInBounds (o + i) v) t fz) := by
      unfold World.setCell World.upB
      congr 1
      apply Array.ext_getElem?
      intro j
      rw [Array.getElem?_modify, Array.getElem?_setIfInBounds]
      split
      · rename_i e; subst e; rw [hg]; simp
      · rfl
    have hst : (store ((⟨B, o, none⟩ : Addr).add i) v).run P w = .ok () (w.upB B (.cells (cur.setIfInBounds (o + i) v) t fz)) := by
      rw [xL, run_store P w _ v _ (h1 v (by simp)), hcell]
      simp [hfro, hset]
    have ih := ka B o t fz rest (i + 1) (cur.setIfInBounds (o + i) v) (w.upB B (.cells (cur.setIfInBounds (o + i) v) t fz)) (xY _ hB)
      (by simpa using hfz) (by simp at hl ⊢; omega) (fun x hx => h1 x (by simp [hx]))
    simp only [storeCells, Sem.run_bind, hst, Result.andThen_ok, ih]
    have e := list_seg_step cur.toList (o + i) v rest (by simp at hl ⊢; omega)
    have e' : (List.take (o + (i + 1)) (cur.setIfInBounds (o + i) v).toList ++ rest ++ List.drop (o + (i + 1) + rest.length) (cur.setIfInBounds (o + i) v).toList) =
        (List.take (o + i) cur.toList ++ v :: rest ++ List.drop (o + i + (v :: rest).length) cur.toList) := by
      simpa [Array.toList_setIfInBounds, Nat.add_assoc] using e
    rw [e']
    congr 1
    unfold World.upB
    congr 1
    simp [Array.setIfInBounds_setIfInBounds]
theorem zDd {c : CV} {v : Value} (h : zJ ψ c v) (hc : c.single = true) : v.oneCell' = true := by
  cases c <;> simp only [CV.single, Bool.false_eq_true] at hc
  case bool => rw [zH] at h; subst h; rfl
  case nat => rw [zU] at h; subst h; rfl
  case int => rw [zc] at h; subst h; rfl
  case anyi => rw [yC] at h; obtain ⟨n, rfl⟩ := h; rfl
  case str => rw [zh] at h; obtain ⟨b, rfl, _⟩ := h; rfl
  case big => rw [qN] at h; obtain ⟨n, rfl, _⟩ := h; rfl
  case nilptr => rw [yx] at h; subst h; rfl
  case ptr => rw [zj] at h; obtain ⟨p, _, rfl⟩ := h; rfl
  case nilsl => rw [zl] at h; subst h; rfl
  case sl => rw [zw] at h; obtain ⟨p, x, c, _, rfl, _⟩ := h; rfl
  case nilmap => rw [zt] at h; subst h; rfl
  case map => rw [yY] at h; obtain ⟨p, _, rfl⟩ := h; rfl
  case func => rw [yk] at h; obtain ⟨a, b, rfl, _⟩ := h; rfl
  case nilfunc => rw [yi] at h; subst h; rfl
  case iface => rw [z7] at h; obtain ⟨y, rfl, _⟩ := h; rfl
  case niliface => rw [z8] at h; subst h; rfl
  case sst => rw [xI] at h; obtain ⟨b, rfl, _⟩ := h; rfl
  case win => rw [qV] at h; obtain ⟨_, base, l, c, i, rfl, _⟩ := h; rfl
  case sym i =>
    rw [yh] at h; subst h
    rcases Sym.one i with ⟨k, n, e⟩ | ⟨s, e⟩ <;> rw [e] <;> rfl
theorem wJ (l : List CV) : y9 l = true ↔ ∀ c ∈ l, c.single = true := by
  induction l with
  | nil => simp [y9]
  | cons c l ih =>
    have : y9 (c :: l) = (match c.single with | false => false | true => y9 l) := by
      cases h : c.single <;> simp [y9, h]
    rw [this]
    cases h : c.single <;> simp [h, ih]
theorem zCt {cs : List CV} {l : List Value} (h : zS ψ cs l) (hs : y9 cs = true) : ∀ v ∈ l, v.oneCell' = true := by
  induction cs generalizing l with
  | nil => rw [zL] at h; subst h; simp
  | cons c cs ih =>
    rw [zX] at h
    obtain ⟨v, r, rfl, h1, h2⟩ := h
    have hall := (wJ _).1 hs
    intro x hx
    rcases List.mem_cons.1 hx with rfl | hx
    · exact zDd h1 (hall c (by simp))
    · exact ih h2 ((wJ _).2 fun d hd => hall d (by simp [hd])) x hx
theorem jW {g : Fam} {k : Key} {p : Pl} {vs cs l : List CV} {xs : List Value} {off s : Nat} (n : Key) (hrel : Rel ψ g w) (hk : g k = some (.cells vs)) (hp : ψ k = some p)
    (hl : qe cs s vs off = some l) (hx : zS ψ cs xs) (hs : y9 cs = true) :
    ∃ w', (storeCells ⟨p.blk, p.off + off, none⟩ xs).run P w = .ok () w' ∧ zq ψ g n w ψ (g.upd k (some (.cells l))) n w' := by
  obtain ⟨arr, t, fz, h1, h2, h3, h4, h5⟩ := hrel.on k _ p hk hp
  obtain ⟨hcs, hle, hll, hin, hout⟩ := ww hl
  have hxl := hx.length
  have hlt : p.blk < w.heap.size := xE.lt (o := .cells vs) ⟨arr, t, fz, h1, h2, h3, h4, h5⟩
  refine ⟨_, ka p.blk (p.off + off) t fz xs 0 arr w h1 (by rw [h2]; exact h4) (by omega) (zCt hx hs), ?_⟩
  refine qp hrel hk rfl hp ⟨_, t, fz, xY _ hlt, by simp; omega, by omega, h4, fun i c hc => ?_⟩
  simp only [Nat.add_zero, List.getElem?_toArray]
  have htake : (arr.toList.take (p.off + off)).length = p.off + off := by simp; omega
  by_cases hi : off ≤ i ∧ i < off + s
  · have := hin (i - off) (by omega)
    rw [show off + (i - off) = i from by omega, hc] at this
    obtain ⟨x, hx1, hx2⟩ := hx.get this.symm
    refine ⟨x, ?_, hx2⟩
    rw [List.append_assoc, List.getElem?_append_right (by omega), htake, List.getElem?_append_left (by omega)]
    rw [show p.off + i - (p.off + off) = i - off from by omega]; exact hx1
  · have := hout i (by omega)
    rw [hc] at this
    obtain ⟨x, hx1, hx2⟩ := h5 i c this.symm
    refine ⟨x, ?_, hx2⟩
    by_cases hlo : i < off
    · rw [List.append_assoc, List.getElem?_append_left (by omega), List.getElem?_take_of_lt (by omega)]
      simpa using hx1
    · rw [List.getElem?_append_right (by simp; omega), List.getElem?_drop]
      have : p.off + off + xs.length + (p.off + i - (List.take (p.off + off) arr.toList ++ xs).length) = p.off + i := by simp; omega
      rw [this]; simpa using hx1
end
end Go.Ev

namespace Go.Ev
variable [Sym]
theorem zBo (l : List CV) : ui l = l.length := by
  induction l with
  | nil => rfl
  | cons x l ih => exact congrArg Nat.succ ih
section
variable {C : OR → Prop}
theorem yb (v : CV) (k : Key → Nat → OR) (e : Nat) (he : C (.err e)) (hk : ∀ b o, v = .ptr b o → C (k b o)) : C (zAO v k e) := by
  cases v <;> first | exact hk _ _ rfl | exact he
theorem vF (v : CV) (k : IntKind → Int → OR) (e : Nat) (he : C (.err e)) (h0 : ∀ n, v = .nat n → C (k .i64 (.ofNat n))) (hk : ∀ j n, v = .int j n → C (k j n)) :
    C (zNi v k e) := by
  cases v <;> first | exact h0 _ rfl | exact hk _ _ rfl | exact he
theorem zLs (v : CV) (k : Nat → OR) (j : IntKind → Int → OR) (e : Nat) (he : C (.err e)) (h0 : ∀ n, v = .nat n → C (k n)) (hk : ∀ i n, v = .int i n → C (j i n)) :
    C (zQJ v k j e) := by
  cases v <;> first | exact h0 _ rfl | exact hk _ _ rfl | exact he
theorem zJQ (v : CV) (k : Nat → OR) (e : Nat) (he : C (.err e)) (h0 : ∀ n, v = .nat n → C (k n)) (hk : ∀ i n, v = .int i (.ofNat n) → C (k n)) : C (vV v k e) := by
  refine zLs v k _ e he h0 fun i n hv => ?_
  cases n with
  | ofNat m => exact hk i m hv
  | negSucc m => exact he
theorem zx (v : CV) (k : List Nat → OR) (e : Nat) (he : C (.err e)) (hk : ∀ s, v = .str s → C (k s)) : C (vT v k e) := by
  cases v <;> first | exact hk _ rfl | exact he
theorem ki (v : CV) (k : Bool → OR) (e : Nat) (he : C (.err e)) (hk : ∀ b, v = .bool b → C (k b)) : C (zIQ v k e) := by
  cases v <;> first | exact hk _ rfl | exact he
theorem yB (v : CV) (z : OR) (k : Key → Nat → Nat → Nat → Nat → Bool → OR) (e : Nat) (he : C (.err e)) (hz : v = .nilsl → C z)
    (hk : ∀ b o l c s x, v = .sl b o l c s x → C (k b o l c s x)) : C (va v z k e) := by
  cases v <;> first | exact hz rfl | exact hk _ _ _ _ _ _ rfl | exact he
theorem w4 (v : CV) (k : Key → Nat → SE → SE → OR) (z : OR) (hz : C z) (hk : ∀ b s e n, v = .win b s e n → C (k b s e n)) : C (zNZ v k z) := by
  cases v <;> first | exact hk _ _ _ _ rfl | exact hz
theorem zC4 (v : CV) (k : List CV → OR) (z : OR) (hz : C z) (hk : ∀ l, v = .sst l → C (k l)) : C (zPL v k z) := by
  cases v <;> first | exact hk _ rfl | exact hz
theorem yu (v : CV) (z : OR) (k : Key → OR) (e : Nat) (he : C (.err e)) (hz : v = .nilmap → C z) (hk : ∀ b, v = .map b → C (k b)) : C (zCe v z k e) := by
  cases v <;> first | exact hz rfl | exact hk _ rfl | exact he
theorem vE (v : CV) (k : List CV → OR) (e : Nat) (he : C (.err e)) (hk : ∀ cs, v = .agg cs → C (k cs)) : C (zMq v k e) := by
  cases v <;> first | exact hk _ rfl | exact he
theorem zEi (v : CV) (k : List CV → OR) (e : Nat) (he : C (.err e)) (hk : ∀ cs, v = .tup cs → C (k cs)) : C (zPJ v k e) := by
  cases v <;> first | exact hk _ rfl | exact he
theorem k5 (v : CV) (k : Fn → List CV → List CV → OR) (e : Nat) (he : C (.err e)) (hk : ∀ f a c, v = .func f a c → C (k f a c)) : C (zI2 v k e) := by
  cases v <;> first | exact hk _ _ _ rfl | exact he
theorem xP (v : CV) (k : TypeId → CV → OR) (z : OR) (e : Nat) (he : C (.err e)) (hz : v = .niliface → C z) (hk : ∀ t x, v = .iface t x → C (k t x)) : C (zAW v k z e) := by
  cases v <;> first | exact hz rfl | exact hk _ _ rfl | exact he
theorem zE9 (v : CV) (k : IntKind → Int → OR) (u : IntKind → OR) (s : List Nat → OR) (e : Nat) (he : C (.err e)) (h0 : ∀ n, v = .nat n → C (k .i64 (.ofNat n)))
    (hk : ∀ j n, v = .int j n → C (k j n)) (hu : ∀ j, v = .anyi j → C (u j)) (hs : ∀ l, v = .str l → C (s l)) : C (zQn v k u s e) := by
  cases v <;> first | exact h0 _ rfl | exact hk _ _ rfl | exact hu _ rfl | exact hs _ rfl | exact he
theorem jE (v : CV) (k : IntKind → Int → OR) (u : IntKind → OR) (e : Nat) (he : C (.err e)) (h0 : ∀ n, v = .nat n → C (k .i64 (.ofNat n)))
    (hk : ∀ j n, v = .int j n → C (k j n)) (hu : ∀ j, v = .anyi j → C (u j)) : C (zMp v k u e) := by
  cases v <;> first | exact h0 _ rfl | exact hk _ _ rfl | exact hu _ rfl | exact he
theorem zF2 (v : CV) (k : Key → Nat → OR) (z : OR) (hz : C z) (hk : ∀ b o, v = .ptr b o → C (k b o)) : C (zQQ v k z) := by
  cases v <;> first | exact hk _ _ rfl | exact hz
theorem yF (o : Option CObj) (k : List CV → OR) (e : Nat) (he : C (.err e)) (hk : ∀ vs, o = some (.cells vs) → C (k vs)) : C (jR o k e) := by
  cases o with
  | none => exact he
  | some o => cases o <;> first | exact hk _ rfl | exact he
theorem xF (o : Option CObj) (k : List CV → OR) (e : Nat) (he : C (.err e)) (hk : ∀ vs, (o = some (.cells vs) ∨ o = some (.ro vs) ∨ ∃ u, o = some (.full u vs)) → C (k vs)) : C (vz o k e) := by
  cases o with
  | none => exact he
  | some o => cases o <;> first | exact hk _ (.inl rfl) | exact hk _ (.inr (.inl rfl)) | exact hk _ (.inr (.inr ⟨_, rfl⟩)) | exact he
theorem k9 (o : Option CObj) (k : Bool → List CV → OR) (z : OR) (hz : C z) (hk : ∀ u vs, o = some (.full u vs) → C (k u vs)) : C (zGg o k z) := by
  unfold zGg
  split
  · exact hk _ _ rfl
  · exact hz
theorem yE (o : Option CObj) (k : List CE → Nat → OR) (e : Nat) (he : C (.err e)) (hk : ∀ es c, o = some (.map es c) → C (k es c)) : C (wH o k e) := by
  cases o with
  | none => exact he
  | some o => cases o <;> first | exact hk _ _ rfl | exact he
theorem jH (v : Option CV) (e : Nat) (he : C (.err e)) (hk : ∀ x, v = some x → C (.val x)) : C (zDt v e) := by
  cases v with
  | none => exact he
  | some x => exact hk x rfl
theorem zDi (v : Option CV) (e : Nat) (he : C (.err e)) (hk : ∀ x, v = some x → C (.read x)) : C (zPM v e) := by
  cases v with
  | none => exact he
  | some x => exact hk x rfl
theorem kI (v : Option (List CV)) (e : Nat) (he : C (.err e)) (hk : ∀ x, v = some x → C (.val (.agg x))) : C (zQe v e) := by
  cases v with
  | none => exact he
  | some x => exact hk x rfl
theorem zEv (v : Option (List CV)) (e : Nat) (he : C (.err e)) (hk : ∀ x, v = some x → C (.read (.agg x))) : C (zPv v e) := by
  cases v with
  | none => exact he
  | some x => exact hk x rfl
theorem zFQ (v : Option (List Nat)) (e : Nat) (he : C (.err e)) (hk : ∀ x, v = some x → C (.val (.str x))) : C (zQP v e) := by
  cases v with
  | none => exact he
  | some x => exact hk x rfl
theorem yO (v : Option (List CV)) (k : List CV → OR) (e : Nat) (he : C (.err e)) (hk : ∀ x, v = some x → C (k x)) : C (onL v k e) := by
  cases v with
  | none => exact he
  | some x => exact hk x rfl
theorem wY (v : Option Nat) (k : Nat → OR) (e : Nat) (he : C (.err e)) (hk : ∀ x, v = some x → C (k x)) : C (onN v k e) := by
  cases v with
  | none => exact he
  | some x => exact hk x rfl
theorem zE (b : Bool) (k : OR) (e : Nat) (he : C (.err e)) (hk : b = true → C k) : C (yc b k e) := by
  cases b with
  | false => exact he
  | true => exact hk rfl
theorem zr (n : Nat) (k : Nat → OR) : vA n k = k n := by cases n <;> rfl
theorem qf (b : Bool) (t f : OR) : ifB b t f = if b = true then t else f := by cases b <;> rfl
end
section
variable {P : Program}
theorem qj {t : TypeId} {b : Bool} (h : xg P t = some b) (w : World) : (isAgg t).run P w = .ok b w := by
  unfold xg at h
  cases hd : P.underlying t with
  | none => rw [hd] at h; cases h
  | some d =>
    rw [hd] at h
    unfold isAgg
    rw [Sem.run_bind, run_underlying hd]
    cases d <;> simp_all
theorem yT {t : TypeId} {s : Nat} (h : xV P t = some s) (w : World) : (sizeOf t).run P w = .ok s w := by
  unfold xV at h
  cases hi : P.info? t with
  | none => rw [hi] at h; cases h
  | some i =>
    rw [hi] at h
    injection h with h
    simp [sizeOf, typeInfo, hi, h]
theorem qT {t : TypeId} {i : TypeInfo} (h : P.info? t = some i) (w : World) : (typeInfo t).run P w = .ok i w := by
  simp [typeInfo, h]
theorem zAq {ψ : Psi} {f : Value → Option CV} (hf : ∀ v c, f v = some c → zJ ψ c v) : ∀ (l : List Value) {cs : List CV}, yo f l = some cs → zS ψ cs l
  | [], cs, h => by injection h with h; subst h; exact zL.2 rfl
  | v :: l, cs, h => by
    unfold yo at h
    cases hv : f v with
    | none => rw [hv] at h; cases h
    | some c =>
      rw [hv] at h
      cases hl : yo f l with
      | none => simp [hl] at h
      | some r =>
        simp [hl] at h
        subst h
        exact zT.2 ⟨hf v c hv, zAq hf l hl⟩
theorem jK {ψ : Psi} : ∀ (d : Nat) {v : Value} {c : CV}, vZ d v = some c → zJ ψ c v
  | 0, _, _, h => by cases h
  | d + 1, v, c, h => by
    unfold vZ at h
    cases v with
    | bool b => injection h with h; subst h; exact zH.2 rfl
    | int k n =>
      injection h with h
      split at h <;> subst h
      · exact zU.2 rfl
      · exact zc.2 rfl
    | string s => injection h with h; subst h; exact zh.2 ⟨s, rfl, rfl⟩
    | pointer a => cases a with
      | none => injection h with h; subst h; exact yx.2 rfl
      | some a => cases h
    | slice a n m => cases a with
      | none =>
        cases n with
        | zero => cases m with
          | zero => injection h with h; subst h; exact zl.2 rfl
          | succ m => cases h
        | succ n => cases h
      | some a => cases h
    | map r => cases r with
      | none => injection h with h; subst h; exact zt.2 rfl
      | some r => cases h
    | nilFunc => injection h with h; subst h; exact yi.2 rfl
    | func fn a b =>
      simp only at h
      split at h
      · rename_i hab
        injection h with h; subst h
        exact yk.2 ⟨a, b, rfl, zL.2 (by simpa using hab.1), zL.2 (by simpa using hab.2)⟩
      · cases h
    | nilIface => injection h with h; subst h; exact z8.2 rfl
    | iface t v =>
      simp only at h
      cases hv : vZ d v with
      | none => rw [hv] at h; cases h
      | some c' =>
        rw [hv] at h; injection h with h; subst h
        exact z7.2 ⟨v, rfl, jK d hv⟩
    | agg cs =>
      simp only at h
      cases hv : yo (vZ d) cs.toList with
      | none => rw [hv] at h; cases h
      | some c' =>
        rw [hv] at h; injection h with h; subst h
        exact yU.2 ⟨cs, rfl, zAq (fun _ _ => jK d) _ hv⟩
    | tuple cs =>
      simp only at h
      cases hv : yo (vZ d) cs.toList with
      | none => rw [hv] at h; cases h
      | some c' =>
        rw [hv] at h; injection h with h; subst h
        exact z6.2 ⟨cs, rfl, zAq (fun _ _ => jK d) _ hv⟩
    | float k b => cases h
    | complex k a b => cases h
    | chan r => cases h
theorem u0 {t : TypeId} {z : CV} (h : kQ P t = some z) : ∃ v, (∀ w, (zeroValue t).run P w = .ok v w) ∧ ∀ ψ, zJ ψ z v := by
  unfold kQ at h
  cases hi : P.info? t with
  | none => rw [hi] at h; cases h
  | some i =>
    rw [hi] at h
    simp only [Option.bind_some] at h
    cases hz : i.zero with
    | none => rw [hz] at h; cases h
    | some v =>
      rw [hz] at h
      exact ⟨v, fun w => by simp [zeroValue, typeInfo, hi, hz], fun ψ => jK 20 h⟩
theorem wQ {ψ : Psi} {c : CV} {v : Value} {cs : List CV} (h : zJ ψ c v) (hc : cellsOf c = some cs) : zS ψ cs v.cells.toList := by
  have one : ∀ {c : CV} {v : Value}, zJ ψ c v → v.cells = #[v] → zS ψ [c] v.cells.toList := by
    intro c v h e; rw [e]; exact zT.2 ⟨h, zL.2 rfl⟩
  cases c <;> simp only [cellsOf, Option.some.injEq, reduceCtorEq] at hc
  case agg => rw [yU] at h; obtain ⟨a, rfl, h⟩ := h; subst hc; exact h
  all_goals
    subst hc
    refine one h ?_
    have := zDd h rfl
    cases v <;> first | rfl | cases this
theorem zIZ {t : TypeId} {z : List CV} (h : qc P t = some z) : ∃ v, (∀ w, (zeroValue t).run P w = .ok v w) ∧ ∀ ψ, zS ψ z v.cells.toList := by
  unfold qc at h
  cases hz : kQ P t with
  | none => rw [hz] at h; cases h
  | some c =>
    rw [hz] at h
    obtain ⟨v, h1, h2⟩ := u0 hz
    exact ⟨v, h1, fun ψ => wQ (h2 ψ) h⟩
end
section
variable (P : Program) (ψ : Psi) (h : Heap) (n : Key) (ρ : Operand → Value) (o : Op) (ty : TypeId)
def zEG (w : World) (B : Nat) : Nat := match w.heap[B]? with
  | some (.cells arr _ _) => arr.size
  | _ => 0
def jj (w w' : World) (x : Value) : Prop := ∃ nx, (execOp ρ { dst := none, op := o, type := ty, pos := "", after := #[], guard := none }).run P w = .ok nx w' ∧ (nx = .value x ∨ (nx = .skip ∧ x = undef))
def zC (w : World) : OR → Prop
  | .val v => ∃ x, jj P ρ o ty w w x ∧ zJ ψ v x
  | .read v => qA ψ (Heap.fam h) w → ∃ x, jj P ρ o ty w w x ∧ zJ ψ v x
  | .alloc ob v => ∃ w' x sz, jj P ρ o ty w w' x ∧ New w w' ∧ (∀ ψ', ψ.le ψ' → ψ' n = some ⟨w.heap.size, 0, sz, fun n => n⟩ → zJ ψ' v x ∧ xE ψ' w' ⟨w.heap.size, 0, sz, fun n => n⟩ ob) ∧ sz = zEG w' w.heap.size
  | .eff v h' n' => Rel ψ (Heap.fam h) w → (∀ k, n.ix ≤ k.ix → k.ix < n'.ix → ψ k = none) → n'.room →
      ∃ w' x ψ', jj P ρ o ty w w' x ∧ zq ψ (Heap.fam h) n w ψ' (Heap.fam h') n' w' ∧ zJ ψ' v x
  | .call f args => qA ψ (Heap.fam h) w → ∃ args', (execOp ρ { dst := none, op := o, type := ty, pos := "", after := #[], guard := none }).run P w = (callFunc f args').run P w ∧ zS ψ args args'.toList
  | .dfr f args => ∃ d fv cap args', (execOp ρ { dst := none, op := o, type := ty, pos := "", after := #[], guard := none }).run P w = .ok (.defer d) w ∧ d.target = .fn fv cap ∧
      (∀ w, (invoke d.target d.args).run P w = (callFunc f args').run P w) ∧ zS ψ args args'.toList
  | .recov => zCy o = true ∧ (execOp ρ { dst := none, op := o, type := ty, pos := "", after := #[], guard := none }).run P w = .ok .recover w
  | .err _ => True
  | .fork a b => Rel ψ (Heap.fam h) w → zC w a ∨ zC w b
end
end Go.Ev


