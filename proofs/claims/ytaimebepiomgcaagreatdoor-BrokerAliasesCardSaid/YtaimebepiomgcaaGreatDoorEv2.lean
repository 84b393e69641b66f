/- A verified evaluator for the model's code: EvC, EvOpt, EvD, EvE, EvF. -/
import Derived.Test.YtaimebepiomgcaaGreatDoorEv1
import Derived.Laws.Sem
import Derived.Laws.Cells
import Derived.Laws.CopyRow
import Derived.Laws.Entries
import Derived.ChangeKeysEq
import Derived.Laws.Slices
import Derived.Laws.StructEq
import Derived.Laws.Append
set_option linter.unusedSectionVars false
set_option linter.unusedVariables false
set_option linter.unusedSimpArgs false
namespace Go.Ev
variable [Sym]
theorem LV.get_nil (d : Dg) : LV.nil.get d = CV.any := by cases d <;> rfl
theorem LV.get_upd_same (f : CV → CV) (d : Dg) (t : LV) : (LV.upd f d t).get d = f (t.get d) := by cases d <;> cases t <;> rfl
theorem LV.get_upd_other (f : CV → CV) (d e : Dg) (t : LV) (h : e ≠ d) : (LV.upd f d t).get e = t.get e := by
  cases d <;> cases e <;> first | exact absurd rfl h | (cases t <;> rfl)
theorem L1.get_nil (d : Dg) : L1.nil.get d = LV.nil := by cases d <;> rfl
theorem L1.get_upd_same (f : LV → LV) (d : Dg) (t : L1) : (L1.upd f d t).get d = f (t.get d) := by cases d <;> cases t <;> rfl
theorem L1.get_upd_other (f : LV → LV) (d e : Dg) (t : L1) (h : e ≠ d) : (L1.upd f d t).get e = t.get e := by
  cases d <;> cases e <;> first | exact absurd rfl h | (cases t <;> rfl)
theorem HV.get_nil (d : Dg) : HV.nil.get d = none := by cases d <;> rfl
theorem HV.get_upd_same (f : Option CObj → Option CObj) (d : Dg) (t : HV) : (HV.upd f d t).get d = f (t.get d) := by cases d <;> cases t <;> rfl
theorem HV.get_upd_other (f : Option CObj → Option CObj) (d e : Dg) (t : HV) (h : e ≠ d) : (HV.upd f d t).get e = t.get e := by
  cases d <;> cases e <;> first | exact absurd rfl h | (cases t <;> rfl)
theorem H1.get_nil (d : Dg) : H1.nil.get d = HV.nil := by cases d <;> rfl
theorem H1.get_upd_same (f : HV → HV) (d : Dg) (t : H1) : (H1.upd f d t).get d = f (t.get d) := by cases d <;> cases t <;> rfl
theorem H1.get_upd_other (f : HV → HV) (d e : Dg) (t : H1) (h : e ≠ d) : (H1.upd f d t).get e = t.get e := by
  cases d <;> cases e <;> first | exact absurd rfl h | (cases t <;> rfl)
theorem H2.get_nil (d : Dg) : H2.nil.get d = H1.nil := by cases d <;> rfl
theorem H2.get_upd_same (f : H1 → H1) (d : Dg) (t : H2) : (H2.upd f d t).get d = f (t.get d) := by cases d <;> cases t <;> rfl
theorem H2.get_upd_other (f : H1 → H1) (d e : Dg) (t : H2) (h : e ≠ d) : (H2.upd f d t).get e = t.get e := by
  cases d <;> cases e <;> first | exact absurd rfl h | (cases t <;> rfl)
theorem H3.get_nil (d : Dg) : H3.nil.get d = H2.nil := by cases d <;> rfl
theorem H3.get_upd_same (f : H2 → H2) (d : Dg) (t : H3) : (H3.upd f d t).get d = f (t.get d) := by cases d <;> cases t <;> rfl
theorem H3.get_upd_other (f : H2 → H2) (d e : Dg) (t : H3) (h : e ≠ d) : (H3.upd f d t).get e = t.get e := by
  cases d <;> cases e <;> first | exact absurd rfl h | (cases t <;> rfl)
theorem zCY (o : Option CObj) (k : Key) (h : zD) : yK k (yn o k h) = o := by
  cases k; simp only [yK, yn, H3.get_upd_same, H2.get_upd_same, H1.get_upd_same, HV.get_upd_same]
theorem zCt (o : Option CObj) (k j : Key) (h : zD) (hne : j ≠ k) : yK j (yn o k h) = yK j h := by
  obtain ⟨a, b, c, d⟩ := k
  obtain ⟨a', b', c', d'⟩ := j
  simp only [yK, yn]
  by_cases h1 : a' = a
  · subst h1
    rw [H3.get_upd_same]
    by_cases h2 : b' = b
    · subst h2
      rw [H2.get_upd_same]
      by_cases h3 : c' = c
      · subst h3
        rw [H1.get_upd_same]
        by_cases h4 : d' = d
        · subst h4; exact absurd rfl hne
        · rw [HV.get_upd_other _ _ _ _ h4]
      · rw [H1.get_upd_other _ _ _ _ h3]
    · rw [H2.get_upd_other _ _ _ _ h2]
  · rw [H3.get_upd_other _ _ _ _ h1]
theorem zFy (o : Option CObj) (k j : Key) (h : zD) : yK j (yn o k h) = if j = k then o else yK j h := by
  split
  · subst_vars; exact zCY ..
  · exact zCt _ _ _ _ ‹_›
theorem zEj (p : Loc) : qO p Tm.nil = .any := by
  cases p <;> simp only [qO, Tm.nil, LV.get_nil, L1.get_nil]
theorem qx (v : CV) (p : Loc) (t : Tm) : qO p (kL v p t) = v := by
  cases p <;> cases t <;> simp only [qO, kL, LV.get_upd_same, L1.get_upd_same]
theorem xN (v : CV) (p q : Loc) (t : Tm) (hne : q ≠ p) : qO q (kL v p t) = qO q t := by
  cases t
  cases p with
  | s d => cases q with
    | s d' =>
      have : d' ≠ d := fun e => hne (by rw [e])
      simp only [qO, kL, LV.get_upd_other _ _ _ _ this]
    | w c' d' => rfl
  | w c d => cases q with
    | s d' => rfl
    | w c' d' =>
      simp only [qO, kL]
      by_cases h1 : c' = c
      · subst h1
        rw [L1.get_upd_same]
        have : d' ≠ d := fun e => hne (by rw [e])
        rw [LV.get_upd_other _ _ _ _ this]
      · rw [L1.get_upd_other _ _ _ _ h1]
theorem zBp {a b : Nat} (h : b < a) : Nat.ble a b = false := by
  cases e : Nat.ble a b with
  | false => rfl
  | true => have := Nat.le_of_ble_eq_true e; omega
theorem zP {a b : Nat} (h : Nat.ble a b = true) : a ≤ b := Nat.le_of_ble_eq_true h
theorem kI {a b : Nat} (h : a ≠ b) : Nat.beq a b = false := by
  cases e : Nat.beq a b with
  | false => rfl
  | true => exact absurd (Nat.eq_of_beq_eq_true e) h
theorem z7 {a b : Nat} (h : Nat.beq a b = true) : a = b := Nat.eq_of_beq_eq_true h
theorem qY (a : Nat) : Nat.beq a a = true := by simp
theorem Dg.ix_lt (d : Dg) : d.ix < 16 := by cases d <;> decide
theorem Dg.ix_inj {a b : Dg} (h : a.ix = b.ix) : a = b := by
  cases a <;> cases b <;> first | rfl | (exfalso; revert h; decide)
theorem Dg.succ_some {d e : Dg} (h : d.succ = some e) : e.ix = d.ix + 1 := by
  cases d <;> simp only [Dg.succ, Option.some.injEq, reduceCtorEq] at h <;> subst h <;> rfl
theorem Dg.succ_none {d : Dg} (h : d.succ = none) : d.ix = 15 := by
  cases d <;> simp only [Dg.succ, reduceCtorEq] at h <;> rfl
theorem Dg.ix_ofN {n : Nat} (h : n < 16) : (Dg.ofN n).ix = n := by
  match n, h with
  | 0, _ | 1, _ | 2, _ | 3, _ | 4, _ | 5, _ | 6, _ | 7, _ | 8, _ | 9, _ | 10, _ | 11, _ | 12, _ | 13, _ | 14, _ | 15, _ => rfl
  | n + 16, h => omega
theorem Key.ix_le (k : Key) : k.ix ≤ 65535 := by
  obtain ⟨a, b, c, d⟩ := k
  have := a.ix_lt; have := b.ix_lt; have := c.ix_lt; have := d.ix_lt
  simp only [Key.ix]; omega
theorem Key.ix_inj {j k : Key} (h : j.ix = k.ix) : j = k := by
  obtain ⟨a, b, c, d⟩ := j
  obtain ⟨a', b', c', d'⟩ := k
  have := a.ix_lt; have := b.ix_lt; have := c.ix_lt; have := d.ix_lt
  have := a'.ix_lt; have := b'.ix_lt; have := c'.ix_lt; have := d'.ix_lt
  simp only [Key.ix] at h
  have h4 : d.ix = d'.ix := by omega
  have h3 : c.ix = c'.ix := by omega
  have h2 : b.ix = b'.ix := by omega
  have h1 : a.ix = a'.ix := by omega
  rw [Dg.ix_inj h1, Dg.ix_inj h2, Dg.ix_inj h3, Dg.ix_inj h4]
theorem Key.ix_succ {k : Key} (h : k.ix < 65535) : k.succ.ix = k.ix + 1 := by
  obtain ⟨a, b, c, d⟩ := k
  simp only [Key.ix] at h ⊢
  simp only [Key.succ]
  have hz : Dg.d0.ix = 0 := rfl
  cases hd : d.succ with
  | some d' => have := Dg.succ_some hd; simp only []; omega
  | none =>
    have := Dg.succ_none hd
    cases hc : c.succ with
    | some c' => have := Dg.succ_some hc; simp only []; omega
    | none =>
      have := Dg.succ_none hc
      cases hb : b.succ with
      | some b' => have := Dg.succ_some hb; simp only []; omega
      | none =>
        have := Dg.succ_none hb
        cases ha : a.succ with
        | some a' => have := Dg.succ_some ha; simp only []; omega
        | none => have := Dg.succ_none ha; omega
theorem Key.ix_succ_top {k : Key} (h : k.ix = 65535) : k.succ.ix = 65535 := by
  obtain ⟨a, b, c, d⟩ := k
  have := a.ix_lt; have := b.ix_lt; have := c.ix_lt; have := d.ix_lt
  simp only [Key.ix] at h
  have ha : a = .d15 := Dg.ix_inj (by show a.ix = 15; omega)
  have hb : b = .d15 := Dg.ix_inj (by show b.ix = 15; omega)
  have hc : c = .d15 := Dg.ix_inj (by show c.ix = 15; omega)
  have hd : d = .d15 := Dg.ix_inj (by show d.ix = 15; omega)
  subst_vars; rfl
theorem Key.ix_le_succ (k : Key) : k.ix ≤ k.succ.ix := by
  have := k.ix_le
  by_cases h : k.ix = 65535
  · rw [Key.ix_succ_top h]; omega
  · rw [Key.ix_succ (by omega)]; omega
def Key.room (k : Key) : Prop := k.ix < 65535
theorem Key.room_of_succ {k : Key} (h : k.succ.room) : k.room := by
  have := k.ix_le
  unfold Key.room at *
  by_cases h' : k.ix = 65535
  · rw [Key.ix_succ_top h'] at h; omega
  · omega
theorem Key.ix_ofNat {n : Nat} (h : n ≤ 65535) : (Key.ofNat n).ix = n := by
  simp only [Key.ofNat, Key.ix, Dg.ix_ofN (Nat.mod_lt _ (by omega : 16 > 0))]
  omega
theorem Loc.ofNat_inj {a b : Nat} (ha : a ≤ 271) (hb : b ≤ 271) (h : Loc.ofNat a = Loc.ofNat b) : a = b := by
  unfold Loc.ofNat at h
  by_cases h1 : a ≤ 15 <;> by_cases h2 : b ≤ 15
  · rw [Nat.ble_eq_true_of_le h1, Nat.ble_eq_true_of_le h2] at h
    injection h with h
    have := congrArg Dg.ix h
    rw [Dg.ix_ofN (by omega), Dg.ix_ofN (by omega)] at this
    exact this
  · rw [Nat.ble_eq_true_of_le h1, (zBp (by omega) : Nat.ble b 15 = false)] at h
    cases h
  · rw [Nat.ble_eq_true_of_le h2, (zBp (by omega) : Nat.ble a 15 = false)] at h
    cases h
  · rw [(zBp (by omega) : Nat.ble a 15 = false), (zBp (by omega) : Nat.ble b 15 = false)] at h
    injection h with h1 h2
    have e1 := congrArg Dg.ix h1
    have e2 := congrArg Dg.ix h2
    rw [Dg.ix_ofN (by omega), Dg.ix_ofN (by omega)] at e1 e2
    omega
theorem yN {α : Type} (l : List α) (k : Nat) : nth l k = l[k]? := by
  induction l generalizing k with
  | nil => rfl
  | cons x xs ih => cases k with
    | zero => rfl
    | succ k => simp [nth, ih]
theorem kj (l : List CV) (k : Nat) : zDK l k = l[k]? := by
  induction l generalizing k with
  | nil => rfl
  | cons x xs ih => cases k with
    | zero => rfl
    | succ k => simpa [zDK] using ih k
theorem zGi (l : List Nat) (k : Nat) : zOD l k = l[k]? := by
  induction l generalizing k with
  | nil => rfl
  | cons x xs ih => cases k with
    | zero => rfl
    | succ k => simpa [zOD] using ih k
theorem zNw (l : List CV) (k : Nat) : zKw l k = l.drop k := by
  induction l generalizing k with
  | nil => simp [zKw]
  | cons x xs ih => cases k with
    | zero => rfl
    | succ k => simpa [zKw] using ih k
theorem zMd (l : List Nat) (k : Nat) : zKy l k = l.drop k := by
  induction l generalizing k with
  | nil => simp [zKy]
  | cons x xs ih => cases k with
    | zero => rfl
    | succ k => simpa [zKy] using ih k
theorem zL9 (l : List CV) (k : Nat) : zKF l k = if k ≤ l.length then some (l.take k) else none := by
  induction l generalizing k with
  | nil => cases k with
    | zero => rfl
    | succ k => rfl
  | cons x xs ih => cases k with
    | zero => rfl
    | succ k =>
      have : zKF (x :: xs) (k + 1) = zEH x (zKF xs k) := rfl
      rw [this, ih]
      by_cases h : k ≤ xs.length
      · rw [if_pos h, if_pos (by simpa using h)]; rfl
      · rw [if_neg h, if_neg (by simpa using h)]; rfl
theorem zIm (l : List Nat) (k : Nat) : zG9 l k = if k ≤ l.length then some (l.take k) else none := by
  induction l generalizing k with
  | nil => cases k with
    | zero => rfl
    | succ k => rfl
  | cons x xs ih => cases k with
    | zero => rfl
    | succ k =>
      have : zG9 (x :: xs) (k + 1) = zJ2 x (zG9 xs k) := rfl
      rw [this, ih]
      by_cases h : k ≤ xs.length
      · rw [if_pos h, if_pos (by simpa using h)]; rfl
      · rw [if_neg h, if_neg (by simpa using h)]; rfl
theorem zEW {l r : List CV} {off n : Nat} (h : vw l off n = some r) : (n = 0 ∨ off + n ≤ l.length) ∧ r = (l.drop off).take n := by
  unfold vw at h
  rw [zL9, zNw] at h
  split at h
  · rename_i hle
    rw [List.length_drop] at hle
    exact ⟨by omega, (Option.some.inj h).symm⟩
  · cases h
theorem xq {l r : List CV} {off n : Nat} (h : vw l off n = some r) : r.length = n ∧ ∀ i, i < n → r[i]? = l[off + i]? := by
  obtain ⟨hle, rfl⟩ := zEW h
  refine ⟨by simp; omega, fun i hi => ?_⟩
  rw [List.getElem?_take_of_lt hi, List.getElem?_drop]
theorem zK1 {l r : List Nat} {off n : Nat} (h : zPU l off n = some r) : (n = 0 ∨ off + n ≤ l.length) ∧ r = (l.drop off).take n := by
  unfold zPU at h
  rw [zIm, zMd] at h
  split at h
  · rename_i hle
    rw [List.length_drop] at hle
    exact ⟨by omega, (Option.some.inj h).symm⟩
  · cases h
theorem zDS {xs l r : List CV} {s : Nat} (h : zCj xs s l = some r) : xs.length = s ∧ s ≤ l.length ∧ r = xs ++ l.drop s := by
  induction xs generalizing s l r with
  | nil => cases s with
    | zero => exact ⟨rfl, Nat.zero_le _, (Option.some.inj h).symm⟩
    | succ s => cases h
  | cons x xs ih => cases s with
    | zero => cases h
    | succ s => cases l with
      | nil => cases h
      | cons y l =>
        have e : zCj (x :: xs) (s + 1) (y :: l) = zEH x (zCj xs s l) := rfl
        rw [e] at h
        cases hr : zCj xs s l with
        | none => rw [hr] at h; cases h
        | some r' =>
          rw [hr] at h
          obtain ⟨h1, h2, h3⟩ := ih hr
          injection h with h
          exact ⟨by simp [h1], by simpa using h2, by rw [← h, h3]; simp⟩
theorem zG6 {xs l r : List CV} {s k : Nat} (h : qf xs s l k = some r) : xs.length = s ∧ k + s ≤ l.length ∧ r = l.take k ++ xs ++ l.drop (k + s) := by
  induction l generalizing k r with
  | nil => cases k with
    | zero =>
      obtain ⟨h1, h2, h3⟩ := zDS (show zCj xs s [] = some r from h)
      exact ⟨h1, by simpa using h2, by simpa using h3⟩
    | succ k => cases h
  | cons y l ih => cases k with
    | zero =>
      obtain ⟨h1, h2, h3⟩ := zDS (show zCj xs s (y :: l) = some r from h)
      exact ⟨h1, by simpa using h2, by simpa using h3⟩
    | succ k =>
      have e : qf xs s (y :: l) (k + 1) = zEH y (qf xs s l k) := rfl
      rw [e] at h
      cases hr : qf xs s l k with
      | none => rw [hr] at h; cases h
      | some r' =>
        rw [hr] at h
        obtain ⟨h1, h2, h3⟩ := ih hr
        injection h with h
        refine ⟨h1, by simp; omega, ?_⟩
        rw [← h, h3]
        have : k + 1 + s = (k + s) + 1 := by omega
        simp [this]
theorem wh {xs l r : List CV} {s k : Nat} (h : qf xs s l k = some r) : xs.length = s ∧ k + s ≤ l.length ∧ r.length = l.length ∧
    (∀ i, i < s → r[k + i]? = xs[i]?) ∧ (∀ i, i < k ∨ k + s ≤ i → r[i]? = l[i]?) := by
  obtain ⟨h1, h2, rfl⟩ := zG6 h
  have hk : (l.take k).length = k := by simp; omega
  refine ⟨h1, h2, by simp; omega, fun i hi => ?_, fun i hi => ?_⟩
  · rw [List.append_assoc, List.getElem?_append_right (by omega), hk, Nat.add_sub_cancel_left, List.getElem?_append_left (by omega)]
  · rcases hi with hi | hi
    · rw [List.append_assoc, List.getElem?_append_left (by omega), List.getElem?_take_of_lt hi]
    · rw [List.getElem?_append_right (by simp; omega), List.getElem?_drop]
      congr 1; simp; omega
theorem w8 (l : List Nat) : zA9 l = l.length := by
  induction l with
  | nil => rfl
  | cons x xs ih => simp only [List.length_cons, ← ih]; rfl
theorem zGW (l : List CE) : zOd l = l.length := by
  induction l with
  | nil => rfl
  | cons x xs ih => simp only [List.length_cons, ← ih]; rfl
theorem zOv (a b : List Nat) : zPY a b = a ++ b := by
  induction a with
  | nil => rfl
  | cons x xs ih => simp only [List.cons_append, ← ih]; rfl
theorem kg (a b : List CV) : zBQ a b = a ++ b := by
  induction a with
  | nil => rfl
  | cons x xs ih => simp only [List.cons_append, ← ih]; rfl
theorem zB7 (x : List CV) (n : Nat) : (jc x n).length = n * x.length := by
  induction n with
  | zero => simp [jc]
  | succ n ih => rw [jc, List.length_append, ih, Nat.succ_mul]; omega
theorem zMI {x : List CV} (n : Nat) {i : Nat} (h : i < n * x.length) : (jc x n)[i]? = x[i % x.length]? := by
  induction n generalizing i with
  | zero => simp at h
  | succ n ih =>
    rw [jc]
    by_cases hi : i < x.length
    · rw [List.getElem?_append_left hi, Nat.mod_eq_of_lt hi]
    · rw [List.getElem?_append_right (by omega), ih (by rw [Nat.succ_mul] at h; omega)]
      congr 1
      rw [Nat.mod_eq_sub_mod (by omega : i ≥ x.length)]
theorem jO (a b : List Nat) : xg a b = decide (a = b) := by
  induction a generalizing b with
  | nil => cases b <;> simp [xg]
  | cons x xs ih => cases b with
    | nil => simp [xg]
    | cons y ys =>
      have e : xg (x :: xs) (y :: ys) = (match Nat.beq x y with | false => false | true => xg xs ys) := by
        cases h : Nat.beq x y <;> simp [xg, h]
      rw [e, ih]
      by_cases h : x = y
      · subst h; simp
      · rw [kI h]; simp [h]
theorem zl (a b : Int) : yt a b = decide (a = b) := by
  cases a with
  | ofNat a => cases b with
    | ofNat b =>
      show Nat.beq a b = _
      by_cases h : a = b
      · subst h; simp
      · rw [kI h]; simp; omega
    | negSucc b => show false = _; simp
  | negSucc a => cases b with
    | ofNat b => show false = _; simp
    | negSucc b =>
      show Nat.beq a b = _
      by_cases h : a = b
      · subst h; simp
      · rw [kI h]; simp [h]
theorem xr (a b : Int) : kE a b = decide (a < b) := by
  cases a with
  | ofNat a => cases b with
    | ofNat b =>
      show Nat.ble (a + 1) b = _
      by_cases h : a < b
      · rw [Nat.ble_eq_true_of_le h]; simp [h]
      · rw [(zBp (by omega) : Nat.ble (a + 1) b = false)]; simp; omega
    | negSucc b => show false = _; simp; omega
  | negSucc a => cases b with
    | ofNat b => show true = _; simp; omega
    | negSucc b =>
      show Nat.ble (b + 1) a = _
      by_cases h : b < a
      · rw [Nat.ble_eq_true_of_le h]; simp; omega
      · rw [(zBp (by omega) : Nat.ble (b + 1) a = false)]; simp; omega
theorem xB (j k : IntKind) : kEq j k = decide (j = k) := by cases j <;> cases k <;> rfl
theorem ku (b : Bool) : zAI b = !b := by cases b <;> rfl
end Go.Ev

namespace Go.Ev
def zGF : List zS → Nat → zS
  | [], _ => .k .any
  | x :: _, 0 => x
  | _ :: l, n + 1 => zGF l n
def jt (s : List zS) (x : zS) : zS := match x with
  | .e i => zGF s i
  | .l p => .l p
  | .k v => .k v
def w4 (g : zS → zS) : Option zS → Option zS
  | none => none
  | some x => some (g x)
def zDy (g : zS → zS) : List zS → List zS
  | [] => []
  | x :: l => g x :: zDy g l
def zLE (g : zS → zS) : List zGB → List zGB
  | [] => []
  | p :: l => ⟨p.off, p.size, g p.arg⟩ :: zLE g l
def zDO (g : zS → zS) : COp → COp
  | .mv x => .mv (g x)
  | .pick c a b => .pick (g c) (g a) (g b)
  | .alloc cs => .alloc cs
  | .box x => .box (g x)
  | .build z ps => .build z (zLE g ps)
  | .bslice z l e ps => .bslice z l e (zLE g ps)
  | .load1 x => .load1 (g x)
  | .loadN s x => .loadN s (g x)
  | .store s a x => .store s (g a) (g x)
  | .nilck x => .nilck (g x)
  | .arith op x y => .arith op (g x) (g y)
  | .eq n k c x y => .eq n k c (g x) (g y)
  | .un op x => .un op (g x)
  | .cvInt k x => .cvInt k (g x)
  | .cvStr x => .cvStr (g x)
  | .cvSB x => .cvSB (g x)
  | .cvMark x => .cvMark (g x)
  | .cvBS x => .cvBS (g x)
  | .iface t x => .iface t (g x)
  | .mkfn f a b => .mkfn f (zDy g a) (zDy g b)
  | .mkmap => .mkmap
  | .mkslice z e b l c => .mkslice z e b (g l) (g c)
  | .slArr l e x a b c => .slArr l e (g x) (w4 g a) (w4 g b) (w4 g c)
  | .slSl e x a b c => .slSl e (g x) (w4 g a) (w4 g b) (w4 g c)
  | .slStr x a b => .slStr (g x) (w4 g a) (w4 g b)
  | .addOff k x => .addOff k (g x)
  | .part a o s x => .part a o s (g x)
  | .ixArr l e x i => .ixArr l e (g x) (g i)
  | .ixSl e x i => .ixSl e (g x) (g i)
  | .ixAgg l e a x i => .ixAgg l e a (g x) (g i)
  | .ixStr x i => .ixStr (g x) (g i)
  | .lookup kk z ok x k => .lookup kk z ok (g x) (g k)
  | .mapupd kk m k v => .mapupd kk (g m) (g k) (g v)
  | .rangeStr x => .rangeStr (g x)
  | .rangeMap x => .rangeMap (g x)
  | .next s x => .next s (g x)
  | .entry x => .entry (g x)
  | .tassert t z ok x => .tassert t z ok (g x)
  | .tiface t z ok x => .tiface t z ok (g x)
  | .extract i x => .extract i (g x)
  | .call f a => .call f (zDy g a)
  | .ext e a => .ext e (zDy g a)
  | .callv f a => .callv (g f) (zDy g a)
  | .invoke r n a => .invoke (g r) n (zDy g a)
  | .append e b s x => .append e b (g s) (g x)
  | .appz z e s x => .appz z e (g s) (g x)
  | .copy e d x => .copy e (g d) (g x)
  | .lenStr x => .lenStr (g x)
  | .lenSl x => .lenSl (g x)
  | .lenMap x => .lenMap (g x)
  | .capSl x => .capSl (g x)
  | .delete kk m k => .delete kk (g m) (g k)
  | .clearMap x => .clearMap (g x)
  | .clearSl z e x => .clearSl z e (g x)
  | .minmax mx x r => .minmax mx (g x) (zDy g r)
  | .defer f a => .defer (g f) (zDy g a)
  | .recov => .recov
  | .bad c => .bad c
noncomputable section
section
variable [Sym] {P : Program} {g : zS → zS} {es es' : List CV} {tm : Tm}
theorem zKU (hg : ∀ x, aV es' tm (g x) = aV es tm x) : ∀ l, aVs es' tm (zDy g l) = aVs es tm l
  | [] => rfl
  | x :: l => by
    show aV es' tm (g x) :: aVs es' tm (zDy g l) = aV es tm x :: aVs es tm l
    rw [hg, zKU hg l]
theorem zFf (hg : ∀ x, aV es' tm (g x) = aV es tm x) : ∀ ps cells, vx es' tm (zLE g ps) cells = vx es tm ps cells
  | [], _ => rfl
  | p :: l, cells => by
    show Option.rec (motive := fun _ => Option (List CV)) none (vx es' tm (zLE g l)) (zAR p.size p.off cells (cellsOf (aV es' tm (g p.arg)))) = Option.rec (motive := fun _ => Option (List CV)) none (vx es tm l) (zAR p.size p.off cells (cellsOf (aV es tm p.arg)))
    rw [hg, show vx es' tm (zLE g l) = vx es tm l from funext (zFf hg l)]
theorem zJn (hg : ∀ x, aV es' tm (g x) = aV es tm x) (x : Option zS) (y d : Nat) (k : Nat → OR) (e : Nat) : uz es' tm (w4 g x) y d k e = uz es tm x y d k e := by
  cases x with
  | none => rfl
  | some x =>
    show vU (aV es' tm (g x)) (fun i => yY (Nat.ble i y) (k i) e) e = vU (aV es tm x) (fun i => yY (Nat.ble i y) (k i) e) e
    rw [hg]
theorem zHN (hg : ∀ x, aV es' tm (g x) = aV es tm x) (l c : Nat) (x y z : Option zS) (k : Nat → Nat → Nat → OR) (e : Nat) : qZ es' tm l c (w4 g x) (w4 g y) (w4 g z) k e = qZ es tm l c x y z k e := by
  unfold qZ
  simp only [zJn hg]
theorem zHr (hg : ∀ x, aV es' tm (g x) = aV es tm x) (h : zD) (b : Key) (o c s : Nat) (ex : Bool) (x y z : Option zS) (k : OR) : uB es' tm h b o c s ex (w4 g x) (w4 g y) (w4 g z) k = uB es tm h b o c s ex x y z k := by
  cases ex <;> cases x <;> cases y <;> cases z <;> first | rfl | (simp only [w4, uB, hg])
theorem zJi (x : Option zS) : (w4 g x).isSome = x.isSome := by cases x <;> rfl
theorem zD4 (hg : ∀ x, aV es' tm (g x) = aV es tm x) (op : COp) (h : zD) (n : Key) : yA P (zDO g op) es' tm h n = yA P op es tm h n := by
  have h1 := zKU (g := g) hg
  have h2 := zFf (g := g) hg
  have h3 := zHN (g := g) hg
  have h4 := zHr (g := g) hg
  have h5 : ∀ (l c : Nat) (x y : Option zS) (k : Nat → Nat → Nat → OR) (e : Nat), qZ es' tm l c (w4 g x) (w4 g y) none k e = qZ es tm l c x y none k e := fun l c x y k e => h3 l c x y none k e
  cases op <;> first
    | rfl
    | (simp only [zDO, yA, xMv, zPh, zN6, zQk, zOa, zKm, zMv, zND, zNG, zMJ, zNq, xEq, xUn, zMi, zMy, zPg, zKi, zPm, zNt, zPs, zMC, zHO, zMU, zPe, zN9, zJ5, zPr, zN3, zPd, zMH, zMT, zKI, zKu, zEZ, zE3, zPx, zL8,
        zHV, zKX, zHf, zPy, zPw, zNc, zJL, uI, zJP, zEM, zKr, zNu, zKR, zNC, zJ9, zEX, zIc, zKl, zMj, zMs, zQe, hg, h1, h2, h3, h4, h5, zJi])
end
end
def zJW (p d : Loc) : Bool := decide (p = d)
def noW (p : Loc) : List x9 → Bool
  | [] => true
  | i :: r => (match i with
    | .i _ => true
    | .o _ d => !zJW p d
    | .g _ _ _ none => true
    | .g _ _ _ (some d) => !zJW p d) && noW p r
def zGe (op : COp) : Option zS := match op with
  | .mv x => some x
  | _ => none
def zIx (i : x9) : Option Loc := match i with
  | .o op d => (match zGe op with
    | some (.e 0) => some d
    | _ => none)
  | _ => none
def inl (y : zS) (r : List x9) : Bool := match y with
  | .l p => noW p r
  | _ => true
def upA (x : zS) : zS := match x with
  | .e i => .e (i + 1)
  | .l p => .l p
  | .k v => .k v
def shA (s : List zS) : List zS := .e 0 :: s.map upA
def jA : List x9 → Option COp → List zS → List x9
  | [], none, _ => []
  | [], some q, _ => [.i q]
  | i :: r, q, s => match q, zIx i with
    | some q, some d => .o q d :: jA r none (.e 0 :: s)
    | q, _ => (match q with
      | some q => [.i q]
      | none => []) ++ (match i with
      | .i op => (match zGe op with
        | some x => (match inl (jt s x) r with
          | true => jA r none (jt s x :: s)
          | false => jA r (some (.mv (jt s x))) (shA s))
        | none => jA r (some (zDO (jt s) op)) (shA s))
      | .o op d => .o (zDO (jt s) op) d :: jA r none (shA s)
      | .g x w op d => .g (jt s x) w (zDO (jt s) op) d :: jA r none (shA s))
def vF : CCode → CCode
  | .region ops => .region (jA ops none [])
  | .seq a b => .seq (vF a) (vF b)
  | .cond x a b => .cond x (vF a) (vF b)
  | .block i b => .block i (vF b)
  | .loop b => .loop (vF b)
  | .scope b => .scope (vF b)
  | .skip => .skip
  | .dregion l => .dregion l
  | .exit i => .exit i
  | .ret => .ret
  | .bad c => .bad c
def zJS : CFn → CFn
  | .mk b r => .mk (vF b) r
  | .mkD o b r => .mkD o (vF b) r
  | .ext e => .ext e
  | .bad c => .bad c
def zCw (i : x9) (r : List x9) (s : List zS) : List x9 := match i with
  | .i op => (match zGe op with
    | some x => (match inl (jt s x) r with
      | true => jA r none (jt s x :: s)
      | false => jA r (some (.mv (jt s x))) (shA s))
    | none => jA r (some (zDO (jt s) op)) (shA s))
  | .o op d => .o (zDO (jt s) op) d :: jA r none (shA s)
  | .g x w op d => .g (jt s x) w (zDO (jt s) op) d :: jA r none (shA s)
theorem zK9 (i : x9) (r : List x9) (s : List zS) : jA (i :: r) none s = zCw i r s := by
  cases i <;> rfl
theorem zLQ (i : x9) (r : List x9) (q : COp) (s : List zS) : jA (i :: r) (some q) s = match zIx i with
    | some d => .o q d :: jA r none (.e 0 :: s)
    | none => .i q :: zCw i r s := by
  show (match some q, zIx i with
    | some q, some d => x9.o q d :: jA r none (.e 0 :: s)
    | q, _ => (match q with
      | some q => [x9.i q]
      | none => []) ++ zCw i r s) = _
  cases zIx i <;> rfl
theorem zLr {op : COp} {r : List x9} {s : List zS} (h : zGe op = none) : zCw (.i op) r s = jA r (some (zDO (jt s) op)) (shA s) := by
  unfold zCw
  simp only [h]
theorem zLI {x : zS} {r : List x9} {s : List zS} (h : inl (jt s x) r = true) : zCw (.i (.mv x)) r s = jA r none (jt s x :: s) := by
  unfold zCw
  simp only [zGe, h]
theorem zJa {x : zS} {r : List x9} {s : List zS} (h : inl (jt s x) r = false) : zCw (.i (.mv x)) r s = jA r (some (.mv (jt s x))) (shA s) := by
  unfold zCw
  simp only [zGe, h]
theorem zEV {op : COp} {x : zS} (h : zGe op = some x) : op = .mv x := by
  unfold zGe at h
  split at h
  · injection h with h; rw [h]
  · cases h
theorem zLX {i : x9} {d : Loc} (h : zIx i = some d) : i = .o (.mv (.e 0)) d := by
  unfold zIx at h
  split at h
  · rename_i op d'
    split at h
    · rename_i e
      injection h with h
      rw [zEV e, h]
    · cases h
  · cases h
def zQp (i : x9) : Option Loc := match i with
  | .i _ => none
  | .o _ d => some d
  | .g _ _ _ d => d
theorem va {p : Loc} {i : x9} {r : List x9} (h : noW p (i :: r) = true) : noW p r = true ∧ ∀ d, zQp i = some d → d ≠ p := by
  unfold noW at h
  rw [Bool.and_eq_true] at h
  refine ⟨h.2, fun d hd e => ?_⟩
  subst e
  have h1 := h.1
  cases i with
  | i _ => cases hd
  | o _ d' =>
    injection hd with hd
    subst hd
    simp [zJW] at h1
  | g _ _ _ d' =>
    have hd : d' = some d := hd
    subst hd
    simp [zJW] at h1
noncomputable section
section
variable [Sym] {P : Program} {call : yS}
theorem x8 {k k' : KE} {d d' : Option Loc} {es es' : List CV} {tm : Tm} {ds : xM}
    (H : ∀ v ds h n, zx d v tm (fun tm => k (v :: es) tm ds h n) = zx d' v tm (fun tm => k' (v :: es') tm ds h n)) :
    ∀ (r : OR) (h : zD) (n : Key), after r call k d es tm ds h n = after r call k' d' es' tm ds h n
  | .val v, h, n => H v ds h n
  | .read v, h, n => H v ds h n
  | .alloc o v, h, n => H v ds (yn (some o) n h) n.succ
  | .eff v h' n', _, _ => H v ds h' n'
  | .call f args, h, n => by
    have : ∀ r : R, R.rec (motive := fun _ => R) (fun _ _ _ _ _ => .err 300) (fun v h n => zx d v tm fun tm => k (v :: es) tm ds h n) (fun c => .err c) (fun _ _ a b => .fork a b) r =
        R.rec (motive := fun _ => R) (fun _ _ _ _ _ => .err 300) (fun v h n => zx d' v tm fun tm => k' (v :: es') tm ds h n) (fun c => .err c) (fun _ _ a b => .fork a b) r := by
      intro r
      induction r with
      | ok => rfl
      | ret v h n => exact H v ds h n
      | err => rfl
      | fork a b iha ihb => show R.fork _ _ = R.fork _ _; rw [iha, ihb]
    exact this (call false f args h n)
  | .dfr f args, h, n => H .undef ((f, args) :: ds) h n
  | .recov, h, n => H .niliface ds h n
  | .err c, _, _ => rfl
  | .fork a b, h, n => by
    show R.fork (after a call k d es tm ds h n) (after b call k d es tm ds h n) = R.fork (after a call k' d' es' tm ds h n) (after b call k' d' es' tm ds h n)
    rw [x8 H a, x8 H b]
def wF (s : List zS) (es es' : List CV) (tm : Tm) : Prop := ∀ x, aV es' tm (jt s x) = aV es tm x
theorem zH9 {s : List zS} {es es' : List CV} {tm : Tm} {y : zS} {v : CV} (h : wF s es es' tm) (hy : aV es' tm y = v) : wF (y :: s) (v :: es) es' tm := by
  intro x
  cases x with
  | e i => cases i with
    | zero => exact hy
    | succ i => exact h (.e i)
  | l p => rfl
  | k v => rfl
theorem zQA {es : List CV} {tm : Tm} {v : CV} (x : zS) : aV (v :: es) tm (upA x) = aV es tm x := by cases x <;> rfl
theorem zIa {v : CV} {es : List CV} {tm : Tm} : ∀ (s : List zS) (i : Nat), aV (v :: es) tm (zGF (s.map upA) i) = aV es tm (zGF s i)
  | [], _ => rfl
  | x :: _, 0 => zQA x
  | _ :: s, i + 1 => zIa s i
theorem zGf {s : List zS} {es es' : List CV} {tm : Tm} (h : wF s es es' tm) (v : CV) : wF (shA s) (v :: es) (v :: es') tm := by
  intro x
  cases x with
  | e i => cases i with
    | zero => rfl
    | succ i =>
      show aV (v :: es') tm (zGF (s.map upA) i) = aV es tm (.e i)
      rw [zIa]
      exact h (.e i)
  | l p => rfl
  | k v => rfl
def OkW (s : List zS) (ops : List x9) : Prop := ∀ p, zS.l p ∈ s → noW p ops = true
theorem zIh : ∀ {s : List zS} {i : Nat} {p : Loc}, zGF s i = .l p → zS.l p ∈ s
  | [], _, _, h => by cases h
  | x :: _, 0, _, h => by
    have h : x = _ := h
    rw [h]; simp
  | _ :: s, i + 1, _, h => List.mem_cons_of_mem _ (zIh (s := s) h)
theorem zKa {s : List zS} {es es' : List CV} {tm : Tm} {d : Loc} {v : CV} (h : wF s es es' tm) (hs : ∀ p, zS.l p ∈ s → d ≠ p) : wF s es es' (kL v d tm) := by
  intro x
  cases x with
  | e i =>
    have h0 : aV es' tm (zGF s i) = aV es tm (.e i) := h (.e i)
    show aV es' (kL v d tm) (zGF s i) = aV es tm (.e i)
    rw [← h0]
    cases hc : zGF s i with
    | e j => rfl
    | l p =>
      show qO p (kL v d tm) = qO p tm
      exact xN v d p tm (fun e => hs p (zIh hc) e.symm)
    | k w => rfl
  | l p => rfl
  | k v => rfl
theorem zKO {s : List zS} {p : Loc} (h : zS.l p ∈ shA s) : zS.l p ∈ s := by
  unfold shA at h
  rcases List.mem_cons.1 h with h | h
  · cases h
  · obtain ⟨x, hx, e⟩ := List.mem_map.1 h
    cases x with
    | e i => cases e
    | l q => injection e with e; rw [← e]; exact hx
    | k v => cases e
theorem zCZ {s : List zS} {i : x9} {r : List x9} (h : OkW s (i :: r)) : OkW (shA s) r := fun p hp => (va (h p (zKO hp))).1
theorem zJ4 : ∀ (ops : List x9),
    (∀ (s : List zS) (es es' : List CV) (tm : Tm) (ds : xM) (h : zD) (n : Key), wF s es es' tm → OkW s ops → yb P call (jA ops none s) es' tm ds h n = yb P call ops es tm ds h n) ∧
    (∀ (q : COp) (s : List zS) (es es' : List CV) (tm : Tm) (ds : xM) (h : zD) (n : Key), (∀ v, wF s (v :: es) (v :: es') tm) → OkW s ops → yb P call (jA ops (some q) s) es' tm ds h n = after (yA P q es' tm h n) call (yb P call ops) none es tm ds h n)
  | [] => ⟨fun s es es' tm ds h n hi ho => rfl, fun q s es es' tm ds h n hi ho => by
    show after (yA P q es' tm h n) call (yb P call []) none es' tm ds h n = after (yA P q es' tm h n) call (yb P call []) none es tm ds h n
    exact x8 (k := yb P call []) (k' := yb P call []) (d := none) (d' := none) (es := es') (es' := es) (fun v ds h n => rfl) _ _ _⟩
  | i :: r => by
    obtain ⟨ih1, ih2⟩ := zJ4 r
    have body : ∀ (s : List zS) (es es' : List CV) (tm : Tm) (ds : xM) (h : zD) (n : Key), wF s es es' tm → OkW s (i :: r) → yb P call (zCw i r s) es' tm ds h n = yb P call (i :: r) es tm ds h n := by
      intro s es es' tm ds h n hi ho
      have hput : ∀ d, zQp i = some d → ∀ v, wF (shA s) (v :: es) (v :: es') (kL v d tm) := fun d hd v => zKa (zGf hi v) fun p hp => (va (ho p (zKO hp))).2 d hd
      cases i with
      | i op =>
        cases hm : zGe op with
        | none =>
          rw [zLr hm]
          refine (ih2 _ _ es es' tm ds h n (zGf hi) (zCZ ho)).trans ?_
          rw [zD4 hi]
          rfl
        | some x =>
          obtain rfl := zEV hm
          cases hl : inl (jt s x) r with
          | true =>
            rw [zLI hl]
            refine (ih1 _ (aV es tm x :: es) es' tm ds h n (zH9 hi (hi x)) fun p hp => ?_).trans rfl
            rcases List.mem_cons.1 hp with hp | hp
            · rw [← hp] at hl
              exact hl
            · exact (va (ho p hp)).1
          | false =>
            rw [zJa hl]
            refine (ih2 _ _ es es' tm ds h n (zGf hi) (zCZ ho)).trans ?_
            show yb P call r (aV es' tm (jt s x) :: es) tm ds h n = yb P call r (aV es tm x :: es) tm ds h n
            rw [hi x]
      | o op d =>
        show after (yA P (zDO (jt s) op) es' tm h n) call (yb P call (jA r none (shA s))) (some d) es' tm ds h n = after (yA P op es tm h n) call (yb P call r) (some d) es tm ds h n
        rw [zD4 hi]
        refine x8 (k := yb P call (jA r none (shA s))) (k' := yb P call r) (d := some d) (d' := some d) (es := es') (es' := es) (fun v ds h n => ?_) _ _ _
        exact ih1 _ _ _ _ _ _ _ (hput d rfl v) (zCZ ho)
      | g x w op d =>
        show iG P call (jt s x) w (zDO (jt s) op) d (yb P call (jA r none (shA s))) es' tm ds h n = iG P call x w op d (yb P call r) es tm ds h n
        have H : ∀ v ds h n, zx d v tm (fun tm => yb P call (jA r none (shA s)) (v :: es') tm ds h n) = zx d v tm (fun tm => yb P call r (v :: es) tm ds h n) := by
          intro v ds h n
          cases d with
          | none => exact ih1 _ _ _ _ _ _ _ (zGf hi v) (zCZ ho)
          | some d => exact ih1 _ _ _ _ _ _ _ (hput d rfl v) (zCZ ho)
        unfold iG
        rw [hi x, zD4 hi]
        cases qq w (aV es tm x) with
        | true => exact x8 H _ _ _
        | false => cases jx (aV es tm x) with
          | true => exact H .undef ds h n
          | false => rfl
    refine ⟨fun s es es' tm ds h n hi ho => ?_, fun q s es es' tm ds h n hi ho => ?_⟩
    · rw [zK9]
      exact body s es es' tm ds h n hi ho
    · rw [zLQ]
      cases hf : zIx i with
      | some d =>
        obtain rfl := zLX hf
        show after (yA P q es' tm h n) call (yb P call (jA r none (.e 0 :: s))) (some d) es' tm ds h n = _
        refine x8 (k := yb P call (jA r none (.e 0 :: s))) (k' := yb P call (.o (.mv (.e 0)) d :: r)) (d := some d) (d' := none) (es := es') (es' := es) (fun v ds h n => ?_) _ _ _
        refine (ih1 _ (v :: v :: es) (v :: es') (kL v d tm) ds h n (zH9 (zKa (hi v) fun p hp => (va (ho p hp)).2 d rfl) rfl) fun p hp => ?_).trans rfl
        rcases List.mem_cons.1 hp with hp | hp
        · cases hp
        · exact (va (ho p hp)).1
      | none =>
        show after (yA P q es' tm h n) call (yb P call (zCw i r s)) none es' tm ds h n = _
        refine x8 (k := yb P call (zCw i r s)) (k' := yb P call (i :: r)) (d := none) (d' := none) (es := es') (es' := es) (fun v ds h n => ?_) _ _ _
        exact body s (v :: es) (v :: es') tm ds h n (hi v) ho
theorem zK4 (ops : List x9) : yb P call (jA ops none []) [] = yb P call ops [] := by
  funext tm ds h n
  exact (zJ4 ops).1 [] [] [] tm ds h n (fun x => by cases x <;> rfl) (fun p hp => by cases hp)
theorem zDM (c : CCode) : zi P call (vF c) = zi P call c := by
  induction c with
  | region ops => exact zK4 ops
  | seq a b iha ihb =>
    show (fun tm ds h n => xp (zi P call (vF b)) (zi P call (vF a) tm ds h n)) = _
    rw [iha, ihb]; rfl
  | cond x a b iha ihb =>
    show (fun tm ds h n => zFa (zi P call (vF a)) (zi P call (vF b)) (aV [] tm x) tm ds h n) = _
    rw [iha, ihb]; rfl
  | block i b ih =>
    show (fun tm ds h n => wi i (zi P call (vF b) tm ds h n)) = _
    rw [ih]; rfl
  | loop b ih =>
    show ub vk (zi P call (vF b)) = _
    rw [ih]; rfl
  | scope b ih =>
    show zi P call (vF b) = _
    rw [ih]; rfl
  | _ => rfl
theorem zFc (d : Bool) (fn : CFn) (args : List CV) (h : zD) (n : Key) : ua P d call (zJS fn) args h n = ua P d call fn args h n := by
  cases fn with
  | mk b r =>
    show yg d call r (zi P call (vF b) (qE args 0 .nil) [] h n) = _
    rw [zDM]; rfl
  | mkD o b r =>
    cases d with
    | true =>
      show yg true call r (xp (zi P call (vF b)) (yb P call o [] (qE args 0 .nil) [] h n)) = _
      rw [zDM]; rfl
    | false => rfl
  | ext e => rfl
  | bad c => rfl
end
end
end Go.Ev

namespace Go.Ev
variable [Sym]
structure Pl where
  blk : Nat
  off : Nat
  sz : Nat
  ck : Nat → Nat
abbrev Psi := Key → Option Pl
mutual
def zH (ψ : Psi) : CV → Value → Prop
  | .bool b, v => v = .bool b
  | .nat n, v => v = .int .i64 (Int.ofNat n)
  | .int k n, v => v = .int k n
  | .anyi k, v => ∃ n, v = .int k n
  | .str s, v => ∃ b, v = .string b ∧ zj b = s
  | .nilptr, v => v = .pointer none
  | .ptr b o, v => ∃ p, ψ b = some p ∧ v = .pointer (some ⟨p.blk, p.off + o, none⟩)
  | .nilsl, v => v = .slice none 0 0
  | .sl b o len cap esz ex, v => ∃ p x cap', ψ b = some p ∧ v = .slice (some ⟨p.blk, x, none⟩) len cap' ∧ cap ≤ cap' ∧ len ≤ cap' ∧ (ex = true → cap' = cap) ∧
      ((x = p.off + o ∧ (ex = false → x + cap' * esz = p.sz)) ∨ cap' = 0)
  | .nilmap, v => v = .map none
  | .map b, v => ∃ p, ψ b = some p ∧ v = .map (some p.blk)
  | .func fn a c, v => ∃ a' c', v = .func fn a' c' ∧ zT ψ a a'.toList ∧ zT ψ c c'.toList
  | .nilfunc, v => v = .nilFunc
  | .iface t x, v => ∃ y, v = .iface t y ∧ zH ψ x y
  | .niliface, v => v = .nilIface
  | .agg cs, v => ∃ a, v = .agg a ∧ zT ψ cs a.toList
  | .tup cs, v => ∃ a, v = .tuple a ∧ zT ψ cs a.toList
  | .sym i, v => v = Sym.val i
  | .win b esz e n, v => Sym.arg b = some v ∧ ∃ base : Option Addr, ∃ len cap : Nat, ∃ i : Int, v = .slice base len cap ∧ Sym.val n = .int .i64 len ∧ Sym.val e = .int .i64 i ∧
      (0 ≤ i → i < len → ∃ p x, ψ b = some p ∧ base = some ⟨p.blk, x, none⟩ ∧ p.off = x + i.toNat * esz)
  | .sst l, v => ∃ b : ByteArray, v = .string b ∧ zT ψ l (b.data.toList.map fun x => Value.int .u8 (Int.ofNat x.toNat))
  | .big n, v => ∃ m : Nat, v = .int .i64 (Int.ofNat m) ∧ n ≤ m
  | .few i t, v => ∃ (m : Nat) (b : ByteArray), Sym.val ⟨.i64, 0, [(i, 1)]⟩ = .int .i64 m ∧ v = .string b ∧ t[m]? = some (zj b)
  | .elt b off i m, v => ∃ (p : Pl) (k : Nat), ψ b = some p ∧ Sym.val ⟨.i64, 0, [(i, 1)]⟩ = .int .i64 k ∧ k ≤ m ∧ v = .pointer (some ⟨p.blk, p.off + (off + k), none⟩)
  | .any, _ => True
def zT (ψ : Psi) : List CV → List Value → Prop
  | [], l => l = []
  | c :: cs, l => ∃ v r, l = v :: r ∧ zH ψ c v ∧ zT ψ cs r
end
def Psi.le (ψ ψ' : Psi) : Prop := ∀ k p, ψ k = some p → ψ' k = some p
theorem Psi.le_refl (ψ : Psi) : ψ.le ψ := fun _ _ h => h
theorem Psi.le_trans {a b c : Psi} (h : a.le b) (h' : b.le c) : a.le c := fun k p e => h' k p (h k p e)
mutual
theorem zH.mono {ψ ψ' : Psi} (hle : ψ.le ψ') : ∀ (c : CV) {v : Value}, zH ψ c v → zH ψ' c v
  | .bool _, _, h => h
  | .nat _, _, h => h
  | .int _ _, _, h => h
  | .anyi _, _, h => h
  | .str _, _, h => h
  | .nilptr, _, h => h
  | .ptr _ _, _, h => by
    unfold zH at h ⊢
    obtain ⟨p, hp, e⟩ := h
    exact ⟨p, hle _ _ hp, e⟩
  | .nilsl, _, h => h
  | .sl .., _, h => by
    unfold zH at h ⊢
    obtain ⟨p, x, c, hp, r⟩ := h
    exact ⟨p, x, c, hle _ _ hp, r⟩
  | .nilmap, _, h => h
  | .map _, _, h => by
    unfold zH at h ⊢
    obtain ⟨p, hp, e⟩ := h
    exact ⟨p, hle _ _ hp, e⟩
  | .func _ a c, _, h => by
    unfold zH at h ⊢
    obtain ⟨a', c', e, h1, h2⟩ := h
    exact ⟨a', c', e, zT.mono hle a h1, zT.mono hle c h2⟩
  | .nilfunc, _, h => h
  | .iface _ x, _, h => by
    unfold zH at h ⊢
    obtain ⟨y, e, h1⟩ := h
    exact ⟨y, e, zH.mono hle x h1⟩
  | .niliface, _, h => h
  | .agg cs, _, h => by
    unfold zH at h ⊢
    obtain ⟨a, e, h1⟩ := h
    exact ⟨a, e, zT.mono hle cs h1⟩
  | .tup cs, _, h => by
    unfold zH at h ⊢
    obtain ⟨a, e, h1⟩ := h
    exact ⟨a, e, zT.mono hle cs h1⟩
  | .sym _, _, h => h
  | .win .., _, h => by
    unfold zH at h ⊢
    obtain ⟨h0, base, len, cap, i, h1, h2, h3, h4⟩ := h
    refine ⟨h0, base, len, cap, i, h1, h2, h3, fun q1 q2 => ?_⟩
    obtain ⟨p, x, hp, r⟩ := h4 q1 q2
    exact ⟨p, x, hle _ _ hp, r⟩
  | .sst l, _, h => by
    unfold zH at h ⊢
    obtain ⟨b, e, h1⟩ := h
    exact ⟨b, e, zT.mono hle l h1⟩
  | .big _, _, h => h
  | .few _ _, _, h => h
  | .elt .., _, h => by
    unfold zH at h ⊢
    obtain ⟨p, k, hp, r⟩ := h
    exact ⟨p, k, hle _ _ hp, r⟩
  | .any, _, _ => by unfold zH; trivial
theorem zT.mono {ψ ψ' : Psi} (hle : ψ.le ψ') : ∀ (cs : List CV) {l : List Value}, zT ψ cs l → zT ψ' cs l
  | [], _, h => h
  | c :: cs, _, h => by
    unfold zT at h ⊢
    obtain ⟨v, r, e, h1, h2⟩ := h
    exact ⟨v, r, e, zH.mono hle c h1, zT.mono hle cs h2⟩
end
section
variable {ψ : Psi}
theorem zM {l : List Value} : zT ψ [] l ↔ l = [] := by unfold zT; rfl
theorem zb {c : CV} {cs : List CV} {l : List Value} : zT ψ (c :: cs) l ↔ ∃ v r, l = v :: r ∧ zH ψ c v ∧ zT ψ cs r := by
  rw [zT]
theorem zX {c : CV} {cs : List CV} {v : Value} {r : List Value} : zT ψ (c :: cs) (v :: r) ↔ zH ψ c v ∧ zT ψ cs r := by
  rw [zb]
  constructor
  · rintro ⟨v', r', e, h1, h2⟩; cases e; exact ⟨h1, h2⟩
  · rintro ⟨h1, h2⟩; exact ⟨v, r, rfl, h1, h2⟩
theorem zT.length {cs : List CV} {l : List Value} (h : zT ψ cs l) : l.length = cs.length := by
  induction cs generalizing l with
  | nil => rw [zM] at h; subst h; rfl
  | cons c cs ih =>
    rw [zb] at h
    obtain ⟨v, r, rfl, _, h2⟩ := h
    simp [ih h2]
theorem xu {cs : List CV} {l : List Value} : zT ψ cs l ↔ l.length = cs.length ∧ ∀ (i : Nat) (c : CV) (v : Value), cs[i]? = some c → l[i]? = some v → zH ψ c v := by
  induction cs generalizing l with
  | nil => rw [zM]; cases l <;> simp
  | cons c cs ih =>
    cases l with
    | nil => rw [zb]; simp
    | cons v r =>
      rw [zX, ih]
      constructor
      · rintro ⟨h1, h2, h3⟩
        refine ⟨by simp [h2], fun i d u hd hu => ?_⟩
        cases i with
        | zero => simp at hd hu; subst hd; subst hu; exact h1
        | succ i => exact h3 i d u (by simpa using hd) (by simpa using hu)
      · rintro ⟨h1, h2⟩
        refine ⟨h2 0 c v rfl rfl, by simpa using h1, fun i d u hd hu => h2 (i + 1) d u (by simpa using hd) (by simpa using hu)⟩
theorem zT.get {cs : List CV} {l : List Value} (h : zT ψ cs l) {i : Nat} {c : CV} (hc : cs[i]? = some c) : ∃ v, l[i]? = some v ∧ zH ψ c v := by
  obtain ⟨h1, h2⟩ := xu.1 h
  have hi : i < cs.length := by
    rcases Nat.lt_or_ge i cs.length with h | h
    · exact h
    · rw [List.getElem?_eq_none h] at hc; cases hc
  have : l[i]? = some (l[i]'(by omega)) := List.getElem?_eq_getElem _
  exact ⟨_, this, h2 i c _ hc this⟩
theorem zT.append {a b : List CV} {l m : List Value} (h : zT ψ a l) (h' : zT ψ b m) : zT ψ (a ++ b) (l ++ m) := by
  induction a generalizing l with
  | nil => rw [zM] at h; subst h; exact h'
  | cons c a ih =>
    rw [zb] at h
    obtain ⟨v, r, rfl, h1, h2⟩ := h
    exact zX.2 ⟨h1, ih h2⟩
theorem zT.take {cs : List CV} {l : List Value} (h : zT ψ cs l) (n : Nat) : zT ψ (cs.take n) (l.take n) := by
  obtain ⟨h1, h2⟩ := xu.1 h
  refine xu.2 ⟨by simp [h1], fun i c v hc hv => ?_⟩
  rw [List.getElem?_take] at hc hv
  split at hc
  · rename_i hi; rw [if_pos hi] at hv; exact h2 i c v hc hv
  · cases hc
theorem zT.drop {cs : List CV} {l : List Value} (h : zT ψ cs l) (n : Nat) : zT ψ (cs.drop n) (l.drop n) := by
  obtain ⟨h1, h2⟩ := xu.1 h
  refine xu.2 ⟨by simp [h1], fun i c v hc hv => ?_⟩
  rw [List.getElem?_drop] at hc hv
  exact h2 _ c v hc hv
theorem zJ {b : Bool} {v : Value} : zH ψ (.bool b) v ↔ v = .bool b := by rw [zH]
theorem zY {n : Nat} {v : Value} : zH ψ (.nat n) v ↔ v = .int .i64 (Int.ofNat n) := by rw [zH]
theorem zg {k : IntKind} {n : Int} {v : Value} : zH ψ (.int k n) v ↔ v = .int k n := by rw [zH]
theorem yV {k : IntKind} {v : Value} : zH ψ (.anyi k) v ↔ ∃ n, v = .int k n := by rw [zH]
theorem zf {s : List Nat} {v : Value} : zH ψ (.str s) v ↔ ∃ b, v = .string b ∧ zj b = s := by rw [zH]
theorem xF {v : Value} : zH ψ .nilptr v ↔ v = .pointer none := by rw [zH]
theorem zm {b : Key} {o : Nat} {v : Value} : zH ψ (.ptr b o) v ↔ ∃ p, ψ b = some p ∧ v = .pointer (some ⟨p.blk, p.off + o, none⟩) := by rw [zH]
theorem zp {v : Value} : zH ψ .nilsl v ↔ v = .slice none 0 0 := by rw [zH]
theorem z8 {b : Key} {o len cap esz : Nat} {ex : Bool} {v : Value} : zH ψ (.sl b o len cap esz ex) v ↔ ∃ p x cap', ψ b = some p ∧ v = .slice (some ⟨p.blk, x, none⟩) len cap' ∧ cap ≤ cap' ∧ len ≤ cap' ∧
    (ex = true → cap' = cap) ∧ ((x = p.off + o ∧ (ex = false → x + cap' * esz = p.sz)) ∨ cap' = 0) := by rw [zH]
theorem yD {v : Value} : zH ψ .nilmap v ↔ v = .map none := by rw [zH]
theorem yZ {b : Key} {v : Value} : zH ψ (.map b) v ↔ ∃ p, ψ b = some p ∧ v = .map (some p.blk) := by rw [zH]
theorem yz {fn : Fn} {a c : List CV} {v : Value} : zH ψ (.func fn a c) v ↔ ∃ a' c', v = .func fn a' c' ∧ zT ψ a a'.toList ∧ zT ψ c c'.toList := by rw [zH]
theorem y7 {v : Value} : zH ψ .nilfunc v ↔ v = .nilFunc := by rw [zH]
theorem yM {t : TypeId} {x : CV} {v : Value} : zH ψ (.iface t x) v ↔ ∃ y, v = .iface t y ∧ zH ψ x y := by rw [zH]
theorem yQ {v : Value} : zH ψ .niliface v ↔ v = .nilIface := by rw [zH]
theorem ye {cs : List CV} {v : Value} : zH ψ (.agg cs) v ↔ ∃ a, v = .agg a ∧ zT ψ cs a.toList := by rw [zH]
theorem yG {cs : List CV} {v : Value} : zH ψ (.tup cs) v ↔ ∃ a, v = .tuple a ∧ zT ψ cs a.toList := by rw [zH]
theorem yX {i : SE} {v : Value} : zH ψ (.sym i) v ↔ v = Sym.val i := by rw [zH]
theorem jj {b : Key} {esz : Nat} {e n : SE} {v : Value} : zH ψ (.win b esz e n) v ↔ Sym.arg b = some v ∧ ∃ base : Option Addr, ∃ len cap : Nat, ∃ i : Int, v = .slice base len cap ∧ Sym.val n = .int .i64 len ∧ Sym.val e = .int .i64 i ∧ (0 ≤ i → i < len → ∃ p x, ψ b = some p ∧ base = some ⟨p.blk, x, none⟩ ∧ p.off = x + i.toNat * esz) := by rw [zH]
theorem xc {l : List CV} {v : Value} : zH ψ (.sst l) v ↔ ∃ b : ByteArray, v = .string b ∧ zT ψ l (b.data.toList.map fun x => Value.int .u8 (Int.ofNat x.toNat)) := by rw [zH]
theorem jg {n : Nat} {v : Value} : zH ψ (.big n) v ↔ ∃ m : Nat, v = .int .i64 (Int.ofNat m) ∧ n ≤ m := by rw [zH]
theorem qm {i : Nat} {t : List (List Nat)} {v : Value} : zH ψ (.few i t) v ↔ ∃ (m : Nat) (b : ByteArray), Sym.val ⟨.i64, 0, [(i, 1)]⟩ = .int .i64 m ∧ v = .string b ∧ t[m]? = some (zj b) := by rw [zH]
theorem vn {b : Key} {off i m : Nat} {v : Value} : zH ψ (.elt b off i m) v ↔ ∃ (p : Pl) (k : Nat), ψ b = some p ∧ Sym.val ⟨.i64, 0, [(i, 1)]⟩ = .int .i64 k ∧ k ≤ m ∧ v = .pointer (some ⟨p.blk, p.off + (off + k), none⟩) := by rw [zH]
theorem xy {v : Value} : zH ψ .any v := by rw [zH]; trivial
theorem xj : zH ψ .undef undef := yG.2 ⟨#[], rfl, zM.2 rfl⟩
end
def zAl (ψ : Psi) (ck : Nat → Nat) (c : CE) (e : MapEntry) : Prop := zH ψ c.key e.key ∧ zH ψ c.val e.val ∧ e.born = ck c.born
def yJ (ψ : Psi) (ck : Nat → Nat) : List CE → List MapEntry → Prop
  | [], l => l = []
  | c :: cs, l => ∃ e r, l = e :: r ∧ zAl ψ ck c e ∧ yJ ψ ck cs r
structure w9 (ck : Nat → Nat) (clock : Nat) : Prop where
  one : ∀ a b, ck a = ck b → a = b
  cmp : ∀ k x, x < clock + k ↔ ck x < ck (clock + k)
  run : ∀ k, ck (clock + k) = ck clock + k
def zAn (ck : Nat → Nat) (y : Nat) : Prop := ∀ x, x < y ↔ ck x < ck y
theorem w9.id (clock : Nat) : w9 (fun n => n) clock := ⟨fun _ _ h => h, fun _ _ => Iff.rfl, fun _ => rfl⟩
theorem w9.succ {ck : Nat → Nat} {clock : Nat} (h : w9 ck clock) : w9 ck (clock + 1) :=
  ⟨h.one, fun k x => by rw [show clock + 1 + k = clock + (1 + k) from by omega]; exact h.cmp (1 + k) x, fun k => by rw [show clock + 1 + k = clock + (1 + k) from by omega, h.run, h.run 1]; omega⟩
theorem w9.here {ck : Nat → Nat} {clock : Nat} (h : w9 ck clock) : zAn ck clock := fun x => h.cmp 0 x
theorem w9.step {ck : Nat → Nat} {clock : Nat} (h : w9 ck clock) : ck (clock + 1) = ck clock + 1 := h.run 1
theorem w9.inj {ck : Nat → Nat} {clock : Nat} (h : w9 ck clock) {a b : Nat} : ck a = ck b ↔ a = b := ⟨h.one a b, fun e => by rw [e]⟩
def xA (ψ : Psi) (ck : Nat → Nat) (es : List CE) (l : List MapEntry) : Prop := ∃ l', l'.Perm l ∧ yJ ψ ck es l'
theorem xA.nil {ψ : Psi} {ck : Nat → Nat} : xA ψ ck [] [] := ⟨[], List.Perm.refl _, rfl⟩
def kz (ψ : Psi) : List (CV × CV) → List MapEntry → Prop
  | [], l => l = []
  | q :: r, l => (zH ψ q.2 (.string .empty) ∧ kz ψ r l) ∨ ∃ e m, l = e :: m ∧ zH ψ q.1 e.key ∧ zH ψ q.2 e.val ∧ kz ψ r m
def zIz (ψ : Psi) (es : List (CV × CV)) (l : List MapEntry) : Prop := ∃ l', l'.Perm l ∧ kz ψ es l'
def yP (ψ : Psi) (w : World) (p : Pl) (vs : List CV) : Prop :=
  ∃ arr elem fz, w.heap[p.blk]? = some (.cells arr elem fz) ∧ arr.size = p.sz ∧ p.off + vs.length ≤ p.sz ∧ (fz.1 = fz.2 ∨ p.sz ≤ fz.1) ∧
    ∀ i c, vs[i]? = some c → ∃ x, arr[p.off + i]? = some x ∧ zH ψ c x
def zA1 (ψ : Psi) (w : World) (p : Pl) (vs : List CV) : Prop :=
  ∃ arr elem fz, w.heap[p.blk]? = some (.cells arr elem fz) ∧ arr.size = p.sz ∧ p.off + vs.length ≤ p.sz ∧
    ∀ i c, vs[i]? = some c → ∃ x, arr[p.off + i]? = some x ∧ zH ψ c x
def jS (ψ : Psi) (w : World) (p : Pl) (u : Bool) (vs : List CV) : Prop :=
  ∃ arr elem fz, w.heap[p.blk]? = some (.cells arr elem fz) ∧ arr.size = p.sz ∧ p.off + vs.length = p.sz ∧ (fz.1 = fz.2 ∨ u = false ∧ p.sz ≤ fz.1) ∧
    ∀ i c, vs[i]? = some c → ∃ x, arr[p.off + i]? = some x ∧ zH ψ c x
theorem jS.toCells {ψ : Psi} {w : World} {p : Pl} {u : Bool} {vs : List CV} (h : jS ψ w p u vs) : yP ψ w p vs :=
  let ⟨a, e, f, h1, h2, h3, h4, h5⟩ := h
  ⟨a, e, f, h1, h2, Nat.le_of_eq h3, h4.elim .inl (fun h => .inr h.2), h5⟩
theorem yP.toRo {ψ : Psi} {w : World} {p : Pl} {vs : List CV} (h : yP ψ w p vs) : zA1 ψ w p vs :=
  let ⟨a, e, f, h1, h2, h3, _, h5⟩ := h
  ⟨a, e, f, h1, h2, h3, h5⟩
def xJ (ψ : Psi) (w : World) (p : Pl) : CObj → Prop
  | .cells vs => yP ψ w p vs
  | .ro vs => zA1 ψ w p vs
  | .map es clock => ∃ arr, w.heap[p.blk]? = some (.map arr (p.ck clock)) ∧ xA ψ p.ck es arr.toList ∧ w9 p.ck clock
  | .striter s pos => ∃ b, w.heap[p.blk]? = some (.stringIter b pos) ∧ zj b = s ∧ p.off = 0
  | .full u vs => jS ψ w p u vs
  | .mapz es => ∃ arr clock, w.heap[p.blk]? = some (.map arr clock) ∧ zIz ψ es arr.toList
  | .mapiter m since seen stepped => ∃ m' ck, w.heap[p.blk]? = some (.mapIter m' (ck since) (seen.map ck).toArray (ck stepped)) ∧ p.off = 0 ∧
      (match m with
       | none => m' = none
       | some k => ∃ q, ψ k = some q ∧ m' = some q.blk ∧ ck = q.ck ∧ zAn ck since ∧ zAn ck stepped)
abbrev Fam := Key → Option CObj
noncomputable def zD.fam (h : zD) : Fam := fun k => yK k h
def CObj.isRo : CObj → Bool
  | .ro _ => true
  | _ => false
def x6 (ψ : Psi) (g : Fam) (w : World) : Prop := ∀ k o p, g k = some o → ψ k = some p → xJ ψ w p o
structure Rel (ψ : Psi) (g : Fam) (w : World) : Prop where
  on : x6 ψ g w
  tot : ∀ k o, g k = some o → ∃ p, ψ k = some p
  inj : ∀ k₁ k₂ o₁ o₂ p₁ p₂, g k₁ = some o₁ → g k₂ = some o₂ → ψ k₁ = some p₁ → ψ k₂ = some p₂ → (o₁.isRo = false ∨ o₂.isRo = false) → p₁.blk = p₂.blk → k₁ = k₂
structure zy (ψ : Psi) (g : Fam) (n : Key) (w : World) (ψ' : Psi) (g' : Fam) (n' : Key) (w' : World) : Prop where
  ext : ψ.le ψ'
  out : ∀ k, (k.ix < n.ix ∨ n'.ix ≤ k.ix) → ψ' k = ψ k
  rel : Rel ψ' g' w'
  frame : ∀ B, B < w.heap.size → (∀ k o p, g k = some o → o.isRo = false → ψ k = some p → p.blk ≠ B) → w'.heap[B]? = w.heap[B]?
  img : ∀ k o p, g' k = some o → o.isRo = false → ψ' k = some p → (∃ k₀ o₀ p₀, g k₀ = some o₀ ∧ o₀.isRo = false ∧ ψ k₀ = some p₀ ∧ p₀.blk = p.blk) ∨ w.heap.size ≤ p.blk
  size : w.heap.size ≤ w'.heap.size
  tape : w'.tape = w.tape
  os : w'.os = w.os
  output : w'.output = w.output
  mono : n.ix ≤ n'.ix
  imgA : ∀ k o p, g' k = some o → ψ' k = some p → (∃ k₀ o₀ p₀, g k₀ = some o₀ ∧ ψ k₀ = some p₀ ∧ p₀.blk = p.blk) ∨ w.heap.size ≤ p.blk
theorem zy.refl {ψ : Psi} {g : Fam} {n : Key} {w : World} (h : Rel ψ g w) : zy ψ g n w ψ g n w :=
  ⟨Psi.le_refl _, fun _ _ => rfl, h, fun _ _ _ => rfl, fun k o p h1 h2 h3 => .inl ⟨k, o, p, h1, h2, h3, rfl⟩, Nat.le_refl _, rfl, rfl, rfl, Nat.le_refl _, fun k o p h1 h3 => .inl ⟨k, o, p, h1, h3, rfl⟩⟩
theorem zy.trans {ψ ψ₁ ψ₂ : Psi} {g g₁ g₂ : Fam} {n n₁ n₂ : Key} {w w₁ w₂ : World} (h : zy ψ g n w ψ₁ g₁ n₁ w₁) (h' : zy ψ₁ g₁ n₁ w₁ ψ₂ g₂ n₂ w₂) :
    zy ψ g n w ψ₂ g₂ n₂ w₂ := by
  have hm := h.mono
  have hm' := h'.mono
  refine ⟨Psi.le_trans h.ext h'.ext, fun k hk => ?_, h'.rel, fun B hB hfree => ?_, fun k o p h1 h2 h3 => ?_, Nat.le_trans h.size h'.size,
    h'.tape.trans h.tape, h'.os.trans h.os, h'.output.trans h.output, Nat.le_trans hm hm', fun k o p h1 h3 => ?_⟩
  · rw [h'.out k (by omega), h.out k (by omega)]
  · rw [h'.frame B (Nat.lt_of_lt_of_le hB h.size), h.frame B hB hfree]
    intro k o p hk hro hp e
    rcases h.img k o p hk hro hp with ⟨k₀, o₀, p₀, a, b, c, d⟩ | hge
    · exact hfree k₀ o₀ p₀ a b c (d.trans e)
    · omega
  · rcases h'.img k o p h1 h2 h3 with ⟨k₀, o₀, p₀, a, b, c, d⟩ | hge
    · rcases h.img k₀ o₀ p₀ a b c with ⟨k₁, o₁, p₁, a', b', c', d'⟩ | hge
      · exact .inl ⟨k₁, o₁, p₁, a', b', c', d'.trans d⟩
      · exact .inr (by omega)
    · exact .inr (Nat.le_trans h.size hge)
  · rcases h'.imgA k o p h1 h3 with ⟨k₀, o₀, p₀, a, c, d⟩ | hge
    · rcases h.imgA k₀ o₀ p₀ a c with ⟨k₁, o₁, p₁, a', c', d'⟩ | hge
      · exact .inl ⟨k₁, o₁, p₁, a', c', d'.trans d⟩
      · exact .inr (by omega)
    · exact .inr (Nat.le_trans h.size hge)
end Go.Ev

namespace Go.Ev
variable [Sym]
theorem xJ.congr {ψ : Psi} {w w' : World} {p : Pl} {o : CObj} (h : w'.heap[p.blk]? = w.heap[p.blk]?) (ho : xJ ψ w p o) : xJ ψ w' p o := by
  cases o with
  | cells vs => obtain ⟨arr, e, fz, h1, r⟩ := ho; exact ⟨arr, e, fz, h.trans h1, r⟩
  | ro vs => obtain ⟨arr, e, fz, h1, r⟩ := ho; exact ⟨arr, e, fz, h.trans h1, r⟩
  | map es c => obtain ⟨arr, h1, r⟩ := ho; exact ⟨arr, h.trans h1, r⟩
  | striter s q => obtain ⟨b, h1, r⟩ := ho; exact ⟨b, h.trans h1, r⟩
  | full u vs => obtain ⟨arr, e, fz, h1, r⟩ := ho; exact ⟨arr, e, fz, h.trans h1, r⟩
  | mapz es => obtain ⟨arr, c, h1, r⟩ := ho; exact ⟨arr, c, h.trans h1, r⟩
  | mapiter m a b c => obtain ⟨m', ck, h1, r⟩ := ho; exact ⟨m', ck, h.trans h1, r⟩
theorem yJ.mono {ψ ψ' : Psi} (hle : ψ.le ψ') {ck : Nat → Nat} : ∀ {es : List CE} {l : List MapEntry}, yJ ψ ck es l → yJ ψ' ck es l
  | [], _, h => h
  | c :: es, _, h => by
    obtain ⟨e, r, rfl, ⟨h1, h2, h3⟩, h4⟩ := h
    exact ⟨e, r, rfl, ⟨h1.mono hle, h2.mono hle, h3⟩, yJ.mono hle h4⟩
theorem xA.mono {ψ ψ' : Psi} (hle : ψ.le ψ') {ck : Nat → Nat} {es : List CE} {l : List MapEntry} (h : xA ψ ck es l) : xA ψ' ck es l :=
  let ⟨l', hp, hc⟩ := h
  ⟨l', hp, hc.mono hle⟩
theorem kz.mono {ψ ψ' : Psi} (hle : ψ.le ψ') : ∀ {es : List (CV × CV)} {l : List MapEntry}, kz ψ es l → kz ψ' es l
  | [], _, h => h
  | _ :: _, _, .inl ⟨h1, h2⟩ => .inl ⟨h1.mono hle, kz.mono hle h2⟩
  | _ :: _, _, .inr ⟨e, m, h0, h1, h2, h3⟩ => .inr ⟨e, m, h0, h1.mono hle, h2.mono hle, kz.mono hle h3⟩
theorem zIz.mono {ψ ψ' : Psi} (hle : ψ.le ψ') {es : List (CV × CV)} {l : List MapEntry} (h : zIz ψ es l) : zIz ψ' es l :=
  let ⟨l', hp, hc⟩ := h
  ⟨l', hp, hc.mono hle⟩
theorem xJ.mono {ψ ψ' : Psi} (hle : ψ.le ψ') {w : World} {p : Pl} {o : CObj} (ho : xJ ψ w p o) : xJ ψ' w p o := by
  cases o with
  | cells vs =>
    obtain ⟨arr, e, fz, h1, h2, h3, h4, h5⟩ := ho
    exact ⟨arr, e, fz, h1, h2, h3, h4, fun i c hc => let ⟨x, a, b⟩ := h5 i c hc; ⟨x, a, b.mono hle⟩⟩
  | ro vs =>
    obtain ⟨arr, e, fz, h1, h2, h3, h5⟩ := ho
    exact ⟨arr, e, fz, h1, h2, h3, fun i c hc => let ⟨x, a, b⟩ := h5 i c hc; ⟨x, a, b.mono hle⟩⟩
  | map es c => obtain ⟨arr, h1, r, h2⟩ := ho; exact ⟨arr, h1, r.mono hle, h2⟩
  | mapz es => obtain ⟨arr, c, h1, r⟩ := ho; exact ⟨arr, c, h1, r.mono hle⟩
  | striter s q => exact ho
  | full u vs =>
    obtain ⟨arr, e, fz, h1, h2, h3, h4, h5⟩ := ho
    exact ⟨arr, e, fz, h1, h2, h3, h4, fun i c hc => let ⟨x, a, b⟩ := h5 i c hc; ⟨x, a, b.mono hle⟩⟩
  | mapiter m a b c =>
    obtain ⟨m', ck, h1, h2, r⟩ := ho
    refine ⟨m', ck, h1, h2, ?_⟩
    cases m with
    | none => exact r
    | some k => obtain ⟨q, h3, h4⟩ := r; exact ⟨q, hle _ _ h3, h4⟩
theorem xJ.lt {ψ : Psi} {w : World} {p : Pl} {o : CObj} (ho : xJ ψ w p o) : p.blk < w.heap.size := by
  have key : ∀ {o : Obj}, w.heap[p.blk]? = some o → p.blk < w.heap.size := by
    intro o h
    rcases Nat.lt_or_ge p.blk w.heap.size with h' | h'
    · exact h'
    · rw [Array.getElem?_eq_none h'] at h; cases h
  cases o with
  | cells vs => obtain ⟨arr, e, fz, h1, _⟩ := ho; exact key h1
  | ro vs => obtain ⟨arr, e, fz, h1, _⟩ := ho; exact key h1
  | map es c => obtain ⟨arr, h1, _⟩ := ho; exact key h1
  | striter s q => obtain ⟨b, h1, _⟩ := ho; exact key h1
  | full u vs => obtain ⟨arr, e, fz, h1, _⟩ := ho; exact key h1
  | mapz es => obtain ⟨arr, c, h1, _⟩ := ho; exact key h1
  | mapiter m a b c => obtain ⟨m', ck, h1, _⟩ := ho; exact key h1
def Fam.upd (g : Fam) (k : Key) (o : Option CObj) : Fam := fun j => if j = k then o else g j
theorem zt (o : Option CObj) (k : Key) (h : zD) : zD.fam (yn o k h) = Fam.upd (zD.fam h) k o := by
  funext j; exact zFy o k j h
theorem Fam.upd_same (g : Fam) (k : Key) (o : Option CObj) : g.upd k o k = o := by simp [Fam.upd]
theorem Fam.upd_other (g : Fam) {k j : Key} (o : Option CObj) (h : j ≠ k) : g.upd k o j = g j := by simp [Fam.upd, h]
theorem Rel.sub {ψ : Psi} {g g' : Fam} {w : World} (h : Rel ψ g w) (hs : ∀ k o, g' k = some o → g k = some o) : Rel ψ g' w :=
  ⟨fun k o p a b => h.on k o p (hs k o a) b, fun k o a => h.tot k o (hs k o a), fun k₁ k₂ o₁ o₂ p₁ p₂ a b => h.inj k₁ k₂ o₁ o₂ p₁ p₂ (hs _ _ a) (hs _ _ b)⟩
end Go.Ev
namespace Go
def World.upB (w : World) (B : Nat) (o : Obj) : World := { w with heap := w.heap.setIfInBounds B o }
end Go
namespace Go.Ev
variable [Sym]
theorem xK {w : World} {B : Nat} (o : Obj) (h : B < w.heap.size) : (w.upB B o).heap[B]? = some o := by
  simp [World.upB, h]
theorem wa {w : World} {B C : Nat} (o : Obj) (h : C ≠ B) : (w.upB B o).heap[C]? = w.heap[C]? := by
  simp only [World.upB, Array.getElem?_setIfInBounds]
  rw [if_neg (fun e => h e.symm)]
theorem zC2 (w : World) (B : Nat) (o : Obj) : (w.upB B o).heap.size = w.heap.size := by simp [World.upB]
theorem xz {ψ : Psi} {g : Fam} {n k : Key} {w : World} {p : Pl} {o o' : CObj} {ob : Obj} (h : Rel ψ g w) (hk : g k = some o) (hro : o.isRo = false)
    (hp : ψ k = some p) (ho' : xJ ψ (w.upB p.blk ob) p o') : zy ψ g n w ψ (g.upd k (some o')) n (w.upB p.blk ob) := by
  have hlt := (h.on k o p hk hp).lt
  refine ⟨Psi.le_refl _, fun _ _ => rfl, ⟨?_, ?_, ?_⟩, ?_, ?_, by rw [zC2]; exact Nat.le_refl _, rfl, rfl, rfl, Nat.le_refl _, ?_⟩
  · intro j q pj hq hpj
    by_cases hj : j = k
    · subst hj
      rw [Fam.upd_same] at hq
      rw [hp] at hpj
      injection hq with hq; injection hpj with hpj
      subst hq; subst hpj; exact ho'
    · rw [Fam.upd_other _ _ hj] at hq
      refine xJ.congr (wa _ fun e => hj ?_) (h.on j q pj hq hpj)
      exact h.inj j k q o pj p hq hk hpj hp (.inr hro) e
  · intro j q hq
    by_cases hj : j = k
    · subst hj; exact ⟨p, hp⟩
    · rw [Fam.upd_other _ _ hj] at hq; exact h.tot j q hq
  · intro k₁ k₂ o₁ o₂ p₁ p₂ h1 h2 h3 h4 hr e
    have e1 : ∃ q, g k₁ = some q ∧ (o₁.isRo = false → q.isRo = false) := by
      by_cases hj : k₁ = k
      · subst hj; exact ⟨o, hk, fun _ => hro⟩
      · rw [Fam.upd_other _ _ hj] at h1; exact ⟨_, h1, fun h => h⟩
    have e2 : ∃ q, g k₂ = some q ∧ (o₂.isRo = false → q.isRo = false) := by
      by_cases hj : k₂ = k
      · subst hj; exact ⟨o, hk, fun _ => hro⟩
      · rw [Fam.upd_other _ _ hj] at h2; exact ⟨_, h2, fun h => h⟩
    obtain ⟨q1, e1, r1⟩ := e1; obtain ⟨q2, e2, r2⟩ := e2
    exact h.inj k₁ k₂ q1 q2 p₁ p₂ e1 e2 h3 h4 (hr.imp r1 r2) e
  · intro B _ hfree
    exact wa _ fun e => hfree k o p hk hro hp e.symm
  · intro j q pj hq hroj hpj
    by_cases hj : j = k
    · subst hj
      rw [hp] at hpj; injection hpj with hpj; subst hpj
      exact .inl ⟨j, o, p, hk, hro, hp, rfl⟩
    · rw [Fam.upd_other _ _ hj] at hq
      exact .inl ⟨j, q, pj, hq, hroj, hpj, rfl⟩
  · intro j q pj hq hpj
    by_cases hj : j = k
    · subst hj
      rw [hp] at hpj; injection hpj with hpj; subst hpj
      exact .inl ⟨j, o, p, hk, hp, rfl⟩
    · rw [Fam.upd_other _ _ hj] at hq
      exact .inl ⟨j, q, pj, hq, hpj, rfl⟩
structure New (w w' : World) : Prop where
  size : w'.heap.size = w.heap.size + 1
  old : ∀ B, B < w.heap.size → w'.heap[B]? = w.heap[B]?
  tape : w'.tape = w.tape
  os : w'.os = w.os
  output : w'.output = w.output
def Psi.upd (ψ : Psi) (k : Key) (p : Pl) : Psi := fun j => if j = k then some p else ψ j
theorem Psi.upd_same (ψ : Psi) (k : Key) (p : Pl) : ψ.upd k p k = some p := by simp [Psi.upd]
theorem Psi.upd_other (ψ : Psi) {k j : Key} (p : Pl) (h : j ≠ k) : ψ.upd k p j = ψ j := by simp [Psi.upd, h]
theorem Psi.le_upd {ψ : Psi} {k : Key} (p : Pl) (h : ψ k = none) : ψ.le (ψ.upd k p) := by
  intro j q hj
  by_cases e : j = k
  · subst e; rw [h] at hj; cases hj
  · rw [Psi.upd_other _ _ e]; exact hj
theorem kS {ψ : Psi} {g : Fam} {n : Key} {w w' : World} {sz : Nat} {ck : Nat → Nat} {o : CObj} (h : Rel ψ g w) (hn : n.room) (hnone : ψ n = none) (hw : New w w')
    (ho : xJ (ψ.upd n ⟨w.heap.size, 0, sz, ck⟩) w' ⟨w.heap.size, 0, sz, ck⟩ o) :
    zy ψ g n w (ψ.upd n ⟨w.heap.size, 0, sz, ck⟩) (g.upd n (some o)) n.succ w' := by
  have hix := Key.ix_succ hn
  have hle := Psi.le_upd (ψ := ψ) (k := n) ⟨w.heap.size, 0, sz, ck⟩ hnone
  have hgn : ∀ j q, g j = some q → j ≠ n := by
    intro j q hj e
    subst e
    obtain ⟨p, hp⟩ := h.tot j q hj
    rw [hnone] at hp; cases hp
  refine ⟨hle, fun k hk => ?_, ⟨?_, ?_, ?_⟩, fun B hB _ => hw.old B hB, ?_, by rw [hw.size]; omega, hw.tape, hw.os, hw.output, by omega, ?_⟩
  · exact Psi.upd_other _ _ (fun e => by subst e; omega)
  · intro j q pj hq hpj
    by_cases hj : j = n
    · subst hj
      rw [Fam.upd_same] at hq; rw [Psi.upd_same] at hpj
      injection hq with hq; injection hpj with hpj
      subst hq; subst hpj; exact ho
    · rw [Fam.upd_other _ _ hj] at hq; rw [Psi.upd_other _ _ hj] at hpj
      have := h.on j q pj hq hpj
      exact xJ.congr (hw.old _ this.lt) (this.mono hle)
  · intro j q hq
    by_cases hj : j = n
    · subst hj; exact ⟨_, Psi.upd_same _ _ _⟩
    · rw [Fam.upd_other _ _ hj] at hq
      obtain ⟨p, hp⟩ := h.tot j q hq
      exact ⟨p, hle _ _ hp⟩
  · intro k₁ k₂ o₁ o₂ p₁ p₂ h1 h2 h3 h4 hr e
    by_cases j1 : k₁ = n <;> by_cases j2 : k₂ = n
    · rw [j1, j2]
    · exfalso
      subst j1
      rw [Psi.upd_same] at h3; injection h3 with h3; subst h3
      rw [Fam.upd_other _ _ j2] at h2; rw [Psi.upd_other _ _ j2] at h4
      have := (h.on _ _ _ h2 h4).lt
      simp only at e; omega
    · exfalso
      subst j2
      rw [Psi.upd_same] at h4; injection h4 with h4; subst h4
      rw [Fam.upd_other _ _ j1] at h1; rw [Psi.upd_other _ _ j1] at h3
      have := (h.on _ _ _ h1 h3).lt
      simp only at e; omega
    · rw [Fam.upd_other _ _ j1] at h1; rw [Psi.upd_other _ _ j1] at h3
      rw [Fam.upd_other _ _ j2] at h2; rw [Psi.upd_other _ _ j2] at h4
      exact h.inj _ _ _ _ _ _ h1 h2 h3 h4 hr e
  · intro j q pj hq hro hpj
    by_cases hj : j = n
    · subst hj
      rw [Psi.upd_same] at hpj; injection hpj with hpj; subst hpj
      exact .inr (Nat.le_refl _)
    · rw [Fam.upd_other _ _ hj] at hq; rw [Psi.upd_other _ _ hj] at hpj
      exact .inl ⟨j, q, pj, hq, hro, hpj, rfl⟩
  · intro j q pj hq hpj
    by_cases hj : j = n
    · subst hj
      rw [Psi.upd_same] at hpj; injection hpj with hpj; subst hpj
      exact .inr (Nat.le_refl _)
    · rw [Fam.upd_other _ _ hj] at hq; rw [Psi.upd_other _ _ hj] at hpj
      exact .inl ⟨j, q, pj, hq, hpj, rfl⟩
theorem zNP {ψ : Psi} {g : Fam} {n : Key} {w : World} (h : Rel ψ g w) (b : Key) : zy ψ g n w ψ (g.upd b none) n w := by
  have hs : ∀ k o, g.upd b none k = some o → g k = some o := by
    intro k o hk
    by_cases e : k = b
    · subst e; rw [Fam.upd_same] at hk; cases hk
    · rwa [Fam.upd_other _ _ e] at hk
  exact ⟨Psi.le_refl _, fun _ _ => rfl, h.sub hs, fun _ _ _ => rfl, fun k o p h1 h2 h3 => .inl ⟨k, o, p, hs k o h1, h2, h3, rfl⟩, Nat.le_refl _, rfl, rfl, rfl, Nat.le_refl _, fun k o p h1 h3 => .inl ⟨k, o, p, hs k o h1, h3, rfl⟩⟩
theorem zLa {ψ : Psi} {g : Fam} {n b : Key} {w : World} {p p' : Pl} {o o' : CObj} {ob : Obj} (h : Rel ψ g w) (hn : n.room) (hnone : ψ n = none) (hb : g b = some o)
    (hro : o.isRo = false) (hp : ψ b = some p) (hpp : p'.blk = p.blk) (ho' : xJ (ψ.upd n p') (w.upB p.blk ob) p' o') :
    zy ψ g n w (ψ.upd n p') ((g.upd b none).upd n (some o')) n.succ (w.upB p.blk ob) := by
  have hix := Key.ix_succ hn
  have hle := Psi.le_upd (ψ := ψ) (k := n) p' hnone
  have hlt := (h.on b o p hb hp).lt
  have hgn : ∀ j q, g j = some q → j ≠ n := by
    intro j q hj e
    subst e
    obtain ⟨p, hp⟩ := h.tot j q hj
    rw [hnone] at hp; cases hp
  have hold : ∀ j q, j ≠ n → ((g.upd b none).upd n (some o')) j = some q → j ≠ b ∧ g j = some q := by
    intro j q hj hq
    rw [Fam.upd_other _ _ hj] at hq
    by_cases e : j = b
    · subst e; rw [Fam.upd_same] at hq; cases hq
    · rw [Fam.upd_other _ _ e] at hq; exact ⟨e, hq⟩
  refine ⟨hle, fun k hk => ?_, ⟨?_, ?_, ?_⟩, ?_, ?_, by rw [zC2]; exact Nat.le_refl _, rfl, rfl, rfl, by omega, ?_⟩
  · exact Psi.upd_other _ _ (fun e => by subst e; omega)
  · intro j q pj hq hpj
    by_cases hj : j = n
    · subst hj
      rw [Fam.upd_same] at hq; rw [Psi.upd_same] at hpj
      injection hq with hq; injection hpj with hpj
      subst hq; subst hpj; exact ho'
    · obtain ⟨hjb, hq⟩ := hold j q hj hq
      rw [Psi.upd_other _ _ hj] at hpj
      refine xJ.congr (wa _ fun e => hjb (h.inj j b q o pj p hq hb hpj hp (.inr hro) e)) ((h.on j q pj hq hpj).mono hle)
  · intro j q hq
    by_cases hj : j = n
    · subst hj; exact ⟨_, Psi.upd_same _ _ _⟩
    · obtain ⟨_, hq⟩ := hold j q hj hq
      obtain ⟨p, hp⟩ := h.tot j q hq
      exact ⟨p, hle _ _ hp⟩
  · intro k₁ k₂ o₁ o₂ p₁ p₂ h1 h2 h3 h4 hr e
    by_cases j1 : k₁ = n <;> by_cases j2 : k₂ = n
    · rw [j1, j2]
    · exfalso
      subst j1
      rw [Psi.upd_same] at h3; injection h3 with h3; subst h3
      obtain ⟨hjb, h2⟩ := hold _ _ j2 h2
      rw [Psi.upd_other _ _ j2] at h4
      exact hjb (h.inj _ b _ o _ p h2 hb h4 hp (.inr hro) (e.symm.trans hpp))
    · exfalso
      subst j2
      rw [Psi.upd_same] at h4; injection h4 with h4; subst h4
      obtain ⟨hjb, h1⟩ := hold _ _ j1 h1
      rw [Psi.upd_other _ _ j1] at h3
      exact hjb (h.inj _ b _ o _ p h1 hb h3 hp (.inr hro) (e.trans hpp))
    · obtain ⟨_, h1⟩ := hold _ _ j1 h1
      obtain ⟨_, h2⟩ := hold _ _ j2 h2
      rw [Psi.upd_other _ _ j1] at h3; rw [Psi.upd_other _ _ j2] at h4
      exact h.inj _ _ _ _ _ _ h1 h2 h3 h4 hr e
  · intro B _ hfree
    exact wa _ fun e => hfree b o p hb hro hp e.symm
  · intro j q pj hq hroj hpj
    by_cases hj : j = n
    · subst hj
      rw [Psi.upd_same] at hpj; injection hpj with hpj; subst hpj
      exact .inl ⟨b, o, p, hb, hro, hp, hpp.symm⟩
    · obtain ⟨_, hq⟩ := hold j q hj hq
      rw [Psi.upd_other _ _ hj] at hpj
      exact .inl ⟨j, q, pj, hq, hroj, hpj, rfl⟩
  · intro j q pj hq hpj
    by_cases hj : j = n
    · subst hj
      rw [Psi.upd_same] at hpj; injection hpj with hpj; subst hpj
      exact .inl ⟨b, o, p, hb, hp, hpp.symm⟩
    · obtain ⟨_, hq⟩ := hold j q hj hq
      rw [Psi.upd_other _ _ hj] at hpj
      exact .inl ⟨j, q, pj, hq, hpj, rfl⟩
theorem xH (b o n : Nat) : (⟨b, o, none⟩ : Addr).add n = ⟨b, o + n, none⟩ := by unfold Addr.add; split <;> simp_all
section
variable {ψ : Psi} {w : World} {P : Program}
theorem zA1.cell {p : Pl} {vs : List CV} (h : zA1 ψ w p vs) {i : Nat} {c : CV} (hc : vs[i]? = some c) :
    ∃ x, w.cell? ⟨p.blk, p.off + i, none⟩ = some x ∧ zH ψ c x := by
  obtain ⟨arr, e, fz, h1, h2, h3, h5⟩ := h
  obtain ⟨x, hx, hr⟩ := h5 i c hc
  exact ⟨x, by simp [World.cell?, h1, hx], hr⟩
theorem uR {p : Pl} {vs : List CV} (h : zA1 ψ w p vs) {i : Nat} {c : CV} (hc : vs[i]? = some c) :
    ∃ x, (load ⟨p.blk, p.off + i, none⟩).run P w = .ok x w ∧ zH ψ c x := by
  obtain ⟨x, hx, hr⟩ := h.cell hc
  exact ⟨x, by rw [run_load, hx], hr⟩
theorem xT {p : Pl} {vs l : List CV} (h : zA1 ψ w p vs) {off s : Nat} (hl : vw vs off s = some l) :
    ∃ xs : List Value, (loadCells ⟨p.blk, p.off + off, none⟩ s).run P w = .ok xs.toArray w ∧ zT ψ l xs := by
  obtain ⟨hlen, hget⟩ := xq hl
  have key : ∀ j, j < s → ∃ x, w.cell? ((⟨p.blk, p.off + off, none⟩ : Addr).add j) = some x ∧ ∀ c, l[j]? = some c → zH ψ c x := by
    intro j hj
    have hc : l[j]? = some (l[j]'(by omega)) := List.getElem?_eq_getElem _
    have hv := (hget j hj).symm.trans hc
    obtain ⟨x, hx, hr⟩ := h.cell hv
    rw [xH]
    refine ⟨x, by rw [Nat.add_assoc]; exact hx, fun c hc' => ?_⟩
    rw [hc] at hc'; injection hc' with hc'; subst hc'; exact hr
  have cells : ∀ m, m ≤ s → ∃ xs : List Value, xs.length = m ∧ ∀ j, j < m → ∃ x, xs[j]? = some x ∧ w.cell? ((⟨p.blk, p.off + off, none⟩ : Addr).add j) = some x ∧
      ∀ c, l[j]? = some c → zH ψ c x := by
    intro m
    induction m with
    | zero => exact fun _ => ⟨[], rfl, fun j hj => by omega⟩
    | succ m ih =>
      intro hm
      obtain ⟨xs, hxl, hxs⟩ := ih (by omega)
      obtain ⟨x, hx, hr⟩ := key m (by omega)
      refine ⟨xs ++ [x], by simp [hxl], fun j hj => ?_⟩
      by_cases e : j = m
      · subst e; exact ⟨x, by rw [List.getElem?_append_right (by omega)]; simp [hxl], hx, hr⟩
      · obtain ⟨y, hy, r⟩ := hxs j (by omega)
        exact ⟨y, by rw [List.getElem?_append_left (by omega)]; exact hy, r⟩
  obtain ⟨xs, hxl, hxs⟩ := cells s (Nat.le_refl _)
  refine ⟨xs, ?_, xu.2 ⟨by omega, fun i c v hc hv => ?_⟩⟩
  · have := run_loadCells_list (P := P) w ⟨p.blk, p.off + off, none⟩ xs (fun j v hv => by
      have hj : j < s := by
        rcases Nat.lt_or_ge j xs.length with h | h
        · omega
        · rw [List.getElem?_eq_none h] at hv; cases hv
      obtain ⟨x, hx, hc, _⟩ := hxs j hj
      rw [hx] at hv; injection hv with hv; subst hv; exact hc)
    rwa [hxl] at this
  · have hj : i < s := by
      rcases Nat.lt_or_ge i l.length with h | h
      · omega
      · rw [List.getElem?_eq_none h] at hc; cases hc
    obtain ⟨x, hx, _, hr⟩ := hxs i hj
    rw [hx] at hv; injection hv with hv; subst hv
    exact hr c hc
theorem kT (B o : Nat) (t : TypeId) (fz : Nat × Nat) : ∀ (vs : List Value) (i : Nat) (cur : Array Value) (w : World), w.heap[B]? = some (.cells cur t fz) →
    (fz.1 = fz.2 ∨ cur.size ≤ fz.1) → o + i + vs.length ≤ cur.size → (∀ v ∈ vs, v.oneCell' = true) →
    (storeCells ⟨B, o, none⟩ vs i).run P w = .ok () (w.upB B (.cells (cur.toList.take (o + i) ++ vs ++ cur.toList.drop (o + i + vs.length)).toArray t fz))
  | [], i, cur, w, hg, _, _, _ => by
    simp only [storeCells, List.append_nil, List.length_nil, Nat.add_zero, List.take_append_drop, Array.toArray_toList, Sem.run_pure]
    congr 1
    unfold World.upB
    have hB : B < w.heap.size := by
      rcases Nat.lt_or_ge B w.heap.size with h | h
      · exact h
      · rw [Array.getElem?_eq_none h] at hg; cases hg
    have : w.heap.setIfInBounds B (.cells cur t fz) = w.heap := by
      apply Array.ext_getElem?
      intro j
      rw [Array.getElem?_setIfInBounds]
      split
      · rename_i e; subst e; simp [hB] at hg ⊢; exact hg.symm
      · rfl
    rw [this]
  | v :: rest, i, cur, w, hg, hfz, hl, h1 => by
    have hi : o + i < cur.size := by simp at hl; omega
    have hB : B < w.heap.size := by
      rcases Nat.lt_or_ge B w.heap.size with h | h
      · exact h
      · rw [Array.getElem?_eq_none h] at hg; cases hg
    have hcell : w.cell? ⟨B, o + i, none⟩ = some cur[o + i] := by simp [World.cell?, hg, hi]
    have hfro : w.frozen? ⟨B, o + i, none⟩ = false := by
      simp only [World.frozen?, hg]
      rcases hfz with h | h
      · simp; omega
      · simp; omega
    have hset : w.setCell ⟨B, o + i, none⟩ v = w.upB B (.cells (cur.setIfInBounds (o + i) v) t fz) := by
      unfold World.setCell World.upB
      congr 1
      apply Array.ext_getElem?
      intro j
      rw [Array.getElem?_modify, Array.getElem?_setIfInBounds]
      split
      · rename_i e; subst e; rw [hg]; simp
      · rfl
    have hst : (store ((⟨B, o, none⟩ : Addr).add i) v).run P w = .ok () (w.upB B (.cells (cur.setIfInBounds (o + i) v) t fz)) := by
      rw [xH, run_store P w _ v _ (h1 v (by simp)), hcell]
      simp [hfro, hset]
    have ih := kT B o t fz rest (i + 1) (cur.setIfInBounds (o + i) v) (w.upB B (.cells (cur.setIfInBounds (o + i) v) t fz)) (xK _ hB)
      (by simpa using hfz) (by simp at hl ⊢; omega) (fun x hx => h1 x (by simp [hx]))
    simp only [storeCells, Sem.run_bind, hst, Result.andThen_ok, ih]
    have e := list_seg_step cur.toList (o + i) v rest (by simp at hl ⊢; omega)
    have e' : (List.take (o + (i + 1)) (cur.setIfInBounds (o + i) v).toList ++ rest ++ List.drop (o + (i + 1) + rest.length) (cur.setIfInBounds (o + i) v).toList) =
        (List.take (o + i) cur.toList ++ v :: rest ++ List.drop (o + i + (v :: rest).length) cur.toList) := by
      simpa [Array.toList_setIfInBounds, Nat.add_assoc] using e
    rw [e']
    congr 1
    unfold World.upB
    congr 1
    simp [Array.setIfInBounds_setIfInBounds]
theorem zCR {c : CV} {v : Value} (h : zH ψ c v) (hc : c.single = true) : v.oneCell' = true := by
  cases c <;> simp only [CV.single, Bool.false_eq_true] at hc
  case bool => rw [zJ] at h; subst h; rfl
  case nat => rw [zY] at h; subst h; rfl
  case int => rw [zg] at h; subst h; rfl
  case anyi => rw [yV] at h; obtain ⟨n, rfl⟩ := h; rfl
  case str => rw [zf] at h; obtain ⟨b, rfl, _⟩ := h; rfl
  case big => rw [jg] at h; obtain ⟨n, rfl, _⟩ := h; rfl
  case nilptr => rw [xF] at h; subst h; rfl
  case ptr => rw [zm] at h; obtain ⟨p, _, rfl⟩ := h; rfl
  case nilsl => rw [zp] at h; subst h; rfl
  case sl => rw [z8] at h; obtain ⟨p, x, c, _, rfl, _⟩ := h; rfl
  case nilmap => rw [yD] at h; subst h; rfl
  case map => rw [yZ] at h; obtain ⟨p, _, rfl⟩ := h; rfl
  case func => rw [yz] at h; obtain ⟨a, b, rfl, _⟩ := h; rfl
  case nilfunc => rw [y7] at h; subst h; rfl
  case iface => rw [yM] at h; obtain ⟨y, rfl, _⟩ := h; rfl
  case niliface => rw [yQ] at h; subst h; rfl
  case sst => rw [xc] at h; obtain ⟨b, rfl, _⟩ := h; rfl
  case few => rw [qm] at h; obtain ⟨_, b, _, rfl, _⟩ := h; rfl
  case elt => rw [vn] at h; obtain ⟨_, _, _, _, _, rfl⟩ := h; rfl
  case win => rw [jj] at h; obtain ⟨_, base, l, c, i, rfl, _⟩ := h; rfl
  case sym i =>
    rw [yX] at h; subst h
    rcases Sym.one i with ⟨k, n, e⟩ | ⟨s, e⟩ <;> rw [e] <;> rfl
theorem wA (l : List CV) : xC l = true ↔ ∀ c ∈ l, c.single = true := by
  induction l with
  | nil => simp [xC]
  | cons c l ih =>
    have : xC (c :: l) = (match c.single with | false => false | true => xC l) := by
      cases h : c.single <;> simp [xC, h]
    rw [this]
    cases h : c.single <;> simp [h, ih]
theorem zB4 {cs : List CV} {l : List Value} (h : zT ψ cs l) (hs : xC cs = true) : ∀ v ∈ l, v.oneCell' = true := by
  induction cs generalizing l with
  | nil => rw [zM] at h; subst h; simp
  | cons c cs ih =>
    rw [zb] at h
    obtain ⟨v, r, rfl, h1, h2⟩ := h
    have hall := (wA _).1 hs
    intro x hx
    rcases List.mem_cons.1 hx with rfl | hx
    · exact zCR h1 (hall c (by simp))
    · exact ih h2 ((wA _).2 fun d hd => hall d (by simp [hd])) x hx
theorem ja {g : Fam} {k : Key} {p : Pl} {vs cs l : List CV} {xs : List Value} {off s : Nat} (n : Key) (hrel : Rel ψ g w) (hk : g k = some (.cells vs)) (hp : ψ k = some p)
    (hl : qf cs s vs off = some l) (hx : zT ψ cs xs) (hs : xC cs = true) :
    ∃ w', (storeCells ⟨p.blk, p.off + off, none⟩ xs).run P w = .ok () w' ∧ zy ψ g n w ψ (g.upd k (some (.cells l))) n w' := by
  obtain ⟨arr, t, fz, h1, h2, h3, h4, h5⟩ := hrel.on k _ p hk hp
  obtain ⟨hcs, hle, hll, hin, hout⟩ := wh hl
  have hxl := hx.length
  have hlt : p.blk < w.heap.size := xJ.lt (o := .cells vs) ⟨arr, t, fz, h1, h2, h3, h4, h5⟩
  refine ⟨_, kT p.blk (p.off + off) t fz xs 0 arr w h1 (by rw [h2]; exact h4) (by omega) (zB4 hx hs), ?_⟩
  refine xz hrel hk rfl hp ⟨_, t, fz, xK _ hlt, by simp; omega, by omega, h4, fun i c hc => ?_⟩
  simp only [Nat.add_zero, List.getElem?_toArray]
  have htake : (arr.toList.take (p.off + off)).length = p.off + off := by simp; omega
  by_cases hi : off ≤ i ∧ i < off + s
  · have := hin (i - off) (by omega)
    rw [show off + (i - off) = i from by omega, hc] at this
    obtain ⟨x, hx1, hx2⟩ := hx.get this.symm
    refine ⟨x, ?_, hx2⟩
    rw [List.append_assoc, List.getElem?_append_right (by omega), htake, List.getElem?_append_left (by omega)]
    rw [show p.off + i - (p.off + off) = i - off from by omega]; exact hx1
  · have := hout i (by omega)
    rw [hc] at this
    obtain ⟨x, hx1, hx2⟩ := h5 i c this.symm
    refine ⟨x, ?_, hx2⟩
    by_cases hlo : i < off
    · rw [List.append_assoc, List.getElem?_append_left (by omega), List.getElem?_take_of_lt (by omega)]
      simpa using hx1
    · rw [List.getElem?_append_right (by simp; omega), List.getElem?_drop]
      have : p.off + off + xs.length + (p.off + i - (List.take (p.off + off) arr.toList ++ xs).length) = p.off + i := by simp; omega
      rw [this]; simpa using hx1
end
end Go.Ev

namespace Go.Ev
variable [Sym]
theorem zBc (l : List CV) : uW l = l.length := by
  induction l with
  | nil => rfl
  | cons x l ih => exact congrArg Nat.succ ih
section
variable {C : OR → Prop}
theorem yp (v : CV) (k : Key → Nat → OR) (e : Nat) (he : C (.err e)) (hk : ∀ b o, v = .ptr b o → C (k b o)) : C (zCk v k e) := by
  cases v <;> first | exact hk _ _ rfl | exact he
theorem w5 (v : CV) (k : IntKind → Int → OR) (e : Nat) (he : C (.err e)) (h0 : ∀ n, v = .nat n → C (k .i64 (.ofNat n))) (hk : ∀ j n, v = .int j n → C (k j n)) :
    C (zNR v k e) := by
  cases v <;> first | exact h0 _ rfl | exact hk _ _ rfl | exact he
theorem zLy (v : CV) (k : Nat → OR) (j : IntKind → Int → OR) (e : Nat) (he : C (.err e)) (h0 : ∀ n, v = .nat n → C (k n)) (hk : ∀ i n, v = .int i n → C (j i n)) :
    C (zQl v k j e) := by
  cases v <;> first | exact h0 _ rfl | exact hk _ _ rfl | exact he
theorem zJh (v : CV) (k : Nat → OR) (e : Nat) (he : C (.err e)) (h0 : ∀ n, v = .nat n → C (k n)) (hk : ∀ i n, v = .int i (.ofNat n) → C (k n)) : C (vU v k e) := by
  refine zLy v k _ e he h0 fun i n hv => ?_
  cases n with
  | ofNat m => exact hk i m hv
  | negSucc m => exact he
theorem zz (v : CV) (k : List Nat → OR) (e : Nat) (he : C (.err e)) (hk : ∀ s, v = .str s → C (k s)) : C (vO v k e) := by
  cases v <;> first | exact hk _ rfl | exact he
theorem kZ (v : CV) (k : Bool → OR) (e : Nat) (he : C (.err e)) (hk : ∀ b, v = .bool b → C (k b)) : C (zJB v k e) := by
  cases v <;> first | exact hk _ rfl | exact he
theorem yB (v : CV) (z : OR) (k : Key → Nat → Nat → Nat → Nat → Bool → OR) (e : Nat) (he : C (.err e)) (hz : v = .nilsl → C z)
    (hk : ∀ b o l c s x, v = .sl b o l c s x → C (k b o l c s x)) : C (vV v z k e) := by
  cases v <;> first | exact hz rfl | exact hk _ _ _ _ _ _ rfl | exact he
theorem wt (v : CV) (k : Key → Nat → SE → SE → OR) (z : OR) (hz : C z) (hk : ∀ b s e n, v = .win b s e n → C (k b s e n)) : C (zM1 v k z) := by
  cases v <;> first | exact hk _ _ _ _ rfl | exact hz
theorem zDJ (v : CV) (k : List CV → OR) (z : OR) (hz : C z) (hk : ∀ l, v = .sst l → C (k l)) : C (zPc v k z) := by
  cases v <;> first | exact hk _ rfl | exact hz
theorem yv (v : CV) (z : OR) (k : Key → OR) (e : Nat) (he : C (.err e)) (hz : v = .nilmap → C z) (hk : ∀ b, v = .map b → C (k b)) : C (zCh v z k e) := by
  cases v <;> first | exact hz rfl | exact hk _ rfl | exact he
theorem vD (v : CV) (k : List CV → OR) (e : Nat) (he : C (.err e)) (hk : ∀ cs, v = .agg cs → C (k cs)) : C (zL5 v k e) := by
  cases v <;> first | exact hk _ rfl | exact he
theorem zC3 (v : CV) (k : List CV → OR) (e : Nat) (he : C (.err e)) (hk : ∀ cs, v = .tup cs → C (k cs)) : C (zPt v k e) := by
  cases v <;> first | exact hk _ rfl | exact he
theorem kx (v : CV) (k : Fn → List CV → List CV → OR) (e : Nat) (he : C (.err e)) (hk : ∀ f a c, v = .func f a c → C (k f a c)) : C (zIV v k e) := by
  cases v <;> first | exact hk _ _ _ rfl | exact he
theorem xO (v : CV) (k : TypeId → CV → OR) (z : OR) (e : Nat) (he : C (.err e)) (hz : v = .niliface → C z) (hk : ∀ t x, v = .iface t x → C (k t x)) : C (zA4 v k z e) := by
  cases v <;> first | exact hz rfl | exact hk _ _ rfl | exact he
theorem zFB (v : CV) (k : IntKind → Int → OR) (u : IntKind → OR) (s : List Nat → OR) (e : Nat) (he : C (.err e)) (h0 : ∀ n, v = .nat n → C (k .i64 (.ofNat n)))
    (hk : ∀ j n, v = .int j n → C (k j n)) (hu : ∀ j, v = .anyi j → C (u j)) (hs : ∀ l, v = .str l → C (s l)) : C (zQz v k u s e) := by
  cases v <;> first | exact h0 _ rfl | exact hk _ _ rfl | exact hu _ rfl | exact hs _ rfl | exact he
theorem jD (v : CV) (k : IntKind → Int → OR) (u : IntKind → OR) (e : Nat) (he : C (.err e)) (h0 : ∀ n, v = .nat n → C (k .i64 (.ofNat n)))
    (hk : ∀ j n, v = .int j n → C (k j n)) (hu : ∀ j, v = .anyi j → C (u j)) : C (zL6 v k u e) := by
  cases v <;> first | exact h0 _ rfl | exact hk _ _ rfl | exact hu _ rfl | exact he
theorem uC (v : CV) (k : Key → Nat → OR) (z : OR) (hz : C z) (hk : ∀ b o, v = .ptr b o → C (k b o)) : C (zPV v k z) := by
  cases v <;> first | exact hk _ _ rfl | exact hz
theorem yF (o : Option CObj) (k : List CV → OR) (e : Nat) (he : C (.err e)) (hk : ∀ vs, o = some (.cells vs) → C (k vs)) : C (jU o k e) := by
  cases o with
  | none => exact he
  | some o => cases o <;> first | exact hk _ rfl | exact he
theorem yo (o : Option CObj) (k : List CV → OR) (e : Nat) (he : C (.err e)) (hk : ∀ vs, (o = some (.cells vs) ∨ o = some (.ro vs) ∨ ∃ u, o = some (.full u vs)) → C (k vs)) : C (wN o k e) := by
  cases o with
  | none => exact he
  | some o => cases o <;> first | exact hk _ (.inl rfl) | exact hk _ (.inr (.inl rfl)) | exact hk _ (.inr (.inr ⟨_, rfl⟩)) | exact he
theorem kY (o : Option CObj) (k : List (CV × CV) → OR) (z : OR) (hz : C z) (hk : ∀ l, o = some (.mapz l) → C (k l)) : C (zF4 o k z) := by
  unfold zF4
  split
  · exact hk _ rfl
  · exact hz
theorem kw (o : Option CObj) (k : Bool → List CV → OR) (z : OR) (hz : C z) (hk : ∀ u vs, o = some (.full u vs) → C (k u vs)) : C (zFY o k z) := by
  unfold zFY
  split
  · exact hk _ _ rfl
  · exact hz
theorem yE (o : Option CObj) (k : List CE → Nat → OR) (e : Nat) (he : C (.err e)) (hk : ∀ es c, o = some (.map es c) → C (k es c)) : C (wI o k e) := by
  cases o with
  | none => exact he
  | some o => cases o <;> first | exact hk _ _ rfl | exact he
theorem jI (v : Option CV) (e : Nat) (he : C (.err e)) (hk : ∀ x, v = some x → C (.val x)) : C (zEa v e) := by
  cases v with
  | none => exact he
  | some x => exact hk x rfl
theorem vJ (v : Option CV) (e : Nat) (he : C (.err e)) (hk : ∀ x, v = some x → C (.read x)) : C (zNg v e) := by
  cases v with
  | none => exact he
  | some x => exact hk x rfl
theorem j7 (v : Option (List CV)) (e : Nat) (he : C (.err e)) (hk : ∀ x, v = some x → C (.val (.agg x))) : C (zPD v e) := by
  cases v with
  | none => exact he
  | some x => exact hk x rfl
theorem zEg (v : Option (List CV)) (e : Nat) (he : C (.err e)) (hk : ∀ x, v = some x → C (.read (.agg x))) : C (zPn v e) := by
  cases v with
  | none => exact he
  | some x => exact hk x rfl
theorem zE7 (v : Option (List Nat)) (e : Nat) (he : C (.err e)) (hk : ∀ x, v = some x → C (.val (.str x))) : C (zQC v e) := by
  cases v with
  | none => exact he
  | some x => exact hk x rfl
theorem yT (v : Option (List CV)) (k : List CV → OR) (e : Nat) (he : C (.err e)) (hk : ∀ x, v = some x → C (k x)) : C (onL v k e) := by
  cases v with
  | none => exact he
  | some x => exact hk x rfl
theorem wW (v : Option Nat) (k : Nat → OR) (e : Nat) (he : C (.err e)) (hk : ∀ x, v = some x → C (k x)) : C (onN v k e) := by
  cases v with
  | none => exact he
  | some x => exact hk x rfl
theorem zG (b : Bool) (k : OR) (e : Nat) (he : C (.err e)) (hk : b = true → C k) : C (yY b k e) := by
  cases b with
  | false => exact he
  | true => exact hk rfl
theorem zw (n : Nat) (k : Nat → OR) : vL n k = k n := by cases n <;> rfl
theorem qe (b : Bool) (t f : OR) : ifB b t f = if b = true then t else f := by cases b <;> rfl
end
section
variable {P : Program}
theorem qN {t : TypeId} {b : Bool} (h : xn P t = some b) (w : World) : (isAgg t).run P w = .ok b w := by
  unfold xn at h
  cases hd : P.underlying t with
  | none => rw [hd] at h; cases h
  | some d =>
    rw [hd] at h
    unfold isAgg
    rw [Sem.run_bind, run_underlying hd]
    cases d <;> simp_all
theorem yU {t : TypeId} {s : Nat} (h : xZ P t = some s) (w : World) : (sizeOf t).run P w = .ok s w := by
  unfold xZ at h
  cases hi : P.info? t with
  | none => rw [hi] at h; cases h
  | some i =>
    rw [hi] at h
    injection h with h
    simp [sizeOf, typeInfo, hi, h]
theorem qS {t : TypeId} {i : TypeInfo} (h : P.info? t = some i) (w : World) : (typeInfo t).run P w = .ok i w := by
  simp [typeInfo, h]
theorem uw {ψ : Psi} {f : Value → Option CV} (hf : ∀ v c, f v = some c → zH ψ c v) : ∀ (l : List Value) {cs : List CV}, yq f l = some cs → zT ψ cs l
  | [], cs, h => by injection h with h; subst h; exact zM.2 rfl
  | v :: l, cs, h => by
    unfold yq at h
    cases hv : f v with
    | none => rw [hv] at h; cases h
    | some c =>
      rw [hv] at h
      cases hl : yq f l with
      | none => simp [hl] at h
      | some r =>
        simp [hl] at h
        subst h
        exact zX.2 ⟨hf v c hv, uw hf l hl⟩
theorem jN {ψ : Psi} : ∀ (d : Nat) {v : Value} {c : CV}, vN d v = some c → zH ψ c v
  | 0, _, _, h => by cases h
  | d + 1, v, c, h => by
    unfold vN at h
    cases v with
    | bool b => injection h with h; subst h; exact zJ.2 rfl
    | int k n =>
      injection h with h
      split at h <;> subst h
      · exact zY.2 rfl
      · exact zg.2 rfl
    | string s => injection h with h; subst h; exact zf.2 ⟨s, rfl, rfl⟩
    | pointer a => cases a with
      | none => injection h with h; subst h; exact xF.2 rfl
      | some a => cases h
    | slice a n m => cases a with
      | none =>
        cases n with
        | zero => cases m with
          | zero => injection h with h; subst h; exact zp.2 rfl
          | succ m => cases h
        | succ n => cases h
      | some a => cases h
    | map r => cases r with
      | none => injection h with h; subst h; exact yD.2 rfl
      | some r => cases h
    | nilFunc => injection h with h; subst h; exact y7.2 rfl
    | func fn a b =>
      simp only at h
      split at h
      · rename_i hab
        injection h with h; subst h
        exact yz.2 ⟨a, b, rfl, zM.2 (by simpa using hab.1), zM.2 (by simpa using hab.2)⟩
      · cases h
    | nilIface => injection h with h; subst h; exact yQ.2 rfl
    | iface t v =>
      simp only at h
      cases hv : vN d v with
      | none => rw [hv] at h; cases h
      | some c' =>
        rw [hv] at h; injection h with h; subst h
        exact yM.2 ⟨v, rfl, jN d hv⟩
    | agg cs =>
      simp only at h
      cases hv : yq (vN d) cs.toList with
      | none => rw [hv] at h; cases h
      | some c' =>
        rw [hv] at h; injection h with h; subst h
        exact ye.2 ⟨cs, rfl, uw (fun _ _ => jN d) _ hv⟩
    | tuple cs =>
      simp only at h
      cases hv : yq (vN d) cs.toList with
      | none => rw [hv] at h; cases h
      | some c' =>
        rw [hv] at h; injection h with h; subst h
        exact yG.2 ⟨cs, rfl, uw (fun _ _ => jN d) _ hv⟩
    | float k b => cases h
    | complex k a b => cases h
    | chan r => cases h
theorem uy {t : TypeId} {z : CV} (h : kM P t = some z) : ∃ v, (∀ w, (zeroValue t).run P w = .ok v w) ∧ ∀ ψ, zH ψ z v := by
  unfold kM at h
  cases hi : P.info? t with
  | none => rw [hi] at h; cases h
  | some i =>
    rw [hi] at h
    simp only [Option.bind_some] at h
    cases hz : i.zero with
    | none => rw [hz] at h; cases h
    | some v =>
      rw [hz] at h
      exact ⟨v, fun w => by simp [zeroValue, typeInfo, hi, hz], fun ψ => jN 20 h⟩
theorem wX {ψ : Psi} {c : CV} {v : Value} {cs : List CV} (h : zH ψ c v) (hc : cellsOf c = some cs) : zT ψ cs v.cells.toList := by
  have one : ∀ {c : CV} {v : Value}, zH ψ c v → v.cells = #[v] → zT ψ [c] v.cells.toList := by
    intro c v h e; rw [e]; exact zX.2 ⟨h, zM.2 rfl⟩
  cases c <;> simp only [cellsOf, Option.some.injEq, reduceCtorEq] at hc
  case agg => rw [ye] at h; obtain ⟨a, rfl, h⟩ := h; subst hc; exact h
  all_goals
    subst hc
    refine one h ?_
    have := zCR h rfl
    cases v <;> first | rfl | cases this
theorem zIP {t : TypeId} {z : List CV} (h : qd P t = some z) : ∃ v, (∀ w, (zeroValue t).run P w = .ok v w) ∧ ∀ ψ, zT ψ z v.cells.toList := by
  unfold qd at h
  cases hz : kM P t with
  | none => rw [hz] at h; cases h
  | some c =>
    rw [hz] at h
    obtain ⟨v, h1, h2⟩ := uy hz
    exact ⟨v, h1, fun ψ => wX (h2 ψ) h⟩
end
section
variable (P : Program) (ψ : Psi) (h : zD) (n : Key) (ρ : Operand → Value) (o : Op) (ty : TypeId)
def zEq (w : World) (B : Nat) : Nat := match w.heap[B]? with
  | some (.cells arr _ _) => arr.size
  | _ => 0
def ju (w w' : World) (x : Value) : Prop := ∃ nx, (execOp ρ { dst := none, op := o, type := ty, pos := "", after := #[], guard := none }).run P w = .ok nx w' ∧ (nx = .value x ∨ (nx = .skip ∧ x = undef))
def zC (w : World) : OR → Prop
  | .val v => ∃ x, ju P ρ o ty w w x ∧ zH ψ v x
  | .read v => x6 ψ (zD.fam h) w → ∃ x, ju P ρ o ty w w x ∧ zH ψ v x
  | .alloc ob v => ∃ w' x sz, ju P ρ o ty w w' x ∧ New w w' ∧ (∀ ψ', ψ.le ψ' → ψ' n = some ⟨w.heap.size, 0, sz, fun n => n⟩ → zH ψ' v x ∧ xJ ψ' w' ⟨w.heap.size, 0, sz, fun n => n⟩ ob) ∧ sz = zEq w' w.heap.size
  | .eff v h' n' => Rel ψ (zD.fam h) w → (∀ k, n.ix ≤ k.ix → k.ix < n'.ix → ψ k = none) → n'.room →
      ∃ w' x ψ', ju P ρ o ty w w' x ∧ zy ψ (zD.fam h) n w ψ' (zD.fam h') n' w' ∧ zH ψ' v x
  | .call f args => x6 ψ (zD.fam h) w → ∃ args', (execOp ρ { dst := none, op := o, type := ty, pos := "", after := #[], guard := none }).run P w = (callFunc f args').run P w ∧ zT ψ args args'.toList
  | .dfr f args => ∃ d fv cap args', (execOp ρ { dst := none, op := o, type := ty, pos := "", after := #[], guard := none }).run P w = .ok (.defer d) w ∧ d.target = .fn fv cap ∧
      (∀ w, (invoke d.target d.args).run P w = (callFunc f args').run P w) ∧ zT ψ args args'.toList
  | .recov => zCb o = true ∧ (execOp ρ { dst := none, op := o, type := ty, pos := "", after := #[], guard := none }).run P w = .ok .recover w
  | .err _ => True
  | .fork a b => Rel ψ (zD.fam h) w → zC w a ∨ zC w b
end
end Go.Ev


