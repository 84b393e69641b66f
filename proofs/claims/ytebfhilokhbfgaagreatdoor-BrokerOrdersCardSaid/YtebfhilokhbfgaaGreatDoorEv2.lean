/- A verified evaluator for the model's code: EvC, EvD, EvE, EvF. -/
import Derived.Test.YtebfhilokhbfgaaGreatDoorEv1
import Derived.Laws.Sem
import Derived.Laws.Cells
import Derived.Laws.CopyRow
import Derived.Laws.Entries
import Derived.ChangeKeysEq
import Derived.Laws.Slices
import Derived.Laws.StructEq
import Derived.Laws.Append
set_option linter.unusedSectionVars false
set_option linter.unusedVariables false
set_option linter.unusedSimpArgs false
namespace Go.Ev
variable [Sym]
theorem LV.get_nil (d : Dg) : LV.nil.get d = CV.any := by cases d <;> rfl
theorem LV.get_upd_same (f : CV → CV) (d : Dg) (t : LV) : (LV.upd f d t).get d = f (t.get d) := by cases d <;> cases t <;> rfl
theorem LV.get_upd_other (f : CV → CV) (d e : Dg) (t : LV) (h : e ≠ d) : (LV.upd f d t).get e = t.get e := by
  cases d <;> cases e <;> first | exact absurd rfl h | (cases t <;> rfl)
theorem L1.get_nil (d : Dg) : L1.nil.get d = LV.nil := by cases d <;> rfl
theorem L1.get_upd_same (f : LV → LV) (d : Dg) (t : L1) : (L1.upd f d t).get d = f (t.get d) := by cases d <;> cases t <;> rfl
theorem L1.get_upd_other (f : LV → LV) (d e : Dg) (t : L1) (h : e ≠ d) : (L1.upd f d t).get e = t.get e := by
  cases d <;> cases e <;> first | exact absurd rfl h | (cases t <;> rfl)
theorem HV.get_nil (d : Dg) : HV.nil.get d = none := by cases d <;> rfl
theorem HV.get_upd_same (f : Option CObj → Option CObj) (d : Dg) (t : HV) : (HV.upd f d t).get d = f (t.get d) := by cases d <;> cases t <;> rfl
theorem HV.get_upd_other (f : Option CObj → Option CObj) (d e : Dg) (t : HV) (h : e ≠ d) : (HV.upd f d t).get e = t.get e := by
  cases d <;> cases e <;> first | exact absurd rfl h | (cases t <;> rfl)
theorem H1.get_nil (d : Dg) : H1.nil.get d = HV.nil := by cases d <;> rfl
theorem H1.get_upd_same (f : HV → HV) (d : Dg) (t : H1) : (H1.upd f d t).get d = f (t.get d) := by cases d <;> cases t <;> rfl
theorem H1.get_upd_other (f : HV → HV) (d e : Dg) (t : H1) (h : e ≠ d) : (H1.upd f d t).get e = t.get e := by
  cases d <;> cases e <;> first | exact absurd rfl h | (cases t <;> rfl)
theorem H2.get_nil (d : Dg) : H2.nil.get d = H1.nil := by cases d <;> rfl
theorem H2.get_upd_same (f : H1 → H1) (d : Dg) (t : H2) : (H2.upd f d t).get d = f (t.get d) := by cases d <;> cases t <;> rfl
theorem H2.get_upd_other (f : H1 → H1) (d e : Dg) (t : H2) (h : e ≠ d) : (H2.upd f d t).get e = t.get e := by
  cases d <;> cases e <;> first | exact absurd rfl h | (cases t <;> rfl)
theorem H3.get_nil (d : Dg) : H3.nil.get d = H2.nil := by cases d <;> rfl
theorem H3.get_upd_same (f : H2 → H2) (d : Dg) (t : H3) : (H3.upd f d t).get d = f (t.get d) := by cases d <;> cases t <;> rfl
theorem H3.get_upd_other (f : H2 → H2) (d e : Dg) (t : H3) (h : e ≠ d) : (H3.upd f d t).get e = t.get e := by
  cases d <;> cases e <;> first | exact absurd rfl h | (cases t <;> rfl)
theorem zCY (o : Option CObj) (k : Key) (h : Heap) : yF k (yj o k h) = o := by
  cases k; simp only [yF, yj, H3.get_upd_same, H2.get_upd_same, H1.get_upd_same, HV.get_upd_same]
theorem zBY (o : Option CObj) (k j : Key) (h : Heap) (hne : j ≠ k) : yF j (yj o k h) = yF j h := by
  obtain ⟨a, b, c, d⟩ := k
  obtain ⟨a', b', c', d'⟩ := j
  simp only [yF, yj]
  by_cases h1 : a' = a
  · subst h1
    rw [H3.get_upd_same]
    by_cases h2 : b' = b
    · subst h2
      rw [H2.get_upd_same]
      by_cases h3 : c' = c
      · subst h3
        rw [H1.get_upd_same]
        by_cases h4 : d' = d
        · subst h4; exact absurd rfl hne
        · rw [HV.get_upd_other _ _ _ _ h4]
      · rw [H1.get_upd_other _ _ _ _ h3]
    · rw [H2.get_upd_other _ _ _ _ h2]
  · rw [H3.get_upd_other _ _ _ _ h1]
theorem zEF (o : Option CObj) (k j : Key) (h : Heap) : yF j (yj o k h) = if j = k then o else yF j h := by
  split
  · subst_vars; exact zCY ..
  · exact zBY _ _ _ _ ‹_›
theorem zCq (p : Loc) : qP p Tm.nil = .any := by
  cases p <;> simp only [qP, Tm.nil, LV.get_nil, L1.get_nil]
theorem qd (v : CV) (p : Loc) (t : Tm) : qP p (w9 v p t) = v := by
  cases p <;> cases t <;> simp only [qP, w9, LV.get_upd_same, L1.get_upd_same]
theorem xQ (v : CV) (p q : Loc) (t : Tm) (hne : q ≠ p) : qP q (w9 v p t) = qP q t := by
  cases t
  cases p with
  | s d => cases q with
    | s d' =>
      have : d' ≠ d := fun e => hne (by rw [e])
      simp only [qP, w9, LV.get_upd_other _ _ _ _ this]
    | w c' d' => rfl
  | w c d => cases q with
    | s d' => rfl
    | w c' d' =>
      simp only [qP, w9]
      by_cases h1 : c' = c
      · subst h1
        rw [L1.get_upd_same]
        have : d' ≠ d := fun e => hne (by rw [e])
        rw [LV.get_upd_other _ _ _ _ this]
      · rw [L1.get_upd_other _ _ _ _ h1]
theorem zBm {a b : Nat} (h : b < a) : Nat.ble a b = false := by
  cases e : Nat.ble a b with
  | false => rfl
  | true => have := Nat.le_of_ble_eq_true e; omega
theorem zH {a b : Nat} (h : Nat.ble a b = true) : a ≤ b := Nat.le_of_ble_eq_true h
theorem jy {a b : Nat} (h : a ≠ b) : Nat.beq a b = false := by
  cases e : Nat.beq a b with
  | false => rfl
  | true => exact absurd (Nat.eq_of_beq_eq_true e) h
theorem z6 {a b : Nat} (h : Nat.beq a b = true) : a = b := Nat.eq_of_beq_eq_true h
theorem qA (a : Nat) : Nat.beq a a = true := by simp
theorem Dg.ix_lt (d : Dg) : d.ix < 16 := by cases d <;> decide
theorem Dg.ix_inj {a b : Dg} (h : a.ix = b.ix) : a = b := by
  cases a <;> cases b <;> first | rfl | (exfalso; revert h; decide)
theorem Dg.succ_some {d e : Dg} (h : d.succ = some e) : e.ix = d.ix + 1 := by
  cases d <;> simp only [Dg.succ, Option.some.injEq, reduceCtorEq] at h <;> subst h <;> rfl
theorem Dg.succ_none {d : Dg} (h : d.succ = none) : d.ix = 15 := by
  cases d <;> simp only [Dg.succ, reduceCtorEq] at h <;> rfl
theorem Dg.ix_ofN {n : Nat} (h : n < 16) : (Dg.ofN n).ix = n := by
  match n, h with
  | 0, _ | 1, _ | 2, _ | 3, _ | 4, _ | 5, _ | 6, _ | 7, _ | 8, _ | 9, _ | 10, _ | 11, _ | 12, _ | 13, _ | 14, _ | 15, _ => rfl
  | n + 16, h => omega
theorem Key.ix_le (k : Key) : k.ix ≤ 65535 := by
  obtain ⟨a, b, c, d⟩ := k
  have := a.ix_lt; have := b.ix_lt; have := c.ix_lt; have := d.ix_lt
  simp only [Key.ix]; omega
theorem Key.ix_inj {j k : Key} (h : j.ix = k.ix) : j = k := by
  obtain ⟨a, b, c, d⟩ := j
  obtain ⟨a', b', c', d'⟩ := k
  have := a.ix_lt; have := b.ix_lt; have := c.ix_lt; have := d.ix_lt
  have := a'.ix_lt; have := b'.ix_lt; have := c'.ix_lt; have := d'.ix_lt
  simp only [Key.ix] at h
  have h4 : d.ix = d'.ix := by omega
  have h3 : c.ix = c'.ix := by omega
  have h2 : b.ix = b'.ix := by omega
  have h1 : a.ix = a'.ix := by omega
  rw [Dg.ix_inj h1, Dg.ix_inj h2, Dg.ix_inj h3, Dg.ix_inj h4]
theorem Key.ix_succ {k : Key} (h : k.ix < 65535) : k.succ.ix = k.ix + 1 := by
  obtain ⟨a, b, c, d⟩ := k
  simp only [Key.ix] at h ⊢
  simp only [Key.succ]
  have hz : Dg.d0.ix = 0 := rfl
  cases hd : d.succ with
  | some d' => have := Dg.succ_some hd; simp only []; omega
  | none =>
    have := Dg.succ_none hd
    cases hc : c.succ with
    | some c' => have := Dg.succ_some hc; simp only []; omega
    | none =>
      have := Dg.succ_none hc
      cases hb : b.succ with
      | some b' => have := Dg.succ_some hb; simp only []; omega
      | none =>
        have := Dg.succ_none hb
        cases ha : a.succ with
        | some a' => have := Dg.succ_some ha; simp only []; omega
        | none => have := Dg.succ_none ha; omega
theorem Key.ix_succ_top {k : Key} (h : k.ix = 65535) : k.succ.ix = 65535 := by
  obtain ⟨a, b, c, d⟩ := k
  have := a.ix_lt; have := b.ix_lt; have := c.ix_lt; have := d.ix_lt
  simp only [Key.ix] at h
  have ha : a = .d15 := Dg.ix_inj (by show a.ix = 15; omega)
  have hb : b = .d15 := Dg.ix_inj (by show b.ix = 15; omega)
  have hc : c = .d15 := Dg.ix_inj (by show c.ix = 15; omega)
  have hd : d = .d15 := Dg.ix_inj (by show d.ix = 15; omega)
  subst_vars; rfl
theorem Key.ix_le_succ (k : Key) : k.ix ≤ k.succ.ix := by
  have := k.ix_le
  by_cases h : k.ix = 65535
  · rw [Key.ix_succ_top h]; omega
  · rw [Key.ix_succ (by omega)]; omega
def Key.room (k : Key) : Prop := k.ix < 65535
theorem Key.room_of_succ {k : Key} (h : k.succ.room) : k.room := by
  have := k.ix_le
  unfold Key.room at *
  by_cases h' : k.ix = 65535
  · rw [Key.ix_succ_top h'] at h; omega
  · omega
theorem Key.ix_ofNat {n : Nat} (h : n ≤ 65535) : (Key.ofNat n).ix = n := by
  simp only [Key.ofNat, Key.ix, Dg.ix_ofN (Nat.mod_lt _ (by omega : 16 > 0))]
  omega
theorem Loc.ofNat_inj {a b : Nat} (ha : a ≤ 271) (hb : b ≤ 271) (h : Loc.ofNat a = Loc.ofNat b) : a = b := by
  unfold Loc.ofNat at h
  by_cases h1 : a ≤ 15 <;> by_cases h2 : b ≤ 15
  · rw [Nat.ble_eq_true_of_le h1, Nat.ble_eq_true_of_le h2] at h
    injection h with h
    have := congrArg Dg.ix h
    rw [Dg.ix_ofN (by omega), Dg.ix_ofN (by omega)] at this
    exact this
  · rw [Nat.ble_eq_true_of_le h1, (zBm (by omega) : Nat.ble b 15 = false)] at h
    cases h
  · rw [Nat.ble_eq_true_of_le h2, (zBm (by omega) : Nat.ble a 15 = false)] at h
    cases h
  · rw [(zBm (by omega) : Nat.ble a 15 = false), (zBm (by omega) : Nat.ble b 15 = false)] at h
    injection h with h1 h2
    have e1 := congrArg Dg.ix h1
    have e2 := congrArg Dg.ix h2
    rw [Dg.ix_ofN (by omega), Dg.ix_ofN (by omega)] at e1 e2
    omega
theorem yH {α : Type} (l : List α) (k : Nat) : nth l k = l[k]? := by
  induction l generalizing k with
  | nil => rfl
  | cons x xs ih => cases k with
    | zero => rfl
    | succ k => simp [nth, ih]
theorem kK (l : List CV) (k : Nat) : zCk l k = l[k]? := by
  induction l generalizing k with
  | nil => rfl
  | cons x xs ih => cases k with
    | zero => rfl
    | succ k => simpa [zCk] using ih k
theorem zE6 (l : List Nat) (k : Nat) : zM8 l k = l[k]? := by
  induction l generalizing k with
  | nil => rfl
  | cons x xs ih => cases k with
    | zero => rfl
    | succ k => simpa [zM8] using ih k
theorem zLe (l : List CV) (k : Nat) : zJj l k = l.drop k := by
  induction l generalizing k with
  | nil => simp [zJj]
  | cons x xs ih => cases k with
    | zero => rfl
    | succ k => simpa [zJj] using ih k
theorem zLD (l : List Nat) (k : Nat) : zJy l k = l.drop k := by
  induction l generalizing k with
  | nil => simp [zJy]
  | cons x xs ih => cases k with
    | zero => rfl
    | succ k => simpa [zJy] using ih k
theorem zMe (l : List CV) (k : Nat) : zJh l k = if k ≤ l.length then some (l.take k) else none := by
  induction l generalizing k with
  | nil => cases k with
    | zero => rfl
    | succ k => rfl
  | cons x xs ih => cases k with
    | zero => rfl
    | succ k =>
      have : zJh (x :: xs) (k + 1) = zDY x (zJh xs k) := rfl
      rw [this, ih]
      by_cases h : k ≤ xs.length
      · rw [if_pos h, if_pos (by simpa using h)]; rfl
      · rw [if_neg h, if_neg (by simpa using h)]; rfl
theorem zGi (l : List Nat) (k : Nat) : zHi l k = if k ≤ l.length then some (l.take k) else none := by
  induction l generalizing k with
  | nil => cases k with
    | zero => rfl
    | succ k => rfl
  | cons x xs ih => cases k with
    | zero => rfl
    | succ k =>
      have : zHi (x :: xs) (k + 1) = zJi x (zHi xs k) := rfl
      rw [this, ih]
      by_cases h : k ≤ xs.length
      · rw [if_pos h, if_pos (by simpa using h)]; rfl
      · rw [if_neg h, if_neg (by simpa using h)]; rfl
theorem zD3 {l r : List CV} {off n : Nat} (h : v6 l off n = some r) : (n = 0 ∨ off + n ≤ l.length) ∧ r = (l.drop off).take n := by
  unfold v6 at h
  rw [zMe, zLe] at h
  split at h
  · rename_i hle
    rw [List.length_drop] at hle
    exact ⟨by omega, (Option.some.inj h).symm⟩
  · cases h
theorem xc {l r : List CV} {off n : Nat} (h : v6 l off n = some r) : r.length = n ∧ ∀ i, i < n → r[i]? = l[off + i]? := by
  obtain ⟨hle, rfl⟩ := zD3 h
  refine ⟨by simp; omega, fun i hi => ?_⟩
  rw [List.getElem?_take_of_lt hi, List.getElem?_drop]
theorem zKi {l r : List Nat} {off n : Nat} (h : zNW l off n = some r) : (n = 0 ∨ off + n ≤ l.length) ∧ r = (l.drop off).take n := by
  unfold zNW at h
  rw [zGi, zLD] at h
  split at h
  · rename_i hle
    rw [List.length_drop] at hle
    exact ⟨by omega, (Option.some.inj h).symm⟩
  · cases h
theorem zDy {xs l r : List CV} {s : Nat} (h : zBA xs s l = some r) : xs.length = s ∧ s ≤ l.length ∧ r = xs ++ l.drop s := by
  induction xs generalizing s l r with
  | nil => cases s with
    | zero => exact ⟨rfl, Nat.zero_le _, (Option.some.inj h).symm⟩
    | succ s => cases h
  | cons x xs ih => cases s with
    | zero => cases h
    | succ s => cases l with
      | nil => cases h
      | cons y l =>
        have e : zBA (x :: xs) (s + 1) (y :: l) = zDY x (zBA xs s l) := rfl
        rw [e] at h
        cases hr : zBA xs s l with
        | none => rw [hr] at h; cases h
        | some r' =>
          rw [hr] at h
          obtain ⟨h1, h2, h3⟩ := ih hr
          injection h with h
          exact ⟨by simp [h1], by simpa using h2, by rw [← h, h3]; simp⟩
theorem zGs {xs l r : List CV} {s k : Nat} (h : qO xs s l k = some r) : xs.length = s ∧ k + s ≤ l.length ∧ r = l.take k ++ xs ++ l.drop (k + s) := by
  induction l generalizing k r with
  | nil => cases k with
    | zero =>
      obtain ⟨h1, h2, h3⟩ := zDy (show zBA xs s [] = some r from h)
      exact ⟨h1, by simpa using h2, by simpa using h3⟩
    | succ k => cases h
  | cons y l ih => cases k with
    | zero =>
      obtain ⟨h1, h2, h3⟩ := zDy (show zBA xs s (y :: l) = some r from h)
      exact ⟨h1, by simpa using h2, by simpa using h3⟩
    | succ k =>
      have e : qO xs s (y :: l) (k + 1) = zDY y (qO xs s l k) := rfl
      rw [e] at h
      cases hr : qO xs s l k with
      | none => rw [hr] at h; cases h
      | some r' =>
        rw [hr] at h
        obtain ⟨h1, h2, h3⟩ := ih hr
        injection h with h
        refine ⟨h1, by simp; omega, ?_⟩
        rw [← h, h3]
        have : k + 1 + s = (k + s) + 1 := by omega
        simp [this]
theorem wc {xs l r : List CV} {s k : Nat} (h : qO xs s l k = some r) : xs.length = s ∧ k + s ≤ l.length ∧ r.length = l.length ∧
    (∀ i, i < s → r[k + i]? = xs[i]?) ∧ (∀ i, i < k ∨ k + s ≤ i → r[i]? = l[i]?) := by
  obtain ⟨h1, h2, rfl⟩ := zGs h
  have hk : (l.take k).length = k := by simp; omega
  refine ⟨h1, h2, by simp; omega, fun i hi => ?_, fun i hi => ?_⟩
  · rw [List.append_assoc, List.getElem?_append_right (by omega), hk, Nat.add_sub_cancel_left, List.getElem?_append_left (by omega)]
  · rcases hi with hi | hi
    · rw [List.append_assoc, List.getElem?_append_left (by omega), List.getElem?_take_of_lt hi]
    · rw [List.getElem?_append_right (by simp; omega), List.getElem?_drop]
      congr 1; simp; omega
theorem wM (l : List Nat) : zAe l = l.length := by
  induction l with
  | nil => rfl
  | cons x xs ih => simp only [List.length_cons, ← ih]; rfl
theorem zFL (l : List CE) : zMW l = l.length := by
  induction l with
  | nil => rfl
  | cons x xs ih => simp only [List.length_cons, ← ih]; rfl
theorem zMG (a b : List Nat) : zOb a b = a ++ b := by
  induction a with
  | nil => rfl
  | cons x xs ih => simp only [List.cons_append, ← ih]; rfl
theorem kX (a b : List CV) : zAU a b = a ++ b := by
  induction a with
  | nil => rfl
  | cons x xs ih => simp only [List.cons_append, ← ih]; rfl
theorem zBR (x : List CV) (n : Nat) : (jI x n).length = n * x.length := by
  induction n with
  | zero => simp [jI]
  | succ n ih => rw [jI, List.length_append, ih, Nat.succ_mul]; omega
theorem zL3 {x : List CV} (n : Nat) {i : Nat} (h : i < n * x.length) : (jI x n)[i]? = x[i % x.length]? := by
  induction n generalizing i with
  | zero => simp at h
  | succ n ih =>
    rw [jI]
    by_cases hi : i < x.length
    · rw [List.getElem?_append_left hi, Nat.mod_eq_of_lt hi]
    · rw [List.getElem?_append_right (by omega), ih (by rw [Nat.succ_mul] at h; omega)]
      congr 1
      rw [Nat.mod_eq_sub_mod (by omega : i ≥ x.length)]
theorem wL (a b : List Nat) : qC a b = decide (a = b) := by
  induction a generalizing b with
  | nil => cases b <;> simp [qC]
  | cons x xs ih => cases b with
    | nil => simp [qC]
    | cons y ys =>
      have e : qC (x :: xs) (y :: ys) = (match Nat.beq x y with | false => false | true => qC xs ys) := by
        cases h : Nat.beq x y <;> simp [qC, h]
      rw [e, ih]
      by_cases h : x = y
      · subst h; simp
      · rw [jy h]; simp [h]
theorem zZ (a b : Int) : ym a b = decide (a = b) := by
  cases a with
  | ofNat a => cases b with
    | ofNat b =>
      show Nat.beq a b = _
      by_cases h : a = b
      · subst h; simp
      · rw [jy h]; simp; omega
    | negSucc b => show false = _; simp
  | negSucc a => cases b with
    | ofNat b => show false = _; simp
    | negSucc b =>
      show Nat.beq a b = _
      by_cases h : a = b
      · subst h; simp
      · rw [jy h]; simp [h]
theorem xS (a b : Int) : jz a b = decide (a < b) := by
  cases a with
  | ofNat a => cases b with
    | ofNat b =>
      show Nat.ble (a + 1) b = _
      by_cases h : a < b
      · rw [Nat.ble_eq_true_of_le h]; simp [h]
      · rw [(zBm (by omega) : Nat.ble (a + 1) b = false)]; simp; omega
    | negSucc b => show false = _; simp; omega
  | negSucc a => cases b with
    | ofNat b => show true = _; simp; omega
    | negSucc b =>
      show Nat.ble (b + 1) a = _
      by_cases h : b < a
      · rw [Nat.ble_eq_true_of_le h]; simp; omega
      · rw [(zBm (by omega) : Nat.ble (b + 1) a = false)]; simp; omega
theorem yu (j k : IntKind) : kEq j k = decide (j = k) := by cases j <;> cases k <;> rfl
theorem kO (b : Bool) : zAp b = !b := by cases b <;> rfl
end Go.Ev

namespace Go.Ev
variable [Sym]
structure Pl where
  blk : Nat
  off : Nat
  sz : Nat
  ck : Nat → Nat
abbrev Psi := Key → Option Pl
mutual
def zG (ψ : Psi) : CV → Value → Prop
  | .bool b, v => v = .bool b
  | .nat n, v => v = .int .i64 (Int.ofNat n)
  | .int k n, v => v = .int k n
  | .anyi k, v => ∃ n, v = .int k n
  | .str s, v => ∃ b, v = .string b ∧ zd b = s
  | .nilptr, v => v = .pointer none
  | .ptr b o, v => ∃ p, ψ b = some p ∧ v = .pointer (some ⟨p.blk, p.off + o, none⟩)
  | .nilsl, v => v = .slice none 0 0
  | .sl b o len cap esz ex, v => ∃ p x cap', ψ b = some p ∧ v = .slice (some ⟨p.blk, x, none⟩) len cap' ∧ cap ≤ cap' ∧ len ≤ cap' ∧ (ex = true → cap' = cap) ∧
      ((x = p.off + o ∧ (ex = false → x + cap' * esz = p.sz)) ∨ cap' = 0)
  | .nilmap, v => v = .map none
  | .map b, v => ∃ p, ψ b = some p ∧ v = .map (some p.blk)
  | .func fn a c, v => ∃ a' c', v = .func fn a' c' ∧ zK ψ a a'.toList ∧ zK ψ c c'.toList
  | .nilfunc, v => v = .nilFunc
  | .iface t x, v => ∃ y, v = .iface t y ∧ zG ψ x y
  | .niliface, v => v = .nilIface
  | .agg cs, v => ∃ a, v = .agg a ∧ zK ψ cs a.toList
  | .tup cs, v => ∃ a, v = .tuple a ∧ zK ψ cs a.toList
  | .sym i, v => v = Sym.val i
  | .win b esz e n, v => Sym.arg b = some v ∧ ∃ base : Option Addr, ∃ len cap : Nat, ∃ i : Int, v = .slice base len cap ∧ Sym.val n = .int .i64 len ∧ Sym.val e = .int .i64 i ∧
      (0 ≤ i → i < len → ∃ p x, ψ b = some p ∧ base = some ⟨p.blk, x, none⟩ ∧ p.off = x + i.toNat * esz)
  | .sst l, v => ∃ b : ByteArray, v = .string b ∧ zK ψ l (b.data.toList.map fun x => Value.int .u8 (Int.ofNat x.toNat))
  | .big n, v => ∃ m : Nat, v = .int .i64 (Int.ofNat m) ∧ n ≤ m
  | .any, _ => True
def zK (ψ : Psi) : List CV → List Value → Prop
  | [], l => l = []
  | c :: cs, l => ∃ v r, l = v :: r ∧ zG ψ c v ∧ zK ψ cs r
end
def Psi.le (ψ ψ' : Psi) : Prop := ∀ k p, ψ k = some p → ψ' k = some p
theorem Psi.le_refl (ψ : Psi) : ψ.le ψ := fun _ _ h => h
theorem Psi.le_trans {a b c : Psi} (h : a.le b) (h' : b.le c) : a.le c := fun k p e => h' k p (h k p e)
mutual
theorem zG.mono {ψ ψ' : Psi} (hle : ψ.le ψ') : ∀ (c : CV) {v : Value}, zG ψ c v → zG ψ' c v
  | .bool _, _, h => h
  | .nat _, _, h => h
  | .int _ _, _, h => h
  | .anyi _, _, h => h
  | .str _, _, h => h
  | .nilptr, _, h => h
  | .ptr _ _, _, h => by
    unfold zG at h ⊢
    obtain ⟨p, hp, e⟩ := h
    exact ⟨p, hle _ _ hp, e⟩
  | .nilsl, _, h => h
  | .sl .., _, h => by
    unfold zG at h ⊢
    obtain ⟨p, x, c, hp, r⟩ := h
    exact ⟨p, x, c, hle _ _ hp, r⟩
  | .nilmap, _, h => h
  | .map _, _, h => by
    unfold zG at h ⊢
    obtain ⟨p, hp, e⟩ := h
    exact ⟨p, hle _ _ hp, e⟩
  | .func _ a c, _, h => by
    unfold zG at h ⊢
    obtain ⟨a', c', e, h1, h2⟩ := h
    exact ⟨a', c', e, zK.mono hle a h1, zK.mono hle c h2⟩
  | .nilfunc, _, h => h
  | .iface _ x, _, h => by
    unfold zG at h ⊢
    obtain ⟨y, e, h1⟩ := h
    exact ⟨y, e, zG.mono hle x h1⟩
  | .niliface, _, h => h
  | .agg cs, _, h => by
    unfold zG at h ⊢
    obtain ⟨a, e, h1⟩ := h
    exact ⟨a, e, zK.mono hle cs h1⟩
  | .tup cs, _, h => by
    unfold zG at h ⊢
    obtain ⟨a, e, h1⟩ := h
    exact ⟨a, e, zK.mono hle cs h1⟩
  | .sym _, _, h => h
  | .win .., _, h => by
    unfold zG at h ⊢
    obtain ⟨h0, base, len, cap, i, h1, h2, h3, h4⟩ := h
    refine ⟨h0, base, len, cap, i, h1, h2, h3, fun q1 q2 => ?_⟩
    obtain ⟨p, x, hp, r⟩ := h4 q1 q2
    exact ⟨p, x, hle _ _ hp, r⟩
  | .sst l, _, h => by
    unfold zG at h ⊢
    obtain ⟨b, e, h1⟩ := h
    exact ⟨b, e, zK.mono hle l h1⟩
  | .big _, _, h => h
  | .any, _, _ => by unfold zG; trivial
theorem zK.mono {ψ ψ' : Psi} (hle : ψ.le ψ') : ∀ (cs : List CV) {l : List Value}, zK ψ cs l → zK ψ' cs l
  | [], _, h => h
  | c :: cs, _, h => by
    unfold zK at h ⊢
    obtain ⟨v, r, e, h1, h2⟩ := h
    exact ⟨v, r, e, zG.mono hle c h1, zK.mono hle cs h2⟩
end
section
variable {ψ : Psi}
theorem zI {l : List Value} : zK ψ [] l ↔ l = [] := by unfold zK; rfl
theorem zP {c : CV} {cs : List CV} {l : List Value} : zK ψ (c :: cs) l ↔ ∃ v r, l = v :: r ∧ zG ψ c v ∧ zK ψ cs r := by
  rw [zK]
theorem zL {c : CV} {cs : List CV} {v : Value} {r : List Value} : zK ψ (c :: cs) (v :: r) ↔ zG ψ c v ∧ zK ψ cs r := by
  rw [zP]
  constructor
  · rintro ⟨v', r', e, h1, h2⟩; cases e; exact ⟨h1, h2⟩
  · rintro ⟨h1, h2⟩; exact ⟨v, r, rfl, h1, h2⟩
theorem zK.length {cs : List CV} {l : List Value} (h : zK ψ cs l) : l.length = cs.length := by
  induction cs generalizing l with
  | nil => rw [zI] at h; subst h; rfl
  | cons c cs ih =>
    rw [zP] at h
    obtain ⟨v, r, rfl, _, h2⟩ := h
    simp [ih h2]
theorem xT {cs : List CV} {l : List Value} : zK ψ cs l ↔ l.length = cs.length ∧ ∀ (i : Nat) (c : CV) (v : Value), cs[i]? = some c → l[i]? = some v → zG ψ c v := by
  induction cs generalizing l with
  | nil => rw [zI]; cases l <;> simp
  | cons c cs ih =>
    cases l with
    | nil => rw [zP]; simp
    | cons v r =>
      rw [zL, ih]
      constructor
      · rintro ⟨h1, h2, h3⟩
        refine ⟨by simp [h2], fun i d u hd hu => ?_⟩
        cases i with
        | zero => simp at hd hu; subst hd; subst hu; exact h1
        | succ i => exact h3 i d u (by simpa using hd) (by simpa using hu)
      · rintro ⟨h1, h2⟩
        refine ⟨h2 0 c v rfl rfl, by simpa using h1, fun i d u hd hu => h2 (i + 1) d u (by simpa using hd) (by simpa using hu)⟩
theorem zK.get {cs : List CV} {l : List Value} (h : zK ψ cs l) {i : Nat} {c : CV} (hc : cs[i]? = some c) : ∃ v, l[i]? = some v ∧ zG ψ c v := by
  obtain ⟨h1, h2⟩ := xT.1 h
  have hi : i < cs.length := by
    rcases Nat.lt_or_ge i cs.length with h | h
    · exact h
    · rw [List.getElem?_eq_none h] at hc; cases hc
  have : l[i]? = some (l[i]'(by omega)) := List.getElem?_eq_getElem _
  exact ⟨_, this, h2 i c _ hc this⟩
theorem zK.append {a b : List CV} {l m : List Value} (h : zK ψ a l) (h' : zK ψ b m) : zK ψ (a ++ b) (l ++ m) := by
  induction a generalizing l with
  | nil => rw [zI] at h; subst h; exact h'
  | cons c a ih =>
    rw [zP] at h
    obtain ⟨v, r, rfl, h1, h2⟩ := h
    exact zL.2 ⟨h1, ih h2⟩
theorem zK.take {cs : List CV} {l : List Value} (h : zK ψ cs l) (n : Nat) : zK ψ (cs.take n) (l.take n) := by
  obtain ⟨h1, h2⟩ := xT.1 h
  refine xT.2 ⟨by simp [h1], fun i c v hc hv => ?_⟩
  rw [List.getElem?_take] at hc hv
  split at hc
  · rename_i hi; rw [if_pos hi] at hv; exact h2 i c v hc hv
  · cases hc
theorem zK.drop {cs : List CV} {l : List Value} (h : zK ψ cs l) (n : Nat) : zK ψ (cs.drop n) (l.drop n) := by
  obtain ⟨h1, h2⟩ := xT.1 h
  refine xT.2 ⟨by simp [h1], fun i c v hc hv => ?_⟩
  rw [List.getElem?_drop] at hc hv
  exact h2 _ c v hc hv
theorem zF {b : Bool} {v : Value} : zG ψ (.bool b) v ↔ v = .bool b := by rw [zG]
theorem zO {n : Nat} {v : Value} : zG ψ (.nat n) v ↔ v = .int .i64 (Int.ofNat n) := by rw [zG]
theorem zV {k : IntKind} {n : Int} {v : Value} : zG ψ (.int k n) v ↔ v = .int k n := by rw [zG]
theorem z7 {k : IntKind} {v : Value} : zG ψ (.anyi k) v ↔ ∃ n, v = .int k n := by rw [zG]
theorem za {s : List Nat} {v : Value} : zG ψ (.str s) v ↔ ∃ b, v = .string b ∧ zd b = s := by rw [zG]
theorem yk {v : Value} : zG ψ .nilptr v ↔ v = .pointer none := by rw [zG]
theorem zb {b : Key} {o : Nat} {v : Value} : zG ψ (.ptr b o) v ↔ ∃ p, ψ b = some p ∧ v = .pointer (some ⟨p.blk, p.off + o, none⟩) := by rw [zG]
theorem zc {v : Value} : zG ψ .nilsl v ↔ v = .slice none 0 0 := by rw [zG]
theorem zl {b : Key} {o len cap esz : Nat} {ex : Bool} {v : Value} : zG ψ (.sl b o len cap esz ex) v ↔ ∃ p x cap', ψ b = some p ∧ v = .slice (some ⟨p.blk, x, none⟩) len cap' ∧ cap ≤ cap' ∧ len ≤ cap' ∧
    (ex = true → cap' = cap) ∧ ((x = p.off + o ∧ (ex = false → x + cap' * esz = p.sz)) ∨ cap' = 0) := by rw [zG]
theorem zk {v : Value} : zG ψ .nilmap v ↔ v = .map none := by rw [zG]
theorem yS {b : Key} {v : Value} : zG ψ (.map b) v ↔ ∃ p, ψ b = some p ∧ v = .map (some p.blk) := by rw [zG]
theorem yf {fn : Fn} {a c : List CV} {v : Value} : zG ψ (.func fn a c) v ↔ ∃ a' c', v = .func fn a' c' ∧ zK ψ a a'.toList ∧ zK ψ c c'.toList := by rw [zG]
theorem yY {v : Value} : zG ψ .nilfunc v ↔ v = .nilFunc := by rw [zG]
theorem zq {t : TypeId} {x : CV} {v : Value} : zG ψ (.iface t x) v ↔ ∃ y, v = .iface t y ∧ zG ψ x y := by rw [zG]
theorem zr {v : Value} : zG ψ .niliface v ↔ v = .nilIface := by rw [zG]
theorem yL {cs : List CV} {v : Value} : zG ψ (.agg cs) v ↔ ∃ a, v = .agg a ∧ zK ψ cs a.toList := by rw [zG]
theorem zn {cs : List CV} {v : Value} : zG ψ (.tup cs) v ↔ ∃ a, v = .tuple a ∧ zK ψ cs a.toList := by rw [zG]
theorem yX {i : SE} {v : Value} : zG ψ (.sym i) v ↔ v = Sym.val i := by rw [zG]
theorem x8 {b : Key} {esz : Nat} {e n : SE} {v : Value} : zG ψ (.win b esz e n) v ↔ Sym.arg b = some v ∧ ∃ base : Option Addr, ∃ len cap : Nat, ∃ i : Int, v = .slice base len cap ∧ Sym.val n = .int .i64 len ∧ Sym.val e = .int .i64 i ∧ (0 ≤ i → i < len → ∃ p x, ψ b = some p ∧ base = some ⟨p.blk, x, none⟩ ∧ p.off = x + i.toNat * esz) := by rw [zG]
theorem y2 {l : List CV} {v : Value} : zG ψ (.sst l) v ↔ ∃ b : ByteArray, v = .string b ∧ zK ψ l (b.data.toList.map fun x => Value.int .u8 (Int.ofNat x.toNat)) := by rw [zG]
theorem x9 {n : Nat} {v : Value} : zG ψ (.big n) v ↔ ∃ m : Nat, v = .int .i64 (Int.ofNat m) ∧ n ≤ m := by rw [zG]
theorem xy {v : Value} : zG ψ .any v := by rw [zG]; trivial
theorem qN : zG ψ .undef undef := zn.2 ⟨#[], rfl, zI.2 rfl⟩
end
def u9 (ψ : Psi) (ck : Nat → Nat) (c : CE) (e : MapEntry) : Prop := zG ψ c.key e.key ∧ zG ψ c.val e.val ∧ e.born = ck c.born
def zw (ψ : Psi) (ck : Nat → Nat) : List CE → List MapEntry → Prop
  | [], l => l = []
  | c :: cs, l => ∃ e r, l = e :: r ∧ u9 ψ ck c e ∧ zw ψ ck cs r
structure wV (ck : Nat → Nat) (clock : Nat) : Prop where
  one : ∀ a b, ck a = ck b → a = b
  cmp : ∀ k x, x < clock + k ↔ ck x < ck (clock + k)
  run : ∀ k, ck (clock + k) = ck clock + k
def zAI (ck : Nat → Nat) (y : Nat) : Prop := ∀ x, x < y ↔ ck x < ck y
theorem wV.id (clock : Nat) : wV (fun n => n) clock := ⟨fun _ _ h => h, fun _ _ => Iff.rfl, fun _ => rfl⟩
theorem wV.succ {ck : Nat → Nat} {clock : Nat} (h : wV ck clock) : wV ck (clock + 1) :=
  ⟨h.one, fun k x => by rw [show clock + 1 + k = clock + (1 + k) from by omega]; exact h.cmp (1 + k) x, fun k => by rw [show clock + 1 + k = clock + (1 + k) from by omega, h.run, h.run 1]; omega⟩
theorem wV.here {ck : Nat → Nat} {clock : Nat} (h : wV ck clock) : zAI ck clock := fun x => h.cmp 0 x
theorem wV.step {ck : Nat → Nat} {clock : Nat} (h : wV ck clock) : ck (clock + 1) = ck clock + 1 := h.run 1
theorem wV.inj {ck : Nat → Nat} {clock : Nat} (h : wV ck clock) {a b : Nat} : ck a = ck b ↔ a = b := ⟨h.one a b, fun e => by rw [e]⟩
def yt (ψ : Psi) (ck : Nat → Nat) (es : List CE) (l : List MapEntry) : Prop := ∃ l', l'.Perm l ∧ zw ψ ck es l'
theorem yt.nil {ψ : Psi} {ck : Nat → Nat} : yt ψ ck [] [] := ⟨[], List.Perm.refl _, rfl⟩
def yJ (ψ : Psi) (w : World) (p : Pl) (vs : List CV) : Prop :=
  ∃ arr elem fz, w.heap[p.blk]? = some (.cells arr elem fz) ∧ arr.size = p.sz ∧ p.off + vs.length ≤ p.sz ∧ (fz.1 = fz.2 ∨ p.sz ≤ fz.1) ∧
    ∀ i c, vs[i]? = some c → ∃ x, arr[p.off + i]? = some x ∧ zG ψ c x
def zA8 (ψ : Psi) (w : World) (p : Pl) (vs : List CV) : Prop :=
  ∃ arr elem fz, w.heap[p.blk]? = some (.cells arr elem fz) ∧ arr.size = p.sz ∧ p.off + vs.length ≤ p.sz ∧
    ∀ i c, vs[i]? = some c → ∃ x, arr[p.off + i]? = some x ∧ zG ψ c x
def jP (ψ : Psi) (w : World) (p : Pl) (u : Bool) (vs : List CV) : Prop :=
  ∃ arr elem fz, w.heap[p.blk]? = some (.cells arr elem fz) ∧ arr.size = p.sz ∧ p.off + vs.length = p.sz ∧ (fz.1 = fz.2 ∨ u = false ∧ p.sz ≤ fz.1) ∧
    ∀ i c, vs[i]? = some c → ∃ x, arr[p.off + i]? = some x ∧ zG ψ c x
theorem jP.toCells {ψ : Psi} {w : World} {p : Pl} {u : Bool} {vs : List CV} (h : jP ψ w p u vs) : yJ ψ w p vs :=
  let ⟨a, e, f, h1, h2, h3, h4, h5⟩ := h
  ⟨a, e, f, h1, h2, Nat.le_of_eq h3, h4.elim .inl (fun h => .inr h.2), h5⟩
theorem yJ.toRo {ψ : Psi} {w : World} {p : Pl} {vs : List CV} (h : yJ ψ w p vs) : zA8 ψ w p vs :=
  let ⟨a, e, f, h1, h2, h3, _, h5⟩ := h
  ⟨a, e, f, h1, h2, h3, h5⟩
def yy (ψ : Psi) (w : World) (p : Pl) : CObj → Prop
  | .cells vs => yJ ψ w p vs
  | .ro vs => zA8 ψ w p vs
  | .map es clock => ∃ arr, w.heap[p.blk]? = some (.map arr (p.ck clock)) ∧ yt ψ p.ck es arr.toList ∧ wV p.ck clock
  | .striter s pos => ∃ b, w.heap[p.blk]? = some (.stringIter b pos) ∧ zd b = s ∧ p.off = 0
  | .full u vs => jP ψ w p u vs
  | .mapiter m since seen stepped => ∃ m' ck, w.heap[p.blk]? = some (.mapIter m' (ck since) (seen.map ck).toArray (ck stepped)) ∧ p.off = 0 ∧
      (match m with
       | none => m' = none
       | some k => ∃ q, ψ k = some q ∧ m' = some q.blk ∧ ck = q.ck ∧ zAI ck since ∧ zAI ck stepped)
abbrev Fam := Key → Option CObj
noncomputable def Heap.fam (h : Heap) : Fam := fun k => yF k h
def CObj.isRo : CObj → Bool
  | .ro _ => true
  | _ => false
def xi (ψ : Psi) (g : Fam) (w : World) : Prop := ∀ k o p, g k = some o → ψ k = some p → yy ψ w p o
structure Rel (ψ : Psi) (g : Fam) (w : World) : Prop where
  on : xi ψ g w
  tot : ∀ k o, g k = some o → ∃ p, ψ k = some p
  inj : ∀ k₁ k₂ o₁ o₂ p₁ p₂, g k₁ = some o₁ → g k₂ = some o₂ → ψ k₁ = some p₁ → ψ k₂ = some p₂ → (o₁.isRo = false ∨ o₂.isRo = false) → p₁.blk = p₂.blk → k₁ = k₂
structure zh (ψ : Psi) (g : Fam) (n : Key) (w : World) (ψ' : Psi) (g' : Fam) (n' : Key) (w' : World) : Prop where
  ext : ψ.le ψ'
  out : ∀ k, (k.ix < n.ix ∨ n'.ix ≤ k.ix) → ψ' k = ψ k
  rel : Rel ψ' g' w'
  frame : ∀ B, B < w.heap.size → (∀ k o p, g k = some o → o.isRo = false → ψ k = some p → p.blk ≠ B) → w'.heap[B]? = w.heap[B]?
  img : ∀ k o p, g' k = some o → o.isRo = false → ψ' k = some p → (∃ k₀ o₀ p₀, g k₀ = some o₀ ∧ o₀.isRo = false ∧ ψ k₀ = some p₀ ∧ p₀.blk = p.blk) ∨ w.heap.size ≤ p.blk
  size : w.heap.size ≤ w'.heap.size
  tape : w'.tape = w.tape
  os : w'.os = w.os
  output : w'.output = w.output
  mono : n.ix ≤ n'.ix
  imgA : ∀ k o p, g' k = some o → ψ' k = some p → (∃ k₀ o₀ p₀, g k₀ = some o₀ ∧ ψ k₀ = some p₀ ∧ p₀.blk = p.blk) ∨ w.heap.size ≤ p.blk
theorem zh.refl {ψ : Psi} {g : Fam} {n : Key} {w : World} (h : Rel ψ g w) : zh ψ g n w ψ g n w :=
  ⟨Psi.le_refl _, fun _ _ => rfl, h, fun _ _ _ => rfl, fun k o p h1 h2 h3 => .inl ⟨k, o, p, h1, h2, h3, rfl⟩, Nat.le_refl _, rfl, rfl, rfl, Nat.le_refl _, fun k o p h1 h3 => .inl ⟨k, o, p, h1, h3, rfl⟩⟩
theorem zh.trans {ψ ψ₁ ψ₂ : Psi} {g g₁ g₂ : Fam} {n n₁ n₂ : Key} {w w₁ w₂ : World} (h : zh ψ g n w ψ₁ g₁ n₁ w₁) (h' : zh ψ₁ g₁ n₁ w₁ ψ₂ g₂ n₂ w₂) :
    zh ψ g n w ψ₂ g₂ n₂ w₂ := by
  have hm := h.mono
  have hm' := h'.mono
  refine ⟨Psi.le_trans h.ext h'.ext, fun k hk => ?_, h'.rel, fun B hB hfree => ?_, fun k o p h1 h2 h3 => ?_, Nat.le_trans h.size h'.size,
    h'.tape.trans h.tape, h'.os.trans h.os, h'.output.trans h.output, Nat.le_trans hm hm', fun k o p h1 h3 => ?_⟩
  · rw [h'.out k (by omega), h.out k (by omega)]
  · rw [h'.frame B (Nat.lt_of_lt_of_le hB h.size), h.frame B hB hfree]
    intro k o p hk hro hp e
    rcases h.img k o p hk hro hp with ⟨k₀, o₀, p₀, a, b, c, d⟩ | hge
    · exact hfree k₀ o₀ p₀ a b c (d.trans e)
    · omega
  · rcases h'.img k o p h1 h2 h3 with ⟨k₀, o₀, p₀, a, b, c, d⟩ | hge
    · rcases h.img k₀ o₀ p₀ a b c with ⟨k₁, o₁, p₁, a', b', c', d'⟩ | hge
      · exact .inl ⟨k₁, o₁, p₁, a', b', c', d'.trans d⟩
      · exact .inr (by omega)
    · exact .inr (Nat.le_trans h.size hge)
  · rcases h'.imgA k o p h1 h3 with ⟨k₀, o₀, p₀, a, c, d⟩ | hge
    · rcases h.imgA k₀ o₀ p₀ a c with ⟨k₁, o₁, p₁, a', c', d'⟩ | hge
      · exact .inl ⟨k₁, o₁, p₁, a', c', d'.trans d⟩
      · exact .inr (by omega)
    · exact .inr (Nat.le_trans h.size hge)
end Go.Ev

namespace Go.Ev
variable [Sym]
theorem yy.congr {ψ : Psi} {w w' : World} {p : Pl} {o : CObj} (h : w'.heap[p.blk]? = w.heap[p.blk]?) (ho : yy ψ w p o) : yy ψ w' p o := by
  cases o with
  | cells vs => obtain ⟨arr, e, fz, h1, r⟩ := ho; exact ⟨arr, e, fz, h.trans h1, r⟩
  | ro vs => obtain ⟨arr, e, fz, h1, r⟩ := ho; exact ⟨arr, e, fz, h.trans h1, r⟩
  | map es c => obtain ⟨arr, h1, r⟩ := ho; exact ⟨arr, h.trans h1, r⟩
  | striter s q => obtain ⟨b, h1, r⟩ := ho; exact ⟨b, h.trans h1, r⟩
  | full u vs => obtain ⟨arr, e, fz, h1, r⟩ := ho; exact ⟨arr, e, fz, h.trans h1, r⟩
  | mapiter m a b c => obtain ⟨m', ck, h1, r⟩ := ho; exact ⟨m', ck, h.trans h1, r⟩
theorem zw.mono {ψ ψ' : Psi} (hle : ψ.le ψ') {ck : Nat → Nat} : ∀ {es : List CE} {l : List MapEntry}, zw ψ ck es l → zw ψ' ck es l
  | [], _, h => h
  | c :: es, _, h => by
    obtain ⟨e, r, rfl, ⟨h1, h2, h3⟩, h4⟩ := h
    exact ⟨e, r, rfl, ⟨h1.mono hle, h2.mono hle, h3⟩, zw.mono hle h4⟩
theorem yt.mono {ψ ψ' : Psi} (hle : ψ.le ψ') {ck : Nat → Nat} {es : List CE} {l : List MapEntry} (h : yt ψ ck es l) : yt ψ' ck es l :=
  let ⟨l', hp, hc⟩ := h
  ⟨l', hp, hc.mono hle⟩
theorem yy.mono {ψ ψ' : Psi} (hle : ψ.le ψ') {w : World} {p : Pl} {o : CObj} (ho : yy ψ w p o) : yy ψ' w p o := by
  cases o with
  | cells vs =>
    obtain ⟨arr, e, fz, h1, h2, h3, h4, h5⟩ := ho
    exact ⟨arr, e, fz, h1, h2, h3, h4, fun i c hc => let ⟨x, a, b⟩ := h5 i c hc; ⟨x, a, b.mono hle⟩⟩
  | ro vs =>
    obtain ⟨arr, e, fz, h1, h2, h3, h5⟩ := ho
    exact ⟨arr, e, fz, h1, h2, h3, fun i c hc => let ⟨x, a, b⟩ := h5 i c hc; ⟨x, a, b.mono hle⟩⟩
  | map es c => obtain ⟨arr, h1, r, h2⟩ := ho; exact ⟨arr, h1, r.mono hle, h2⟩
  | striter s q => exact ho
  | full u vs =>
    obtain ⟨arr, e, fz, h1, h2, h3, h4, h5⟩ := ho
    exact ⟨arr, e, fz, h1, h2, h3, h4, fun i c hc => let ⟨x, a, b⟩ := h5 i c hc; ⟨x, a, b.mono hle⟩⟩
  | mapiter m a b c =>
    obtain ⟨m', ck, h1, h2, r⟩ := ho
    refine ⟨m', ck, h1, h2, ?_⟩
    cases m with
    | none => exact r
    | some k => obtain ⟨q, h3, h4⟩ := r; exact ⟨q, hle _ _ h3, h4⟩
theorem yy.lt {ψ : Psi} {w : World} {p : Pl} {o : CObj} (ho : yy ψ w p o) : p.blk < w.heap.size := by
  have key : ∀ {o : Obj}, w.heap[p.blk]? = some o → p.blk < w.heap.size := by
    intro o h
    rcases Nat.lt_or_ge p.blk w.heap.size with h' | h'
    · exact h'
    · rw [Array.getElem?_eq_none h'] at h; cases h
  cases o with
  | cells vs => obtain ⟨arr, e, fz, h1, _⟩ := ho; exact key h1
  | ro vs => obtain ⟨arr, e, fz, h1, _⟩ := ho; exact key h1
  | map es c => obtain ⟨arr, h1, _⟩ := ho; exact key h1
  | striter s q => obtain ⟨b, h1, _⟩ := ho; exact key h1
  | full u vs => obtain ⟨arr, e, fz, h1, _⟩ := ho; exact key h1
  | mapiter m a b c => obtain ⟨m', ck, h1, _⟩ := ho; exact key h1
def Fam.upd (g : Fam) (k : Key) (o : Option CObj) : Fam := fun j => if j = k then o else g j
theorem zp (o : Option CObj) (k : Key) (h : Heap) : Heap.fam (yj o k h) = Fam.upd (Heap.fam h) k o := by
  funext j; exact zEF o k j h
theorem Fam.upd_same (g : Fam) (k : Key) (o : Option CObj) : g.upd k o k = o := by simp [Fam.upd]
theorem Fam.upd_other (g : Fam) {k j : Key} (o : Option CObj) (h : j ≠ k) : g.upd k o j = g j := by simp [Fam.upd, h]
theorem Rel.sub {ψ : Psi} {g g' : Fam} {w : World} (h : Rel ψ g w) (hs : ∀ k o, g' k = some o → g k = some o) : Rel ψ g' w :=
  ⟨fun k o p a b => h.on k o p (hs k o a) b, fun k o a => h.tot k o (hs k o a), fun k₁ k₂ o₁ o₂ p₁ p₂ a b => h.inj k₁ k₂ o₁ o₂ p₁ p₂ (hs _ _ a) (hs _ _ b)⟩
end Go.Ev
namespace Go
def World.upB (w : World) (B : Nat) (o : Obj) : World := { w with heap := w.heap.setIfInBounds B o }
end Go
namespace Go.Ev
variable [Sym]
theorem xE {w : World} {B : Nat} (o : Obj) (h : B < w.heap.size) : (w.upB B o).heap[B]? = some o := by
  simp [World.upB, h]
theorem wI {w : World} {B C : Nat} (o : Obj) (h : C ≠ B) : (w.upB B o).heap[C]? = w.heap[C]? := by
  simp only [World.upB, Array.getElem?_setIfInBounds]
  rw [if_neg (fun e => h e.symm)]
theorem zCN (w : World) (B : Nat) (o : Obj) : (w.upB B o).heap.size = w.heap.size := by simp [World.upB]
theorem qh {ψ : Psi} {g : Fam} {n k : Key} {w : World} {p : Pl} {o o' : CObj} {ob : Obj} (h : Rel ψ g w) (hk : g k = some o) (hro : o.isRo = false)
    (hp : ψ k = some p) (ho' : yy ψ (w.upB p.blk ob) p o') : zh ψ g n w ψ (g.upd k (some o')) n (w.upB p.blk ob) := by
  have hlt := (h.on k o p hk hp).lt
  refine ⟨Psi.le_refl _, fun _ _ => rfl, ⟨?_, ?_, ?_⟩, ?_, ?_, by rw [zCN]; exact Nat.le_refl _, rfl, rfl, rfl, Nat.le_refl _, ?_⟩
  · intro j q pj hq hpj
    by_cases hj : j = k
    · subst hj
      rw [Fam.upd_same] at hq
      rw [hp] at hpj
      injection hq with hq; injection hpj with hpj
      subst hq; subst hpj; exact ho'
    · rw [Fam.upd_other _ _ hj] at hq
      refine yy.congr (wI _ fun e => hj ?_) (h.on j q pj hq hpj)
      exact h.inj j k q o pj p hq hk hpj hp (.inr hro) e
  · intro j q hq
    by_cases hj : j = k
    · subst hj; exact ⟨p, hp⟩
    · rw [Fam.upd_other _ _ hj] at hq; exact h.tot j q hq
  · intro k₁ k₂ o₁ o₂ p₁ p₂ h1 h2 h3 h4 hr e
    have e1 : ∃ q, g k₁ = some q ∧ (o₁.isRo = false → q.isRo = false) := by
      by_cases hj : k₁ = k
      · subst hj; exact ⟨o, hk, fun _ => hro⟩
      · rw [Fam.upd_other _ _ hj] at h1; exact ⟨_, h1, fun h => h⟩
    have e2 : ∃ q, g k₂ = some q ∧ (o₂.isRo = false → q.isRo = false) := by
      by_cases hj : k₂ = k
      · subst hj; exact ⟨o, hk, fun _ => hro⟩
      · rw [Fam.upd_other _ _ hj] at h2; exact ⟨_, h2, fun h => h⟩
    obtain ⟨q1, e1, r1⟩ := e1; obtain ⟨q2, e2, r2⟩ := e2
    exact h.inj k₁ k₂ q1 q2 p₁ p₂ e1 e2 h3 h4 (hr.imp r1 r2) e
  · intro B _ hfree
    exact wI _ fun e => hfree k o p hk hro hp e.symm
  · intro j q pj hq hroj hpj
    by_cases hj : j = k
    · subst hj
      rw [hp] at hpj; injection hpj with hpj; subst hpj
      exact .inl ⟨j, o, p, hk, hro, hp, rfl⟩
    · rw [Fam.upd_other _ _ hj] at hq
      exact .inl ⟨j, q, pj, hq, hroj, hpj, rfl⟩
  · intro j q pj hq hpj
    by_cases hj : j = k
    · subst hj
      rw [hp] at hpj; injection hpj with hpj; subst hpj
      exact .inl ⟨j, o, p, hk, hp, rfl⟩
    · rw [Fam.upd_other _ _ hj] at hq
      exact .inl ⟨j, q, pj, hq, hpj, rfl⟩
structure New (w w' : World) : Prop where
  size : w'.heap.size = w.heap.size + 1
  old : ∀ B, B < w.heap.size → w'.heap[B]? = w.heap[B]?
  tape : w'.tape = w.tape
  os : w'.os = w.os
  output : w'.output = w.output
def Psi.upd (ψ : Psi) (k : Key) (p : Pl) : Psi := fun j => if j = k then some p else ψ j
theorem Psi.upd_same (ψ : Psi) (k : Key) (p : Pl) : ψ.upd k p k = some p := by simp [Psi.upd]
theorem Psi.upd_other (ψ : Psi) {k j : Key} (p : Pl) (h : j ≠ k) : ψ.upd k p j = ψ j := by simp [Psi.upd, h]
theorem Psi.le_upd {ψ : Psi} {k : Key} (p : Pl) (h : ψ k = none) : ψ.le (ψ.upd k p) := by
  intro j q hj
  by_cases e : j = k
  · subst e; rw [h] at hj; cases hj
  · rw [Psi.upd_other _ _ e]; exact hj
theorem kE {ψ : Psi} {g : Fam} {n : Key} {w w' : World} {sz : Nat} {ck : Nat → Nat} {o : CObj} (h : Rel ψ g w) (hn : n.room) (hnone : ψ n = none) (hw : New w w')
    (ho : yy (ψ.upd n ⟨w.heap.size, 0, sz, ck⟩) w' ⟨w.heap.size, 0, sz, ck⟩ o) :
    zh ψ g n w (ψ.upd n ⟨w.heap.size, 0, sz, ck⟩) (g.upd n (some o)) n.succ w' := by
  have hix := Key.ix_succ hn
  have hle := Psi.le_upd (ψ := ψ) (k := n) ⟨w.heap.size, 0, sz, ck⟩ hnone
  have hgn : ∀ j q, g j = some q → j ≠ n := by
    intro j q hj e
    subst e
    obtain ⟨p, hp⟩ := h.tot j q hj
    rw [hnone] at hp; cases hp
  refine ⟨hle, fun k hk => ?_, ⟨?_, ?_, ?_⟩, fun B hB _ => hw.old B hB, ?_, by rw [hw.size]; omega, hw.tape, hw.os, hw.output, by omega, ?_⟩
  · exact Psi.upd_other _ _ (fun e => by subst e; omega)
  · intro j q pj hq hpj
    by_cases hj : j = n
    · subst hj
      rw [Fam.upd_same] at hq; rw [Psi.upd_same] at hpj
      injection hq with hq; injection hpj with hpj
      subst hq; subst hpj; exact ho
    · rw [Fam.upd_other _ _ hj] at hq; rw [Psi.upd_other _ _ hj] at hpj
      have := h.on j q pj hq hpj
      exact yy.congr (hw.old _ this.lt) (this.mono hle)
  · intro j q hq
    by_cases hj : j = n
    · subst hj; exact ⟨_, Psi.upd_same _ _ _⟩
    · rw [Fam.upd_other _ _ hj] at hq
      obtain ⟨p, hp⟩ := h.tot j q hq
      exact ⟨p, hle _ _ hp⟩
  · intro k₁ k₂ o₁ o₂ p₁ p₂ h1 h2 h3 h4 hr e
    by_cases j1 : k₁ = n <;> by_cases j2 : k₂ = n
    · rw [j1, j2]
    · exfalso
      subst j1
      rw [Psi.upd_same] at h3; injection h3 with h3; subst h3
      rw [Fam.upd_other _ _ j2] at h2; rw [Psi.upd_other _ _ j2] at h4
      have := (h.on _ _ _ h2 h4).lt
      simp only at e; omega
    · exfalso
      subst j2
      rw [Psi.upd_same] at h4; injection h4 with h4; subst h4
      rw [Fam.upd_other _ _ j1] at h1; rw [Psi.upd_other _ _ j1] at h3
      have := (h.on _ _ _ h1 h3).lt
      simp only at e; omega
    · rw [Fam.upd_other _ _ j1] at h1; rw [Psi.upd_other _ _ j1] at h3
      rw [Fam.upd_other _ _ j2] at h2; rw [Psi.upd_other _ _ j2] at h4
      exact h.inj _ _ _ _ _ _ h1 h2 h3 h4 hr e
  · intro j q pj hq hro hpj
    by_cases hj : j = n
    · subst hj
      rw [Psi.upd_same] at hpj; injection hpj with hpj; subst hpj
      exact .inr (Nat.le_refl _)
    · rw [Fam.upd_other _ _ hj] at hq; rw [Psi.upd_other _ _ hj] at hpj
      exact .inl ⟨j, q, pj, hq, hro, hpj, rfl⟩
  · intro j q pj hq hpj
    by_cases hj : j = n
    · subst hj
      rw [Psi.upd_same] at hpj; injection hpj with hpj; subst hpj
      exact .inr (Nat.le_refl _)
    · rw [Fam.upd_other _ _ hj] at hq; rw [Psi.upd_other _ _ hj] at hpj
      exact .inl ⟨j, q, pj, hq, hpj, rfl⟩
theorem zLi {ψ : Psi} {g : Fam} {n : Key} {w : World} (h : Rel ψ g w) (b : Key) : zh ψ g n w ψ (g.upd b none) n w := by
  have hs : ∀ k o, g.upd b none k = some o → g k = some o := by
    intro k o hk
    by_cases e : k = b
    · subst e; rw [Fam.upd_same] at hk; cases hk
    · rwa [Fam.upd_other _ _ e] at hk
  exact ⟨Psi.le_refl _, fun _ _ => rfl, h.sub hs, fun _ _ _ => rfl, fun k o p h1 h2 h3 => .inl ⟨k, o, p, hs k o h1, h2, h3, rfl⟩, Nat.le_refl _, rfl, rfl, rfl, Nat.le_refl _, fun k o p h1 h3 => .inl ⟨k, o, p, hs k o h1, h3, rfl⟩⟩
theorem zKF {ψ : Psi} {g : Fam} {n b : Key} {w : World} {p p' : Pl} {o o' : CObj} {ob : Obj} (h : Rel ψ g w) (hn : n.room) (hnone : ψ n = none) (hb : g b = some o)
    (hro : o.isRo = false) (hp : ψ b = some p) (hpp : p'.blk = p.blk) (ho' : yy (ψ.upd n p') (w.upB p.blk ob) p' o') :
    zh ψ g n w (ψ.upd n p') ((g.upd b none).upd n (some o')) n.succ (w.upB p.blk ob) := by
  have hix := Key.ix_succ hn
  have hle := Psi.le_upd (ψ := ψ) (k := n) p' hnone
  have hlt := (h.on b o p hb hp).lt
  have hgn : ∀ j q, g j = some q → j ≠ n := by
    intro j q hj e
    subst e
    obtain ⟨p, hp⟩ := h.tot j q hj
    rw [hnone] at hp; cases hp
  have hold : ∀ j q, j ≠ n → ((g.upd b none).upd n (some o')) j = some q → j ≠ b ∧ g j = some q := by
    intro j q hj hq
    rw [Fam.upd_other _ _ hj] at hq
    by_cases e : j = b
    · subst e; rw [Fam.upd_same] at hq; cases hq
    · rw [Fam.upd_other _ _ e] at hq; exact ⟨e, hq⟩
  refine ⟨hle, fun k hk => ?_, ⟨?_, ?_, ?_⟩, ?_, ?_, by rw [zCN]; exact Nat.le_refl _, rfl, rfl, rfl, by omega, ?_⟩
  · exact Psi.upd_other _ _ (fun e => by subst e; omega)
  · intro j q pj hq hpj
    by_cases hj : j = n
    · subst hj
      rw [Fam.upd_same] at hq; rw [Psi.upd_same] at hpj
      injection hq with hq; injection hpj with hpj
      subst hq; subst hpj; exact ho'
    · obtain ⟨hjb, hq⟩ := hold j q hj hq
      rw [Psi.upd_other _ _ hj] at hpj
      refine yy.congr (wI _ fun e => hjb (h.inj j b q o pj p hq hb hpj hp (.inr hro) e)) ((h.on j q pj hq hpj).mono hle)
  · intro j q hq
    by_cases hj : j = n
    · subst hj; exact ⟨_, Psi.upd_same _ _ _⟩
    · obtain ⟨_, hq⟩ := hold j q hj hq
      obtain ⟨p, hp⟩ := h.tot j q hq
      exact ⟨p, hle _ _ hp⟩
  · intro k₁ k₂ o₁ o₂ p₁ p₂ h1 h2 h3 h4 hr e
    by_cases j1 : k₁ = n <;> by_cases j2 : k₂ = n
    · rw [j1, j2]
    · exfalso
      subst j1
      rw [Psi.upd_same] at h3; injection h3 with h3; subst h3
      obtain ⟨hjb, h2⟩ := hold _ _ j2 h2
      rw [Psi.upd_other _ _ j2] at h4
      exact hjb (h.inj _ b _ o _ p h2 hb h4 hp (.inr hro) (e.symm.trans hpp))
    · exfalso
      subst j2
      rw [Psi.upd_same] at h4; injection h4 with h4; subst h4
      obtain ⟨hjb, h1⟩ := hold _ _ j1 h1
      rw [Psi.upd_other _ _ j1] at h3
      exact hjb (h.inj _ b _ o _ p h1 hb h3 hp (.inr hro) (e.trans hpp))
    · obtain ⟨_, h1⟩ := hold _ _ j1 h1
      obtain ⟨_, h2⟩ := hold _ _ j2 h2
      rw [Psi.upd_other _ _ j1] at h3; rw [Psi.upd_other _ _ j2] at h4
      exact h.inj _ _ _ _ _ _ h1 h2 h3 h4 hr e
  · intro B _ hfree
    exact wI _ fun e => hfree b o p hb hro hp e.symm
  · intro j q pj hq hroj hpj
    by_cases hj : j = n
    · subst hj
      rw [Psi.upd_same] at hpj; injection hpj with hpj; subst hpj
      exact .inl ⟨b, o, p, hb, hro, hp, hpp.symm⟩
    · obtain ⟨_, hq⟩ := hold j q hj hq
      rw [Psi.upd_other _ _ hj] at hpj
      exact .inl ⟨j, q, pj, hq, hroj, hpj, rfl⟩
  · intro j q pj hq hpj
    by_cases hj : j = n
    · subst hj
      rw [Psi.upd_same] at hpj; injection hpj with hpj; subst hpj
      exact .inl ⟨b, o, p, hb, hp, hpp.symm⟩
    · obtain ⟨_, hq⟩ := hold j q hj hq
      rw [Psi.upd_other _ _ hj] at hpj
      exact .inl ⟨j, q, pj, hq, hpj, rfl⟩
theorem yw (b o n : Nat) : (⟨b, o, none⟩ : Addr).add n = ⟨b, o + n, none⟩ := by unfold Addr.add; split <;> simp_all
section
variable {ψ : Psi} {w : World} {P : Program}
theorem zA8.cell {p : Pl} {vs : List CV} (h : zA8 ψ w p vs) {i : Nat} {c : CV} (hc : vs[i]? = some c) :
    ∃ x, w.cell? ⟨p.blk, p.off + i, none⟩ = some x ∧ zG ψ c x := by
  obtain ⟨arr, e, fz, h1, h2, h3, h5⟩ := h
  obtain ⟨x, hx, hr⟩ := h5 i c hc
  exact ⟨x, by simp [World.cell?, h1, hx], hr⟩
theorem zA3 {p : Pl} {vs : List CV} (h : zA8 ψ w p vs) {i : Nat} {c : CV} (hc : vs[i]? = some c) :
    ∃ x, (load ⟨p.blk, p.off + i, none⟩).run P w = .ok x w ∧ zG ψ c x := by
  obtain ⟨x, hx, hr⟩ := h.cell hc
  exact ⟨x, by rw [run_load, hx], hr⟩
theorem y7 {p : Pl} {vs l : List CV} (h : zA8 ψ w p vs) {off s : Nat} (hl : v6 vs off s = some l) :
    ∃ xs : List Value, (loadCells ⟨p.blk, p.off + off, none⟩ s).run P w = .ok xs.toArray w ∧ zK ψ l xs := by
  obtain ⟨hlen, hget⟩ := xc hl
  have key : ∀ j, j < s → ∃ x, w.cell? ((⟨p.blk, p.off + off, none⟩ : Addr).add j) = some x ∧ ∀ c, l[j]? = some c → zG ψ c x := by
    intro j hj
    have hc : l[j]? = some (l[j]'(by omega)) := List.getElem?_eq_getElem _
    have hv := (hget j hj).symm.trans hc
    obtain ⟨x, hx, hr⟩ := h.cell hv
    rw [yw]
    refine ⟨x, by rw [Nat.add_assoc]; exact hx, fun c hc' => ?_⟩
    rw [hc] at hc'; injection hc' with hc'; subst hc'; exact hr
  have cells : ∀ m, m ≤ s → ∃ xs : List Value, xs.length = m ∧ ∀ j, j < m → ∃ x, xs[j]? = some x ∧ w.cell? ((⟨p.blk, p.off + off, none⟩ : Addr).add j) = some x ∧
      ∀ c, l[j]? = some c → zG ψ c x := by
    intro m
    induction m with
    | zero => exact fun _ => ⟨[], rfl, fun j hj => by omega⟩
    | succ m ih =>
      intro hm
      obtain ⟨xs, hxl, hxs⟩ := ih (by omega)
      obtain ⟨x, hx, hr⟩ := key m (by omega)
      refine ⟨xs ++ [x], by simp [hxl], fun j hj => ?_⟩
      by_cases e : j = m
      · subst e; exact ⟨x, by rw [List.getElem?_append_right (by omega)]; simp [hxl], hx, hr⟩
      · obtain ⟨y, hy, r⟩ := hxs j (by omega)
        exact ⟨y, by rw [List.getElem?_append_left (by omega)]; exact hy, r⟩
  obtain ⟨xs, hxl, hxs⟩ := cells s (Nat.le_refl _)
  refine ⟨xs, ?_, xT.2 ⟨by omega, fun i c v hc hv => ?_⟩⟩
  · have := run_loadCells_list (P := P) w ⟨p.blk, p.off + off, none⟩ xs (fun j v hv => by
      have hj : j < s := by
        rcases Nat.lt_or_ge j xs.length with h | h
        · omega
        · rw [List.getElem?_eq_none h] at hv; cases hv
      obtain ⟨x, hx, hc, _⟩ := hxs j hj
      rw [hx] at hv; injection hv with hv; subst hv; exact hc)
    rwa [hxl] at this
  · have hj : i < s := by
      rcases Nat.lt_or_ge i l.length with h | h
      · omega
      · rw [List.getElem?_eq_none h] at hc; cases hc
    obtain ⟨x, hx, _, hr⟩ := hxs i hj
    rw [hx] at hv; injection hv with hv; subst hv
    exact hr c hc
theorem ji (B o : Nat) (t : TypeId) (fz : Nat × Nat) : ∀ (vs : List Value) (i : Nat) (cur : Array Value) (w : World), w.heap[B]? = some (.cells cur t fz) →
    (fz.1 = fz.2 ∨ cur.size ≤ fz.1) → o + i + vs.length ≤ cur.size → (∀ v ∈ vs, v.oneCell' = true) →
    (storeCells ⟨B, o, none⟩ vs i).run P w = .ok () (w.upB B (.cells (cur.toList.take (o + i) ++ vs ++ cur.toList.drop (o + i + vs.length)).toArray t fz))
  | [], i, cur, w, hg, _, _, _ => by
    simp only [storeCells, List.append_nil, List.length_nil, Nat.add_zero, List.take_append_drop, Array.toArray_toList, Sem.run_pure]
    congr 1
    unfold World.upB
    have hB : B < w.heap.size := by
      rcases Nat.lt_or_ge B w.heap.size with h | h
      · exact h
      · rw [Array.getElem?_eq_none h] at hg; cases hg
    have : w.heap.setIfInBounds B (.cells cur t fz) = w.heap := by
      apply Array.ext_getElem?
      intro j
      rw [Array.getElem?_setIfInBounds]
      split
      · rename_i e; subst e; simp [hB] at hg ⊢; exact hg.symm
      · rfl
    rw [this]
  | v :: rest, i, cur, w, hg, hfz, hl, h1 => by
    have hi : o + i < cur.size := by simp at hl; omega
    have hB : B < w.heap.size := by
      rcases Nat.lt_or_ge B w.heap.size with h | h
      · exact h
      · rw [Array.getElem?_eq_none h] at hg; cases hg
    have hcell : w.cell? ⟨B, o + i, none⟩ = some cur[o + i] := by simp [World.cell?, hg, hi]
    have hfro : w.frozen? ⟨B, o + i, none⟩ = false := by
      simp only [World.frozen?, hg]
      rcases hfz with h | h
      · simp; omega
      · simp; omega
    have hset : w.setCell ⟨B, o + i, none⟩ v = w.upB B (.cells (cur.setIfInBounds (o + i) v) t fz) := by
      unfold World.setCell World.upB
      congr 1
      apply Array.ext_getElem?
      intro j
      rw [Array.getElem?_modify, Array.getElem?_setIfInBounds]
      split
      · rename_i e; subst e; rw [hg]; simp
      · rfl
    have hst : (store ((⟨B, o, none⟩ : Addr).add i) v).run P w = .ok () (w.upB B (.cells (cur.setIfInBounds (o + i) v) t fz)) := by
      rw [yw, run_store P w _ v _ (h1 v (by simp)), hcell]
      simp [hfro, hset]
    have ih := ji B o t fz rest (i + 1) (cur.setIfInBounds (o + i) v) (w.upB B (.cells (cur.setIfInBounds (o + i) v) t fz)) (xE _ hB)
      (by simpa using hfz) (by simp at hl ⊢; omega) (fun x hx => h1 x (by simp [hx]))
    simp only [storeCells, Sem.run_bind, hst, Result.andThen_ok, ih]
    have e := list_seg_step cur.toList (o + i) v rest (by simp at hl ⊢; omega)
    have e' : (List.take (o + (i + 1)) (cur.setIfInBounds (o + i) v).toList ++ rest ++ List.drop (o + (i + 1) + rest.length) (cur.setIfInBounds (o + i) v).toList) =
        (List.take (o + i) cur.toList ++ v :: rest ++ List.drop (o + i + (v :: rest).length) cur.toList) := by
      simpa [Array.toList_setIfInBounds, Nat.add_assoc] using e
    rw [e']
    congr 1
    unfold World.upB
    congr 1
    simp [Array.setIfInBounds_setIfInBounds]
theorem zCp {c : CV} {v : Value} (h : zG ψ c v) (hc : c.single = true) : v.oneCell' = true := by
  cases c <;> simp only [CV.single, Bool.false_eq_true] at hc
  case bool => rw [zF] at h; subst h; rfl
  case nat => rw [zO] at h; subst h; rfl
  case int => rw [zV] at h; subst h; rfl
  case anyi => rw [z7] at h; obtain ⟨n, rfl⟩ := h; rfl
  case str => rw [za] at h; obtain ⟨b, rfl, _⟩ := h; rfl
  case big => rw [x9] at h; obtain ⟨n, rfl, _⟩ := h; rfl
  case nilptr => rw [yk] at h; subst h; rfl
  case ptr => rw [zb] at h; obtain ⟨p, _, rfl⟩ := h; rfl
  case nilsl => rw [zc] at h; subst h; rfl
  case sl => rw [zl] at h; obtain ⟨p, x, c, _, rfl, _⟩ := h; rfl
  case nilmap => rw [zk] at h; subst h; rfl
  case map => rw [yS] at h; obtain ⟨p, _, rfl⟩ := h; rfl
  case func => rw [yf] at h; obtain ⟨a, b, rfl, _⟩ := h; rfl
  case nilfunc => rw [yY] at h; subst h; rfl
  case iface => rw [zq] at h; obtain ⟨y, rfl, _⟩ := h; rfl
  case niliface => rw [zr] at h; subst h; rfl
  case sst => rw [y2] at h; obtain ⟨b, rfl, _⟩ := h; rfl
  case win => rw [x8] at h; obtain ⟨_, base, l, c, i, rfl, _⟩ := h; rfl
  case sym i =>
    rw [yX] at h; subst h
    rcases Sym.one i with ⟨k, n, e⟩ | ⟨s, e⟩ <;> rw [e] <;> rfl
theorem kg (l : List CV) : yv l = true ↔ ∀ c ∈ l, c.single = true := by
  induction l with
  | nil => simp [yv]
  | cons c l ih =>
    have : yv (c :: l) = (match c.single with | false => false | true => yv l) := by
      cases h : c.single <;> simp [yv, h]
    rw [this]
    cases h : c.single <;> simp [h, ih]
theorem zBH {cs : List CV} {l : List Value} (h : zK ψ cs l) (hs : yv cs = true) : ∀ v ∈ l, v.oneCell' = true := by
  induction cs generalizing l with
  | nil => rw [zI] at h; subst h; simp
  | cons c cs ih =>
    rw [zP] at h
    obtain ⟨v, r, rfl, h1, h2⟩ := h
    have hall := (kg _).1 hs
    intro x hx
    rcases List.mem_cons.1 hx with rfl | hx
    · exact zCp h1 (hall c (by simp))
    · exact ih h2 ((kg _).2 fun d hd => hall d (by simp [hd])) x hx
theorem qz {g : Fam} {k : Key} {p : Pl} {vs cs l : List CV} {xs : List Value} {off s : Nat} (n : Key) (hrel : Rel ψ g w) (hk : g k = some (.cells vs)) (hp : ψ k = some p)
    (hl : qO cs s vs off = some l) (hx : zK ψ cs xs) (hs : yv cs = true) :
    ∃ w', (storeCells ⟨p.blk, p.off + off, none⟩ xs).run P w = .ok () w' ∧ zh ψ g n w ψ (g.upd k (some (.cells l))) n w' := by
  obtain ⟨arr, t, fz, h1, h2, h3, h4, h5⟩ := hrel.on k _ p hk hp
  obtain ⟨hcs, hle, hll, hin, hout⟩ := wc hl
  have hxl := hx.length
  have hlt : p.blk < w.heap.size := yy.lt (o := .cells vs) ⟨arr, t, fz, h1, h2, h3, h4, h5⟩
  refine ⟨_, ji p.blk (p.off + off) t fz xs 0 arr w h1 (by rw [h2]; exact h4) (by omega) (zBH hx hs), ?_⟩
  refine qh hrel hk rfl hp ⟨_, t, fz, xE _ hlt, by simp; omega, by omega, h4, fun i c hc => ?_⟩
  simp only [Nat.add_zero, List.getElem?_toArray]
  have htake : (arr.toList.take (p.off + off)).length = p.off + off := by simp; omega
  by_cases hi : off ≤ i ∧ i < off + s
  · have := hin (i - off) (by omega)
    rw [show off + (i - off) = i from by omega, hc] at this
    obtain ⟨x, hx1, hx2⟩ := hx.get this.symm
    refine ⟨x, ?_, hx2⟩
    rw [List.append_assoc, List.getElem?_append_right (by omega), htake, List.getElem?_append_left (by omega)]
    rw [show p.off + i - (p.off + off) = i - off from by omega]; exact hx1
  · have := hout i (by omega)
    rw [hc] at this
    obtain ⟨x, hx1, hx2⟩ := h5 i c this.symm
    refine ⟨x, ?_, hx2⟩
    by_cases hlo : i < off
    · rw [List.append_assoc, List.getElem?_append_left (by omega), List.getElem?_take_of_lt (by omega)]
      simpa using hx1
    · rw [List.getElem?_append_right (by simp; omega), List.getElem?_drop]
      have : p.off + off + xs.length + (p.off + i - (List.take (p.off + off) arr.toList ++ xs).length) = p.off + i := by simp; omega
      rw [this]; simpa using hx1
end
end Go.Ev

namespace Go.Ev
variable [Sym]
theorem zAq (l : List CV) : vz l = l.length := by
  induction l with
  | nil => rfl
  | cons x l ih => exact congrArg Nat.succ ih
section
variable {C : OR → Prop}
theorem yT (v : CV) (k : Key → Nat → OR) (e : Nat) (he : C (.err e)) (hk : ∀ b o, v = .ptr b o → C (k b o)) : C (zAM v k e) := by
  cases v <;> first | exact hk _ _ rfl | exact he
theorem we (v : CV) (k : IntKind → Int → OR) (e : Nat) (he : C (.err e)) (h0 : ∀ n, v = .nat n → C (k .i64 (.ofNat n))) (hk : ∀ j n, v = .int j n → C (k j n)) :
    C (zLr v k e) := by
  cases v <;> first | exact h0 _ rfl | exact hk _ _ rfl | exact he
theorem zKd (v : CV) (k : Nat → OR) (j : IntKind → Int → OR) (e : Nat) (he : C (.err e)) (h0 : ∀ n, v = .nat n → C (k n)) (hk : ∀ i n, v = .int i n → C (j i n)) :
    C (zOt v k j e) := by
  cases v <;> first | exact h0 _ rfl | exact hk _ _ rfl | exact he
theorem zHD (v : CV) (k : Nat → OR) (e : Nat) (he : C (.err e)) (h0 : ∀ n, v = .nat n → C (k n)) (hk : ∀ i n, v = .int i (.ofNat n) → C (k n)) : C (v7 v k e) := by
  refine zKd v k _ e he h0 fun i n hv => ?_
  cases n with
  | ofNat m => exact hk i m hv
  | negSucc m => exact he
theorem zm (v : CV) (k : List Nat → OR) (e : Nat) (he : C (.err e)) (hk : ∀ s, v = .str s → C (k s)) : C (w4 v k e) := by
  cases v <;> first | exact hk _ rfl | exact he
theorem kM (v : CV) (k : Bool → OR) (e : Nat) (he : C (.err e)) (hk : ∀ b, v = .bool b → C (k b)) : C (zHJ v k e) := by
  cases v <;> first | exact hk _ rfl | exact he
theorem zt (v : CV) (z : OR) (k : Key → Nat → Nat → Nat → Nat → Bool → OR) (e : Nat) (he : C (.err e)) (hz : v = .nilsl → C z)
    (hk : ∀ b o l c s x, v = .sl b o l c s x → C (k b o l c s x)) : C (vA v z k e) := by
  cases v <;> first | exact hz rfl | exact hk _ _ _ _ _ _ rfl | exact he
theorem wq (v : CV) (k : Key → Nat → SE → SE → OR) (z : OR) (hz : C z) (hk : ∀ b s e n, v = .win b s e n → C (k b s e n)) : C (zK4 v k z) := by
  cases v <;> first | exact hk _ _ _ _ rfl | exact hz
theorem zDv (v : CV) (k : List CV → OR) (z : OR) (hz : C z) (hk : ∀ l, v = .sst l → C (k l)) : C (zNv v k z) := by
  cases v <;> first | exact hk _ rfl | exact hz
theorem yi (v : CV) (z : OR) (k : Key → OR) (e : Nat) (he : C (.err e)) (hz : v = .nilmap → C z) (hk : ∀ b, v = .map b → C (k b)) : C (zBv v z k e) := by
  cases v <;> first | exact hz rfl | exact hk _ rfl | exact he
theorem wd (v : CV) (k : List CV → OR) (e : Nat) (he : C (.err e)) (hk : ∀ cs, v = .agg cs → C (k cs)) : C (zKY v k e) := by
  cases v <;> first | exact hk _ rfl | exact he
theorem zDp (v : CV) (k : List CV → OR) (e : Nat) (he : C (.err e)) (hk : ∀ cs, v = .tup cs → C (k cs)) : C (zNm v k e) := by
  cases v <;> first | exact hk _ rfl | exact he
theorem kb (v : CV) (k : Fn → List CV → List CV → OR) (e : Nat) (he : C (.err e)) (hk : ∀ f a c, v = .func f a c → C (k f a c)) : C (zH5 v k e) := by
  cases v <;> first | exact hk _ _ _ rfl | exact he
theorem y4 (v : CV) (k : TypeId → CV → OR) (z : OR) (e : Nat) (he : C (.err e)) (hz : v = .niliface → C z) (hk : ∀ t x, v = .iface t x → C (k t x)) : C (ue v k z e) := by
  cases v <;> first | exact hz rfl | exact hk _ _ rfl | exact he
theorem zEj (v : CV) (k : IntKind → Int → OR) (u : IntKind → OR) (s : List Nat → OR) (e : Nat) (he : C (.err e)) (h0 : ∀ n, v = .nat n → C (k .i64 (.ofNat n)))
    (hk : ∀ j n, v = .int j n → C (k j n)) (hu : ∀ j, v = .anyi j → C (u j)) (hs : ∀ l, v = .str l → C (s l)) : C (zOp v k u s e) := by
  cases v <;> first | exact h0 _ rfl | exact hk _ _ rfl | exact hu _ rfl | exact hs _ rfl | exact he
theorem qm (v : CV) (k : IntKind → Int → OR) (u : IntKind → OR) (e : Nat) (he : C (.err e)) (h0 : ∀ n, v = .nat n → C (k .i64 (.ofNat n)))
    (hk : ∀ j n, v = .int j n → C (k j n)) (hu : ∀ j, v = .anyi j → C (u j)) : C (zL1 v k u e) := by
  cases v <;> first | exact h0 _ rfl | exact hk _ _ rfl | exact hu _ rfl | exact he
theorem zEY (v : CV) (k : Key → Nat → OR) (z : OR) (hz : C z) (hk : ∀ b o, v = .ptr b o → C (k b o)) : C (zOA v k z) := by
  cases v <;> first | exact hk _ _ rfl | exact hz
theorem zz (o : Option CObj) (k : List CV → OR) (e : Nat) (he : C (.err e)) (hk : ∀ vs, o = some (.cells vs) → C (k vs)) : C (jB o k e) := by
  cases o with
  | none => exact he
  | some o => cases o <;> first | exact hk _ rfl | exact he
theorem y0 (o : Option CObj) (k : List CV → OR) (e : Nat) (he : C (.err e)) (hk : ∀ vs, (o = some (.cells vs) ∨ o = some (.ro vs) ∨ ∃ u, o = some (.full u vs)) → C (k vs)) : C (vL o k e) := by
  cases o with
  | none => exact he
  | some o => cases o <;> first | exact hk _ (.inl rfl) | exact hk _ (.inr (.inl rfl)) | exact hk _ (.inr (.inr ⟨_, rfl⟩)) | exact he
theorem kY (o : Option CObj) (k : Bool → List CV → OR) (z : OR) (hz : C z) (hk : ∀ u vs, o = some (.full u vs) → C (k u vs)) : C (zFp o k z) := by
  unfold zFp
  split
  · exact hk _ _ rfl
  · exact hz
theorem zx (o : Option CObj) (k : List CE → Nat → OR) (e : Nat) (he : C (.err e)) (hk : ∀ es c, o = some (.map es c) → C (k es c)) : C (kj o k e) := by
  cases o with
  | none => exact he
  | some o => cases o <;> first | exact hk _ _ rfl | exact he
theorem qp (v : Option CV) (e : Nat) (he : C (.err e)) (hk : ∀ x, v = some x → C (.val x)) : C (zDk v e) := by
  cases v with
  | none => exact he
  | some x => exact hk x rfl
theorem zDo (v : Option CV) (e : Nat) (he : C (.err e)) (hk : ∀ x, v = some x → C (.read x)) : C (zNr v e) := by
  cases v with
  | none => exact he
  | some x => exact hk x rfl
theorem jc (v : Option (List CV)) (e : Nat) (he : C (.err e)) (hk : ∀ x, v = some x → C (.val (.agg x))) : C (zNS v e) := by
  cases v with
  | none => exact he
  | some x => exact hk x rfl
theorem zCK (v : Option (List CV)) (e : Nat) (he : C (.err e)) (hk : ∀ x, v = some x → C (.read (.agg x))) : C (zNq v e) := by
  cases v with
  | none => exact he
  | some x => exact hk x rfl
theorem zEm (v : Option (List Nat)) (e : Nat) (he : C (.err e)) (hk : ∀ x, v = some x → C (.val (.str x))) : C (zOo v e) := by
  cases v with
  | none => exact he
  | some x => exact hk x rfl
theorem yG (v : Option (List CV)) (k : List CV → OR) (e : Nat) (he : C (.err e)) (hk : ∀ x, v = some x → C (k x)) : C (onL v k e) := by
  cases v with
  | none => exact he
  | some x => exact hk x rfl
theorem wG (v : Option Nat) (k : Nat → OR) (e : Nat) (he : C (.err e)) (hk : ∀ x, v = some x → C (k x)) : C (onN v k e) := by
  cases v with
  | none => exact he
  | some x => exact hk x rfl
theorem zD (b : Bool) (k : OR) (e : Nat) (he : C (.err e)) (hk : b = true → C k) : C (yZ b k e) := by
  cases b with
  | false => exact he
  | true => exact hk rfl
theorem zj (n : Nat) (k : Nat → OR) : wt n k = k n := by cases n <;> rfl
theorem qM (b : Bool) (t f : OR) : ifB b t f = if b = true then t else f := by cases b <;> rfl
end
section
variable {P : Program}
theorem qY {t : TypeId} {b : Bool} (h : xO P t = some b) (w : World) : (isAgg t).run P w = .ok b w := by
  unfold xO at h
  cases hd : P.underlying t with
  | none => rw [hd] at h; cases h
  | some d =>
    rw [hd] at h
    unfold isAgg
    rw [Sem.run_bind, run_underlying hd]
    cases d <;> simp_all
theorem yM {t : TypeId} {s : Nat} (h : xG P t = some s) (w : World) : (sizeOf t).run P w = .ok s w := by
  unfold xG at h
  cases hi : P.info? t with
  | none => rw [hi] at h; cases h
  | some i =>
    rw [hi] at h
    injection h with h
    simp [sizeOf, typeInfo, hi, h]
theorem qB {t : TypeId} {i : TypeInfo} (h : P.info? t = some i) (w : World) : (typeInfo t).run P w = .ok i w := by
  simp [typeInfo, h]
theorem uQ {ψ : Psi} {f : Value → Option CV} (hf : ∀ v c, f v = some c → zG ψ c v) : ∀ (l : List Value) {cs : List CV}, yW f l = some cs → zK ψ cs l
  | [], cs, h => by injection h with h; subst h; exact zI.2 rfl
  | v :: l, cs, h => by
    unfold yW at h
    cases hv : f v with
    | none => rw [hv] at h; cases h
    | some c =>
      rw [hv] at h
      cases hl : yW f l with
      | none => simp [hl] at h
      | some r =>
        simp [hl] at h
        subst h
        exact zL.2 ⟨hf v c hv, uQ hf l hl⟩
theorem qk {ψ : Psi} : ∀ (d : Nat) {v : Value} {c : CV}, wy d v = some c → zG ψ c v
  | 0, _, _, h => by cases h
  | d + 1, v, c, h => by
    unfold wy at h
    cases v with
    | bool b => injection h with h; subst h; exact zF.2 rfl
    | int k n =>
      injection h with h
      split at h <;> subst h
      · exact zO.2 rfl
      · exact zV.2 rfl
    | string s => injection h with h; subst h; exact za.2 ⟨s, rfl, rfl⟩
    | pointer a => cases a with
      | none => injection h with h; subst h; exact yk.2 rfl
      | some a => cases h
    | slice a n m => cases a with
      | none =>
        cases n with
        | zero => cases m with
          | zero => injection h with h; subst h; exact zc.2 rfl
          | succ m => cases h
        | succ n => cases h
      | some a => cases h
    | map r => cases r with
      | none => injection h with h; subst h; exact zk.2 rfl
      | some r => cases h
    | nilFunc => injection h with h; subst h; exact yY.2 rfl
    | func fn a b =>
      simp only at h
      split at h
      · rename_i hab
        injection h with h; subst h
        exact yf.2 ⟨a, b, rfl, zI.2 (by simpa using hab.1), zI.2 (by simpa using hab.2)⟩
      · cases h
    | nilIface => injection h with h; subst h; exact zr.2 rfl
    | iface t v =>
      simp only at h
      cases hv : wy d v with
      | none => rw [hv] at h; cases h
      | some c' =>
        rw [hv] at h; injection h with h; subst h
        exact zq.2 ⟨v, rfl, qk d hv⟩
    | agg cs =>
      simp only at h
      cases hv : yW (wy d) cs.toList with
      | none => rw [hv] at h; cases h
      | some c' =>
        rw [hv] at h; injection h with h; subst h
        exact yL.2 ⟨cs, rfl, uQ (fun _ _ => qk d) _ hv⟩
    | tuple cs =>
      simp only at h
      cases hv : yW (wy d) cs.toList with
      | none => rw [hv] at h; cases h
      | some c' =>
        rw [hv] at h; injection h with h; subst h
        exact zn.2 ⟨cs, rfl, uQ (fun _ _ => qk d) _ hv⟩
    | float k b => cases h
    | complex k a b => cases h
    | chan r => cases h
theorem uF {t : TypeId} {z : CV} (h : kG P t = some z) : ∃ v, (∀ w, (zeroValue t).run P w = .ok v w) ∧ ∀ ψ, zG ψ z v := by
  unfold kG at h
  cases hi : P.info? t with
  | none => rw [hi] at h; cases h
  | some i =>
    rw [hi] at h
    simp only [Option.bind_some] at h
    cases hz : i.zero with
    | none => rw [hz] at h; cases h
    | some v =>
      rw [hz] at h
      exact ⟨v, fun w => by simp [zeroValue, typeInfo, hi, hz], fun ψ => qk 20 h⟩
theorem wC {ψ : Psi} {c : CV} {v : Value} {cs : List CV} (h : zG ψ c v) (hc : cellsOf c = some cs) : zK ψ cs v.cells.toList := by
  have one : ∀ {c : CV} {v : Value}, zG ψ c v → v.cells = #[v] → zK ψ [c] v.cells.toList := by
    intro c v h e; rw [e]; exact zL.2 ⟨h, zI.2 rfl⟩
  cases c <;> simp only [cellsOf, Option.some.injEq, reduceCtorEq] at hc
  case agg => rw [yL] at h; obtain ⟨a, rfl, h⟩ := h; subst hc; exact h
  all_goals
    subst hc
    refine one h ?_
    have := zCp h rfl
    cases v <;> first | rfl | cases this
theorem zIB {t : TypeId} {z : List CV} (h : qQ P t = some z) : ∃ v, (∀ w, (zeroValue t).run P w = .ok v w) ∧ ∀ ψ, zK ψ z v.cells.toList := by
  unfold qQ at h
  cases hz : kG P t with
  | none => rw [hz] at h; cases h
  | some c =>
    rw [hz] at h
    obtain ⟨v, h1, h2⟩ := uF hz
    exact ⟨v, h1, fun ψ => wC (h2 ψ) h⟩
end
section
variable (P : Program) (ψ : Psi) (h : Heap) (n : Key) (ρ : Operand → Value) (o : Op) (ty : TypeId)
def zDQ (w : World) (B : Nat) : Nat := match w.heap[B]? with
  | some (.cells arr _ _) => arr.size
  | _ => 0
def jN (w w' : World) (x : Value) : Prop := ∃ nx, (execOp ρ { dst := none, op := o, type := ty, pos := "", after := #[], guard := none }).run P w = .ok nx w' ∧ (nx = .value x ∨ (nx = .skip ∧ x = undef))
def zB (w : World) : OR → Prop
  | .val v => ∃ x, jN P ρ o ty w w x ∧ zG ψ v x
  | .read v => xi ψ (Heap.fam h) w → ∃ x, jN P ρ o ty w w x ∧ zG ψ v x
  | .alloc ob v => ∃ w' x sz, jN P ρ o ty w w' x ∧ New w w' ∧ (∀ ψ', ψ.le ψ' → ψ' n = some ⟨w.heap.size, 0, sz, fun n => n⟩ → zG ψ' v x ∧ yy ψ' w' ⟨w.heap.size, 0, sz, fun n => n⟩ ob) ∧ sz = zDQ w' w.heap.size
  | .eff v h' n' => Rel ψ (Heap.fam h) w → (∀ k, n.ix ≤ k.ix → k.ix < n'.ix → ψ k = none) → n'.room →
      ∃ w' x ψ', jN P ρ o ty w w' x ∧ zh ψ (Heap.fam h) n w ψ' (Heap.fam h') n' w' ∧ zG ψ' v x
  | .call f args => xi ψ (Heap.fam h) w → ∃ args', (execOp ρ { dst := none, op := o, type := ty, pos := "", after := #[], guard := none }).run P w = (callFunc f args').run P w ∧ zK ψ args args'.toList
  | .dfr f args => ∃ d fv cap args', (execOp ρ { dst := none, op := o, type := ty, pos := "", after := #[], guard := none }).run P w = .ok (.defer d) w ∧ d.target = .fn fv cap ∧
      (∀ w, (invoke d.target d.args).run P w = (callFunc f args').run P w) ∧ zK ψ args args'.toList
  | .recov => zBz o = true ∧ (execOp ρ { dst := none, op := o, type := ty, pos := "", after := #[], guard := none }).run P w = .ok .recover w
  | .err _ => True
  | .fork a b => Rel ψ (Heap.fam h) w → zB w a ∨ zB w b
end
end Go.Ev


