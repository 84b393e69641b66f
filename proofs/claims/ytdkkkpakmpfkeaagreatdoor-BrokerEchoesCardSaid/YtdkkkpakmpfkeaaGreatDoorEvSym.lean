/- A verified evaluator for the model's code: EvTop, EvNat, EvSym. -/
import Derived.Test.YtdkkkpakmpfkeaaGreatDoorEv6
import Derived.Below
import Derived.Sort.KeysCollected
import Derived.StringKeys
set_option linter.unusedSectionVars false
set_option linter.unusedVariables false
set_option linter.unusedSimpArgs false
namespace Go.Ev
variable [Sym]
open Go.RowKit
noncomputable section
variable {P : Program}
variable [SymFact P]
def isTrue (v : CV) : Bool := CV.rec (motive_1 := fun _ => Bool) (motive_2 := fun _ => Unit) (fun b => b) (fun _ => false) (fun _ _ => false) (fun _ => false) (fun _ => false) false (fun _ _ => false) false
  (fun _ _ _ _ _ _ => false) false (fun _ => false) (fun _ _ _ _ _ => false) false (fun _ _ _ => false) false (fun _ _ => false) (fun _ _ => false) (fun _ => false) false () (fun _ _ _ _ => ()) v
def allTrue (r : R) : Bool := R.rec (motive := fun _ => Bool) (fun _ _ _ _ _ => false) (fun v _ n => Bool.rec (motive := fun _ => Bool) false (Nat.ble (Nat.succ n.ix) 65535) (isTrue v)) (fun _ => false)
  (fun _ _ a b => Bool.rec (motive := fun _ => Bool) false b a) r
theorem isTrue_spec {v : CV} (h : isTrue v = true) : v = .bool true := by
  cases v <;> first | (cases h; rfl) | cases h
theorem allTrue_clean : ∀ {r : R}, allTrue r = true → Clean r
  | .ok .., h => by cases h
  | .ret v hh n, h => by
    have h : Bool.rec (motive := fun _ => Bool) false (Nat.ble (Nat.succ n.ix) 65535) (isTrue v) = true := h
    cases hv : isTrue v with
    | false => rw [hv] at h; cases h
    | true => rw [hv] at h; exact ble_yes h
  | .err _, h => by cases h
  | .fork a b, h => by
    have h : Bool.rec (motive := fun _ => Bool) false (allTrue b) (allTrue a) = true := h
    cases ha : allTrue a with
    | false => rw [ha] at h; cases h
    | true => rw [ha] at h; exact ⟨allTrue_clean ha, allTrue_clean h⟩
theorem allTrue_out {ψ : Psi} {g : Fam} {n : Key} {w : World} {v : Value} {w' : World} : ∀ {r : R}, allTrue r = true → RetOut ψ g n w r v w' → v = .bool true ∧ ∃ ψ' g' n', Post ψ g n w ψ' g' n' w'
  | .ok .., h, _ => by cases h
  | .ret cv hh n', h, ho => by
    have h : Bool.rec (motive := fun _ => Bool) false (Nat.ble (Nat.succ n'.ix) 65535) (isTrue cv) = true := h
    cases hv : isTrue cv with
    | false => rw [hv] at h; cases h
    | true =>
      obtain ⟨ψ', hp, hr⟩ := ho
      rw [isTrue_spec hv, vrel_bool] at hr
      exact ⟨hr, ψ', _, _, hp⟩
  | .err _, h, _ => by cases h
  | .fork a b, h, ho => by
    have h : Bool.rec (motive := fun _ => Bool) false (allTrue b) (allTrue a) = true := h
    cases ha : allTrue a with
    | false => rw [ha] at h; cases h
    | true =>
      rw [ha] at h
      rcases ho with ho | ho
      · exact allTrue_out ha ho
      · exact allTrue_out h ho
def psi0 (G : Nat) : Psi := fun k => if k.ix < G then some ⟨k.ix, 0, 0⟩ else none
theorem psi0_glob {G : Nat} (hG : P.globals.size ≤ G) : Glob P (psi0 G) := by
  intro g hg h4
  have hix : (Key.ofNat g).ix = g := Key.ix_ofNat (by omega)
  refine ⟨0, ?_⟩
  unfold psi0
  rw [hix, if_pos (by omega)]
theorem psi0_fresh {G : Nat} {n : Key} (hn : G ≤ n.ix) : Fresh (psi0 G) n := by
  intro k hk
  unfold psi0
  rw [if_neg (by omega)]
theorem fam_nil (k : Key) : Heap.fam (.nil : Heap) k = none := by
  obtain ⟨a, b, c, d⟩ := k
  show (((H3.get a .nil).get b).get c).get d = none
  rw [H3.get_nil, H2.get_nil, H1.get_nil, HV.get_nil]
theorem rel_nil (ψ : Psi) (w : World) : Rel ψ (Heap.fam (.nil : Heap)) w :=
  ⟨fun k o p h _ => by (rw [fam_nil] at h; cases h), fun k o h => by (rw [fam_nil] at h; cases h), fun k₁ _ o₁ _ _ _ h _ _ _ _ => by (rw [fam_nil] at h; cases h)⟩
theorem calls_true {code : FuncId → CFn} {nat : Nats} {fuel : Nat} {f : FuncId} {fn : Func} {c : Code} {args : List CV} {args' : Array Value} {G : Nat} {n : Key} (hm : P.follows .mixedOrders = true) (hcode : CodeOk P code) (hnat : NatsOk P nat)
    (hf : P.funcs[f]? = some fn) (hname : (fn.name == "runtime.NumGoroutine") = false) (hb : fn.body = some c) (hG : P.globals.size ≤ G) (hn : G ≤ n.ix) (hargs : VRels (psi0 G) args args'.toList)
    (hrun : allTrue (ev P code nat fuel false f args .nil n) = true) (w : World) : Calls P f args' w fun e w' => e = .returned (.bool true) ∧ Below w.heap.size w w' := by
  have hok := ev_ok (fun call hcall F N => draw_sim hm hcall) hcode hnat fuel
  have h := hok.calls f args .nil n (psi0 G) w args' hargs (psi0_glob hG) (rel_nil _ _) (psi0_fresh hn) (allTrue_clean hrun)
  unfold CallsTo' at h
  rw [run_callFunc_enter hf hname hb] at h
  refine Calls.mono h fun e w' ⟨v, e1, hr⟩ => ?_
  obtain ⟨rfl, ψ', g', n', hp⟩ := allTrue_out hrun hr
  exact ⟨e1, hp.os, hp.tape, hp.output, hp.size, fun k hk => hp.frame k hk fun k o p hk' _ _ => by rw [fam_nil] at hk'; cases hk'⟩
end
end Go.Ev

namespace Go.Ev
variable [Sym]
open Go.RowKit Go.Maps
open Go.Proofs (encStr)
noncomputable section
variable {P : Program}
variable [SymFact P]
def insS (x : List Nat) : List (List Nat) → List (List Nat)
  | [] => [x]
  | y :: r => if strLt y x then y :: insS x r else x :: y :: r
def sortS : List (List Nat) → List (List Nat)
  | [] => []
  | x :: r => insS x (sortS r)
def keysS : List CE → List (List Nat)
  | [] => []
  | e :: r => match e.key with
    | .str s => s :: keysS r
    | _ => keysS r
def unlike (e : CE) : List CE → Bool
  | [] => true
  | x :: r => !Nat.beq x.born e.born && !(match x.key, e.key with
    | .str a, .str b => strEq a b
    | _, _ => true) && unlike e r
def okMap (clock : Nat) : List CE → Bool
  | [] => true
  | e :: r => (match e.key with
    | .str s => Nat.ble (lenN s) 1000000
    | _ => false) && Nat.ble (Nat.succ e.born) clock && unlike e r && okMap clock r
def namesN : Bool → List CV → Heap → Key → R := fun d args h n => match d with
  | true => .err 402
  | false => match args with
    | [.map b] => match getH b h with
      | some (.map es clock) => match okMap clock es && Nat.ble (lenE es) 1000000 with
        | true => match sortS (keysS es) with
          | [] => .ret .nilsl h n
          | k :: ks => forceNat (Nat.succ ks.length) fun m => .ret (.sl n 0 m m 1 false) (putH (some (.cells (.str k :: ks.map .str))) n h) n.succ
        | false => .err 403
      | _ => .err 400
    | [.nilmap] => .ret .nilsl h n
    | _ => .err 401
abbrev toN (l : List UInt8) : List Nat := l.map UInt8.toNat
theorem toN_inj {a b : List UInt8} (h : toN a = toN b) : a = b := by
  induction a generalizing b with
  | nil => cases b with
    | nil => rfl
    | cons _ _ => cases h
  | cons x a ih => cases b with
    | nil => cases h
    | cons y b =>
      injection h with h1 h2
      rw [UInt8.toNat_inj.1 h1, ih h2]
theorem strLt_toN (a b : List UInt8) : strLt (toN a) (toN b) = decide (a < b) := by
  rw [strLt_map]
  induction a generalizing b with
  | nil => cases b with
    | nil => simp [Op.bytesLess]
    | cons y b => simp [Op.bytesLess]
  | cons x a ih => cases b with
    | nil => simp [Op.bytesLess]
    | cons y b =>
      rw [Op.bytesLess, ih, Bool.eq_iff_iff]
      simp only [Bool.or_eq_true, Bool.and_eq_true, decide_eq_true_eq, beq_iff_eq, List.cons_lt_cons_iff]
theorem ins_map (x : List UInt8) : ∀ (l : List (List UInt8)), ∃ m : List (List UInt8), m.Perm (x :: l) ∧ insS (toN x) (l.map toN) = m.map toN ∧ (l.Pairwise (fun a b => a ≤ b) → m.Pairwise (fun a b => a ≤ b))
  | [] => ⟨[x], List.Perm.refl _, rfl, fun _ => by simp⟩
  | y :: r => by
    obtain ⟨m, h1, h2, h3⟩ := ins_map x r
    show ∃ m : List (List UInt8), m.Perm (x :: y :: r) ∧ (if strLt (toN y) (toN x) then toN y :: insS (toN x) (r.map toN) else toN x :: toN y :: r.map toN) = m.map toN ∧ _
    rw [strLt_toN]
    by_cases hlt : y < x
    · rw [decide_eq_true hlt, if_pos rfl, h2]
      refine ⟨y :: m, (List.Perm.cons y h1).trans (List.Perm.swap x y r), rfl, fun hp => ?_⟩
      rw [List.pairwise_cons] at hp ⊢
      refine ⟨fun z hz => ?_, h3 hp.2⟩
      rcases List.mem_cons.1 (h1.mem_iff.1 hz) with rfl | hz
      · exact List.le_of_lt hlt
      · exact hp.1 z hz
    · rw [decide_eq_false hlt, if_neg (by simp)]
      refine ⟨x :: y :: r, List.Perm.refl _, rfl, fun hp => ?_⟩
      have hxy : x ≤ y := List.not_lt.1 hlt
      refine List.pairwise_cons.2 ⟨fun z hz => ?_, hp⟩
      rcases List.mem_cons.1 hz with rfl | hz
      · exact hxy
      · exact List.le_trans hxy ((List.pairwise_cons.1 hp).1 z hz)
theorem sort_map : ∀ (l : List (List UInt8)), ∃ m : List (List UInt8), m.Perm l ∧ sortS (l.map toN) = m.map toN ∧ m.Pairwise (fun a b => a ≤ b)
  | [] => ⟨[], List.Perm.refl _, rfl, List.Pairwise.nil⟩
  | x :: l => by
    obtain ⟨m, h1, h2, h3⟩ := sort_map l
    obtain ⟨m', g1, g2, g3⟩ := ins_map x m
    refine ⟨m', g1.trans (List.Perm.cons x h1), ?_, g3 h3⟩
    show insS (toN x) (sortS (l.map toN)) = _
    rw [h2, g2]
theorem sort_unique {ss l : List (List UInt8)} (hp : ss.Perm l) : sortS (l.map toN) = (ss.mergeSort fun x y => decide (x ≤ y)).map toN := by
  obtain ⟨m, h1, h2, h3⟩ := sort_map l
  rw [h2]
  congr 1
  refine List.Perm.eq_of_pairwise (le := fun a b => a ≤ b) (fun a b _ _ => List.le_antisymm) h3 ?_ (h1.trans (hp.symm.trans (List.mergeSort_perm _ _).symm))
  have := List.pairwise_mergeSort (le := fun x y : List UInt8 => decide (x ≤ y)) (fun a b c h h' => decide_eq_true (List.le_trans (of_decide_eq_true h) (of_decide_eq_true h')))
    (fun a b => by
      rcases List.le_total a b with h | h
      · rw [decide_eq_true h]; rfl
      · rw [decide_eq_true h, Bool.or_true]) ss
  exact this.imp fun h => of_decide_eq_true h
theorem natsOf_toN (b : ByteArray) : natsOf b = toN b.data.toList := rfl
theorem unlike_spec {ψ : Psi} {e : CE} {x : MapEntry} (hx : CERel ψ e x) : ∀ {es : List CE} {l : List MapEntry}, CERels ψ es l → unlike e es = true → ∀ y ∈ l, y.born ≠ x.born ∧ y.key ≠ x.key
  | [], l, h, _ => by
    have h : l = [] := h
    subst h; intro y hy; cases hy
  | c :: es, l, h, hu => by
    obtain ⟨z, r, rfl, hz, hr⟩ := h
    unfold unlike at hu
    rw [Bool.and_eq_true, Bool.and_eq_true] at hu
    intro y hy
    rcases List.mem_cons.1 hy with rfl | hy
    · refine ⟨fun e1 => ?_, fun e1 => ?_⟩
      · have := hu.1.1
        rw [hz.2.2, hx.2.2] at e1
        rw [e1, beq_self] at this; cases this
      · have h2 := hu.1.2
        have hzk := hz.1
        have hxk := hx.1
        rw [e1] at hzk
        generalize c.key = ck at h2 hzk
        generalize e.key = ek at h2 hxk
        cases ck <;> try (cases ek <;> cases h2)
        rename_i s
        cases ek <;> try (cases h2)
        rename_i t
        rw [vrel_str] at hzk hxk
        obtain ⟨b1, q1, q2⟩ := hzk
        obtain ⟨b2, q3, q4⟩ := hxk
        rw [q1] at q3; injection q3 with q3; subst q3
        rw [← q2, ← q4] at h2
        have : strEq (natsOf b1) (natsOf b1) = true := by rw [strEq_iff]; simp
        simp only at h2
        rw [this] at h2; cases h2
    · exact unlike_spec hx hr hu.2 y hy
theorem map_keys {ψ : Psi} {clock : Nat} : ∀ {es : List CE} {l : List MapEntry}, CERels ψ es l → okMap clock es = true → ∃ ks : List (List UInt8), keysS es = ks.map toN ∧ l.map (fun e => e.key) = ks.map encStr ∧ (∀ k ∈ ks, k.length ≤ 1000000) ∧
    (∀ x ∈ l, x.born < clock) ∧ (l.map (fun e => e.born)).Nodup ∧ l.Pairwise (fun x y => x.key ≠ y.key)
  | [], l, h, _ => by
    have h : l = [] := h
    subst h
    exact ⟨[], rfl, rfl, by simp, by simp, by simp, List.Pairwise.nil⟩
  | c :: es, l, h, hu => by
    obtain ⟨x, r, rfl, hx, hr⟩ := h
    unfold okMap at hu
    rw [Bool.and_eq_true, Bool.and_eq_true, Bool.and_eq_true] at hu
    obtain ⟨ks, h1, h2, h3, h4, h5, h6⟩ := map_keys hr hu.2
    have hun := unlike_spec hx hr hu.1.2
    have hk := hu.1.1.1
    have hxk := hx.1
    have hkeys : keysS (c :: es) = match c.key with | .str s => s :: keysS es | _ => keysS es := rfl
    rw [hkeys]
    generalize c.key = ck at hk hxk ⊢
    cases ck <;> try (cases hk)
    rename_i s
    rw [vrel_str] at hxk
    obtain ⟨b, q1, q2⟩ := hxk
    refine ⟨b.data.toList :: ks, ?_, ?_, ?_, ?_, ?_, ?_⟩
    · show s :: keysS es = _
      rw [h1, ← q2]; rfl
    · show x.key :: _ = _
      rw [h2, q1]
      simp [encStr]
    · intro k hk'
      rcases List.mem_cons.1 hk' with rfl | hk'
      · have := ble_yes hk
        rw [lenN_eq, ← q2, natsOf_toN, List.length_map] at this
        exact this
      · exact h3 k hk'
    · intro y hy
      rcases List.mem_cons.1 hy with rfl | hy
      · rw [hx.2.2]; exact ble_yes hu.1.1.2
      · exact h4 y hy
    · show (x.born :: r.map _).Nodup
      refine List.nodup_cons.2 ⟨fun hm => ?_, h5⟩
      obtain ⟨y, hy, e⟩ := List.mem_map.1 hm
      exact (hun y hy).1 e
    · exact List.pairwise_cons.2 ⟨fun y hy e => (hun y hy).2 e.symm, h6⟩
theorem post_below {ψ : Psi} {g : Fam} {n : Key} {w w' : World} (h : Rel ψ g w) (hb : Below w.heap.size w w') : Post ψ g n w ψ g n w' := by
  refine ⟨Psi.le_refl _, fun _ _ => rfl, ⟨fun k o p h1 h2 => ?_, h.tot, h.inj⟩, fun B hB _ => hb.block B hB, fun k o p h1 h2 h3 => .inl ⟨k, o, p, h1, h2, h3, rfl⟩, hb.size, hb.tape, hb.os, hb.output, Nat.le_refl _,
    fun k o p h1 h3 => .inl ⟨k, o, p, h1, h3, rfl⟩⟩
  have := h.on k o p h1 h2
  exact ORel.congr (hb.block _ this.lt) this
theorem post_named {ψ : Psi} {g : Fam} {n : Key} {w w' : World} {p : Pl} {o : CObj} (h : Rel ψ g w) (hn : n.room) (hnone : ψ n = none) (hb : Below w.heap.size w w') (hp : w.heap.size ≤ p.blk) (ho : ORel (ψ.upd n p) w' p o) :
    Post ψ g n w (ψ.upd n p) (g.upd n (some o)) n.succ w' := by
  have hix := Key.ix_succ hn
  have hle := Psi.le_upd (ψ := ψ) (k := n) p hnone
  have hgn : ∀ j q, g j = some q → j ≠ n := by
    intro j q hj e
    subst e
    obtain ⟨p, hp⟩ := h.tot j q hj
    rw [hnone] at hp; cases hp
  refine ⟨hle, fun k hk => ?_, ⟨?_, ?_, ?_⟩, fun B hB _ => hb.block B hB, ?_, hb.size, hb.tape, hb.os, hb.output, by omega, ?_⟩
  · exact Psi.upd_other _ _ (fun e => by subst e; omega)
  · intro j q pj hq hpj
    by_cases hj : j = n
    · subst hj
      rw [Fam.upd_same] at hq; rw [Psi.upd_same] at hpj
      injection hq with hq; injection hpj with hpj
      subst hq; subst hpj; exact ho
    · rw [Fam.upd_other _ _ hj] at hq; rw [Psi.upd_other _ _ hj] at hpj
      have := h.on j q pj hq hpj
      exact ORel.congr (hb.block _ this.lt) (this.mono hle)
  · intro j q hq
    by_cases hj : j = n
    · subst hj; exact ⟨_, Psi.upd_same _ _ _⟩
    · rw [Fam.upd_other _ _ hj] at hq
      obtain ⟨p, hp⟩ := h.tot j q hq
      exact ⟨p, hle _ _ hp⟩
  · intro k₁ k₂ o₁ o₂ p₁ p₂ h1 h2 h3 h4 e
    by_cases j1 : k₁ = n <;> by_cases j2 : k₂ = n
    · rw [j1, j2]
    · exfalso
      subst j1
      rw [Psi.upd_same] at h3; injection h3 with h3; subst h3
      rw [Fam.upd_other _ _ j2] at h2; rw [Psi.upd_other _ _ j2] at h4
      have := (h.on _ _ _ h2 h4).lt
      omega
    · exfalso
      subst j2
      rw [Psi.upd_same] at h4; injection h4 with h4; subst h4
      rw [Fam.upd_other _ _ j1] at h1; rw [Psi.upd_other _ _ j1] at h3
      have := (h.on _ _ _ h1 h3).lt
      omega
    · rw [Fam.upd_other _ _ j1] at h1; rw [Psi.upd_other _ _ j1] at h3
      rw [Fam.upd_other _ _ j2] at h2; rw [Psi.upd_other _ _ j2] at h4
      exact h.inj _ _ _ _ _ _ h1 h2 h3 h4 e
  · intro j q pj hq hro hpj
    by_cases hj : j = n
    · subst hj
      rw [Psi.upd_same] at hpj; injection hpj with hpj; subst hpj
      exact .inr hp
    · rw [Fam.upd_other _ _ hj] at hq; rw [Psi.upd_other _ _ hj] at hpj
      exact .inl ⟨j, q, pj, hq, hro, hpj, rfl⟩
  · intro j q pj hq hpj
    by_cases hj : j = n
    · subst hj
      rw [Psi.upd_same] at hpj; injection hpj with hpj; subst hpj
      exact .inr hp
    · rw [Fam.upd_other _ _ hj] at hq; rw [Psi.upd_other _ _ hj] at hpj
      exact .inl ⟨j, q, pj, hq, hpj, rfl⟩
def R0 : Value → Option (DataW Unit × List MemPlace) := fun _ => some (.nil, [])
structure NamesFn (P : Program) (f : FuncId) (k : TypeId) : Prop where
  enter : ∀ args w, (callFunc f args).run P w = .ok (.enter f args) w
  kstr : P.underlying k = some .string
  some_ : ∀ (b nn : Nat) (D0 : DataW Unit) (w : World), w.ownsMap P k R0 b nn D0 → Maps.size D0 ≤ maxLen → Maps.size D0 * 16 ≤ 140737488355328 →
    Calls P f #[.map (some b)] w fun e w' => ∃ (v : Value) (ss : List (List UInt8)), e = .returned v ∧ ss.Perm (strKeys D0) ∧
      w'.ownsRow w.heap.size k 1 v ss.length ((ss.mergeSort (fun x y => decide (x ≤ y))).map encStr) ∧ (v = .slice none 0 0 ↔ ss = []) ∧ Below w.heap.size w w'
  nil_ : ∀ w : World, Calls P f #[.map none] w fun e w' => e = .returned (.slice none 0 0) ∧ Below w.heap.size w w'
theorem names_above (d : Bool) (args : List CV) (h : Heap) (n : Key) : Above n (namesN d args h n) := by
  unfold namesN
  split
  · trivial
  · split
    · split
      · split
        · split
          · exact Nat.le_refl _
          · rw [show ∀ (m : Nat) (k : Nat → R), forceNat m k = k m from fun m k => by cases m <;> rfl]
            exact Key.ix_le_succ _
        · trivial
      · trivial
    · exact Nat.le_refl _
    · trivial
theorem names_sim {f : FuncId} {k : TypeId} (hf : NamesFn P f k) {args : List CV} {h : Heap} {n : Key} {ψ : Psi} {w : World} {args' : Array Value} (ha : VRels ψ args args'.toList) (hrel : Rel ψ (Heap.fam h) w) (hfr : Fresh ψ n)
    (hc : Clean (namesN false args h n)) : CallsTo' P f args' w (RetOut ψ (Heap.fam h) n w (namesN false args h n)) := by
  unfold CallsTo'
  rw [hf.enter]
  show Calls P f args' w fun e w'' => ∃ v, e = .returned v ∧ RetOut ψ (Heap.fam h) n w (namesN false args h n) v w''
  unfold namesN at hc ⊢
  simp only at hc ⊢
  split at hc
  · rename_i b
    rw [vrels_cons] at ha
    obtain ⟨v, r, e1, hv, hr⟩ := ha
    rw [vrels_nil] at hr; subst hr
    rw [vrel_map] at hv
    obtain ⟨p, hp, rfl⟩ := hv
    obtain rfl : args' = #[.map (some p.blk)] := by cases args'; simp_all
    split at hc
    · rename_i es clock hg
      split at hc
      · rename_i hok
        rw [Bool.and_eq_true] at hok
        have ho := hrel.on b (.map es clock) p hg hp
        obtain ⟨arr, hheap, hce⟩ := ho
        obtain ⟨ks, h1, h2, h3, h4, h5, h6⟩ := map_keys hce hok.1
        have hlen : arr.size = es.length := by
          have : ∀ {es : List CE} {l : List MapEntry}, CERels ψ es l → l.length = es.length := by
            intro es
            induction es with
            | nil => intro l h; have h : l = [] := h; subst h; rfl
            | cons c es ih => intro l h; obtain ⟨x, r, rfl, _, hr⟩ := h; simp [ih hr]
          have := this hce
          rwa [Array.length_toList] at this
        have hle := ble_yes hok.2
        rw [lenE_eq] at hle
        have hkl : ks.length = arr.size := by
          have := congrArg List.length h2
          simpa using this.symm
        have hread : ∀ x ∈ arr.toList, ∃ key : List UInt8, key ∈ ks ∧ x.key = encStr key ∧ Go.WideElems.rd P k R0 x = some (.string key, .nil) := by
          intro x hx
          have hm : x.key ∈ ks.map encStr := by rw [← h2]; exact List.mem_map.2 ⟨x, hx, rfl⟩
          obtain ⟨key, hk, e⟩ := List.mem_map.1 hm
          refine ⟨key, hk, e.symm, ?_⟩
          have hlen := h3 key hk
          have hko : keyOf P k x.key = some (.string key) := by
            rw [← e]
            have : (⟨key.toArray⟩ : ByteArray).size ≤ maxLen := by
              show key.toArray.size ≤ maxLen
              rw [List.size_toArray]; unfold maxLen; omega
            have := Go.WideMaps.keyOf_string_mk (k := k) hf.kstr this
            simpa [encStr] using this
          unfold Go.WideElems.rd
          rw [hko]
          rfl
        have hfit : Go.WideElems.Fit P k R0 arr clock := by
          refine ⟨by rw [hlen]; unfold maxLen; omega, ?_, fun x hx => ?_⟩
          · exact (Go.MapKept.stamped_iff arr clock).2 ⟨h4, h5, h6⟩
          · obtain ⟨key, _, _, hr⟩ := hread x hx
            exact ⟨_, hr⟩
        have hown : w.ownsMap P k R0 p.blk arr.size (.map ((arr.toList.map (Go.WideElems.rg P k R0)).foldr DataW.insert [])) := ⟨arr, clock, hheap, hfit, Nat.le_refl _, rfl⟩
        have hsize : Maps.size (DataW.map ((arr.toList.map (Go.WideElems.rg P k R0)).foldr DataW.insert [])) = arr.size := by
          rw [Maps.size_eq]
          have := (Go.WideShapes.sorted_perm (arr.toList.map (Go.WideElems.rg P k R0))).length_eq
          rw [this]; simp
        have hkeys : (strKeys (DataW.map ((arr.toList.map (Go.WideElems.rg P k R0)).foldr DataW.insert []))).Perm ks := by
          have hp1 : ((arr.toList.map (Go.WideElems.rg P k R0)).foldr DataW.insert []).Perm (arr.toList.map (Go.WideElems.rg P k R0)) := Go.WideShapes.sorted_perm _
          refine (hp1.map fun q => strOf q.1).trans ?_
          have : (arr.toList.map (Go.WideElems.rg P k R0)).map (fun q => strOf q.1) = ks := by
            have hinj : ((arr.toList.map (Go.WideElems.rg P k R0)).map (fun q => strOf q.1)).map encStr = ks.map encStr := by
              rw [← h2, List.map_map, List.map_map]
              refine List.map_congr_left fun x hx => ?_
              obtain ⟨key, _, e, hr⟩ := hread x hx
              show encStr (strOf (Go.WideElems.rg P k R0 x).1) = x.key
              unfold Go.WideElems.rg
              rw [hr, e]; rfl
            have inj : ∀ (a b : List (List UInt8)), a.map encStr = b.map encStr → a = b := by
              intro a
              induction a with
              | nil => intro b h; cases b with
                | nil => rfl
                | cons _ _ => cases h
              | cons x a ih => intro b h; cases b with
                | nil => cases h
                | cons y b =>
                  injection h with e1 e2
                  rw [encStr_inj e1, ih b e2]
            exact inj _ _ hinj
          rw [this]
        refine Calls.mono (hf.some_ p.blk arr.size _ w hown (by rw [hsize, hlen]; unfold maxLen; omega) (by rw [hsize, hlen]; omega)) fun e w' ⟨v, ss, e1, hperm, hrow, hnil, hbelow⟩ => ⟨v, e1, ?_⟩
        have hsort : sortS (keysS es) = (ss.mergeSort fun x y => decide (x ≤ y)).map toN := by
          rw [h1]; exact sort_unique (hperm.trans hkeys)
        split at hc
        · rename_i hs
          rw [hsort] at hs
          have hss : ss = [] := by
            have := congrArg List.length hs
            rw [List.length_map, List.length_mergeSort] at this
            exact List.length_eq_zero_iff.1 this
          rw [hnil.2 hss]
          exact ⟨ψ, post_below hrel hbelow, vrel_nilsl.2 rfl⟩
        · rename_i k0 ks0 hs
          rw [show ∀ (m : Nat) (k : Nat → R), forceNat m k = k m from fun m k => by cases m <;> rfl] at hc ⊢
          rw [hsort] at hs
          have hslen : ss.length = ks0.length + 1 := by
            have := congrArg List.length hs
            rw [List.length_map, List.length_mergeSort] at this
            exact this
          have hroom : n.room := Key.room_of_succ (k := n) hc
          have hnone := hfr n (Nat.le_refl _)
          rcases hrow.2 with ⟨_, h0⟩ | ⟨g, cap, cur, rfl, hge, hcell, hncap, hcapm, hcs, htake⟩
          · omega
          · refine ⟨ψ.upd n ⟨g, 0, cur.size⟩, ?_, ?_⟩
            · rw [fam_putH]
              refine post_named (p := ⟨g, 0, cur.size⟩) hrel hroom hnone hbelow hge ?_
              refine ⟨cur, k, (0, 0), hcell, rfl, ?_, .inl rfl, fun i c hi => ?_⟩
              · simp only [Nat.zero_add, List.length_cons, List.length_map]; omega
              · have hmap : (CV.str k0 :: ks0.map CV.str) = ((ss.mergeSort fun x y => decide (x ≤ y)).map toN).map CV.str := by rw [hs]; rfl
                rw [hmap, List.map_map] at hi
                obtain ⟨l0, hl, rfl⟩ : ∃ l0, (ss.mergeSort fun x y => decide (x ≤ y))[i]? = some l0 ∧ c = CV.str (toN l0) := by
                  rw [List.getElem?_map] at hi
                  cases hq : (ss.mergeSort fun x y => decide (x ≤ y))[i]? with
                  | none => rw [hq] at hi; cases hi
                  | some l0 => rw [hq] at hi; injection hi with hi; exact ⟨l0, rfl, hi.symm⟩
                have hcur : cur.toList[i]? = some (encStr l0) := by
                  have hli : i < ss.length := by
                    have := (List.getElem?_eq_some_iff.1 hl).1
                    rwa [List.length_mergeSort] at this
                  have := congrArg (fun l => l[i]?) htake
                  simp only [List.getElem?_take, List.getElem?_map, hl, Option.map_some] at this
                  rw [if_pos (by omega)] at this
                  exact this
                refine ⟨encStr l0, ?_, ?_⟩
                · rw [Array.getElem?_toList] at hcur
                  simpa using hcur
                · rw [vrel_str]
                  refine ⟨_, rfl, ?_⟩
                  rw [natsOf_toN]
            · rw [vrel_sl]
              refine ⟨_, 0, cap, Psi.upd_same _ _ _, by rw [hslen], ?_, ?_, by simp, .inl ⟨rfl, fun _ => ?_⟩⟩
              · omega
              · omega
              · simp only; omega
      · exact hc.elim
    · exact hc.elim
  · rw [vrels_cons] at ha
    obtain ⟨v, r, e1, hv, hr⟩ := ha
    rw [vrels_nil] at hr; subst hr
    rw [vrel_nilmap] at hv; subst hv
    obtain rfl : args' = #[.map none] := by cases args'; simp_all
    exact Calls.mono (hf.nil_ w) fun e w' ⟨e1, hb⟩ => ⟨_, e1, ψ, post_below hrel hb, vrel_nilsl.2 rfl⟩
  · exact hc.elim
theorem names_ok {nat : Nats} (hn : ∀ f g, nat f = some g → g = namesN ∧ ∃ k, NamesFn P f k) : NatsOk P nat := by
  refine ⟨fun f g hg d args h n => ?_, fun f g hg args h n ψ w args' h1 h2 h3 h4 hc => ?_, fun f g hg args h n ψ w args' h1 h2 h3 h4 hc => ?_⟩
  · obtain ⟨rfl, _⟩ := hn f g hg
    exact names_above d args h n
  · obtain ⟨rfl, k, hf⟩ := hn f g hg
    exact names_sim hf h1 h3 h4 hc
  · obtain ⟨rfl, _⟩ := hn f g hg
    exact hc.elim
end
end Go.Ev

namespace Go.Ev
noncomputable section
variable {P : Program}
@[reducible] def noSym : Sym where
  val := fun _ => .int .i64 0
  one := fun _ => .inl ⟨_, _, rfl⟩
  bin := fun _ _ _ => none
  cv := fun _ _ => none
theorem noSym_ok : @SymFact noSym P := @SymFact.mk noSym P ⟨fun _ _ _ _ h => (by cases h), fun _ _ _ h => (by cases h)⟩
structure SRule where
  op : BinOp
  i : Nat
  c : Nat
  v : CV
def ruleFind (op : BinOp) (i c : Nat) : List SRule → Option (List CV)
  | [] => none
  | r :: l => if r.op = op ∧ r.i = i ∧ r.c = c then some [r.v] else ruleFind op i c l
def tabBin (rules : List SRule) (op : BinOp) (x y : CV) : Option (List CV) := match x, y with
  | .sym i, .nat c => ruleFind op i c rules
  | _, _ => none
theorem tabBin_spec {rules : List SRule} {op : BinOp} {x y : CV} {l : List CV} (h : tabBin rules op x y = some l) : ∃ i c, x = .sym i ∧ y = .nat c ∧ ruleFind op i c rules = some l := by
  unfold tabBin at h
  split at h
  · exact ⟨_, _, rfl, rfl, h⟩
  · cases h
@[reducible] def tabSym (σ : Nat → Int) (rules : List SRule) : Sym where
  val := fun i => .int .i64 (σ i)
  one := fun _ => .inl ⟨_, _, rfl⟩
  bin := tabBin rules
  cv := fun _ _ => none
def RuleOk (σ : Nat → Int) (r : SRule) : Prop := ∃ u, intOp r.op .i64 (σ r.i) (.ofNat r.c) = some u ∧ (r.v = u ∨ ∃ j, r.v = .sym j ∧ u = mkInt .i64 (σ j))
theorem ruleFind_spec {op : BinOp} {i c : Nat} : ∀ {l : List SRule} {r : List CV}, ruleFind op i c l = some r → ∃ q ∈ l, q.op = op ∧ q.i = i ∧ q.c = c ∧ r = [q.v]
  | [], _, h => by cases h
  | q :: l, r, h => by
    unfold ruleFind at h
    split at h
    · rename_i hq
      injection h with h
      exact ⟨q, by simp, hq.1, hq.2.1, hq.2.2, h.symm⟩
    · obtain ⟨q', h1, h2⟩ := ruleFind_spec h
      exact ⟨q', by simp [h1], h2⟩
theorem tabSym_ok {σ : Nat → Int} {rules : List SRule} (h : ∀ r ∈ rules, RuleOk σ r) : @SymFact (tabSym σ rules) P := by
  refine @SymFact.mk (tabSym σ rules) P ⟨fun op x y l hb ψ t u v w hu hv => ?_, fun _ _ _ h => (by cases h)⟩
  obtain ⟨i, c, rfl, rfl, hb⟩ := tabBin_spec hb
  · obtain ⟨q, hq, h1, h2, h3, h4⟩ := ruleFind_spec hb
    obtain ⟨z, hz, hzz⟩ := h q hq
    have hu : u = .int .i64 (σ i) := (@vrel_sym (tabSym σ rules) ψ i u).1 hu
    have hv : v = .int .i64 (.ofNat c) := (@vrel_nat (tabSym σ rules) ψ c v).1 hv
    subst hu hv
    refine ⟨.inl ⟨_, _, rfl⟩, ?_⟩
    rw [h1, h2, h3] at hz
    obtain ⟨y', g1, g2⟩ := @intOp_rel (tabSym σ rules) P ψ op .i64 .i64 (σ i) (.ofNat c) z t w (.inl rfl) hz
    refine ⟨y', g1, q.v, by rw [h4]; simp, ?_⟩
    rcases hzz with e | ⟨j, e1, e2⟩
    · rw [e]; exact g2
    · rw [e1, (@vrel_sym (tabSym σ rules) ψ j y')]
      rw [e2] at g2
      exact @mkInt_inv (tabSym σ rules) ψ .i64 (σ j) y' g2
def ListOk (P : Program) (k : Nat) : List CFn → Prop
  | [] => True
  | c :: r => (c = compFn P k ∨ ∃ b, c = .bad b) ∧ ListOk P (k + 1) r
def ListsOk (P : Program) (j : Nat) : List (List CFn) → Prop
  | [] => True
  | l :: r => ListOk P (32 * j) l ∧ ListsOk P (j + 1) r
def nthF (l : List CFn) (k : Nat) : Option CFn :=
  List.rec (motive := fun _ => Nat → Option CFn) (fun _ => none) (fun x _ ih k => Nat.rec (motive := fun _ => Option CFn) (some x) (fun k _ => ih k) k) l k
def nthL (l : List (List CFn)) (k : Nat) : Option (List CFn) :=
  List.rec (motive := fun _ => Nat → Option (List CFn)) (fun _ => none) (fun x _ ih k => Nat.rec (motive := fun _ => Option (List CFn)) (some x) (fun k _ => ih k) k) l k
def codeOf (css : List (List CFn)) (f : FuncId) : CFn :=
  Option.rec (motive := fun _ => CFn) (.bad 0) (fun l => Option.rec (motive := fun _ => CFn) (.bad 0) (fun c => c) (nthF l (Nat.mod f 32))) (nthL css (Nat.div f 32))
theorem nthF_ok {c : CFn} : ∀ {l : List CFn} {k i : Nat}, ListOk P k l → nthF l i = some c → c = compFn P (k + i) ∨ ∃ b, c = .bad b
  | [], _, _, _, h => by cases h
  | x :: l, k, 0, hl, h => by
    injection h with h
    subst h
    exact hl.1
  | x :: l, k, i + 1, hl, h => by
    have := nthF_ok (k := k + 1) (i := i) hl.2 h
    rw [show k + (i + 1) = k + 1 + i from by omega]
    exact this
theorem nthL_ok {c : List CFn} : ∀ {l : List (List CFn)} {k i : Nat}, ListsOk P k l → nthL l i = some c → ListOk P (32 * (k + i)) c
  | [], _, _, _, h => by cases h
  | x :: l, k, 0, hl, h => by
    injection h with h
    subst h
    exact hl.1
  | x :: l, k, i + 1, hl, h => by
    have := nthL_ok (k := k + 1) (i := i) hl.2 h
    rw [show k + (i + 1) = k + 1 + i from by omega]
    exact this
theorem codeOf_cases (css : List (List CFn)) (f : FuncId) : codeOf css f = .bad 0 ∨ ∃ l c, nthL css (Nat.div f 32) = some l ∧ nthF l (Nat.mod f 32) = some c ∧ codeOf css f = c := by
  unfold codeOf
  cases h1 : nthL css (Nat.div f 32) with
  | none => exact .inl rfl
  | some l =>
    simp only
    cases h2 : nthF l (Nat.mod f 32) with
    | none => exact .inl rfl
    | some c => exact .inr ⟨l, c, rfl, h2, rfl⟩
theorem codeOf_ok {css : List (List CFn)} (h : ListsOk P 0 css) : CodeOk P (codeOf css) := by
  intro f
  rcases codeOf_cases css f with e | ⟨l, c, h1, h2, e⟩
  · exact .inr ⟨0, e⟩
  · have := nthF_ok (nthL_ok h h1) h2
    have e' : 32 * (0 + Nat.div f 32) + Nat.mod f 32 = f := by
      rw [Nat.zero_add]; exact Nat.div_add_mod f 32
    rw [e'] at this
    rw [e]; exact this
def trueN : Bool → List CV → Heap → Key → R := fun d args h n => match d, args with
  | false, [] => .ret (.bool true) h n
  | _, _ => .err 404
structure TrueFn (P : Program) (f : FuncId) : Prop where
  enter : ∀ args w, (callFunc f args).run P w = .ok (.enter f args) w
  calls : ∀ w : World, Calls P f #[] w fun e w' => e = .returned (.bool true) ∧ RowKit.Below w.heap.size w w'
def natT (f : FuncId) (nat : Nats) : Nats := fun g => Bool.rec (motive := fun _ => Option (Bool → List CV → Heap → Key → R)) (nat g) (some trueN) (Nat.beq g f)
theorem natT_ok [Sym] [SymFact P] {f : FuncId} {nat : Nats} (hf : TrueFn P f) (hn : NatsOk P nat) : NatsOk P (natT f nat) := by
  have key : ∀ g q, natT f nat g = some q → (g = f ∧ q = trueN) ∨ nat g = some q := by
    intro g q h
    unfold natT at h
    cases e : Nat.beq g f with
    | true =>
      rw [e] at h
      injection h with h
      exact .inl ⟨beq_yes e, h.symm⟩
    | false => rw [e] at h; exact .inr h
  refine ⟨fun g q hg d args h n => ?_, fun g q hg args h n ψ w args' h1 h2 h3 h4 hc => ?_, fun g q hg args h n ψ w args' h1 h2 h3 h4 hc => ?_⟩
  · rcases key g q hg with ⟨rfl, rfl⟩ | hg
    · unfold trueN
      split
      · exact Nat.le_refl _
      · trivial
    · exact hn.above g q hg d args h n
  · rcases key g q hg with ⟨rfl, rfl⟩ | hg
    · cases args with
      | cons a l => exact hc.elim
      | nil =>
        rw [vrels_nil] at h1
        obtain rfl : args' = #[] := by cases args'; simp_all
        unfold CallsTo'
        rw [hf.enter]
        exact Calls.mono (hf.calls w) fun e w' ⟨e1, hb⟩ => ⟨_, e1, ψ, post_below h3 hb, vrel_bool.2 rfl⟩
    · exact hn.calls g q hg args h n ψ w args' h1 h2 h3 h4 hc
  · rcases key g q hg with ⟨rfl, rfl⟩ | hg
    · exact hc.elim
    · exact hn.defers g q hg args h n ψ w args' h1 h2 h3 h4 hc
theorem calls_tab {code : FuncId → CFn} {nat : Nats} {fuel : Nat} {f : FuncId} {fn : Func} {c : Code} {args : List CV} {args' : Array Value} {G : Nat} {n : Key} {σ : Nat → Int} {rules : List SRule} (hr : ∀ r ∈ rules, RuleOk σ r)
    (hm : P.follows .mixedOrders = true) (hcode : CodeOk P code) (hnat : ∀ [Sym] [SymFact P], NatsOk P nat) (hf : P.funcs[f]? = some fn) (hname : (fn.name == "runtime.NumGoroutine") = false) (hb : fn.body = some c) (hG : P.globals.size ≤ G) (hn : G ≤ n.ix)
    (hargs : @VRels (tabSym σ rules) (psi0 G) args args'.toList) (hrun : allTrue (@ev (tabSym σ rules) P code nat fuel false f args .nil n) = true) (w : World) :
    Calls P f args' w fun e w' => e = .returned (.bool true) ∧ RowKit.Below w.heap.size w w' :=
  @calls_true (tabSym σ rules) P (tabSym_ok hr) code nat fuel f fn c args args' G n hm hcode (@hnat (tabSym σ rules) (tabSym_ok hr)) hf hname hb hG hn hargs hrun w
theorem and_cases (q : Int) (m : Nat) (hm : m ≤ 127) : ∃ j, j ≤ m ∧ intOp .and .i64 q (.ofNat m) = some (mkInt .i64 (.ofNat j)) := by
  obtain ⟨j, h1, h2⟩ := @land_small noSym .i64 q m hm
  refine ⟨j, h1, ?_⟩
  show some (mkInt .i64 (wrapI .i64 (.ofNat (Nat.land (toU .i64 q) (toU .i64 (.ofNat m)))))) = _
  rw [h2]
theorem rem_cases (q : Int) (m : Nat) : ∃ z : Int, z.natAbs ≤ m ∧ intOp .rem .i64 q (.ofNat (m + 1)) = some (mkInt .i64 z) := by
  refine ⟨q.tmod (.ofNat (m + 1)), @tmod_small noSym q m, ?_⟩
  show Bool.rec (motive := fun _ => Option CV) (some (mkInt .i64 (q.tmod (.ofNat (m + 1))))) none (intEq (.ofNat (m + 1)) (.ofNat 0)) = _
  rw [@intEq_iff noSym, decide_eq_false (by intro h; injection h with h; cases h)]
end
end Go.Ev

