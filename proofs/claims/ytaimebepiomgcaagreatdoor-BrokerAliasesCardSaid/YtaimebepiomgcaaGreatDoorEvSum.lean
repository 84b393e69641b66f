/- A verified evaluator for the model's code: EvSum, EvSumN, EvSumH, EvMemo, EvSeq. -/
import Derived.Test.YtaimebepiomgcaaGreatDoorEvHint
set_option linter.unusedSectionVars false
set_option linter.unusedVariables false
set_option linter.unusedSimpArgs false
namespace Go.Ev
open Go.RowKit
noncomputable section
variable {P : Program}
structure Po where
  v : CV
  objs : List (Key × CObj)
structure Sm where
  args : List CV
  objs : List (Key × CObj)
  n : Key
  b : List (Int × Int)
  pins : List Key
  posts : List Po
abbrev zGE (l : List (Key × CObj)) : Fam := zD.fam (mkH .nil l)
def zGN (ψ : Psi) (l : List (Key × CObj)) (w : World) (B : Nat) : Prop := (∃ k o p, zGE l k = some o ∧ ψ k = some p ∧ p.blk = B) ∨ w.heap.size ≤ B
structure Lft (O : Nat → Prop) (w w' : World) : Prop where
  os : w'.os = w.os
  tape : w'.tape = w.tape
  output : w'.output = w.output
  size : w.heap.size ≤ w'.heap.size
  block : ∀ B, ¬ O B → w'.heap[B]? = w.heap[B]?
theorem Lft.refl (O : Nat → Prop) (w : World) : Lft O w w := ⟨rfl, rfl, rfl, Nat.le_refl _, fun _ _ => rfl⟩
theorem zMw {S : Sym} {O : Nat → Prop} {ψ ψ' : Psi} {g g' : Fam} {n n' : Key} {w0 w w' : World} (h : Lft O w0 w) (hp : @zy S ψ g n w ψ' g' n' w') (ho : ∀ B, w0.heap.size ≤ B → O B)
    (hm : ∀ k o p, g k = some o → o.isRo = false → ψ k = some p → O p.blk) : Lft O w0 w' := by
  have h1 := @zy.os S _ _ _ _ _ _ _ _ hp
  have h2 := @zy.tape S _ _ _ _ _ _ _ _ hp
  have h3 := @zy.output S _ _ _ _ _ _ _ _ hp
  have h4 := @zy.size S _ _ _ _ _ _ _ _ hp
  have h5 := @zy.frame S _ _ _ _ _ _ _ _ hp
  refine ⟨h1.trans h.os, h2.trans h.tape, h3.trans h.output, Nat.le_trans h.size h4, fun B hB => ?_⟩
  have hlt : B < w0.heap.size := by
    rcases Nat.lt_or_ge B w0.heap.size with q | q
    · exact q
    · exact absurd (ho B q) hB
  rw [h5 B (Nat.lt_of_lt_of_le hlt h.size) fun k o p q1 q2 q3 e => hB (e ▸ hm k o p q1 q2 q3), h.block B hB]
theorem zMk {S : Sym} {O : Nat → Prop} {ψ ψ' : Psi} {g g' : Fam} {n n' : Key} {w0 w w' : World} (h : Lft O w0 w) (hp : @zy S ψ g n w ψ' g' n' w') (ho : ∀ B, w0.heap.size ≤ B → O B)
    (hm : ∀ k o p, g k = some o → o.isRo = false → ψ k = some p → O p.blk) : ∀ k o p, g' k = some o → o.isRo = false → ψ' k = some p → O p.blk := by
  intro k o p q1 q2 q3
  rcases @zy.img S _ _ _ _ _ _ _ _ hp k o p q1 q2 q3 with ⟨k₀, o₀, p₀, a, b, c, d⟩ | hge
  · rw [← d]; exact hm k₀ o₀ p₀ a b c
  · exact ho _ (Nat.le_trans h.size hge)
theorem zHx {ψ : Psi} {l : List (Key × CObj)} {w : World} : ∀ B, w.heap.size ≤ B → zGN ψ l w B := fun _ h => .inr h
def zDw (p q : Pl) : Prop := q.blk = p.blk ∧ q.off = p.off ∧ q.sz = p.sz
structure zOB (S : Sym) (ψ : Psi) (s : Sm) (w : World) (po : Po) (v : Value) (ψ' : Psi) (w' : World) : Prop where
  pin : ∀ k ∈ s.pins, ∀ p, ψ k = some p → ∃ p', ψ' k = some p' ∧ zDw p p'
  rel : @Rel S ψ' (zGE po.objs) w'
  val : @zH S ψ' po.v v
  own : ∀ k o p, zGE po.objs k = some o → ψ' k = some p → o.isRo = false ∧ zGN ψ s.objs w p.blk
  lft : Lft (zGN ψ s.objs w) w w'
abbrev noA : Key → Option Value := fun _ => none
abbrev kno : ze := ⟨[], [], [], noA⟩
def SmOk (P : Program) (f : FuncId) (s : Sm) : Prop := ∀ (σ : Nat → Int), yu σ 0 s.b → ∀ (ψ : Psi) (w : World) (args' : Array Value),
  (∀ σ' K', (∀ j, j < s.b.length → σ' j = σ j) → K'.arg = noA → @zT (linSym σ' K') ψ s.args args'.toList ∧ @Rel (linSym σ' K') ψ (zGE s.objs) w) → kU P ψ → x7 ψ s.n →
  yf P f args' w fun v w' => ∃ po ∈ s.posts, ∃ ψ', zOB (linSym σ kno) ψ s w po v ψ' w'
theorem zBn {σs σT : Nat → Int} {Ks KT : ze} {θ : TH} {objs : List (Key × CObj)} {ks : List Key} {h : zD} {lo hi G : Nat} {ψ : Psi} {w : World} (hθ : kV σs σT θ) (hR : @Rel (linSym σs Ks) ψ (zD.fam h) w)
    (hc : jV (yO objs ks) (jC objs ks) θ h lo hi objs ks = true) :
    @Rel (linSym σT KT) (kO (yO objs ks) h [] ψ G 0) (zGE objs) w ∧ zCQ (yO objs ks) ψ (kO (yO objs ks) h [] ψ G 0) ∧
    (∀ k o p, zGE objs k = some o → kO (yO objs ks) h [] ψ G 0 k = some p → o.isRo = false ∧ ∃ k0 o0 p0, zD.fam h k0 = some o0 ∧ o0.isRo = false ∧ ψ k0 = some p0 ∧ p0.blk = p.blk ∧ zu (yO objs ks) k = some k0) := by
  have hTot : ∀ k o, zD.fam h k = some o → ∃ p, ψ k = some p := @Rel.tot (linSym σs Ks) _ _ _ hR
  have hOn : ∀ k o p, zD.fam h k = some o → ψ k = some p → @xJ (linSym σs Ks) ψ w p o := @Rel.on (linSym σs Ks) _ _ _ hR
  have hInj := @Rel.inj (linSym σs Ks) _ _ _ hR
  generalize hρ : yO objs ks = ρ at hc ⊢
  generalize hinv : jC objs ks = inv at hc
  have hobj := kP hc
  have hps : ∀ k j p, zu ρ k = some j → ψ j = some p → kO ρ h [] ψ G 0 k = some ⟨p.blk, p.off, p.sz, zGY (yK j h) p.ck⟩ := by
    intro k j p hk hp
    unfold kO
    rw [hk]
    simp only
    rw [hp]; rfl
  have hPs : zCQ ρ ψ (kO ρ h [] ψ G 0) := fun k j p hk hp => ⟨_, hps k j p (kh hk) hp, rfl, rfl, rfl⟩
  have hfam : ∀ k o p, zGE objs k = some o → kO ρ h [] ψ G 0 k = some p → ∃ b o' p0, zu ρ k = some b ∧ zu inv b = some k ∧ zD.fam h b = some o' ∧ ψ b = some p0 ∧ zBH ρ θ o o' = true ∧
      p = ⟨p0.blk, p0.off, p0.sz, zGY (some o') p0.ck⟩ := by
    intro k o p hk hp
    rcases wZ hk with ⟨j, hj⟩ | hn
    · obtain ⟨b, o', g1, g2, g3, g4, g5, g6, g7⟩ := hobj j k o hj
      obtain ⟨p0, hp0⟩ := hTot b o' g6
      rw [hps k b p0 g2 hp0, g6] at hp
      injection hp with hp
      exact ⟨b, o', p0, g2, g3, g6, hp0, g7, hp.symm⟩
    · rw [vM] at hn; cases hn
  refine ⟨?_, hPs, ?_⟩
  · refine @Rel.mk (linSym σT KT) _ _ _ ?_ ?_ ?_
    · intro k o p hk hp
      obtain ⟨b, o', p0, g1, g2, g3, g4, g5, rfl⟩ := hfam k o p hk hp
      exact (zJX (p := p0) (p' := ⟨p0.blk, p0.off, p0.sz, zGY (some o') p0.ck⟩) hθ hPs g5 rfl rfl rfl rfl (hOn b o' p0 g3 g4)).1
    · intro k o hk
      rcases wZ hk with ⟨j, hj⟩ | hn
      · obtain ⟨b, o', g1, g2, g3, g4, g5, g6, g7⟩ := hobj j k o hj
        obtain ⟨p0, hp0⟩ := hTot b o' g6
        exact ⟨_, hps k b p0 g2 hp0⟩
      · rw [vM] at hn; cases hn
    · intro k₁ k₂ o₁ o₂ p₁ p₂ h1 h2 h3 h4 hr e
      obtain ⟨b1, o1', q1, g1, g2, g3, g4, g5, rfl⟩ := hfam _ _ _ h1 h3
      obtain ⟨b2, o2', q2, f1, f2, f3, f4, f5, rfl⟩ := hfam _ _ _ h2 h4
      have := hInj b1 b2 _ _ _ _ g3 f3 g4 f4 (.inl (zHw g5)) e
      subst this
      rw [g2] at f2
      injection f2
  · intro k o p hk hp
    obtain ⟨b, o', p0, g1, g2, g3, g4, g5, rfl⟩ := hfam k o p hk hp
    have hro : o.isRo = false ∧ o'.isRo = false := by
      unfold zBH at g5
      split at g5
      · exact ⟨rfl, rfl⟩
      · exact ⟨rfl, rfl⟩
      · exact ⟨rfl, rfl⟩
      · exact ⟨rfl, rfl⟩
      · exact ⟨rfl, rfl⟩
      · cases g5
    exact ⟨hro.1, b, o', p0, g3, hro.2, g4, rfl, g1⟩
def thK : List (Int × Int) → Nat → TH
  | [], _ => []
  | _ :: r, j => (0, [(j, 1)]) :: thK r (Nat.succ j)
def thS : List (Int × Int) → TH
  | [] => []
  | _ :: r => (0, []) :: thK r 1
theorem zKv : ∀ {b : List (Int × Int)} {i j : Nat} {q : Int × LL}, nth (thK b i) j = some q → q = (0, [(i + j, 1)]) ∧ j < b.length
  | [], i, j, q, h => by cases j <;> cases h
  | x :: r, i, 0, q, h => by
    injection h with h
    exact ⟨h.symm, by simp⟩
  | x :: r, i, j + 1, q, h => by
    have h : nth (thK r (i + 1)) j = some q := h
    obtain ⟨h1, h2⟩ := zKv h
    exact ⟨by rw [h1, show i + 1 + j = i + (j + 1) from by omega], by simp; exact h2⟩
theorem zPE {σ σ0 : Nat → Int} {b : List (Int × Int)} (h0 : ∀ x r, b = x :: r → σ0 0 = 0) (hk : ∀ j, 1 ≤ j → j < b.length → σ j = σ0 j) : kV σ σ0 (thS b) := by
  intro j q hj
  cases b with
  | nil => cases j <;> cases hj
  | cons x r =>
    cases j with
    | zero =>
      injection hj with hj
      subst hj
      rw [h0 x r rfl]; rfl
    | succ j =>
      have hj : nth (thK r 1) j = some q := hj
      obtain ⟨h1, h2⟩ := zKv hj
      subst h1
      have := hk (j + 1) (by omega) (by simp; exact h2)
      rw [← this, show j + 1 = 1 + j from by omega]
      show _ = (0 : Int) + (1 * σ (1 + j) + 0)
      omega
def zGO (ρ : zD) : List Key → Bool
  | [] => true
  | k :: r => vG ρ k k && zGO ρ r
theorem zEE {ρ : zD} : ∀ {l : List Key}, zGO ρ l = true → ∀ k ∈ l, vG ρ k k = true
  | [], _, k, h => by cases h
  | x :: r, h, k, hk => by
    unfold zGO at h
    rw [Bool.and_eq_true] at h
    rcases List.mem_cons.1 hk with rfl | hk
    · exact h.1
    · exact zEE h.2 k hk
def zFd (G : Nat) (s : Sm) (po : Po) (v : CV) (h : zD) (n : Key) (ks : List Key) : Bool :=
  jV (yO po.objs ks) (jC po.objs ks) (thS s.b) h G 65535 po.objs ks && yI (yO po.objs ks) (thS s.b) po.v v && zGO (yO po.objs ks) s.pins && Nat.ble (Nat.succ n.ix) 65535
def zPA (l : List (Key × CObj)) : Nat := match l with
  | p :: _ => p.1.ix
  | [] => 0
def zJs (s : Sm) (po : Po) (v : CV) (h : zD) (k : List Key → Bool) : Bool := match zKj h po.objs (hV po.v v ⟨s.pins, [], Nat.add (zPA po.objs) s.pins.length, []⟩) [] with
  | (ks, _) => zBl ks k
theorem zHR {s : Sm} {po : Po} {v : CV} {h : zD} {k : List Key → Bool} (hh : zJs s po v h k = true) : ∃ x, k x = true := by
  unfold zJs at hh
  split at hh
  rw [wd] at hh
  exact ⟨_, hh⟩
def zHo (G : Nat) (s : Sm) (v : CV) (h : zD) (n : Key) : List Po → Bool
  | [] => false
  | po :: r => match zJs s po v h (zFd G s po v h n) with
    | true => true
    | false => zHo G s v h n r
theorem zDt {G : Nat} {s : Sm} {v : CV} {h : zD} {n : Key} : ∀ {l : List Po}, zHo G s v h n l = true → ∃ po ∈ l, ∃ ks, zFd G s po v h n ks = true
  | [], hh => by cases hh
  | po :: r, hh => by
    unfold zHo at hh
    split at hh
    · rename_i h1
      obtain ⟨ks, hk⟩ := zHR h1
      exact ⟨po, by simp, ks, hk⟩
    · obtain ⟨po', h1, h2⟩ := zDt hh
      exact ⟨po', by simp [h1], h2⟩
def chkRets (G : Nat) (s : Sm) : R → Bool
  | .ret v h n => zHo G s v h n s.posts
  | .fork a b => chkRets G s a && chkRets G s b
  | _ => false
theorem wE {G : Nat} {s : Sm} : ∀ {r : R}, chkRets G s r = true → za r
  | .ok .., h => by cases h
  | .ret v hh n, h => by
    obtain ⟨po, _, ks, hk⟩ := zDt (show zHo G s v hh n s.posts = true from h)
    unfold zFd at hk
    rw [Bool.and_eq_true] at hk
    exact @zP zW _ _ hk.2
  | .err _, h => by cases h
  | .fork a b, h => by
    have h : (chkRets G s a && chkRets G s b) = true := h
    rw [Bool.and_eq_true] at h
    exact ⟨wE h.1, wE h.2⟩
theorem vc {S : Sym} {G : Nat} {s : Sm} {ψ₀ : Psi} {g₀ : Fam} {n₀ : Key} {w₀ : World} {v : Value} {w : World} : ∀ {r : R}, chkRets G s r = true → @zn S ψ₀ g₀ n₀ w₀ r v w →
    ∃ (cv : CV) (h : zD) (n : Key) (ψ : Psi), @zy S ψ₀ g₀ n₀ w₀ ψ (zD.fam h) n w ∧ @zH S ψ cv v ∧ ∃ po ∈ s.posts, ∃ ks, zFd G s po cv h n ks = true
  | .ok .., h, _ => by cases h
  | .ret cv hh n, h, ⟨ψ, h1, h2⟩ => ⟨cv, hh, n, ψ, h1, h2, zDt h⟩
  | .err _, h, _ => by cases h
  | .fork a b, h, ho => by
    have h : (chkRets G s a && chkRets G s b) = true := h
    rw [Bool.and_eq_true] at h
    rcases ho with ho | ho
    · exact vc h.1 ho
    · exact vc h.2 ho
theorem zP9 {σ σ0 : Nat → Int} {K K0 : ze} {G : Nat} {s : Sm} {po : Po} {ψ0 ψ ψ' : Psi} {g : Fam} {n n' : Key} {w0 w w' : World} {v : Value} {cv : CV} {h : zD} {ks : List Key}
    (h0 : ∀ x r, s.b = x :: r → σ0 0 = 0) (hk : ∀ j, 1 ≤ j → j < s.b.length → σ j = σ0 j)
    (hpin : ∀ k ∈ s.pins, ∀ p0, ψ0 k = some p0 → ∃ p, ψ k = some p ∧ zDw p0 p) (hl : Lft (zGN ψ0 s.objs w0) w0 w)
    (hm : ∀ k o p, g k = some o → o.isRo = false → ψ k = some p → zGN ψ0 s.objs w0 p.blk)
    (hp : @zy (linSym σ K) ψ g n w ψ' (zD.fam h) n' w') (hv : @zH (linSym σ K) ψ' cv v) (hc : zFd G s po cv h n' ks = true) : ∃ ψT, zOB (linSym σ0 K0) ψ0 s w0 po v ψT w' := by
  unfold zFd at hc
  simp only [Bool.and_eq_true] at hc
  obtain ⟨⟨⟨c1, c2⟩, c3⟩, _⟩ := hc
  have hθ := zPE h0 hk
  obtain ⟨r1, r2, r3⟩ := zBn (G := G) (KT := K0) hθ (@zy.rel (linSym σ K) _ _ _ _ _ _ _ _ hp) c1
  refine ⟨_, ⟨fun k hk p hp0 => ?_, r1, qn hθ r2 po.v cv c2 hv, fun k o p q1 q2 => ?_, zMw hl hp zHx hm⟩⟩
  · obtain ⟨p1, e1, e2⟩ := hpin k hk p hp0
    obtain ⟨p', e3, e4, e5, e6⟩ := r2 k k p1 (zEE c3 k hk) (@zy.ext (linSym σ K) _ _ _ _ _ _ _ _ hp k p1 e1)
    exact ⟨p', e3, e4.trans e2.1, e5.trans e2.2.1, e6.trans e2.2.2⟩
  · obtain ⟨f1, k0, o0, p0, f2, f3, f4, f5, _⟩ := r3 k o p q1 q2
    refine ⟨f1, ?_⟩
    rw [← f5]
    exact zMk hl hp zHx hm k0 o0 p0 f2 f3 f4
theorem zAo {f : FuncId} {args : Array Value} {w : World} {K K' : Value → World → Prop} (h : yf P f args w K) (hk : ∀ v w', K v w' → K' v w') : yf P f args w K' := by
  unfold yf at h ⊢
  split at h
  · exact Calls.mono h fun e w'' ⟨v, e1, h1⟩ => ⟨v, e1, hk _ _ h1⟩
  · exact hk _ _ h
  · exact h.elim
def zNL : List (Int × Int) → Bool
  | [] => false
  | q :: _ => yt q.1 0 && yt q.2 0
theorem zNB {b : List (Int × Int)} (h : zNL b = true) {σ : Nat → Int} (hb : yu σ 0 b) : 1 ≤ b.length ∧ σ 0 = 0 := by
  cases b with
  | nil => cases h
  | cons q r =>
    unfold zNL at h
    rw [Bool.and_eq_true, @zl zW, @zl zW, decide_eq_true_eq, decide_eq_true_eq] at h
    have := hb.1
    rw [h.1, h.2] at this
    exact ⟨by simp, by omega⟩
section
variable {code : FuncId → CFn} {nat : Nats} {fuel : Nat} {f : FuncId} {fn : Func} {G : Nat} {s : Sm}
def okB (b : List (Int × Int)) : Bool := zNL b && Nat.ble b.length 1000
theorem smOk_run {tree : LTree} {ls : List Lf} (hm : P.follows .mixedOrders = true) (hcode : CodeOk P code) (hnat : ∀ σ K, KnownOk σ K → @NatsOk (linSym σ K) P nat)
    (hls : leaves [] tree ⟨s.b, [], [], [], 1000⟩ = some ls) (hok : okB s.b = true)
    (hrun : AllG (fun e => ∀ (σ : Nat → Int), chkRets G s (@ev (linSym σ (e.known noA)) P code nat fuel false f s.args (mkH .nil s.objs) s.n) = true) ls) : SmOk P f s := by
  intro σ hb ψ w args' hrel hglob hfr
  unfold okB at hok
  rw [Bool.and_eq_true] at hok
  obtain ⟨hlen, hz⟩ := zNB hok.1 hb
  obtain ⟨e, he, σ', r1, r2⟩ := yd (wins := []) (w0 := w) (i := σ 0) tree _ σ hls ⟨hb, trivial, trivial, fun q hq => by cases hq⟩ ⟨fun j k hj => by cases j <;> cases hj⟩ rfl (by show 0 < s.b.length; omega) (@zP zW _ _ hok.2) (Nat.le_refl _)
  have hag : ∀ j, j < s.b.length → σ' j = σ j := fun j hj => r2 j (.inl hj)
  have hrun := zAq hrun e he σ'
  have hK : KnownOk σ' (e.known noA) := r1.known noA
  obtain ⟨q1, q2⟩ := hrel σ' (e.known noA) hag rfl
  have hcall : @ym (linSym σ' (e.known noA)) P (@ev (linSym σ' (e.known noA)) P code nat fuel) := by
    letI S : Sym := linSym σ' (e.known noA)
    haveI hS : SymFact P := xX hK
    exact ue (fun call hcall F N => xd hm hcall) hcode (hnat _ _ hK) fuel
  refine zAo (@ym.calls (linSym σ' (e.known noA)) _ _ hcall f s.args _ s.n ψ w args' q1 hglob q2 hfr (wE hrun)) fun v w' ho => ?_
  obtain ⟨cv, h, n, ψ', p1, p2, po, hpo, ks, hc⟩ := vc hrun ho
  obtain ⟨ψT, hT⟩ := zP9 (σ0 := σ) (K0 := kno) (ψ0 := ψ) (w0 := w) (fun _ _ _ => hz) (fun j _ hj => hag j hj) (fun k hk p0 h0 => ⟨p0, h0, rfl, rfl, rfl⟩) (Lft.refl _ _) (fun k o p g1 _ g3 => .inl ⟨k, o, p, g1, g3, rfl⟩) p1 p2 hc
  exact ⟨po, hpo, ψT, hT⟩
end
structure zRi (P : Program) (F N : Nat) (s : Sm) (σ0 : Nat → Int) (ψ0 : Psi) (w0 : World) (T : TS) (σ : Nat → Int) (ψ : Psi) (a : Act) (w : World) : Prop where
  bnd : yu σ 0 T.b
  fct : qt σ T.f
  rul : xv σ T.r
  keep : ∀ j, 1 ≤ j → j < s.b.length → σ j = σ0 j
  st : ∀ σ' K', (∀ j, j < T.b.length → σ' j = σ j) → K'.arg = noA → @St (linSym σ' K') P F N ψ (zAb T.locs) [] (mkH .nil T.objs) T.n a w
  own : ∀ k o p, zGE T.objs k = some o → ψ k = some p → o.isRo = false ∧ zGN ψ0 s.objs w0 p.blk
  lft : Lft (zGN ψ0 s.objs w0) w0 w
  pin : ∀ k ∈ s.pins, ∀ p0, ψ0 k = some p0 → ∃ p, ψ k = some p ∧ zDw p0 p
section
variable {code : FuncId → CFn} {nat : Nats} {fuel : Nat} {fn : Func} {c b : Code} {p : List Stp} {rs : List CRes} {G : Nat} {Ts : List TS} {bound : Int} {s : Sm} {F N : Nat} {σ0 : Nat → Int} {ψ0 : Psi} {w0 : World}
end
end
end Go.Ev

namespace Go.Ev
open Go.RowKit
noncomputable section
variable {P : Program}
mutual
def yH (ρ : zD) (θ : TH) : CV → CV
  | .sym e => match zGc θ e.l with
    | some s => mkS e.k (e.c + s.1) s.2
    | none => .any
  | .ptr k o => match zu ρ k with
    | some j => .ptr j o
    | none => .any
  | .sl k o l c e x => match zu ρ k with
    | some j => .sl j o l c e x
    | none => .any
  | .map k => match zu ρ k with
    | some j => .map j
    | none => .any
  | .func f a b => .func f (xk ρ θ a) (xk ρ θ b)
  | .iface t v => .iface t (yH ρ θ v)
  | .agg l => .agg (xk ρ θ l)
  | .tup l => .tup (xk ρ θ l)
  | .sst l => .sst (xk ρ θ l)
  | .win .. => .any
  | .bool b => .bool b
  | .nat n => .nat n
  | .int k n => .int k n
  | .anyi k => .anyi k
  | .str s => .str s
  | .nilptr => .nilptr
  | .nilsl => .nilsl
  | .nilmap => .nilmap
  | .nilfunc => .nilfunc
  | .niliface => .niliface
  | .big n => .big n
  | .few _ _ => .any
  | .elt .. => .any
  | .any => .any
def xk (ρ : zD) (θ : TH) : List CV → List CV
  | [] => []
  | c :: l => yH ρ θ c :: xk ρ θ l
end
def zHp (ρ : zD) (ψs ψT : Psi) : Prop := ∀ k j p, zu ρ k = some j → ψs k = some p → ∃ p', ψT j = some p' ∧ zDw p p'
section
variable {σ σT : Nat → Int} {K KT : ze} {θ : TH} {ρ : zD} {ψs ψT : Psi}
mutual
theorem wT (hθ : kV σ σT θ) (hψ : zHp ρ ψs ψT) : ∀ (c : CV) {v : Value}, @zH (linSym σT KT) ψs c v → @zH (linSym σ K) ψT (yH ρ θ c) v
  | .sym e, v, hv => by
    rw [@yX (linSym σT KT)] at hv
    have hv : v = .int e.k (evE σT e) := hv
    unfold yH
    split
    · rename_i s hs
      have h2 := uL hθ hs
      rw [hv]
      unfold evE
      rw [h2, ← Int.add_assoc]
      exact zBe _ _ _
    · exact @xy (linSym σ K) _ _
  | .ptr k o, v, hv => by
    rw [@zm (linSym σT KT)] at hv
    obtain ⟨p, hp, rfl⟩ := hv
    unfold yH
    split
    · rename_i j hj
      obtain ⟨p', h1, h2, h3, h4⟩ := hψ k j p hj hp
      exact (@zm (linSym σ K) _ _ _ _).2 ⟨p', h1, by rw [h2, h3]⟩
    · exact @xy (linSym σ K) _ _
  | .sl k o l c e x, v, hv => by
    rw [@z8 (linSym σT KT)] at hv
    obtain ⟨p, y, cap', hp, rfl, h1, h2, h3, h4⟩ := hv
    unfold yH
    split
    · rename_i j hj
      obtain ⟨p', g1, g2, g3, g4⟩ := hψ k j p hj hp
      exact (@z8 (linSym σ K) _ _ _ _ _ _ _ _).2 ⟨p', y, cap', g1, by rw [g2], h1, h2, h3, by rw [g3, g4]; exact h4⟩
    · exact @xy (linSym σ K) _ _
  | .map k, v, hv => by
    rw [@yZ (linSym σT KT)] at hv
    obtain ⟨p, hp, rfl⟩ := hv
    unfold yH
    split
    · rename_i j hj
      obtain ⟨p', g1, g2, g3, g4⟩ := hψ k j p hj hp
      exact (@yZ (linSym σ K) _ _ _).2 ⟨p', g1, by rw [g2]⟩
    · exact @xy (linSym σ K) _ _
  | .func f a b, v, hv => by
    rw [@yz (linSym σT KT)] at hv
    obtain ⟨a', b', rfl, g1, g2⟩ := hv
    unfold yH
    exact (@yz (linSym σ K) _ _ _ _ _).2 ⟨a', b', rfl, kC hθ hψ a g1, kC hθ hψ b g2⟩
  | .iface t x, v, hv => by
    rw [@yM (linSym σT KT)] at hv
    obtain ⟨y, rfl, g⟩ := hv
    unfold yH
    exact (@yM (linSym σ K) _ _ _ _).2 ⟨y, rfl, wT hθ hψ x g⟩
  | .agg a, v, hv => by
    rw [@ye (linSym σT KT)] at hv
    obtain ⟨a', rfl, g⟩ := hv
    unfold yH
    exact (@ye (linSym σ K) _ _ _).2 ⟨a', rfl, kC hθ hψ a g⟩
  | .tup a, v, hv => by
    rw [@yG (linSym σT KT)] at hv
    obtain ⟨a', rfl, g⟩ := hv
    unfold yH
    exact (@yG (linSym σ K) _ _ _).2 ⟨a', rfl, kC hθ hψ a g⟩
  | .sst a, v, hv => by
    rw [@xc (linSym σT KT)] at hv
    obtain ⟨b, rfl, g⟩ := hv
    unfold yH
    exact (@xc (linSym σ K) _ _ _).2 ⟨b, rfl, kC hθ hψ a g⟩
  | .win .., v, hv => by unfold yH; exact @xy (linSym σ K) _ _
  | .few .., v, hv => by unfold yH; exact @xy (linSym σ K) _ _
  | .elt .., v, hv => by unfold yH; exact @xy (linSym σ K) _ _
  | .bool b, v, hv => by
    rw [@zJ (linSym σT KT)] at hv
    unfold yH
    exact (@zJ (linSym σ K) _ _ _).2 hv
  | .nat b, v, hv => by
    rw [@zY (linSym σT KT)] at hv
    unfold yH
    exact (@zY (linSym σ K) _ _ _).2 hv
  | .int k b, v, hv => by
    rw [@zg (linSym σT KT)] at hv
    unfold yH
    exact (@zg (linSym σ K) _ _ _ _).2 hv
  | .anyi k, v, hv => by
    rw [@yV (linSym σT KT)] at hv
    unfold yH
    exact (@yV (linSym σ K) _ _ _).2 hv
  | .str b, v, hv => by
    rw [@zf (linSym σT KT)] at hv
    unfold yH
    exact (@zf (linSym σ K) _ _ _).2 hv
  | .nilptr, v, hv => by
    rw [@xF (linSym σT KT)] at hv
    unfold yH
    exact (@xF (linSym σ K) _ _).2 hv
  | .nilsl, v, hv => by
    rw [@zp (linSym σT KT)] at hv
    unfold yH
    exact (@zp (linSym σ K) _ _).2 hv
  | .nilmap, v, hv => by
    rw [@yD (linSym σT KT)] at hv
    unfold yH
    exact (@yD (linSym σ K) _ _).2 hv
  | .nilfunc, v, hv => by
    rw [@y7 (linSym σT KT)] at hv
    unfold yH
    exact (@y7 (linSym σ K) _ _).2 hv
  | .niliface, v, hv => by
    rw [@yQ (linSym σT KT)] at hv
    unfold yH
    exact (@yQ (linSym σ K) _ _).2 hv
  | .big n, v, hv => by
    rw [@jg (linSym σT KT)] at hv
    unfold yH
    exact (@jg (linSym σ K) _ _ _).2 hv
  | .any, v, hv => by unfold yH; exact @xy (linSym σ K) _ _
theorem kC (hθ : kV σ σT θ) (hψ : zHp ρ ψs ψT) : ∀ (cs : List CV) {l : List Value}, @zT (linSym σT KT) ψs cs l → @zT (linSym σ K) ψT (xk ρ θ cs) l
  | [], l, hl => by
    rw [@zM (linSym σT KT)] at hl
    unfold xk
    exact (@zM (linSym σ K) _ _).2 hl
  | c :: cs, l, hl => by
    rw [@zb (linSym σT KT)] at hl
    obtain ⟨v, r, rfl, h1, h2⟩ := hl
    unfold xk
    exact (@zX (linSym σ K) _ _ _ _ _).2 ⟨wT hθ hψ c h1, kC hθ hψ cs h2⟩
end
def zIO (ρ : zD) (θ : TH) : List CE → List CE
  | [] => []
  | e :: l => ⟨yH ρ θ e.key, yH ρ θ e.val, e.born⟩ :: zIO ρ θ l
def zD5 (ρ : zD) (θ : TH) : CObj → CObj
  | .cells l => .cells (xk ρ θ l)
  | .map es c => .map (zIO ρ θ es) c
  | o => o
def okO : CObj → Bool
  | .cells _ => true
  | .map _ _ => true
  | _ => false
theorem zDC : ∀ {l : List CV}, (xk ρ θ l).length = l.length
  | [] => rfl
  | c :: l => by rw [xk, List.length_cons, List.length_cons, zDC]
theorem zEi : ∀ {l : List CV} {i : Nat} {c : CV}, (xk ρ θ l)[i]? = some c → ∃ d, l[i]? = some d ∧ c = yH ρ θ d
  | [], i, c, h => by rw [xk] at h; simp at h
  | d :: l, 0, c, h => by
    rw [xk] at h
    simp at h
    exact ⟨d, rfl, h.symm⟩
  | d :: l, i + 1, c, h => by
    rw [xk] at h
    exact zEi (l := l) (i := i) (by simpa using h)
theorem zFn (hθ : kV σ σT θ) (hψ : zHp ρ ψs ψT) {ck : Nat → Nat} : ∀ {es : List CE} {l : List MapEntry}, @yJ (linSym σT KT) ψs ck es l → @yJ (linSym σ K) ψT ck (zIO ρ θ es) l
  | [], l, h => h
  | c :: es, l, h => by
    obtain ⟨e, r, rfl, ⟨h1, h2, h3⟩, h4⟩ := h
    exact ⟨e, r, rfl, ⟨wT hθ hψ _ h1, wT hθ hψ _ h2, h3⟩, zFn hθ hψ h4⟩
theorem zM7 (hθ : kV σ σT θ) (hψ : zHp ρ ψs ψT) {o : CObj} (ho : okO o = true) {w : World} {p p' : Pl} (hp : zDw p p') (hck : (∀ es c, o = .map es c → p' = p)) (h : @xJ (linSym σT KT) ψs w p o) : @xJ (linSym σ K) ψT w p' (zD5 ρ θ o) := by
  obtain ⟨e1, e2, e3⟩ := hp
  cases o with
  | cells l =>
    obtain ⟨arr, elem, fz, g1, g2, g3, g4, g5⟩ := h
    refine ⟨arr, elem, fz, by rw [e1]; exact g1, by rw [e3]; exact g2, by rw [e2, e3, zDC]; exact g3, by rw [e3]; exact g4, fun i c hi => ?_⟩
    obtain ⟨d, hd, rfl⟩ := zEi hi
    obtain ⟨x, hx, hr⟩ := g5 i d hd
    exact ⟨x, by rw [e2]; exact hx, wT hθ hψ d hr⟩
  | map es c =>
    obtain rfl := hck es c rfl
    obtain ⟨arr, g1, ⟨l0, gp, g2⟩, g3⟩ := h
    exact ⟨arr, g1, ⟨l0, gp, zFn hθ hψ g2⟩, g3⟩
  | ro _ => cases ho
  | striter _ _ => cases ho
  | mapiter _ _ _ _ => cases ho
  | full _ _ => cases ho
  | mapz _ => cases ho
end
def fZ (z : Int) (k : Int → R) : R := match z with
  | .ofNat n => k (.ofNat n)
  | .negSucc n => k (.negSucc n)
def fL : LL → (LL → R) → R
  | [], k => k []
  | (i, a) :: l, k => fZ a fun a => fL l fun l => k ((i, a) :: l)
def fSE (e : SE) (k : SE → R) : R := match e with
  | ⟨j, c, l⟩ => fZ c fun c => fL l fun l => k ⟨j, c, l⟩
mutual
def fV : CV → (CV → R) → R
  | .agg l, k => fVs l fun l => k (.agg l)
  | .tup l, k => fVs l fun l => k (.tup l)
  | .sst l, k => fVs l fun l => k (.sst l)
  | .iface t v, k => fV v fun v => k (.iface t v)
  | .func f a b, k => fVs a fun a => fVs b fun b => k (.func f a b)
  | .sym e, k => fSE e fun e => k (.sym e)
  | .bool b, k => k (.bool b)
  | .nat n, k => k (.nat n)
  | .int j n, k => k (.int j n)
  | .anyi j, k => k (.anyi j)
  | .str s, k => k (.str s)
  | .nilptr, k => k .nilptr
  | .ptr b o, k => k (.ptr b o)
  | .nilsl, k => k .nilsl
  | .sl b o l c e x, k => k (.sl b o l c e x)
  | .nilmap, k => k .nilmap
  | .map b, k => k (.map b)
  | .nilfunc, k => k .nilfunc
  | .niliface, k => k .niliface
  | .win a b c d, k => k (.win a b c d)
  | .big n, k => k (.big n)
  | .few i t, k => k (.few i t)
  | .elt b o i m, k => k (.elt b o i m)
  | .any, k => k .any
def fVs : List CV → (List CV → R) → R
  | [], k => k []
  | v :: l, k => fV v fun v => fVs l fun l => k (v :: l)
end
theorem zNZ {z : Int} {k : Int → R} : fZ z k = k z := by cases z <;> rfl
theorem zMW : ∀ {l : LL} {k : LL → R}, fL l k = k l
  | [], _ => rfl
  | (i, a) :: l, k => by unfold fL; rw [zNZ, zMW]
theorem zM9 {e : SE} {k : SE → R} : fSE e k = k e := by
  obtain ⟨j, c, l⟩ := e
  show (fZ c fun c => fL l fun l => k ⟨j, c, l⟩) = k ⟨j, c, l⟩
  rw [zNZ, zMW]
mutual
theorem zKc : ∀ (c : CV) (k : CV → R), fV c k = k c
  | .agg l, k => by unfold fV; exact ux l _
  | .tup l, k => by unfold fV; exact ux l _
  | .sst l, k => by unfold fV; exact ux l _
  | .iface t v, k => by unfold fV; exact zKc v _
  | .func f a b, k => by unfold fV; rw [ux a, ux b]
  | .sym e, k => by unfold fV; exact zM9
  | .bool b, k => by unfold fV; rfl
  | .nat n, k => by unfold fV; rfl
  | .int j n, k => by unfold fV; rfl
  | .anyi j, k => by unfold fV; rfl
  | .str s, k => by unfold fV; rfl
  | .nilptr, k => by unfold fV; rfl
  | .ptr b o, k => by unfold fV; rfl
  | .nilsl, k => by unfold fV; rfl
  | .sl b o l c e x, k => by unfold fV; rfl
  | .nilmap, k => by unfold fV; rfl
  | .map b, k => by unfold fV; rfl
  | .nilfunc, k => by unfold fV; rfl
  | .niliface, k => by unfold fV; rfl
  | .win a b c d, k => by unfold fV; rfl
  | .big n, k => by unfold fV; rfl
  | .few i t, k => by unfold fV; rfl
  | .elt b o i m, k => by unfold fV; rfl
  | .any, k => by unfold fV; rfl
theorem ux : ∀ (l : List CV) (k : List CV → R), fVs l k = k l
  | [], k => by unfold fVs; rfl
  | v :: l, k => by unfold fVs; rw [zKc v, ux l]
end
def fEs : List CE → (List CE → R) → R
  | [], k => k []
  | ⟨a, b, n⟩ :: l, k => fV a fun a => fV b fun b => fEs l fun l => k (⟨a, b, n⟩ :: l)
theorem zNo : ∀ {l : List CE} {k : List CE → R}, fEs l k = k l
  | [], _ => rfl
  | ⟨a, b, n⟩ :: l, k => by unfold fEs; rw [zKc, zKc, zNo]
def fO (o : CObj) (k : CObj → R) : R := match o with
  | .cells l => fVs l fun l => k (.cells l)
  | .map es c => fEs es fun es => k (.map es c)
  | o => k o
theorem zE6 {o : CObj} {k : CObj → R} : fO o k = k o := by
  cases o <;> first | rfl | (unfold fO; first | exact ux _ _ | exact zNo)
def fTH : TH → (TH → R) → R
  | [], k => k []
  | (a, l) :: r, k => fZ a fun a => fL l fun l => fTH r fun r => k ((a, l) :: r)
theorem zJx : ∀ {l : TH} {k : TH → R}, fTH l k = k l
  | [], _ => rfl
  | (a, l) :: r, k => by unfold fTH; rw [zNZ, zMW, zJx]
def fKs : List Key → (List Key → R) → R
  | [], k => k []
  | x :: l, k => fKs l fun l => k (x :: l)
theorem zIT : ∀ {l : List Key} {k : List Key → R}, fKs l k = k l
  | [], _ => rfl
  | x :: l, k => by unfold fKs; rw [zIT]
def zLY (k : Key) : List Key → Bool
  | [] => false
  | x :: r => decide (x = k) || zLY k r
theorem zKn {k : Key} : ∀ {l : List Key}, zLY k l = true → k ∈ l
  | [], h => by cases h
  | x :: r, h => by
    unfold zLY at h
    rw [Bool.or_eq_true, decide_eq_true_eq] at h
    rcases h with h | h
    · simp [h]
    · simp [zKn h]
def wq (pins : List Key) (ρ : zD) : List (Key × CObj) → Key → Option (List Key × Key)
  | [], n => some ([], n)
  | p :: r, n => match zLY p.1 pins with
    | true => match zu ρ p.1, p.2 with
      | some j, .cells _ => match wq pins ρ r n with
        | some q => some (j :: q.1, q.2)
        | none => none
      | _, _ => none
    | false => match n.succ with
      | .mk a b c d => match wq pins ρ r (.mk a b c d) with
        | some q => some (n :: q.1, q.2)
        | none => none
theorem zBN {pins : List Key} {ρ : zD} : ∀ {l : List (Key × CObj)} {n : Key} {q : List Key × Key}, wq pins ρ l n = some q → q.2.room → n.ix ≤ q.2.ix ∧
    ∀ (i : Nat) (k : Key) (o : CObj) (j : Key), l[i]? = some (k, o) → q.1[i]? = some j → (k ∈ pins ∧ zu ρ k = some j ∧ ∃ cs, o = .cells cs) ∨ (k ∉ pins ∧ n.ix ≤ j.ix ∧ j.ix < q.2.ix)
  | [], n, q, h, hr => by
    injection h with h; subst h
    exact ⟨Nat.le_refl _, fun i k o j h1 _ => by simp at h1⟩
  | p :: r, n, q, h, hr => by
    unfold wq at h
    split at h
    · rename_i hm
      split at h
      · rename_i j cs hj hcs
        split at h
        · rename_i q' hq'
          injection h with h; subst h
          obtain ⟨h1, h2⟩ := zBN hq' hr
          refine ⟨h1, fun i k o j' g1 g2 => ?_⟩
          cases i with
          | zero =>
            simp at g1 g2
            subst g1 g2
            exact .inl ⟨zKn hm, hj, cs, hcs⟩
          | succ i => exact h2 i k o j' (by simpa using g1) (by simpa using g2)
        · cases h
      · cases h
    · rename_i hm
      have hnm : p.1 ∉ pins := fun hin => by
        have : ∀ {l : List Key}, p.1 ∈ l → zLY p.1 l = true := by
          intro l
          induction l with
          | nil => intro h; cases h
          | cons x l ih =>
            intro h
            unfold zLY
            rcases List.mem_cons.1 h with e | h
            · simp [e]
            · simp [ih h]
        rw [this hin] at hm; cases hm
      split at h
      rename_i a b c d hs
      split at h
      · rename_i q' hq'
        injection h with h; subst h
        obtain ⟨h1, h2⟩ := zBN hq' hr
        rw [← hs] at h1 h2
        have hle := @Key.ix_le_succ zW n
        have hroom : n.ix < 65535 := by
          have : q'.2.ix < 65535 := hr
          omega
        have hix := @Key.ix_succ zW n hroom
        refine ⟨by simp only; omega, fun i k o j' g1 g2 => ?_⟩
        cases i with
        | zero =>
          simp at g1 g2
          subst g1 g2
          exact .inr ⟨hnm, Nat.le_refl _, by simp only; omega⟩
        | succ i =>
          rcases h2 i k o j' (by simpa using g1) (by simpa using g2) with g | ⟨g3, g4, g5⟩
          · exact .inl g
          · exact .inr ⟨g3, by omega, g5⟩
      · cases h
def zH0 (ρ inv : zD) : List (Key × CObj) → List Key → Bool
  | [], [] => true
  | p :: r, j :: js => vG ρ p.1 j && vG inv j p.1 && okO p.2 && zH0 ρ inv r js
  | _, _ => false
theorem zJE {ρ inv : zD} : ∀ {l : List (Key × CObj)} {ks : List Key}, zH0 ρ inv l ks = true → l.length = ks.length ∧ ∀ (i : Nat) (k : Key) (o : CObj), l[i]? = some (k, o) → ∃ j, ks[i]? = some j ∧ zu ρ k = some j ∧ zu inv j = some k ∧ okO o = true
  | [], [], _ => ⟨rfl, fun i k o h => by simp at h⟩
  | [], _ :: _, h => by cases h
  | _ :: _, [], h => by cases h
  | p :: r, j :: js, h => by
    unfold zH0 at h
    simp only [Bool.and_eq_true] at h
    obtain ⟨⟨⟨h1, h2⟩, h3⟩, h4⟩ := h
    obtain ⟨g1, g2⟩ := zJE h4
    refine ⟨by simp [g1], fun i k o hi => ?_⟩
    cases i with
    | zero =>
      simp at hi
      subst hi
      exact ⟨j, rfl, kh h1, kh h2, h3⟩
    | succ i =>
      obtain ⟨j', q1, q2⟩ := g2 i k o (by simpa using hi)
      exact ⟨j', by simpa using q1, q2⟩
def vX (ρ : zD) (θ : TH) : List (Key × CObj) → List Key → List (Key × CObj)
  | p :: r, j :: js => (j, zD5 ρ θ p.2) :: vX ρ θ r js
  | _, _ => []
theorem zNF {k b : Key} : ∀ {objs : List (Key × CObj)} {ks : List Key}, zu (jC objs ks) k = some b → ∃ j : Nat, (∃ o : CObj, objs[j]? = some (b, o)) ∧ ks[j]? = some k
  | [], _, h => by
    have h : zu .nil k = some b := h
    unfold zu at h
    rw [vM] at h; cases h
  | _ :: _, [], h => by
    have h : zu .nil k = some b := h
    unfold zu at h
    rw [vM] at h; cases h
  | p :: r, j :: js, h => by
    by_cases e : k = j
    · have h : zu (yn (some (.cells [.ptr p.1 0])) j (jC r js)) k = some b := h
      unfold zu at h
      rw [wC, if_pos e] at h
      injection h with h
      exact ⟨0, ⟨p.2, by subst h; rfl⟩, by subst e; rfl⟩
    · have h' : zu (jC r js) k = some b := by
        have h : zu (yn (some (.cells [.ptr p.1 0])) j (jC r js)) k = some b := h
        unfold zu at h ⊢
        rw [wC, if_neg e] at h
        exact h
      obtain ⟨i, ⟨o, h1⟩, h2⟩ := zNF h'
      exact ⟨i + 1, ⟨o, by simpa using h1⟩, by simpa using h2⟩
theorem zFe {ρ inv ρ' : zD} {θ : TH} {h0 : zD} {k : Key} {o : CObj} : ∀ {l : List (Key × CObj)} {ks : List Key}, zH0 ρ inv l ks = true → yK k (mkH h0 (vX ρ' θ l ks)) = some o →
    (∃ (kp : Key) (o' : CObj) (i : Nat), yK kp (mkH .nil l) = some o' ∧ o = zD5 ρ' θ o' ∧ okO o' = true ∧ zu ρ kp = some k ∧ l[i]? = some (kp, o') ∧ ks[i]? = some k) ∨ yK k h0 = some o
  | [], [], _, h => .inr h
  | [], _ :: _, hb, _ => by cases hb
  | _ :: _, [], hb, _ => by cases hb
  | p :: r, j :: js, hb, h => by
    unfold zH0 at hb
    simp only [Bool.and_eq_true] at hb
    obtain ⟨⟨⟨h1, h2⟩, h3⟩, h4⟩ := hb
    have h : yK k (yn (some (zD5 ρ' θ p.2)) j (mkH h0 (vX ρ' θ r js))) = some o := h
    rw [wC] at h
    split at h
    · rename_i e
      injection h with h
      refine .inl ⟨p.1, p.2, 0, ?_, h.symm, h3, by rw [e]; exact kh h1, rfl, by rw [e]; rfl⟩
      show yK p.1 (yn (some p.2) p.1 (mkH .nil r)) = _
      rw [wC, if_pos rfl]
    · rename_i e
      rcases zFe h4 h with ⟨kp, o', i, g1, g2, g3, g4, g5, g6⟩ | g
      · refine .inl ⟨kp, o', i + 1, ?_, g2, g3, g4, by simpa using g5, by simpa using g6⟩
        show yK kp (yn (some p.2) p.1 (mkH .nil r)) = _
        rw [wC, if_neg (fun e' => by
          rw [e', kh h1] at g4
          injection g4 with g4
          exact e g4.symm)]
        exact g1
      · exact .inr g
def zHL : List Key → zD → zD
  | [], h => h
  | k :: r, h => yn none k (zHL r h)
theorem zFO {h : zD} {k : Key} {o : CObj} : ∀ {l : List Key}, yK k (zHL l h) = some o → k ∉ l ∧ yK k h = some o
  | [], hh => ⟨by simp, hh⟩
  | x :: r, hh => by
    have hh : yK k (yn none x (zHL r h)) = some o := hh
    rw [wC] at hh
    split at hh
    · cases hh
    · rename_i e
      obtain ⟨h1, h2⟩ := zFO hh
      exact ⟨by simp [e, h1], h2⟩
def zPF [Sym] (q : Int × Int) (u : Int × LL) : Bool := match u.2 with
  | [] => decide (q.1 ≤ u.1) && decide (u.1 ≤ q.2)
  | l => match Sym.bin .geq (.sym ⟨.i64, u.1, l⟩) (zU .i64 q.1), Sym.bin .leq (.sym ⟨.i64, u.1, l⟩) (zU .i64 q.2) with
    | some [.bool true], some [.bool true] => true
    | _, _ => false
def zOn [Sym] : List (Int × Int) → TH → Bool
  | [], [] => true
  | q :: r, u :: θ => zPF q u && zOn r θ
  | _, _ => false
def zPl (ρ : zD) (θ : TH) (c : CV) : CV := CV.rec (motive_1 := fun _ => CV) (motive_2 := fun _ => List CV)
  (fun x0 => .bool x0)
  (fun x0 => .nat x0)
  (fun x0 x1 => .int x0 x1)
  (fun x0 => .anyi x0)
  (fun x0 => .str x0)
  .nilptr
  (fun x0 x1 => match zu ρ x0 with | some j => .ptr j x1 | none => .any)
  .nilsl
  (fun x0 x1 x2 x3 x4 x5 => match zu ρ x0 with | some j => .sl j x1 x2 x3 x4 x5 | none => .any)
  .nilmap
  (fun x0 => match zu ρ x0 with | some j => .map j | none => .any)
  (fun x0 x1 x2 ha hc => .func x0 ha hc)
  .nilfunc
  (fun x0 x1 hv => .iface x0 hv)
  .niliface
  (fun x0 hl => .agg hl)
  (fun x0 hl => .tup hl)
  (fun x0 => match zGc θ x0.l with | some s => mkS x0.k (x0.c + s.1) s.2 | none => .any)
  (fun x0 x1 x2 x3 => .any)
  (fun x0 hl => .sst hl)
  (fun x0 => .big x0)
  (fun x0 x1 => .any)
  (fun x0 x1 x2 x3 => .any)
  .any
  []
  (fun _ _ h g => h :: g) c
def zMY (ρ : zD) (θ : TH) (l : List CV) : List CV := CV.rec_1 (motive_1 := fun _ => CV) (motive_2 := fun _ => List CV)
  (fun x0 => .bool x0)
  (fun x0 => .nat x0)
  (fun x0 x1 => .int x0 x1)
  (fun x0 => .anyi x0)
  (fun x0 => .str x0)
  .nilptr
  (fun x0 x1 => match zu ρ x0 with | some j => .ptr j x1 | none => .any)
  .nilsl
  (fun x0 x1 x2 x3 x4 x5 => match zu ρ x0 with | some j => .sl j x1 x2 x3 x4 x5 | none => .any)
  .nilmap
  (fun x0 => match zu ρ x0 with | some j => .map j | none => .any)
  (fun x0 x1 x2 ha hc => .func x0 ha hc)
  .nilfunc
  (fun x0 x1 hv => .iface x0 hv)
  .niliface
  (fun x0 hl => .agg hl)
  (fun x0 hl => .tup hl)
  (fun x0 => match zGc θ x0.l with | some s => mkS x0.k (x0.c + s.1) s.2 | none => .any)
  (fun x0 x1 x2 x3 => .any)
  (fun x0 hl => .sst hl)
  (fun x0 => .big x0)
  (fun x0 x1 => .any)
  (fun x0 x1 x2 x3 => .any)
  .any
  []
  (fun _ _ h g => h :: g) l
section
variable {ρ : zD} {θ : TH}
mutual
theorem zAh : ∀ (c : CV), zPl ρ θ c = yH ρ θ c
  | .bool x0 => by unfold yH; rfl
  | .nat x0 => by unfold yH; rfl
  | .int x0 x1 => by unfold yH; rfl
  | .anyi x0 => by unfold yH; rfl
  | .str x0 => by unfold yH; rfl
  | .nilptr => by unfold yH; rfl
  | .ptr x0 x1 => by unfold yH; rfl
  | .nilsl => by unfold yH; rfl
  | .sl x0 x1 x2 x3 x4 x5 => by unfold yH; rfl
  | .nilmap => by unfold yH; rfl
  | .map x0 => by unfold yH; rfl
  | .func x0 x1 x2 => by unfold yH; rw [← jR x1, ← jR x2]; rfl
  | .nilfunc => by unfold yH; rfl
  | .iface x0 x1 => by unfold yH; rw [← zAh x1]; rfl
  | .niliface => by unfold yH; rfl
  | .agg x0 => by unfold yH; rw [← jR x0]; rfl
  | .tup x0 => by unfold yH; rw [← jR x0]; rfl
  | .sym x0 => by unfold yH; rfl
  | .win x0 x1 x2 x3 => by unfold yH; rfl
  | .sst x0 => by unfold yH; rw [← jR x0]; rfl
  | .big x0 => by unfold yH; rfl
  | .few x0 x1 => by unfold yH; rfl
  | .elt x0 x1 x2 x3 => by unfold yH; rfl
  | .any => by unfold yH; rfl
theorem jR : ∀ (l : List CV), zMY ρ θ l = xk ρ θ l
  | [] => by unfold xk; rfl
  | c :: l => by unfold xk; rw [← zAh c, ← jR l]; rfl
end
def zNy (ρ : zD) (θ : TH) (o : CObj) : CObj := match o with
  | .cells l => .cells (zMY ρ θ l)
  | o => zD5 ρ θ o
theorem zLb {o : CObj} : zNy ρ θ o = zD5 ρ θ o := by
  cases o with
  | cells l => exact congrArg CObj.cells (jR l)
  | _ => rfl
def uG (ρ : zD) (θ : TH) : List (Key × CObj) → List Key → List (Key × CObj)
  | p :: r, j :: js => (j, zNy ρ θ p.2) :: uG ρ θ r js
  | _, _ => []
theorem ul : ∀ {l : List (Key × CObj)} {ks : List Key}, uG ρ θ l ks = vX ρ θ l ks
  | [], _ => by simp [uG, vX]
  | _ :: _, [] => by simp [uG, vX]
  | p :: r, j :: js => by unfold uG vX; rw [zLb, ul]
end
def fQ (c : CV) : (CV → R) → R := CV.rec (motive_1 := fun _ => (CV → R) → R) (motive_2 := fun _ => (List CV → R) → R)
  (fun x0 k => k (.bool x0))
  (fun x0 k => k (.nat x0))
  (fun x0 x1 k => k (.int x0 x1))
  (fun x0 k => k (.anyi x0))
  (fun x0 k => k (.str x0))
  (fun k => k (.nilptr))
  (fun x0 x1 k => k (.ptr x0 x1))
  (fun k => k (.nilsl))
  (fun x0 x1 x2 x3 x4 x5 k => k (.sl x0 x1 x2 x3 x4 x5))
  (fun k => k (.nilmap))
  (fun x0 k => k (.map x0))
  (fun x0 x1 x2 ha hc k => ha fun x1 => hc fun x2 => k (.func x0 x1 x2))
  (fun k => k (.nilfunc))
  (fun x0 x1 hv k => hv fun x1 => k (.iface x0 x1))
  (fun k => k (.niliface))
  (fun x0 hl k => hl fun x0 => k (.agg x0))
  (fun x0 hl k => hl fun x0 => k (.tup x0))
  (fun x0 k => fSE x0 fun x0 => k (.sym x0))
  (fun x0 x1 x2 x3 k => k (.win x0 x1 x2 x3))
  (fun x0 hl k => hl fun x0 => k (.sst x0))
  (fun x0 k => k (.big x0))
  (fun x0 x1 k => k (.few x0 x1))
  (fun x0 x1 x2 x3 k => k (.elt x0 x1 x2 x3))
  (fun k => k (.any))
  (fun k => k [])
  (fun _ _ h g k => h fun v => g fun l => k (v :: l)) c
def fQs (l : List CV) : (List CV → R) → R := CV.rec_1 (motive_1 := fun _ => (CV → R) → R) (motive_2 := fun _ => (List CV → R) → R)
  (fun x0 k => k (.bool x0))
  (fun x0 k => k (.nat x0))
  (fun x0 x1 k => k (.int x0 x1))
  (fun x0 k => k (.anyi x0))
  (fun x0 k => k (.str x0))
  (fun k => k (.nilptr))
  (fun x0 x1 k => k (.ptr x0 x1))
  (fun k => k (.nilsl))
  (fun x0 x1 x2 x3 x4 x5 k => k (.sl x0 x1 x2 x3 x4 x5))
  (fun k => k (.nilmap))
  (fun x0 k => k (.map x0))
  (fun x0 x1 x2 ha hc k => ha fun x1 => hc fun x2 => k (.func x0 x1 x2))
  (fun k => k (.nilfunc))
  (fun x0 x1 hv k => hv fun x1 => k (.iface x0 x1))
  (fun k => k (.niliface))
  (fun x0 hl k => hl fun x0 => k (.agg x0))
  (fun x0 hl k => hl fun x0 => k (.tup x0))
  (fun x0 k => fSE x0 fun x0 => k (.sym x0))
  (fun x0 x1 x2 x3 k => k (.win x0 x1 x2 x3))
  (fun x0 hl k => hl fun x0 => k (.sst x0))
  (fun x0 k => k (.big x0))
  (fun x0 x1 k => k (.few x0 x1))
  (fun x0 x1 x2 x3 k => k (.elt x0 x1 x2 x3))
  (fun k => k (.any))
  (fun k => k [])
  (fun _ _ h g k => h fun v => g fun l => k (v :: l)) l
mutual
theorem zKH : ∀ (c : CV) (k : CV → R), fQ c k = k c
  | .bool x0, k => rfl
  | .nat x0, k => rfl
  | .int x0 x1, k => rfl
  | .anyi x0, k => rfl
  | .str x0, k => rfl
  | .nilptr, k => rfl
  | .ptr x0 x1, k => rfl
  | .nilsl, k => rfl
  | .sl x0 x1 x2 x3 x4 x5, k => rfl
  | .nilmap, k => rfl
  | .map x0, k => rfl
  | .func x0 x1 x2, k => by show (fQs x1 fun x1 => fQs x2 fun x2 => k (.func x0 x1 x2)) = _; rw [ui x1, ui x2]
  | .nilfunc, k => rfl
  | .iface x0 x1, k => zKH x1 fun x1 => k (.iface x0 x1)
  | .niliface, k => rfl
  | .agg x0, k => ui x0 fun x0 => k (.agg x0)
  | .tup x0, k => ui x0 fun x0 => k (.tup x0)
  | .sym x0, k => zM9 (k := fun x0 => k (.sym x0))
  | .win x0 x1 x2 x3, k => rfl
  | .sst x0, k => ui x0 fun x0 => k (.sst x0)
  | .big x0, k => rfl
  | .few x0 x1, k => rfl
  | .elt x0 x1 x2 x3, k => rfl
  | .any, k => rfl
theorem ui : ∀ (l : List CV) (k : List CV → R), fQs l k = k l
  | [], k => rfl
  | c :: l, k => by show (fQ c fun v => fQs l fun l => k (v :: l)) = _; rw [zKH c, ui l]
end
def fOQ (o : CObj) (k : CObj → R) : R := match o with
  | .cells l => fQs l fun l => k (.cells l)
  | o => fO o k
theorem zPB {o : CObj} {k : CObj → R} : fOQ o k = k o := by
  cases o with
  | cells l => exact ui l fun l => k (.cells l)
  | ro a => exact zE6 (o := .ro a)
  | map a b => exact zE6 (o := .map a b)
  | striter a b => exact zE6 (o := .striter a b)
  | mapiter a b c d => exact zE6 (o := .mapiter a b c d)
  | full a b => exact zE6 (o := .full a b)
  | mapz a => exact zE6 (o := .mapz a)
def zO1 : List (Key × CObj) → (List (Key × CObj) → R) → R
  | [], k => k []
  | (j, o) :: l, k => fOQ o fun o => zO1 l fun l => k ((j, o) :: l)
theorem zGM : ∀ {l : List (Key × CObj)} {k : List (Key × CObj) → R}, zO1 l k = k l
  | [], _ => rfl
  | (j, o) :: l, k => by unfold zO1; rw [zPB, zGM]
def zNI [Sym] (G : Nat) (s : Sm) (ks : List Key) (θ : TH) (args : List CV) (h : zD) : Bool :=
  zPf (yO s.objs ks) θ s.args args && vW (yO s.objs ks) (jC s.objs ks) θ h G s.n.ix s.objs ks && Nat.ble G s.n.ix && zOn s.b θ
def vZ (s : Sm) (ks : List Key) (θ : TH) (h : zD) (n : Key) (po : Po) : R := match wq s.pins (yO s.objs ks) po.objs n with
  | none => .err 432
  | some q => match zH0 (yO po.objs q.1) (jC po.objs q.1) po.objs q.1 with
    | false => .err 433
    | true => fQ (zPl (yO po.objs q.1) θ po.v) fun v => zO1 (uG (yO po.objs q.1) θ po.objs q.1) fun os => .ret v (mkH (zHL ks h) os) q.2
def kb (s : Sm) (ks : List Key) (θ : TH) (h : zD) (n : Key) : List Po → R
  | [] => .err 434
  | [po] => vZ s ks θ h n po
  | po :: r => .fork (vZ s ks θ h n po) (kb s ks θ h n r)
def zQ4 (th : List (Nat × Int × LL)) : List (Int × Int) → TH
  | [] => []
  | _ :: r => (0, []) :: hTh th r 1
def zMB [Sym] (G : Nat) (args : List CV) (h : zD) (n : Key) (s : Sm) (z : R) : R := match zKj h s.objs (hVs s.args args ⟨[], [], zPA s.objs, []⟩) [] with
  | (ks, a) => fKs ks fun ks => fTH (zQ4 a.th s.b) fun θ => match zNI G s ks θ args h with
    | true => kb s ks θ h n s.posts
    | false => z
def qkV (c : CV) : CV → Bool := CV.rec (motive_1 := fun _ => CV → Bool) (motive_2 := fun _ => List CV → Bool)
  (fun x0 d => (CV.rec (motive_1 := fun _ => Bool) (motive_2 := fun _ => Unit) (fun y0 => zP0 x0 y0) (fun _ => true) (fun _ _ => true) (fun _ => true) (fun _ => true) true (fun _ _ => true) true (fun _ _ _ _ _ _ => true) true (fun _ => true) (fun _ _ _ _ _ => true) true (fun _ _ _ => true) true (fun _ _ => true) (fun _ _ => true) (fun _ => true) (fun _ _ _ _ => true) (fun _ _ => true) (fun _ => true) (fun _ _ => true) (fun _ _ _ _ => true) true () (fun _ _ _ _ => ()) d))
  (fun x0 d => (CV.rec (motive_1 := fun _ => Bool) (motive_2 := fun _ => Unit) (fun _ => true) (fun y0 => Nat.beq x0 y0) (fun _ _ => true) (fun _ => true) (fun _ => true) true (fun _ _ => true) true (fun _ _ _ _ _ _ => true) true (fun _ => true) (fun _ _ _ _ _ => true) true (fun _ _ _ => true) true (fun _ _ => true) (fun _ _ => true) (fun _ => true) (fun _ _ _ _ => true) (fun _ _ => true) (fun _ => true) (fun _ _ => true) (fun _ _ _ _ => true) true () (fun _ _ _ _ => ()) d))
  (fun x0 x1 d => (CV.rec (motive_1 := fun _ => Bool) (motive_2 := fun _ => Unit) (fun _ => true) (fun _ => true) (fun y0 y1 => yt x1 y1) (fun _ => true) (fun _ => true) true (fun _ _ => true) true (fun _ _ _ _ _ _ => true) true (fun _ => true) (fun _ _ _ _ _ => true) true (fun _ _ _ => true) true (fun _ _ => true) (fun _ _ => true) (fun _ => true) (fun _ _ _ _ => true) (fun _ _ => true) (fun _ => true) (fun _ _ => true) (fun _ _ _ _ => true) true () (fun _ _ _ _ => ()) d))
  (fun x0 d => true)
  (fun x0 d => (CV.rec (motive_1 := fun _ => Bool) (motive_2 := fun _ => Unit) (fun _ => true) (fun _ => true) (fun _ _ => true) (fun _ => true) (fun y0 => xg x0 y0) true (fun _ _ => true) true (fun _ _ _ _ _ _ => true) true (fun _ => true) (fun _ _ _ _ _ => true) true (fun _ _ _ => true) true (fun _ _ => true) (fun _ _ => true) (fun _ => true) (fun _ _ _ _ => true) (fun _ _ => true) (fun _ => true) (fun _ _ => true) (fun _ _ _ _ => true) true () (fun _ _ _ _ => ()) d))
  (fun d => true)
  (fun x0 x1 d => true)
  (fun d => (CV.rec (motive_1 := fun _ => Bool) (motive_2 := fun _ => Unit) (fun _ => true) (fun _ => true) (fun _ _ => true) (fun _ => true) (fun _ => true) true (fun _ _ => true) true (fun y0 y1 y2 y3 y4 y5 => false) true (fun _ => true) (fun _ _ _ _ _ => true) true (fun _ _ _ => true) true (fun _ _ => true) (fun _ _ => true) (fun _ => true) (fun _ _ _ _ => true) (fun _ _ => true) (fun _ => true) (fun _ _ => true) (fun _ _ _ _ => true) true () (fun _ _ _ _ => ()) d))
  (fun x0 x1 x2 x3 x4 x5 d => (CV.rec (motive_1 := fun _ => Bool) (motive_2 := fun _ => Unit) (fun _ => true) (fun _ => true) (fun _ _ => true) (fun _ => true) (fun _ => true) true (fun _ _ => true) false (fun y0 y1 y2 y3 y4 y5 => Nat.beq x2 y2) true (fun _ => true) (fun _ _ _ _ _ => true) true (fun _ _ _ => true) true (fun _ _ => true) (fun _ _ => true) (fun _ => true) (fun _ _ _ _ => true) (fun _ _ => true) (fun _ => true) (fun _ _ => true) (fun _ _ _ _ => true) true () (fun _ _ _ _ => ()) d))
  (fun d => true)
  (fun x0 d => true)
  (fun x0 x1 x2 ha hc d => true)
  (fun d => true)
  (fun x0 x1 hv d => true)
  (fun d => true)
  (fun x0 hl d => (CV.rec (motive_1 := fun _ => Bool) (motive_2 := fun _ => Unit) (fun _ => true) (fun _ => true) (fun _ _ => true) (fun _ => true) (fun _ => true) true (fun _ _ => true) true (fun _ _ _ _ _ _ => true) true (fun _ => true) (fun _ _ _ _ _ => true) true (fun _ _ _ => true) true (fun y0 _ => hl y0) (fun _ _ => true) (fun _ => true) (fun _ _ _ _ => true) (fun _ _ => true) (fun _ => true) (fun _ _ => true) (fun _ _ _ _ => true) true () (fun _ _ _ _ => ()) d))
  (fun x0 hl d => true)
  (fun x0 d => true)
  (fun x0 x1 x2 x3 d => true)
  (fun x0 hl d => true)
  (fun x0 d => true)
  (fun x0 x1 d => true)
  (fun x0 x1 x2 x3 d => true)
  (fun d => true)
  (fun _ => true)
  (fun _ _ h g m => List.rec (motive := fun _ => Bool) true (fun b r _ => zCr (h b) (g r)) m) c
def zQj (l m : List CV) : Bool := qkV (.agg l) (.agg m)
def zFg : List CV → List Key → List Key
  | [], ks => ks
  | x :: l, ks => match x with
    | .sl k _ _ _ _ _ => k :: zFg l ks
    | .ptr k _ => k :: zFg l ks
    | .map k => k :: zFg l ks
    | _ => zFg l ks
def zNT : List CV → List Key
  | [] => []
  | x :: l => match x with
    | .agg m => zFg m (zNT l)
    | x => zFg [x] (zNT l)
def zPI (h : zD) : List Key → List (Key × CObj) → Bool
  | j :: js, p :: r => match p.2, yK j h with
    | .cells a, some (.cells b) => (match zQj a b with
      | true => zPI h js r
      | false => false)
    | _, _ => zPI h js r
  | _, _ => true
def zB5 [Sym] (G : Nat) (args : List CV) (h : zD) (n : Key) (z : R) : List Sm → R
  | [] => z
  | s :: r => match zPI h (zNT args) s.objs && zQj s.args args with
    | true => zMB G args h n s (zB5 G args h n z r)
    | false => zB5 G args h n z r
theorem zBu {pins : List Key} {ρ : zD} : ∀ {l : List (Key × CObj)} {n : Key} {q : List Key × Key}, wq pins ρ l n = some q → n.ix ≤ q.2.ix
  | [], n, q, h => by
    injection h with h; subst h
    exact Nat.le_refl _
  | p :: r, n, q, h => by
    unfold wq at h
    split at h
    · split at h
      · split at h
        · rename_i q' hq'
          injection h with h; subst h
          have := zBu hq'
          exact this
        · cases h
      · cases h
    · split at h
      rename_i a b c d hs
      split at h
      · rename_i q' hq'
        injection h with h; subst h
        have h1 := zBu hq'
        rw [← hs] at h1
        have hle := @Key.ix_le_succ zW n
        simp only; omega
      · cases h
theorem zA0 {s : Sm} {ks : List Key} {θ : TH} {h : zD} {n : Key} {po : Po} : zh n (vZ s ks θ h n po) := by
  unfold vZ
  cases hq : wq s.pins (yO s.objs ks) po.objs n with
  | none => trivial
  | some q =>
    simp only
    cases hb : zH0 (yO po.objs q.1) (jC po.objs q.1) po.objs q.1 with
    | false => trivial
    | true =>
      simp only [zKH, zGM, zAh, ul]
      exact zBu hq
theorem uf {s : Sm} {ks : List Key} {θ : TH} {h : zD} {n : Key} : ∀ {l : List Po}, zh n (kb s ks θ h n l)
  | [] => trivial
  | [po] => zA0
  | po :: po' :: r => ⟨zA0, uf (l := po' :: r)⟩
theorem vm [Sym] {G : Nat} {args : List CV} {h : zD} {n : Key} {z : R} (hz : zh n z) : ∀ {l : List Sm}, zh n (zB5 G args h n z l)
  | [] => hz
  | s :: r => by
    unfold zB5
    split
    · unfold zMB
      split
      rw [zIT, zJx]
      split
      · exact uf
      · exact vm hz
    · exact vm hz
theorem zDG {σ σT : Nat → Int} {K : ze} {G : Nat} {s : Sm} {ks : List Key} {θ : TH} {h : zD} {n : Key} {po : Po} {ψ ψ' : Psi} {w w' : World} {v : Value} (hθ : kV σ σT θ) (hR : @Rel (linSym σ K) ψ (zD.fam h) w) (hfr : x7 ψ n)
    (hc : jV (yO s.objs ks) (jC s.objs ks) θ h G s.n.ix s.objs ks = true) (hpo : zOB (linSym σT kno) (kO (yO s.objs ks) h [] ψ G 0) s w po v ψ' w') (hcl : za (vZ s ks θ h n po)) :
    @zn (linSym σ K) ψ (zD.fam h) n w (vZ s ks θ h n po) v w' := by
  unfold vZ at hcl ⊢
  cases hq : wq s.pins (yO s.objs ks) po.objs n with
  | none => rw [hq] at hcl; exact hcl.elim
  | some q =>
    rw [hq] at hcl
    simp only at hcl ⊢
    cases hb : zH0 (yO po.objs q.1) (jC po.objs q.1) po.objs q.1 with
    | false => rw [hb] at hcl; exact hcl.elim
    | true =>
      rw [hb] at hcl
      simp only [zKH, zGM, zAh, ul] at hcl ⊢
      have hroom : q.2.room := hcl
      obtain ⟨hmono, hkeys⟩ := zBN hq hroom
      obtain ⟨hlen, hbij⟩ := zJE hb
      obtain ⟨c1, c2, c3⟩ := zBn (G := G) (KT := kno) hθ hR hc
      have hobj := kP hc
      have hTot : ∀ k o, zD.fam h k = some o → ∃ p, ψ k = some p := @Rel.tot (linSym σ K) _ _ _ hR
      have hOn : ∀ k o p, zD.fam h k = some o → ψ k = some p → @xJ (linSym σ K) ψ w p o := @Rel.on (linSym σ K) _ _ _ hR
      have hInj := @Rel.inj (linSym σ K) _ _ _ hR
      have pTot := @Rel.tot (linSym σT kno) _ _ _ hpo.rel
      have pOn := @Rel.on (linSym σT kno) _ _ _ hpo.rel
      have pInj := @Rel.inj (linSym σT kno) _ _ _ hpo.rel
      have hold : ∀ k p, ψ k = some p → k.ix < n.ix := fun k p hp => by
        rcases Nat.lt_or_ge k.ix n.ix with g | g
        · exact g
        · rw [hfr k g] at hp; cases hp
      obtain ⟨ψ2, hψ2⟩ : ∃ ψ2 : Psi, ∀ k, ψ2 k = if n.ix ≤ k.ix then (match zu (jC po.objs q.1) k with | some kp => ψ' kp | none => ψ k) else ψ k := ⟨_, fun _ => rfl⟩
      have h2old : ∀ k, k.ix < n.ix → ψ2 k = ψ k := fun k hk => by rw [hψ2, if_neg (by omega)]
      have hle : ψ.le ψ2 := fun k p hp => by rw [h2old k (hold k p hp)]; exact hp
      have hrho : ∀ k j, zu (yO s.objs ks) k = some j → j ∈ ks ∧ ∃ o p, yK j h = some o ∧ ψ j = some p := by
        intro k j hk
        obtain ⟨i, o, g1, g2⟩ := zBo hk
        obtain ⟨j', o', f1, f2, f3, f4, f5, f6, f7⟩ := hobj i k o g1
        rw [g2] at f1
        injection f1 with f1
        subst f1
        obtain ⟨p, hp⟩ := hTot j o' f6
        exact ⟨List.mem_of_getElem? g2, o', p, f6, hp⟩
      have hend : ∀ (i : Nat) (k : Key) (o : CObj) (j : Key), po.objs[i]? = some (k, o) → q.1[i]? = some j → ∀ p, ψ' k = some p → ∃ p', ψ2 j = some p' ∧ zDw p p' ∧ ((∀ es c, o = .map es c → p' = p)) := by
        intro i k o j g1 g2 p hp
        rcases hkeys i k o j g1 g2 with ⟨f1, f2, cs, f3⟩ | ⟨f1, f2, f3⟩
        · obtain ⟨_, o0, pj, e1, e2⟩ := hrho k j f2
          have e3 : vG (yO s.objs ks) k j = true := by unfold vG; rw [f2]; exact Nat.beq_refl _
          obtain ⟨pT, t1, t2, t3, t4⟩ := c2 k j pj e3 e2
          obtain ⟨p', u1, u2, u3, u4⟩ := hpo.pin k f1 pT t1
          rw [hp] at u1
          injection u1 with u1
          subst u1
          refine ⟨pj, by rw [h2old j (hold j pj e2)]; exact e2, ⟨(u2.trans t2).symm, (u3.trans t3).symm, (u4.trans t4).symm⟩, fun es c e => ?_⟩
          rw [f3] at e; cases e
        · obtain ⟨j', b1, b2, b3, _⟩ := hbij i k o g1
          rw [g2] at b1
          injection b1 with b1
          subst b1
          exact ⟨p, by rw [hψ2, if_pos f2, b3]; exact hp, ⟨rfl, rfl, rfl⟩, fun _ _ _ => rfl⟩
      have hM : zHp (yO po.objs q.1) ψ' ψ2 := by
        intro k j p hk hp
        obtain ⟨i, o, g1, g2⟩ := zBo hk
        obtain ⟨p', h1, h2, _⟩ := hend i k o j g1 g2 p hp
        exact ⟨p', h1, h2⟩
      have hOwn : ∀ B, zGN (kO (yO s.objs ks) h [] ψ G 0) s.objs w B → (∃ k0 o0 p0, yK k0 h = some o0 ∧ o0.isRo = false ∧ ψ k0 = some p0 ∧ p0.blk = B ∧ k0 ∈ ks) ∨ w.heap.size ≤ B := by
        intro B hB
        rcases hB with ⟨k, o, p, g1, g2, g3⟩ | g
        · obtain ⟨_, k0, o0, p0, f1, f2, f3, f4, f5⟩ := c3 k o p g1 g2
          exact .inl ⟨k0, o0, p0, f1, f2, f3, f4.trans g3, (hrho k k0 f5).1⟩
        · exact .inr g
      have hnew : ∀ k o, yK k (mkH (zHL ks h) (vX (yO po.objs q.1) θ po.objs q.1)) = some o →
          (∃ (kp : Key) (o' : CObj) (p p' : Pl), zGE po.objs kp = some o' ∧ o = zD5 (yO po.objs q.1) θ o' ∧ okO o' = true ∧ ψ' kp = some p ∧ ψ2 k = some p' ∧ zDw p p' ∧ (∀ es c, o' = .map es c → p' = p) ∧ zu (yO po.objs q.1) kp = some k) ∨ (k ∉ ks ∧ yK k h = some o) := by
        intro k o hk
        rcases zFe hb hk with ⟨kp, o', i, g1, g2, g3, g4, g5, g6⟩ | hk
        · obtain ⟨p, hp⟩ := pTot kp o' g1
          obtain ⟨p', e1, e2, e3⟩ := hend i kp o' k g5 g6 p hp
          exact .inl ⟨kp, o', p, p', g1, g2, g3, hp, e1, e2, e3, g4⟩
        · exact .inr (zFO hk)
      have hin : ∀ k o p, yK k h = some o → ψ k = some p → p.blk < w.heap.size := fun k o p h1 h2 => @xJ.lt (linSym σ K) _ _ _ _ (hOn k o p h1 h2)
      have hlow : ∀ k o p, k ∉ ks → yK k h = some o → ψ k = some p → ¬ zGN (kO (yO s.objs ks) h [] ψ G 0) s.objs w p.blk := by
        intro k o p g1 g2 g3 hB
        rcases hOwn _ hB with ⟨k0, o0, p0, f1, f2, f3, f4, f5⟩ | g
        · have := hInj k0 k o0 o p0 p f1 g2 f3 g3 (.inl f2) f4
          subst this
          exact g1 f5
        · have := hin k o p g2 g3
          omega
      refine ⟨ψ2, @zy.mk (linSym σ K) _ _ _ _ _ _ _ _ hle ?_ (@Rel.mk (linSym σ K) _ _ _ ?_ ?_ ?_) ?_ ?_ hpo.lft.size hpo.lft.tape hpo.lft.os hpo.lft.output hmono ?_, wT hθ hM _ hpo.val⟩
      · intro k hk
        rcases hk with hk | hk
        · exact h2old k hk
        · rw [hψ2, if_pos (by omega)]
          split
          · rename_i kp hkp
            exfalso
            obtain ⟨i, g1, g2⟩ := zNF hkp
            obtain ⟨o, g1⟩ := g1
            rcases hkeys i kp o k g1 g2 with ⟨f1, f2, _⟩ | ⟨f1, f2, f3⟩
            · obtain ⟨_, o0, pj, e1, e2⟩ := hrho kp k f2
              have := hold k pj e2
              omega
            · omega
          · rfl
      · intro k o p hk hp
        rcases hnew k o hk with ⟨kp, o', p0, p', g1, rfl, g3, g4, g5, g6, g7, _⟩ | ⟨g1, g2⟩
        · rw [g5] at hp
          injection hp with hp
          subst hp
          exact zM7 hθ hM g3 g6 g7 (pOn kp o' p0 g1 g4)
        · obtain ⟨p1, hp1⟩ := hTot k o g2
          rw [hle k p1 hp1] at hp
          injection hp with hp
          subst hp
          exact @xJ.mono (linSym σ K) _ _ hle _ _ _ (@xJ.congr (linSym σ K) _ _ _ _ _ (hpo.lft.block _ (hlow k o p1 g1 g2 hp1)) (hOn k o p1 g2 hp1))
      · intro k o hk
        rcases hnew k o hk with ⟨kp, o', p0, p', g1, _, g3, g4, g5, _⟩ | ⟨g1, g2⟩
        · exact ⟨p', g5⟩
        · obtain ⟨p1, hp1⟩ := hTot k o g2
          exact ⟨p1, hle k p1 hp1⟩
      · intro k₁ k₂ o₁ o₂ p₁ p₂ h1 h2 h3 h4 hr e
        rcases hnew k₁ o₁ h1 with ⟨kp1, o1', p01, p1', a1, _, a3, a4, a5, a6, _, a8⟩ | ⟨a1, a2⟩ <;> rcases hnew k₂ o₂ h2 with ⟨kp2, o2', p02, p2', b1, _, b3, b4, b5, b6, _, b8⟩ | ⟨b1, b2⟩
        · rw [a5] at h3; rw [b5] at h4
          injection h3 with h3; injection h4 with h4
          subst h3; subst h4
          have := pInj kp1 kp2 o1' o2' p01 p02 a1 b1 a4 b4 (.inl (hpo.own kp1 o1' p01 a1 a4).1) (by rw [← a6.1, ← b6.1]; exact e)
          subst this
          rw [a8] at b8
          injection b8
        · exfalso
          rw [a5] at h3
          injection h3 with h3; subst h3
          obtain ⟨p1, hp1⟩ := hTot k₂ o₂ b2
          rw [hle k₂ p1 hp1] at h4
          injection h4 with h4; subst h4
          refine hlow k₂ o₂ p1 b1 b2 hp1 ?_
          rw [← e, a6.1]
          exact (hpo.own kp1 o1' p01 a1 a4).2
        · exfalso
          rw [b5] at h4
          injection h4 with h4; subst h4
          obtain ⟨p1, hp1⟩ := hTot k₁ o₁ a2
          rw [hle k₁ p1 hp1] at h3
          injection h3 with h3; subst h3
          refine hlow k₁ o₁ p1 a1 a2 hp1 ?_
          rw [e, b6.1]
          exact (hpo.own kp2 o2' p02 b1 b4).2
        · obtain ⟨p1, hp1⟩ := hTot k₁ o₁ a2
          obtain ⟨p2, hp2⟩ := hTot k₂ o₂ b2
          rw [hle k₁ p1 hp1] at h3
          rw [hle k₂ p2 hp2] at h4
          injection h3 with h3; injection h4 with h4
          subst h3; subst h4
          exact hInj k₁ k₂ o₁ o₂ p1 p2 a2 b2 hp1 hp2 hr e
      · intro B hB hfree
        refine hpo.lft.block B fun hO => ?_
        rcases hOwn B hO with ⟨k0, o0, p0, f1, f2, f3, f4, _⟩ | g
        · exact hfree k0 o0 p0 f1 f2 f3 f4
        · omega
      · intro k o p hk hro hp
        rcases hnew k o hk with ⟨kp, o', p0, p', g1, _, g3, g4, g5, g6, _⟩ | ⟨g1, g2⟩
        · rw [g5] at hp
          injection hp with hp
          subst hp
          have := (hpo.own kp o' p0 g1 g4).2
          rw [← g6.1] at this
          rcases hOwn _ this with ⟨k0, o0, p00, f1, f2, f3, f4, _⟩ | g
          · exact .inl ⟨k0, o0, p00, f1, f2, f3, f4⟩
          · exact .inr g
        · obtain ⟨p1, hp1⟩ := hTot k o g2
          rw [hle k p1 hp1] at hp
          injection hp with hp
          subst hp
          exact .inl ⟨k, o, p1, g2, hro, hp1, rfl⟩
      · intro k o p hk hp
        rcases hnew k o hk with ⟨kp, o', p0, p', g1, _, g3, g4, g5, g6, _⟩ | ⟨g1, g2⟩
        · rw [g5] at hp
          injection hp with hp
          subst hp
          have := (hpo.own kp o' p0 g1 g4).2
          rw [← g6.1] at this
          rcases hOwn _ this with ⟨k0, o0, p00, f1, f2, f3, f4, _⟩ | g
          · exact .inl ⟨k0, o0, p00, f1, f3, f4⟩
          · exact .inr g
        · obtain ⟨p1, hp1⟩ := hTot k o g2
          rw [hle k p1 hp1] at hp
          injection hp with hp
          subst hp
          exact .inl ⟨k, o, p1, g2, hp1, rfl⟩
theorem zB1 {σ σT : Nat → Int} {K : ze} {G : Nat} {s : Sm} {ks : List Key} {θ : TH} {h : zD} {n : Key} {ψ ψ' : Psi} {w w' : World} {v : Value} (hθ : kV σ σT θ) (hR : @Rel (linSym σ K) ψ (zD.fam h) w) (hfr : x7 ψ n)
    (hc : jV (yO s.objs ks) (jC s.objs ks) θ h G s.n.ix s.objs ks = true) : ∀ {l : List Po} {po : Po}, po ∈ l → zOB (linSym σT kno) (kO (yO s.objs ks) h [] ψ G 0) s w po v ψ' w' → za (kb s ks θ h n l) →
    @zn (linSym σ K) ψ (zD.fam h) n w (kb s ks θ h n l) v w'
  | [], _, hm, _, _ => by cases hm
  | [po'], po, hm, hpo, hcl => by
    rw [List.mem_singleton.1 hm] at hpo
    exact zDG hθ hR hfr hc hpo hcl
  | po' :: po2 :: r, po, hm, hpo, hcl => by
    have hcl : za (vZ s ks θ h n po') ∧ za (kb s ks θ h n (po2 :: r)) := hcl
    rcases List.mem_cons.1 hm with e | hm
    · subst e
      exact .inl (zDG hθ hR hfr hc hpo hcl.1)
    · exact .inr (zB1 hθ hR hfr hc (l := po2 :: r) hm hpo hcl.2)
theorem zES (P : Program) [Sym] [SymFact P] {ψ : Psi} {op : BinOp} {x y : CV} {b : Bool} {u v : Value} (w : World) (h : Sym.bin op x y = some [.bool b]) (hx : zH ψ x u) (hy : zH ψ y v) :
    (binOp op 0 u v).run P w = .ok (.bool b) w := by
  obtain ⟨h1, z, h2, c, h3, h4⟩ := (SymFact.ok (P := P)).1 op x y _ h ψ 0 u v w hx hy
  obtain rfl : c = .bool b := by simpa using h3
  rw [zJ.1 h4] at h2
  exact h2
theorem zOW (P : Program) {σ : Nat → Int} {K : ze} (hK : KnownOk σ K) {q : Int × Int} {u : Int × LL} (h : @zPF (linSym σ K) q u = true) : q.1 ≤ evQ σ u ∧ evQ σ u ≤ q.2 := by
  letI S : Sym := linSym σ K
  haveI hS : SymFact P := xX hK
  unfold zPF at h
  split at h
  · rename_i hu
    rw [Bool.and_eq_true, decide_eq_true_eq, decide_eq_true_eq] at h
    unfold evQ
    rw [hu]
    simp [evL]
    exact h
  · split at h
    · rename_i h1 h2
      have hv : @zH (linSym σ K) (fun _ => none) (.sym ⟨.i64, u.1, u.2⟩) (.int .i64 (evQ σ u)) := (@yX (linSym σ K) _ _ _).2 rfl
      have hl : ∀ z : Int, @zH (linSym σ K) (fun _ => none) (zU .i64 z) (.int .i64 z) := fun z => @yc (linSym σ K) _ _ _
      have g1 := @zES P (linSym σ K) hS _ _ _ _ _ _ _ default h1 hv (hl q.1)
      have g2 := @zES P (linSym σ K) hS _ _ _ _ _ _ _ default h2 hv (hl q.2)
      have e1 : q.1 ≤ evQ σ u := by simpa [binOp, Op.intCmp] using g1
      have e2 : evQ σ u ≤ q.2 := by simpa [binOp, Op.intCmp] using g2
      exact ⟨e1, e2⟩
    · cases h
theorem zJQ {σ : Nat → Int} {K : ze} (hK : KnownOk σ K) (P : Program) : ∀ {b : List (Int × Int)} {θ : TH} {σT : Nat → Int} {j : Nat}, @zOn (linSym σ K) b θ = true → (∀ i q, nth θ i = some q → σT (j + i) = evQ σ q) → b.length = θ.length ∧ yu σT j b
  | [], [], _, _, _, _ => ⟨rfl, trivial⟩
  | [], _ :: _, _, _, h, _ => by cases h
  | _ :: _, [], _, _, h, _ => by cases h
  | q :: r, u :: θ, σT, j, h, hθ => by
    unfold zOn at h
    rw [Bool.and_eq_true] at h
    obtain ⟨g1, g2⟩ := zJQ hK P (σT := σT) (j := j + 1) h.2 (fun i x hi => by
      have := hθ (i + 1) x hi
      rw [show j + 1 + i = j + (i + 1) from by omega]; exact this)
    refine ⟨by simp [g1], ?_, g2⟩
    rw [show σT j = evQ σ u from hθ 0 u rfl]
    exact zOW P hK h.1
theorem zLw {σ : Nat → Int} {K : ze} (hK : KnownOk σ K) {f : FuncId} {G : Nat} (hG : P.globals.size ≤ G) {s : Sm} (hs : SmOk P f s) {args : List CV} {h : zD} {n : Key} {ψ : Psi} {w : World} {args' : Array Value} {ks : List Key} {θ : TH}
    (ha : @zT (linSym σ K) ψ args args'.toList) (hg : kU P ψ) (hR : @Rel (linSym σ K) ψ (zD.fam h) w) (hfr : x7 ψ n) (hfit : @zNI (linSym σ K) G s ks θ args h = true) (hcl : za (kb s ks θ h n s.posts)) :
    yf P f args' w (@zn (linSym σ K) ψ (zD.fam h) n w (kb s ks θ h n s.posts)) := by
  unfold zNI at hfit
  rw [kG, vo] at hfit
  simp only [Bool.and_eq_true] at hfit
  obtain ⟨⟨⟨f1, f2⟩, f3⟩, f4⟩ := hfit
  obtain ⟨σT, hσ⟩ : ∃ σT : Nat → Int, ∀ j, σT j = match nth θ j with | some q => evQ σ q | none => 0 := ⟨_, fun _ => rfl⟩
  have hth : ∀ j q, nth θ j = some q → σT j = evQ σ q := fun j q hj => by rw [hσ, hj]
  obtain ⟨hlen, hb⟩ := zJQ hK P (σT := σT) (j := 0) f4 (fun i q hi => by rw [Nat.zero_add]; exact hth i q hi)
  have hobj := kP f2
  have f3 := @zP zW _ _ f3
  have hrho : ∀ k b, zu (yO s.objs ks) k = some b → G ≤ k.ix ∧ k.ix < s.n.ix := by
    intro k b hk
    obtain ⟨j, o, h1, h2⟩ := zBo hk
    obtain ⟨i', o', g1, g2, g3, g4, g5, g6, g7⟩ := hobj j k o h1
    exact ⟨g4, g5⟩
  refine zAo (hs σT hb (kO (yO s.objs ks) h [] ψ G 0) w args' (fun σ' K' hag hK' => ?_) ?_ ?_) fun v w' ⟨po, hpo, ψ', hok⟩ => ?_
  · have hθ' : kV σ σ' θ := fun j q hj => by
      have hlt : j < θ.length := by
        rw [@yN zW] at hj
        exact (List.getElem?_eq_some_iff.1 hj).1
      rw [hag j (by omega)]
      exact hth j q hj
    obtain ⟨c1, c2, _⟩ := zBn (G := G) (KT := K') hθ' hR f2
    exact ⟨kF hθ' c2 _ _ f1 ha, c1⟩
  · intro g hg' h4
    obtain ⟨sz, e⟩ := hg g hg' h4
    have hix : (Key.ofNat g).ix = g := @Key.ix_ofNat zW _ (by omega)
    refine ⟨sz, ?_⟩
    have hno : zu (yO s.objs ks) (Key.ofNat g) = none := by
      cases hr : zu (yO s.objs ks) (Key.ofNat g) with
      | none => rfl
      | some b => have := (hrho _ _ hr).1; omega
    unfold kO
    rw [hno]
    simp only [findW]
    rw [if_pos (by omega)]
    exact e
  · intro k hk
    have hno : zu (yO s.objs ks) k = none := by
      cases hr : zu (yO s.objs ks) k with
      | none => rfl
      | some b => have := (hrho _ _ hr).2; omega
    unfold kO
    rw [hno]
    simp only [findW]
    rw [if_neg (by omega)]
  · exact zB1 (fun j q hj => hth j q hj) hR hfr f2 hpo hok hcl
theorem zBO {σ : Nat → Int} {K : ze} (hK : KnownOk σ K) {f : FuncId} {G : Nat} (hG : P.globals.size ≤ G) {args : List CV} {h : zD} {n : Key} {ψ : Psi} {w : World} {args' : Array Value}
    (ha : @zT (linSym σ K) ψ args args'.toList) (hg : kU P ψ) (hR : @Rel (linSym σ K) ψ (zD.fam h) w) (hfr : x7 ψ n) {z : R} (hz : za z → yf P f args' w (@zn (linSym σ K) ψ (zD.fam h) n w z)) : ∀ {l : List Sm}, (∀ s ∈ l, SmOk P f s) →
    za (@zB5 (linSym σ K) G args h n z l) → yf P f args' w (@zn (linSym σ K) ψ (zD.fam h) n w (@zB5 (linSym σ K) G args h n z l))
  | [], _, hcl => hz hcl
  | s :: r, hl, hcl => by
    unfold zB5 at hcl ⊢
    split at hcl
    · unfold zMB at hcl ⊢
      split at hcl
      rename_i ks a hh
      simp only [zIT, zJx] at hcl ⊢
      split at hcl
      · rename_i hfit
        exact zLw hK hG (hl s (by simp)) ha hg hR hfr hfit hcl
      · rename_i hfit
        exact zBO hK hG ha hg hR hfr hz (fun s' h' => hl s' (by simp [h'])) hcl
    · exact zBO hK hG ha hg hR hfr hz (fun s' h' => hl s' (by simp [h'])) hcl
theorem nats_lin {nat : Nats} (h : ∀ [Sym] [SymFact P], NatsOk P nat) : ∀ σ K, KnownOk σ K → @NatsOk (linSym σ K) P nat := fun σ K hK => @h (linSym σ K) (xX hK)
end
end Go.Ev

namespace Go.Ev
open Go.RowKit
noncomputable section
variable {P : Program}
section
variable {code : FuncId → CFn} {nat : Nats} {fuel : Nat} {p : List Stp} {rs : List CRes} {G : Nat} {Ts : List TS} {s : Sm} {cc : CCode} {T : TS}
theorem zKs {Q : Lf → Prop} : ∀ {l : List Lf}, (∀ e ∈ l, Q e) → AllG Q l
  | [], _ => allG_nil
  | e :: l, h => allG_cons (h e (by simp)) (zKs fun x hx => h x (by simp [hx]))
def zIn (Q : Sm → Prop) : List Sm → Prop
  | [] => True
  | x :: l => Q x ∧ zIn Q l
theorem allSm_nil {Q : Sm → Prop} : zIn Q [] := trivial
theorem allSm_cons {Q : Sm → Prop} {x : Sm} {l : List Sm} (h : Q x) (h' : zIn Q l) : zIn Q (x :: l) := ⟨h, h'⟩
theorem allSm_mem {Q : Sm → Prop} : ∀ {l : List Sm}, zIn Q l → ∀ x ∈ l, Q x
  | [], _, x, hx => by cases hx
  | y :: l, h, x, hx => by
    rcases List.mem_cons.1 hx with rfl | hx
    · exact h.1
    · exact allSm_mem h.2 x hx
end
end
end Go.Ev

namespace Go.Ev
open Go.RowKit
noncomputable section
variable {P : Program}
def smF [Sym] (P : Program) (code : FuncId → CFn) (nat : Nats) (fuel G : Nat) (f : FuncId) (l : List Sm) (d : Bool) (args : List CV) (h : zD) (n : Key) : R := match d with
  | true => ev P code nat fuel true f args h n
  | false => zB5 G args h n (ev P code nat fuel false f args h n) l
def zQv (P : Program) (code : FuncId → CFn) (nat : Nats) (fuel G : Nat) (f : FuncId) (l : List Sm) : NatF := fun S => @smF S P code nat fuel G f l
def natM (P : Program) (code : FuncId → CFn) (fuel : Nat) (f : FuncId) (G : Nat) (l : List Sm) (nat : Nats) : Nats := fun g => Bool.rec (motive := fun _ => Option NatF) (nat g) (some (zQv P code nat fuel G f l)) (Nat.beq g f)
theorem natM_ok {code : FuncId → CFn} {fuel : Nat} {f : FuncId} {G : Nat} {l : List Sm} {nat : Nats} (hm : P.follows .mixedOrders = true) (hcode : CodeOk P code) (hG : P.globals.size ≤ G) (hl : ∀ s ∈ l, SmOk P f s) (hn : ∀ σ K, KnownOk σ K → @NatsOk (linSym σ K) P nat) :
    ∀ σ K, KnownOk σ K → @NatsOk (linSym σ K) P (natM P code fuel f G l nat) := by
  intro σ K hK
  have hc : @ym (linSym σ K) P (@ev (linSym σ K) P code nat fuel) := by
    letI S : Sym := linSym σ K
    haveI hS : SymFact P := xX hK
    exact ue (fun call hcall F N => xd hm hcall) hcode (hn _ _ hK) fuel
  have hn := hn σ K hK
  have key : ∀ g q, natM P code fuel f G l nat g = some q → (g = f ∧ q = zQv P code nat fuel G f l) ∨ nat g = some q := by
    intro g q h
    unfold natM at h
    cases e : Nat.beq g f with
    | true =>
      rw [e] at h
      injection h with h
      exact .inl ⟨Nat.eq_of_beq_eq_true e, h.symm⟩
    | false => rw [e] at h; exact .inr h
  refine @NatsOk.mk (linSym σ K) P _ (fun g q hg d args h n => ?_) (fun g q hg args h n ψ w args' h1 h2 h3 h4 hcl => ?_) (fun g q hg args h n ψ w args' h1 h2 h3 h4 hcl => ?_)
  · rcases key g q hg with ⟨rfl, rfl⟩ | hg
    · cases d with
      | true => exact @ym.above (linSym σ K) _ _ hc true g args h n
      | false => exact @vm (linSym σ K) G args h n _ (@ym.above (linSym σ K) _ _ hc false g args h n) l
    · exact @NatsOk.above (linSym σ K) _ _ hn g q hg d args h n
  · rcases key g q hg with ⟨rfl, rfl⟩ | hg
    · exact zBO hK hG h1 h2 h3 h4 (fun hz => @ym.calls (linSym σ K) _ _ hc g args h n ψ w args' h1 h2 h3 h4 hz) hl hcl
    · exact @NatsOk.calls (linSym σ K) _ _ hn g q hg args h n ψ w args' h1 h2 h3 h4 hcl
  · rcases key g q hg with ⟨rfl, rfl⟩ | hg
    · exact @ym.defers (linSym σ K) _ _ hc g args h n ψ w args' h1 h2 h3 h4 hcl
    · exact @NatsOk.defers (linSym σ K) _ _ hn g q hg args h n ψ w args' h1 h2 h3 h4 hcl
end
end Go.Ev

namespace Go.Ev
open Go.RowKit
noncomputable section
variable {P : Program}
theorem zCy {q : List Stp} {bl : Code} : ∀ {p : List Stp} {c a b : Code}, atC p c = some (.seq a b) → wk (p ++ .r :: q) c = some bl → wk q b = some bl
  | [], c, a, b, h, hs => by
    injection h with h; subst h; exact hs
  | .l :: p, c, a, b, h, hs => by
    cases c <;> first | exact zCy (p := p) h hs | cases h
  | .r :: p, c, a, b, h, hs => by
    cases c <;> first | exact zCy (p := p) h hs | cases h
  | .b :: p, c, a, b, h, hs => by
    cases c <;> first | exact zCy (p := p) h hs | cases h
theorem zGR {q : List Stp} : ∀ {p : List Stp} {c a b : Code} {Q : Exit → Act → World → Prop}, atC p c = some (.seq a b) → QH P (p ++ .r :: q) c Q = QH P q b (QH P p c Q)
  | [], c, a, b, Q, h => by
    injection h with h; subst h; rfl
  | .l :: p, c, a, b, Q, h => by
    cases c <;> try (cases h; done)
    rename_i y z
    exact zGR (p := p) (Q := Exit.then (z.wp P Q) Q) h
  | .r :: p, c, a, b, Q, h => by
    cases c <;> try (cases h; done)
    exact zGR (p := p) h
  | .b :: p, c, a, b, Q, h => by
    cases c <;> try (cases h; done)
    exact zGR (p := p) h
structure Nx where
  Ts : List TS
  pre : List Stp
  q : List Stp
  q2 : List Stp
section
variable {code : FuncId → CFn} {nat : Nats} {fuel : Nat} {fn : Func} {c b : Code} {p : List Stp} {rs : List CRes} {G : Nat} {wins : List Win} {L : List (Key × Nat)} {A : Key → Option Value} {Ts : List TS} {bound : Int} {w0 : World} {nx : Option Nx}
def LoopOk (P : Program) (F N G : Nat) (A : Key → Option Value) (wins : List Win) (L : List (Key × Nat)) (w0 : World) (fn : Func) (c : Code) (Ts : List TS) (p : List Stp) : Prop :=
  ∀ (t : Nat) (T : TS) (σ : Nat → Int) (ψ : Psi) (a : Act) (w : World) (b : Code), wk p c = some b → nth Ts t = some T → zK3 P F N G A wins L w0 T σ ψ a w → w7 P b (QH P p c (zF3 P fn w0)) a w
def zDa (P : Program) (F N G : Nat) (A : Key → Option Value) (wins : List Win) (L : List (Key × Nat)) (w0 : World) (fn : Func) (c : Code) (p : List Stp) : Option Nx → Prop
  | none => True
  | some x => p = x.pre ++ .l :: x.q ∧ (∃ xa xb bl, atC x.pre c = some (.seq xa xb) ∧ wk (x.pre ++ .r :: x.q2) c = some bl) ∧ LoopOk P F N G A wins L w0 fn c x.Ts (x.pre ++ .r :: x.q2)
def zQm (P : Program) (code : FuncId → CFn) (nat : Nats) (fuel : Nat) (G : Nat) (ws L : List (Key × Nat)) (x : Nx) (cc : CCode) (s : Nat → Int) (K : ze) (ts : List Nat) (r : R) : Bool :=
  kc (uX G ws x.Ts (fun t => zBF t.θ && qy t.θ L) K (fun _ => false)
    (xp (@zCu (linSym s K) P (@ev (linSym s K) P code nat fuel) x.q2 (zDB x.pre cc)) (@vP (linSym s K) P (@ev (linSym s K) P code nat fuel) x.q (zH7 x.pre cc) r)) ts)
def zF5 (P : Program) (code : FuncId → CFn) (nat : Nats) (fuel : Nat) (G : Nat) (ws L : List (Key × Nat)) (nx : Option Nx) (p : List Stp) (cc : CCode) (rs : List CRes) (s : Nat → Int) (K : ze) (ts : List Nat) (r : R) : Bool := match nx with
  | none => zHS P code nat fuel p cc rs (linSym s K) r
  | some x => match r with
    | .ok (.exit i) tm ds h n => zQm P code nat fuel G ws L x cc s K ts (.ok (.exit i) tm ds h n)
    | r => zHS P code nat fuel p cc rs (linSym s K) r
def zN4 (P : Program) (code : FuncId → CFn) (nat : Nats) (fuel : Nat) (G : Nat) (ws L : List (Key × Nat)) (Ts : List TS) (nx : Option Nx) (p : List Stp) (cc : CCode) (rs : List CRes) (T : TS) (l : List (Key × List CV)) (s : Nat → Int) (K : ze) (ts : List Nat) (hs : List jd) : Bool :=
  ke (ji G ws Ts (fun t => wu t.θ && qy t.θ L) K (zF5 P code nat fuel G ws L nx p cc rs s K ts) (@zi (linSym s K) P (@ev (linSym s K) P code nat fuel) (zAN p cc) (zAb T.locs) [] (mkH (mkH .nil T.objs) (zCs l)) T.n) hs)
def zCL (P : Program) (code : FuncId → CFn) (nat : Nats) (fuel : Nat) (G : Nat) (wins : List Win) (L : List (Key × Nat)) (A : Key → Option Value) (Ts : List TS) (nx : Option Nx) (p : List Stp) (cc : CCode) (rs : List CRes) (w0 : World) : Prop :=
  ∀ t T, nth Ts t = some T → ∀ σ, yu σ 0 T.b → qt σ T.f → xv σ T.r → LensAre wins L σ → ∃ σ' K' l hs ts, (∀ j, j < T.b.length → σ' j = σ j) ∧ (∀ q ∈ L, σ' q.2 = σ q.2) ∧ K'.arg = A ∧ KnownOk σ' K' ∧ (∀ q ∈ l, zCa (linSym σ' K') wins w0 (σ 0) q) ∧ vI T.objs l = true ∧
    zN4 P code nat fuel G (wsOf wins) L Ts nx p cc rs T l σ' K' ts hs = true
theorem zFQ [Sym] [SymFact P] {call : yS} (hcall : yj call) (q : List Stp) (y : CCode) {r : R} (h : za (xp (zCu P call q y) r)) : za r :=
  xP (fun tm ds h n => jF (P := P) hcall q y tm ds h n) h
theorem zIS {σ : Nat → Int} {K : ze} (hK : KnownOk σ K) (hm : P.follows .mixedOrders = true) (hcode : CodeOk P code) (hnat : ∀ σ K, KnownOk σ K → @NatsOk (linSym σ K) P nat) {ws : List (Key × Nat)} {cc : CCode} {ts : List Nat} : ∀ r, zF5 P code nat fuel G ws L nx p cc rs σ K ts r = true → za r := by
  intro r h
  unfold zF5 at h
  split at h
  · exact zFt hK hm hcode hnat r h
  · split at h
    · obtain ⟨hs, h1⟩ := jz h
      obtain ⟨o, h2⟩ := zAS h1
      have hc := jH (fun _ h => by cases h) h2
      letI S : Sym := linSym σ K
      haveI hS : SymFact P := xX hK
      have hcall : ym P (ev P code nat fuel) := ue (fun call hcall F N => xd hm hcall) hcode (hnat _ _ hK) fuel
      exact kH hcall.above _ _ (zFQ hcall.above _ _ hc)
    · exact zFt hK hm hcode hnat _ h
theorem zO6 {σ : Nat → Int} {K : ze} (hK : KnownOk σ K) (hlen : LensAre wins L σ) (hA : ArgsAre K.arg wins) (hG : P.globals.size ≤ G) (hm : P.follows .mixedOrders = true) (hcode : CodeOk P code) (hnat : ∀ σ K, KnownOk σ K → @NatsOk (linSym σ K) P nat) {F N : Nat} (hsub : wk p c = some b) (hn : yC c = true)
    {x : Nx} (hnx : zDa P F N G K.arg wins L w0 fn c p (some x)) {ts : List Nat} {ψ₀ : Psi} {g₀ : Fam} {n₀ : Key} {w₀ : World} {r : R} {e : Exit} {a : Act} {w : World}
    (ho : @yw (linSym σ K) P F N ψ₀ g₀ n₀ w₀ r e a w) (hf : zQm P code nat fuel G (wsOf wins) L x (zR P F N c) σ K ts r = true)
    (hb : Below w0.heap.size w0 w₀) (ho0 : ∀ k o p, g₀ k = some o → o.isRo = false → ψ₀ k = some p → w0.heap.size ≤ p.blk) : QH P p c (zF3 P fn w0) e a w := by
  obtain ⟨rfl, ⟨xa, xb, bl, hat, hsub2⟩, hok⟩ := hnx
  rw [zKN hat]
  obtain ⟨hl, hr⟩ := vE (P := P) (F := F) (N := N) hat
  have hnab : yC xa = true ∧ yC xb = true := by
    have := zAv hat hn
    simpa [yC] using this
  obtain ⟨hs, h1⟩ := jz hf
  obtain ⟨o, h2⟩ := zAS h1
  rw [hl, hr] at h2
  have hc := jH (fun _ h => by cases h) h2
  letI S : Sym := linSym σ K
  haveI hS : SymFact P := xX hK
  have hcall : ym P (ev P code nat fuel) := ue (fun call hcall F N => xd hm hcall) hcode (hnat _ _ hK) fuel
  have hdraw : jZ P F N (ev P code nat fuel) := xd hm hcall
  have hab := fun tm ds h n => jF (P := P) hcall.above x.q2 (zR P F N xb) tm ds h n
  have hok2 := fun t T σ ψ a w => hok t T σ ψ a w bl hsub2
  rw [zGR hat] at hok2
  refine vd hcall hdraw x.q xa (zGJ hat hsub) hnab.1 ho (zFQ hcall.above _ _ hc) fun e a w ho => ?_
  rcases jK hc ho with ⟨rfl, tm', ds', h', n', ψ', g2, g3, g4, g5⟩ | ⟨g1, g2⟩
  · show xb.wp P (QH P x.pre c (zF3 P fn w0)) a w
    refine zAE hcall hdraw x.q2 xb (Q := QH P x.pre c (zF3 P fn w0)) (zCy hat hsub2) hnab.2 g2 g4 fun e'' a'' w'' ho' => ?_
    have ho2 := g5 e'' a'' w'' (yw.trans g3 ho')
    rcases wL h2 ho2 with ⟨rfl, tm, h, n, ψ, t, T, k1, k2, k3, k4, k5⟩ | ⟨_, r', _, k2⟩
    · rw [Bool.and_eq_true] at k4
      obtain ⟨k4, k4L⟩ := k4
      obtain ⟨q0, θr, hθ⟩ : ∃ q0 θr, t.θ = q0 :: θr := by
        unfold zBF at k4
        split at k4
        · rename_i q θr hq; exact ⟨q, θr, hq⟩
        · cases k4
      obtain ⟨σ'', ψT, hi, _⟩ := zJw hK hlen k1 k2 hG hA k5 ⟨q0, by rw [hθ]; rfl⟩ k4L ho0 hb
      exact ⟨rfl, hok2 _ _ _ _ _ _ k3 hi⟩
    · cases k2
  · rcases wL h2 g2 with ⟨rfl, _⟩ | ⟨_, r', _, k2⟩
    · exact absurd rfl g1
    · cases k2
theorem zNb {σ : Nat → Int} {K : ze} (hK : KnownOk σ K) (hlen : LensAre wins L σ) (hA : ArgsAre K.arg wins) (hG : P.globals.size ≤ G) (hm : P.follows .mixedOrders = true) (hcode : CodeOk P code) (hnat : ∀ σ K, KnownOk σ K → @NatsOk (linSym σ K) P nat) {F N : Nat} (hsub : wk p c = some b) (hn : yC c = true)
    (hrs : yq (xL P F N) fn.results.toList = some rs) (hnx : zDa P F N G K.arg wins L w0 fn c p nx) {ts : List Nat} {ψ₀ : Psi} {g₀ : Fam} {n₀ : Key} {w₀ : World} {r : R} {e : Exit} {a : Act} {w : World}
    (ho : @yw (linSym σ K) P F N ψ₀ g₀ n₀ w₀ r e a w) (hf : zF5 P code nat fuel G (wsOf wins) L nx p (zR P F N c) rs σ K ts r = true)
    (hb : Below w0.heap.size w0 w₀) (ho0 : ∀ k o p, g₀ k = some o → o.isRo = false → ψ₀ k = some p → w0.heap.size ≤ p.blk) : QH P p c (zF3 P fn w0) e a w := by
  unfold zF5 at hf
  split at hf
  · exact zKq hK hm hcode hnat hsub hn hrs ho hf hb ho0
  · split at hf
    · exact zO6 hK hlen hA hG hm hcode hnat hsub hn hnx ho hf hb ho0
    · exact zKq hK hm hcode hnat hsub hn hrs ho hf hb ho0
theorem zIZ (hm : P.follows .mixedOrders = true) (hcode : CodeOk P code) (hnat : ∀ σ K, KnownOk σ K → @NatsOk (linSym σ K) P nat) (hG : P.globals.size ≤ G) {F N : Nat} (hsub : wk p c = some b) (hn : yC c = true)
    (hrs : yq (xL P F N) fn.results.toList = some rs) (hA : ArgsAre A wins) (hbd : boundIs bound Ts = true)
    (hnx : zDa P F N G A wins L w0 fn c p nx) (hgood : zCL P code nat fuel G wins L A Ts nx p (zR P F N c) rs w0) : ∀ (m : Nat) (t : Nat) (T : TS) (σ : Nat → Int) (ψ : Psi) (a : Act) (w : World), nth Ts t = some T → zK3 P F N G A wins L w0 T σ ψ a w → (bound - σ 0).toNat ≤ m →
    w7 P b (QH P p c (zF3 P fn w0)) a w := by
  have hnb : yC b = true := by
    have : ∀ {p : List Stp} {c : Code}, wk p c = some b → yC c = true → yC b = true := by
      intro p
      induction p with
      | nil =>
        intro c hs hn
        cases c <;> try (cases hs; done)
        injection hs with hs; subst hs
        simpa [yC] using hn
      | cons x p ih =>
        intro c hs hn
        cases x <;> cases c <;> try (cases hs; done)
        · rename_i x y
          have hn : yC x = true ∧ yC y = true := by simpa [yC] using hn
          exact ih hs hn.1
        · rename_i x y
          have hn : yC x = true ∧ yC y = true := by simpa [yC] using hn
          exact ih hs hn.2
        · exact ih hs hn
    exact this hsub hn
  have step : ∀ (t : Nat) (T : TS) (σ : Nat → Int) (ψ : Psi) (a : Act) (w : World), nth Ts t = some T → zK3 P F N G A wins L w0 T σ ψ a w →
      (∀ (t' : Nat) (T' : TS) (σ' : Nat → Int) (ψ' : Psi) (a' : Act) (w' : World), nth Ts t' = some T' → zK3 P F N G A wins L w0 T' σ' ψ' a' w' → (bound - σ' 0).toNat < (bound - σ 0).toNat → w7 P b (QH P p c (zF3 P fn w0)) a' w') →
      w7 P b (QH P p c (zF3 P fn w0)) a w := by
    intro t T σ ψ a w hT hi hrec
    obtain ⟨σ', K', l, hs, ts, hag, hagL, hKA, hK, hl, hap, hpass⟩ := hgood t T hT σ hi.bnd hi.fct hi.rul hi.len
    have hst := zMD hi hag hKA hl hap
    obtain ⟨q1, r1, hb1, _⟩ := u0 hbd hT
    have hag0 : σ' 0 = σ 0 := hag 0 (by rw [hb1]; simp)
    have hm0 : ∀ k o p, zD.fam (mkH (mkH .nil T.objs) (zCs l)) k = some o → o.isRo = false → ψ k = some p → w0.heap.size ≤ p.blk := by
      intro k o p h1 h2 h3
      rcases vy h1 with ⟨cs, _, rfl⟩ | h1
      · cases h2
      · exact (hi.own k o p h1 h3).2
    letI S : Sym := linSym σ' K'
    haveI hS : SymFact P := xX hK
    have hcall : ym P (ev P code nat fuel) := ue (fun call hcall F N => xd hm hcall) hcode (hnat _ _ hK) fuel
    have hdraw : jZ P F N (ev P code nat fuel) := xd hm hcall
    unfold zN4 at hpass
    rw [@uJ S P F N p c b hsub] at hpass
    generalize hres : zi P (ev P code nat fuel) (zR P F N b) (zAb T.locs) [] (mkH (mkH .nil T.objs) (zCs l)) T.n = r at hpass
    obtain ⟨hs', hchk⟩ : ∃ x, ji G (wsOf wins) Ts (fun t => wu t.θ && qy t.θ L) K' (zF5 P code nat fuel G (wsOf wins) L nx p (zR P F N c) rs σ' K' ts) r hs = some x := by
      unfold ke at hpass
      split at hpass
      · rename_i x hx; exact ⟨x, hx⟩
      · cases hpass
    have hclean : za r := jH (zIS hK hm hcode hnat) hchk
    have hsim := wc hcall hdraw b hnb hst (by rw [hres]; exact hclean)
    rw [hres] at hsim
    refine zFU (wp_mono hsim fun e a' w' ho => ?_)
    rcases wL hchk ho with ⟨rfl, tm, h, n, ψ', t', T', h1, h2, h3, h4, h5⟩ | ⟨hne, r', h1, h2⟩
    · rw [Bool.and_eq_true] at h4
      obtain ⟨h4, h4L⟩ := h4
      obtain ⟨q0, θr, hθ, e1, e2⟩ : ∃ q0 θr, t'.θ = q0 :: θr ∧ q0.1 = 1 ∧ q0.2 = [(0, 1)] := by
        unfold wu at h4
        split at h4
        · rename_i q θr hq
          rw [Bool.and_eq_true, @zl zW, decide_eq_true_eq] at h4
          exact ⟨q, θr, hq, h4.1, @kf zW _ _ h4.2⟩
        · cases h4
      obtain ⟨σ'', ψT, hinv, h0⟩ := zJw hK (fun q hq => by
        obtain ⟨wn, g1, g2⟩ := hi.len q hq
        exact ⟨wn, g1, by rw [hagL q hq]; exact g2⟩) h1 h2 hG (by rw [hKA]; exact hA) h5 ⟨q0, by rw [hθ]; rfl⟩ h4L hm0 hi.blw
      rw [hKA] at hinv
      have hσ : σ'' 0 = σ 0 + 1 := by
        rw [h0 q0 (by rw [hθ]; rfl)]
        unfold evQ
        rw [e1, e2]
        show (1 : Int) + (1 * σ' 0 + 0) = _
        rw [hag0]; omega
      obtain ⟨q2, r2, hb2, hle⟩ := u0 hbd h3
      have hbb := hinv.bnd
      rw [hb2] at hbb
      have := hbb.1.2
      exact hrec t'.T T' σ'' ψT a' w' h3 hinv (by omega)
    · have := zNb hK (fun q hq => by
        obtain ⟨wn, g1, g2⟩ := hi.len q hq
        exact ⟨wn, g1, by rw [hagL q hq]; exact g2⟩) (by rw [hKA]; exact hA) hG hm hcode hnat hsub hn hrs (by rw [hKA]; exact hnx) h1 h2 hi.blw hm0
      cases e <;> first | exact absurd rfl hne | exact this
  intro m
  induction m with
  | zero =>
    intro t T σ ψ a w hT hi hm0
    exact step t T σ ψ a w hT hi fun t' T' σ' ψ' a' w' hT' hi' hlt => by omega
  | succ m ih =>
    intro t T σ ψ a w hT hi hm0
    exact step t T σ ψ a w hT hi fun t' T' σ' ψ' a' w' hT' hi' hlt => ih t' T' σ' ψ' a' w' hT' hi' (by omega)
theorem zLo (hm : P.follows .mixedOrders = true) (hcode : CodeOk P code) (hnat : ∀ σ K, KnownOk σ K → @NatsOk (linSym σ K) P nat) (hG : P.globals.size ≤ G) {F N : Nat} (hn : yC c = true)
    (hrs : yq (xL P F N) fn.results.toList = some rs) (hA : ArgsAre A wins) (hbd : boundIs bound Ts = true)
    (hnx : zDa P F N G A wins L w0 fn c p nx) (hgood : zCL P code nat fuel G wins L A Ts nx p (zR P F N c) rs w0) : LoopOk P F N G A wins L w0 fn c Ts p :=
  fun t T σ ψ a w b hsub hT hi => zIZ hm hcode hnat hG hsub hn hrs hA hbd hnx hgood _ t T σ ψ a w hT hi (Nat.le_refl _)
theorem loopOk_fn {cc : CCode} {f : FuncId} (hm : P.follows .mixedOrders = true) (hcode : CodeOk P code) (hnat : ∀ σ K, KnownOk σ K → @NatsOk (linSym σ K) P nat) (hG : P.globals.size ≤ G) (hf : P.funcs[f]? = some fn) (hb : fn.body = some c) (hcf : compFn P f = .mk cc rs) (hA : ArgsAre A wins) (hbd : boundIs bound Ts = true)
    (hnx : zDa P (frameBits fn c) fn.ntmps G A wins L w0 fn c p nx) (hgood : zCL P code nat fuel G wins L A Ts nx p cc rs w0) : LoopOk P (frameBits fn c) fn.ntmps G A wins L w0 fn c Ts p := by
  obtain ⟨hrs, hnr, rfl⟩ := zDf hf hb hcf
  exact zLo hm hcode hnat hG hnr hrs hA hbd hnx hgood
end
theorem zHy {code : FuncId → CFn} {nat : Nats} {fuel : Nat} {f : FuncId} {fn : Func} {c b : Code} {cc : CCode} {p : List Stp} {rs : List CRes} {G : Nat} {wins : List Win} {L : List (Key × Nat)} {A : Key → Option Value} {Ts : List TS} {w0 : World}
    {σ : Nat → Int} {K : ze} {args : List CV} {args' : Array Value} {n : Key} {hs : List jd} (hK : KnownOk σ K) (hKA : K.arg = A) (hlen : LensAre wins L σ)
    (hm : P.follows .mixedOrders = true) (hcode : CodeOk P code) (hnat : ∀ σ K, KnownOk σ K → @NatsOk (linSym σ K) P nat) (hf : P.funcs[f]? = some fn) (hb : fn.body = some c) (hcf : compFn P f = .mk cc rs) (hsub : wk p c = some b)
    (hG : P.globals.size ≤ G) (hn : G ≤ n.ix) (hw : zEr G n.ix (wsOf wins) = true) (hA : ArgsAre A wins)
    (hargs : @zT (linSym σ K) (zIL G wins) args args'.toList) (hrun : startOf P code nat fuel G (wsOf wins) L Ts p cc args n (linSym σ K) K hs = true)
    (hgood : LoopOk P (frameBits fn c) fn.ntmps G A wins L w0 fn c Ts p) : Calls P f args' w0 fun e w => e = .returned (.bool true) ∧ Below w0.heap.size w0 w := by
  obtain ⟨hrs, hnr, rfl⟩ := zDf hf hb hcf
  letI S : Sym := linSym σ K
  haveI hS : SymFact P := xX hK
  have hcall : ym P (ev P code nat fuel) := ue (fun call hcall F N => xd hm hcall) hcode (hnat _ _ hK) fuel
  have hdraw : ∀ F N, jZ P F N (ev P code nat fuel) := fun F N => xd hm hcall
  have hst : St P (frameBits fn c) fn.ntmps (zIL G wins) (qE args 0 .nil) [] .nil n { tmps := args' ++ Array.replicate (fn.ntmps - args'.size) undef, defers := [] } w0 :=
    zBj hcall hdraw hargs (zLu hG hw) (zJV _ _) (zJv hn hw)
  unfold startOf at hrun
  generalize hres : zCu P (ev P code nat fuel) p (zR P (frameBits fn c) fn.ntmps c) (qE args 0 .nil) [] .nil n = r at hrun
  obtain ⟨hs', hchk⟩ : ∃ x, ji G (wsOf wins) Ts (fun t => zBF t.θ && qy t.θ L) K (fun _ => false) r hs = some x := by
    unfold ke at hrun
    split at hrun
    · rename_i x hx; exact ⟨x, hx⟩
    · cases hrun
  have hclean : za r := jH (fun _ h => by cases h) hchk
  refine calls_of_wp_defers hf hb (zAE hcall (hdraw _ _) p c hsub hnr hst (by rw [hres]; exact hclean) fun e a' w' ho => ?_)
  rw [hres] at ho
  rcases wL hchk ho with ⟨rfl, tm, h, n', ψ', t', T', h1, h2, h3, h4, h5⟩ | ⟨_, r', _, h2⟩
  · rw [Bool.and_eq_true] at h4
    obtain ⟨h4, h4L⟩ := h4
    obtain ⟨q0, θr, hθ⟩ : ∃ q0 θr, t'.θ = q0 :: θr := by
      unfold zBF at h4
      split at h4
      · rename_i q θr hq; exact ⟨q, θr, hq⟩
      · cases h4
    obtain ⟨σ'', ψT, hinv, _⟩ := zJw hK hlen h1 h2 hG (by rw [hKA]; exact hA) h5 ⟨q0, by rw [hθ]; rfl⟩ h4L (w0 := w0) (fun k o p h1 _ _ => by
      have h1 : yK k .nil = some o := h1
      rw [vM] at h1; cases h1) (Below.refl _ _)
    rw [hKA] at hinv
    exact ⟨rfl, hgood _ _ _ _ _ _ _ hsub h3 hinv⟩
  · cases h2
def zLq (P : Program) (code : FuncId → CFn) (nat : Nats) (fuel G : Nat) (ws L : List (Key × Nat)) (Ts : List TS) (nx : Option Nx) (p : List Stp) (cc : CCode) (rs : List CRes) (T : TS) (e : Lf) : Prop :=
  vI T.objs e.l = true ∧ ∀ (s : Nat → Int) (A : Key → Option Value), ∃ hs ts, zN4 P code nat fuel G ws L Ts nx p cc rs T e.l s (e.known A) ts hs = true
def StateGoodM (P : Program) (code : FuncId → CFn) (nat : Nats) (fuel G : Nat) (ws L : List (Key × Nat)) (Ts : List TS) (nx : Option Nx) (p : List Stp) (cc : CCode) (rs : List CRes) (ks : List (Key × Bool)) (T : TS) : Prop :=
  ∃ (tree : LTree) (ls : List Lf), leaves ks tree ⟨T.b, T.f, T.r, [], 1000⟩ = some ls ∧ (Nat.ble (Nat.succ ks.length) T.b.length && Nat.ble T.b.length 1000 && zBy T.b.length L) = true ∧
    AllG (zLq P code nat fuel G ws L Ts nx p cc rs T) ls
theorem passes_allM {code : FuncId → CFn} {nat : Nats} {fuel G : Nat} {wins : List Win} {ws L : List (Key × Nat)} {A : Key → Option Value} {Ts : List TS} {p : List Stp} {cc : CCode} {rs : List CRes} {w0 : World} {ks : List (Key × Bool)}
    (hws : wsOf wins = ws) (hwin : ∀ σ, LensAre wins L σ → WinIs wins w0 σ ks) {nx : Option Nx} (h : AllS (StateGoodM P code nat fuel G ws L Ts nx p cc rs ks) Ts) : zCL P code nat fuel G wins L A Ts nx p cc rs w0 := by
  intro t T hT σ hb hf hr hlen
  obtain ⟨tree, ls, h1, h2, h3⟩ := zHa h hT
  rw [Bool.and_eq_true, Bool.and_eq_true] at h2
  have g1 := @zP zW _ _ h2.1.1
  have g2 := @zP zW _ _ h2.1.2
  obtain ⟨e, hm, σ', r1, r2⟩ := yd (wins := wins) (w0 := w0) (i := σ 0) tree _ σ h1 ⟨hb, hf, hr, fun q hq => by cases hq⟩ (hwin σ hlen) rfl (by show ks.length < T.b.length; omega) g2 (Nat.le_refl _)
  obtain ⟨hap, hall⟩ := zAq h3 e hm
  obtain ⟨hs, ts, hpass⟩ := hall σ' A
  refine ⟨σ', e.known A, e.l, hs, ts, fun j hj => r2 j (.inl hj), fun q hq => r2 _ (.inl (zBx h2.2 q hq)), rfl, r1.known A, fun q hq => r1.w q hq σ' _ vf, hap, ?_⟩
  rw [hws]
  exact hpass
theorem calls_treeM {code : FuncId → CFn} {nat : Nats} {fuel : Nat} {f : FuncId} {fn : Func} {c b : Code} {cc : CCode} {p : List Stp} {rs : List CRes} {G : Nat} {wins : List Win} {ws L : List (Key × Nat)} {A : Key → Option Value} {Ts : List TS} {w0 : World}
    {ks : List (Key × Bool)} {tree : LTree} {e0 : Lf} {ls : List Lf} {σ : Nat → Int} {args : List CV} {args' : Array Value} {n : Key} (hws : wsOf wins = ws)
    (hls : leaves ks tree e0 = some ls) (hchk : (Nat.ble (Nat.succ ks.length) e0.b.length && Nat.ble e0.b.length 1000 && Nat.ble 1000 e0.u && zBy e0.b.length L) = true)
    (hall : AllG (fun e => ∀ (s : Nat → Int) (A : Key → Option Value), ∃ hs, startOf P code nat fuel G ws L Ts p cc args n (linSym s (e.known A)) (e.known A) hs = true) ls)
    (h0 : zEl wins w0 (σ 0) σ e0) (hlen : LensAre wins L σ) (hwin : ∀ σ, LensAre wins L σ → WinIs wins w0 σ ks)
    (hm : P.follows .mixedOrders = true) (hcode : CodeOk P code) (hnat : ∀ σ K, KnownOk σ K → @NatsOk (linSym σ K) P nat) (hf : P.funcs[f]? = some fn) (hb : fn.body = some c) (hcf : compFn P f = .mk cc rs) (hsub : wk p c = some b)
    (hG : P.globals.size ≤ G) (hn : G ≤ n.ix) (hw : zEr G n.ix ws = true) (hA : ArgsAre A wins)
    (hargs : ∀ σ' K', K'.arg = A → (∀ j, (j < e0.b.length ∨ (1000 ≤ j ∧ j < e0.u)) → σ' j = σ j) → @zT (linSym σ' K') (zIL G wins) args args'.toList)
    (hgood : LoopOk P (frameBits fn c) fn.ntmps G A wins L w0 fn c Ts p) : Calls P f args' w0 fun e w => e = .returned (.bool true) ∧ Below w0.heap.size w0 w := by
  simp only [Bool.and_eq_true] at hchk
  obtain ⟨⟨⟨g1, g2⟩, g3⟩, g4⟩ := hchk
  have g1 := @zP zW _ _ g1
  obtain ⟨e, hmem, σ', r1, r2⟩ := yd (wins := wins) (w0 := w0) (i := σ 0) tree e0 σ hls h0 (hwin σ hlen) rfl (by omega) (@zP zW _ _ g2) (@zP zW _ _ g3)
  obtain ⟨hs, hrun⟩ := zAq hall e hmem σ' A
  subst hws
  exact zHy (K := e.known A) (r1.known A) rfl (fun q hq => by
    obtain ⟨wn, h1, h2⟩ := hlen q hq
    exact ⟨wn, h1, by rw [r2 _ (.inl (zBx g4 q hq))]; exact h2⟩) hm hcode hnat hf hb hcf hsub hG hn hw hA (hargs σ' _ rfl r2) hrun hgood
section
variable {code : FuncId → CFn} {nat : Nats} {fuel : Nat} {p : List Stp} {rs : List CRes} {G : Nat} {ws L : List (Key × Nat)} {ks : List (Key × Bool)} {Ts : List TS} {nx : Option Nx} {cc : CCode} {T : TS}
def mkTs (g : Nat → TS) (m n : Nat) : List TS := Nat.rec (motive := fun _ => List TS) [] (fun k ih => g (Nat.sub m (Nat.succ k)) :: ih) n
theorem mkTs_all {Q : TS → Prop} {g : Nat → TS} {m : Nat} (h : ∀ i, i < m → Q (g i)) : ∀ {n : Nat}, n ≤ m → AllS Q (mkTs g m n)
  | 0, _ => zMN
  | n + 1, hn => zLC (h (m - (n + 1)) (by omega)) (mkTs_all h (n := n) (by omega))
end
section
variable {G : Nat} {ws : List (Key × Nat)} {Ts : List TS} {ok : jd → Bool} {K : ze} {fin : R → Bool}
def zAm (f : Nat → Tm → xM → zD → Key → Bool) (fin : R → Bool) : R → List Nat → Option (List Nat)
  | .ok .normal tm ds h n, t :: r => match f t tm ds h n with
    | true => some r
    | false => none
  | .ok (.exit i) tm ds h n, r => match fin (.ok (.exit i) tm ds h n) with
    | true => some r
    | false => none
  | .ok .ret tm ds h n, r => match fin (.ok .ret tm ds h n) with
    | true => some r
    | false => none
  | .fork a b, r => match zAm f fin a r with
    | some r => zAm f fin b r
    | none => none
  | _, _ => none
theorem zGo {f : Nat → Tm → xM → zD → Key → Bool} (hf : ∀ t tm ds h n, f t tm ds h n = true → wJ G ws Ts ok K t tm ds h n = true) : ∀ {r : R} {l l' : List Nat}, zAm f fin r l = some l' → uX G ws Ts ok K fin r l = some l'
  | .ok .normal tm ds h n, [], _, hc => by cases hc
  | .ok .normal tm ds h n, t :: l, l', hc => by
    unfold zAm at hc
    split at hc
    · rename_i hl
      unfold uX
      rw [hf _ _ _ _ _ hl]
      exact hc
    · cases hc
  | .ok (.exit i) tm ds h n, l, l', hc => hc
  | .ok .ret tm ds h n, l, l', hc => hc
  | .ret .., l, l', hc => by unfold zAm at hc; cases hc
  | .err _, l, l', hc => by unfold zAm at hc; cases hc
  | .fork a b, l, l', hc => by
    unfold zAm at hc
    split at hc
    · rename_i r hr
      unfold uX
      rw [zGo hf hr]
      exact zGo hf hc
    · cases hc
def zB9 (t : Nat) : List (Nat × TS) → Option TS
  | [] => none
  | q :: r => match Nat.beq q.1 t with
    | true => some q.2
    | false => zB9 t r
def zJK (G : Nat) (ws : List (Key × Nat)) (acc : List (Nat × TS)) (ok : jd → Bool) (K : ze) (t : Nat) (tm : Tm) (ds : xM) (h : zD) (n : Key) : Bool := match ds with
  | [] => match zB9 t acc with
    | some T => zA5 t T tm h fun x => ok x && zKM G ws T x.ks x.θ K tm h && Nat.ble (Nat.succ n.ix) 65535
    | none => false
  | _ => false
theorem zOk {acc : List (Nat × TS)} (hacc : ∀ t T, zB9 t acc = some T → nth Ts t = some T) {t : Nat} {tm : Tm} {ds : xM} {h : zD} {n : Key} (hl : zJK G ws acc ok K t tm ds h n = true) : wJ G ws Ts ok K t tm ds h n = true := by
  unfold zJK at hl
  split at hl
  · split at hl
    · rename_i T hT
      unfold wJ
      simp only [hacc t T hT]
      rw [zAY]
      exact hl
    · cases hl
  · cases hl
def zDP (g : Nat → TS) (m : Nat) : List Nat → List (Nat × TS) → (List (Nat × TS) → Bool) → Bool
  | [], acc, k => k acc
  | t :: r, acc, k => match zB9 t acc with
    | some _ => zDP g m r acc k
    | none => Nat.ble (Nat.succ t) m && zMQ (g t) fun T => zDP g m r ((t, T) :: acc) k
theorem zBP {g : Nat → TS} {m : Nat} {k : List (Nat × TS) → Bool} : ∀ {l : List Nat} {acc : List (Nat × TS)}, zDP g m l acc k = true → (∀ t T, zB9 t acc = some T → T = g t ∧ t < m) →
    ∃ acc', (∀ t T, zB9 t acc' = some T → T = g t ∧ t < m) ∧ k acc' = true
  | [], acc, h, ha => ⟨acc, ha, h⟩
  | t :: r, acc, h, ha => by
    unfold zDP at h
    split at h
    · exact zBP h ha
    · rw [Bool.and_eq_true, zAY] at h
      refine zBP h.2 fun t' T hT => ?_
      unfold zB9 at hT
      split at hT
      · rename_i e
        injection hT with hT
        have e := @z7 zW _ _ e
        simp only at e hT
        subst e
        exact ⟨hT.symm, @zP zW _ _ h.1⟩
      · exact ha t' T hT
end
theorem zIj {g : Nat → TS} {m : Nat} : ∀ {n t : Nat}, n ≤ m → t < n → nth (mkTs g m n) t = some (g (m - n + t))
  | 0, t, _, h => by omega
  | n + 1, 0, _, _ => rfl
  | n + 1, t + 1, h1, h2 => by
    show nth (mkTs g m n) t = _
    rw [zIj (n := n) (t := t) (by omega) (by omega)]
    congr 2
    omega
def zPk : List (List Nat × List Nat) → List Nat
  | [] => []
  | q :: r => q.1 ++ zPk r
section
variable {code : FuncId → CFn} {nat : Nats} {fuel : Nat} {p : List Stp} {rs : List CRes} {G : Nat} {ws L : List (Key × Nat)} {ks : List (Key × Bool)} {nx : Option Nx} {cc : CCode} {T : TS}
end
def zCB (f : Lf → List Nat × List Nat → Bool) (ls : List Lf) (tss : List (List Nat × List Nat)) : Nat → Nat → Bool
  | _, 0 => true
  | a, n + 1 => (match nth ls a, nth tss a with
    | some e, some t => forceLf e (fun e => f e t)
    | _, _ => false) && zCB f ls tss (Nat.succ a) n
theorem zCd {f : Lf → List Nat × List Nat → Bool} {ls : List Lf} {tss : List (List Nat × List Nat)} : ∀ {n a : Nat}, zCB f ls tss a n = true → ∀ i, a ≤ i → i < a + n → ∃ e t, nth ls i = some e ∧ f e t = true
  | 0, a, _, i, h1, h2 => by omega
  | n + 1, a, h, i, h1, h2 => by
    unfold zCB at h
    rw [Bool.and_eq_true] at h
    rcases Nat.eq_or_lt_of_le h1 with rfl | h1
    · have h3 := h.1
      split at h3
      · rename_i e t he ht
        rw [forceLf_eq] at h3
        exact ⟨e, t, he, h3⟩
      · cases h3
    · exact zCd h.2 i h1 (by omega)
def zQO (l : List (List Nat × List Nat)) (a n : Nat) : List (List Nat × List Nat) := (l.drop a).take n
section
variable {code : FuncId → CFn} {nat : Nats} {fuel : Nat} {p : List Stp} {rs : List CRes} {G : Nat} {ws L : List (Key × Nat)} {ks : List (Key × Bool)} {nx : Option Nx} {cc : CCode} {T : TS}
def stateYP (P : Program) (code : FuncId → CFn) (nat : Nats) (fuel : Nat) (G : Nat) (ws L : List (Key × Nat)) (ks : List (Key × Bool)) (g : Nat → TS) (m : Nat) (nx : Option Nx) (p : List Stp) (cc : CCode) (rs : List CRes) (T : TS) (tree : LTree) (tss : List (List Nat × List Nat)) (a n : Nat) (s : Nat → Int) (A : Key → Option Value) : Bool :=
  zMQ T fun T => zDP g m (zPk (zQO tss a n)) [] fun acc => match leaves ks tree ⟨T.b, T.f, T.r, [], 1000⟩ with
  | some ls => zCB (fun e t => vI T.objs e.l && kc (zAm (zJK G ws acc (fun t => wu t.θ && qy t.θ L) (e.known A)) (zF5 P code nat fuel G ws L nx p cc rs s (e.known A) t.2) (@zi (linSym s (e.known A)) P (@ev (linSym s (e.known A)) P code nat fuel) (zAN p cc) (zAb T.locs) [] (mkH (mkH .nil T.objs) (zCs e.l)) T.n) t.1)) ls tss a n
  | none => false
def stateY0 (ks : List (Key × Bool)) (L : List (Key × Nat)) (T : TS) (tree : LTree) (N : Nat) : Bool :=
  zMQ T fun T => (match leaves ks tree ⟨T.b, T.f, T.r, [], 1000⟩ with
  | some ls => Nat.beq ls.length N
  | none => false) && (Nat.ble (Nat.succ ks.length) T.b.length && Nat.ble T.b.length 1000 && zBy T.b.length L)
theorem stateYP_good {g : Nat → TS} {m N : Nat} {tree : LTree} {tss : List (List Nat × List Nat)} (h0 : stateY0 ks L T tree N = true)
    (h : ∀ i, i < N → ∃ a n, a ≤ i ∧ i < a + n ∧ ∀ s A, stateYP P code nat fuel G ws L ks g m nx p cc rs T tree tss a n s A = true) : StateGoodM P code nat fuel G ws L (mkTs g m m) nx p cc rs ks T := by
  unfold stateY0 at h0
  rw [zAY, Bool.and_eq_true] at h0
  obtain ⟨h1, h2⟩ := h0
  split at h1
  · rename_i ls hls
    have hN := @z7 zW _ _ h1
    have key : ∀ e ∈ ls, ∀ (s : Nat → Int) (A : Key → Option Value), ∃ t : List Nat × List Nat, vI T.objs e.l = true ∧ ∃ acc : List (Nat × TS), (∀ t T, zB9 t acc = some T → nth (mkTs g m m) t = some T) ∧ kc (zAm (zJK G ws acc (fun t => wu t.θ && qy t.θ L) (e.known A)) (zF5 P code nat fuel G ws L nx p cc rs s (e.known A) t.2) (@zi (linSym s (e.known A)) P (@ev (linSym s (e.known A)) P code nat fuel) (zAN p cc) (zAb T.locs) [] (mkH (mkH .nil T.objs) (zCs e.l)) T.n) t.1) = true := by
      intro e he s A
      obtain ⟨i, hi, hie⟩ := List.mem_iff_getElem.1 he
      obtain ⟨a, n, q1, q2, q3⟩ := h i (by omega)
      have h3 := q3 s A
      unfold stateYP at h3
      rw [zAY] at h3
      obtain ⟨acc, ha, h3⟩ := zBP h3 (fun t T hT => by cases hT)
      simp only [hls] at h3
      obtain ⟨e', t, g1, g2⟩ := zCd h3 i q1 q2
      have : e' = e := by
        rw [@yN zW, List.getElem?_eq_getElem hi] at g1
        injection g1 with g1
        rw [← g1, hie]
      subst this
      rw [Bool.and_eq_true] at g2
      exact ⟨t, g2.1, acc, fun t T hT => by
        obtain ⟨e, hlt⟩ := ha t T hT
        rw [zIj (Nat.le_refl _) hlt, e, Nat.sub_self, Nat.zero_add], g2.2⟩
    refine ⟨tree, ls, hls, h2, zKs fun e he => ⟨?_, fun s A => ?_⟩⟩
    · exact (key e he (fun _ => 0) (fun _ => none)).choose_spec.1
    · obtain ⟨t, _, acc, hacc, hr⟩ := key e he s A
      have hr' : kc (uX G ws (mkTs g m m) (fun t => wu t.θ && qy t.θ L) (e.known A) (zF5 P code nat fuel G ws L nx p cc rs s (e.known A) t.2) (@zi (linSym s (e.known A)) P (@ev (linSym s (e.known A)) P code nat fuel) (zAN p cc) (zAb T.locs) [] (mkH (mkH .nil T.objs) (zCs e.l)) T.n) t.1) = true := by
        unfold kc at hr ⊢
        split at hr
        · rename_i x hx
          rw [zGo (fun t tm ds h n hl => zOk hacc hl) hx]
        · cases hr
      obtain ⟨hs, hp⟩ := jz hr'
      exact ⟨hs, t.2, hp⟩
  · cases h1
end
end
end Go.Ev


