/- A verified evaluator for the model's code: EvSum, EvSumN, EvSumH. -/
import Derived.Test.YtebfhilokhbfgaaGreatDoorEvHint
set_option linter.unusedSectionVars false
set_option linter.unusedVariables false
set_option linter.unusedSimpArgs false
namespace Go.Ev
open Go.RowKit
noncomputable section
variable {P : Program}
structure Po where
  v : CV
  objs : List (Key × CObj)
structure Sm where
  args : List CV
  objs : List (Key × CObj)
  n : Key
  b : List (Int × Int)
  pins : List Key
  posts : List Po
abbrev zDf (l : List (Key × CObj)) : Fam := Heap.fam (mkH .nil l)
def uG (ψ : Psi) (l : List (Key × CObj)) (w : World) (B : Nat) : Prop := (∃ k o p, zDf l k = some o ∧ ψ k = some p ∧ p.blk = B) ∨ w.heap.size ≤ B
structure Lft (O : Nat → Prop) (w w' : World) : Prop where
  os : w'.os = w.os
  tape : w'.tape = w.tape
  output : w'.output = w.output
  size : w.heap.size ≤ w'.heap.size
  block : ∀ B, ¬ O B → w'.heap[B]? = w.heap[B]?
theorem Lft.refl (O : Nat → Prop) (w : World) : Lft O w w := ⟨rfl, rfl, rfl, Nat.le_refl _, fun _ _ => rfl⟩
theorem zHc {S : Sym} {O : Nat → Prop} {ψ ψ' : Psi} {g g' : Fam} {n n' : Key} {w0 w w' : World} (h : Lft O w0 w) (hp : @zh S ψ g n w ψ' g' n' w') (ho : ∀ B, w0.heap.size ≤ B → O B)
    (hm : ∀ k o p, g k = some o → o.isRo = false → ψ k = some p → O p.blk) : Lft O w0 w' := by
  have h1 := @zh.os S _ _ _ _ _ _ _ _ hp
  have h2 := @zh.tape S _ _ _ _ _ _ _ _ hp
  have h3 := @zh.output S _ _ _ _ _ _ _ _ hp
  have h4 := @zh.size S _ _ _ _ _ _ _ _ hp
  have h5 := @zh.frame S _ _ _ _ _ _ _ _ hp
  refine ⟨h1.trans h.os, h2.trans h.tape, h3.trans h.output, Nat.le_trans h.size h4, fun B hB => ?_⟩
  have hlt : B < w0.heap.size := by
    rcases Nat.lt_or_ge B w0.heap.size with q | q
    · exact q
    · exact absurd (ho B q) hB
  rw [h5 B (Nat.lt_of_lt_of_le hlt h.size) fun k o p q1 q2 q3 e => hB (e ▸ hm k o p q1 q2 q3), h.block B hB]
theorem zGz {S : Sym} {O : Nat → Prop} {ψ ψ' : Psi} {g g' : Fam} {n n' : Key} {w0 w w' : World} (h : Lft O w0 w) (hp : @zh S ψ g n w ψ' g' n' w') (ho : ∀ B, w0.heap.size ≤ B → O B)
    (hm : ∀ k o p, g k = some o → o.isRo = false → ψ k = some p → O p.blk) : ∀ k o p, g' k = some o → o.isRo = false → ψ' k = some p → O p.blk := by
  intro k o p q1 q2 q3
  rcases @zh.img S _ _ _ _ _ _ _ _ hp k o p q1 q2 q3 with ⟨k₀, o₀, p₀, a, b, c, d⟩ | hge
  · rw [← d]; exact hm k₀ o₀ p₀ a b c
  · exact ho _ (Nat.le_trans h.size hge)
theorem zAK {ψ : Psi} {l : List (Key × CObj)} {w : World} : ∀ B, w.heap.size ≤ B → uG ψ l w B := fun _ h => .inr h
def uc (p q : Pl) : Prop := q.blk = p.blk ∧ q.off = p.off ∧ q.sz = p.sz
structure zIq (S : Sym) (ψ : Psi) (s : Sm) (w : World) (po : Po) (v : Value) (ψ' : Psi) (w' : World) : Prop where
  pin : ∀ k ∈ s.pins, ∀ p, ψ k = some p → ∃ p', ψ' k = some p' ∧ uc p p'
  rel : @Rel S ψ' (zDf po.objs) w'
  val : @zG S ψ' po.v v
  own : ∀ k o p, zDf po.objs k = some o → ψ' k = some p → o.isRo = false ∧ uG ψ s.objs w p.blk
  lft : Lft (uG ψ s.objs w) w w'
abbrev noA : Key → Option Value := fun _ => none
abbrev kno : zQ := ⟨[], [], [], noA⟩
def SmOk (P : Program) (f : FuncId) (s : Sm) : Prop := ∀ (σ : Nat → Int), yc σ 0 s.b → ∀ (ψ : Psi) (w : World) (args' : Array Value),
  (∀ σ' K', (∀ j, j < s.b.length → σ' j = σ j) → K'.arg = noA → @zK (linSym σ' K') ψ s.args args'.toList ∧ @Rel (linSym σ' K') ψ (zDf s.objs) w) → kJ P ψ → xf ψ s.n →
  yB P f args' w fun v w' => ∃ po ∈ s.posts, ∃ ψ', zIq (linSym σ kno) ψ s w po v ψ' w'
theorem zBp {σs σT : Nat → Int} {Ks KT : zQ} {θ : TH} {objs : List (Key × CObj)} {ks : List Key} {h : Heap} {lo hi G : Nat} {ψ : Psi} {w : World} (hθ : wJ σs σT θ) (hR : @Rel (linSym σs Ks) ψ (Heap.fam h) w)
    (hc : jV (mkRho objs ks) (jJ objs ks) θ h lo hi objs ks = true) :
    @Rel (linSym σT KT) (jp (mkRho objs ks) h [] ψ G 0) (zDf objs) w ∧ zFy (mkRho objs ks) ψ (jp (mkRho objs ks) h [] ψ G 0) ∧
    (∀ k o p, zDf objs k = some o → jp (mkRho objs ks) h [] ψ G 0 k = some p → o.isRo = false ∧ ∃ k0 o0 p0, Heap.fam h k0 = some o0 ∧ o0.isRo = false ∧ ψ k0 = some p0 ∧ p0.blk = p.blk ∧ rhoOf (mkRho objs ks) k = some k0) := by
  have hTot : ∀ k o, Heap.fam h k = some o → ∃ p, ψ k = some p := @Rel.tot (linSym σs Ks) _ _ _ hR
  have hOn : ∀ k o p, Heap.fam h k = some o → ψ k = some p → @yy (linSym σs Ks) ψ w p o := @Rel.on (linSym σs Ks) _ _ _ hR
  have hInj := @Rel.inj (linSym σs Ks) _ _ _ hR
  generalize hρ : mkRho objs ks = ρ at hc ⊢
  generalize hinv : jJ objs ks = inv at hc
  have hobj := je hc
  have hps : ∀ k j p, rhoOf ρ k = some j → ψ j = some p → jp ρ h [] ψ G 0 k = some ⟨p.blk, p.off, p.sz, zF2 (yF j h) p.ck⟩ := by
    intro k j p hk hp
    unfold jp
    rw [hk]
    simp only
    rw [hp]; rfl
  have hPs : zFy ρ ψ (jp ρ h [] ψ G 0) := fun k j p hk hp => ⟨_, hps k j p (kT hk) hp, rfl, rfl, rfl⟩
  have hfam : ∀ k o p, zDf objs k = some o → jp ρ h [] ψ G 0 k = some p → ∃ b o' p0, rhoOf ρ k = some b ∧ rhoOf inv b = some k ∧ Heap.fam h b = some o' ∧ ψ b = some p0 ∧ zDa ρ θ o o' = true ∧
      p = ⟨p0.blk, p0.off, p0.sz, zF2 (some o') p0.ck⟩ := by
    intro k o p hk hp
    rcases k5 hk with ⟨j, hj⟩ | hn
    · obtain ⟨b, o', g1, g2, g3, g4, g5, g6, g7⟩ := hobj j k o hj
      obtain ⟨p0, hp0⟩ := hTot b o' g6
      rw [hps k b p0 g2 hp0, g6] at hp
      injection hp with hp
      exact ⟨b, o', p0, g2, g3, g6, hp0, g7, hp.symm⟩
    · rw [wj] at hn; cases hn
  refine ⟨?_, hPs, ?_⟩
  · refine @Rel.mk (linSym σT KT) _ _ _ ?_ ?_ ?_
    · intro k o p hk hp
      obtain ⟨b, o', p0, g1, g2, g3, g4, g5, rfl⟩ := hfam k o p hk hp
      exact (zI5 (p := p0) (p' := ⟨p0.blk, p0.off, p0.sz, zF2 (some o') p0.ck⟩) hθ hPs g5 rfl rfl rfl rfl (hOn b o' p0 g3 g4)).1
    · intro k o hk
      rcases k5 hk with ⟨j, hj⟩ | hn
      · obtain ⟨b, o', g1, g2, g3, g4, g5, g6, g7⟩ := hobj j k o hj
        obtain ⟨p0, hp0⟩ := hTot b o' g6
        exact ⟨_, hps k b p0 g2 hp0⟩
      · rw [wj] at hn; cases hn
    · intro k₁ k₂ o₁ o₂ p₁ p₂ h1 h2 h3 h4 hr e
      obtain ⟨b1, o1', q1, g1, g2, g3, g4, g5, rfl⟩ := hfam _ _ _ h1 h3
      obtain ⟨b2, o2', q2, f1, f2, f3, f4, f5, rfl⟩ := hfam _ _ _ h2 h4
      have := hInj b1 b2 _ _ _ _ g3 f3 g4 f4 (.inl (zF3 g5)) e
      subst this
      rw [g2] at f2
      injection f2
  · intro k o p hk hp
    obtain ⟨b, o', p0, g1, g2, g3, g4, g5, rfl⟩ := hfam k o p hk hp
    have hro : o.isRo = false ∧ o'.isRo = false := by
      unfold zDa at g5
      split at g5
      · exact ⟨rfl, rfl⟩
      · exact ⟨rfl, rfl⟩
      · exact ⟨rfl, rfl⟩
      · cases g5
    exact ⟨hro.1, b, o', p0, g3, hro.2, g4, rfl, g1⟩
def thK : List (Int × Int) → Nat → TH
  | [], _ => []
  | _ :: r, j => (0, [(j, 1)]) :: thK r (Nat.succ j)
def thS : List (Int × Int) → TH
  | [] => []
  | _ :: r => (0, []) :: thK r 1
theorem zIN : ∀ {b : List (Int × Int)} {i j : Nat} {q : Int × LL}, nth (thK b i) j = some q → q = (0, [(i + j, 1)]) ∧ j < b.length
  | [], i, j, q, h => by cases j <;> cases h
  | x :: r, i, 0, q, h => by
    injection h with h
    exact ⟨h.symm, by simp⟩
  | x :: r, i, j + 1, q, h => by
    have h : nth (thK r (i + 1)) j = some q := h
    obtain ⟨h1, h2⟩ := zIN h
    exact ⟨by rw [h1, show i + 1 + j = i + (j + 1) from by omega], by simp; exact h2⟩
theorem zNA {σ σ0 : Nat → Int} {b : List (Int × Int)} (h0 : ∀ x r, b = x :: r → σ0 0 = 0) (hk : ∀ j, 1 ≤ j → j < b.length → σ j = σ0 j) : wJ σ σ0 (thS b) := by
  intro j q hj
  cases b with
  | nil => cases j <;> cases hj
  | cons x r =>
    cases j with
    | zero =>
      injection hj with hj
      subst hj
      rw [h0 x r rfl]; rfl
    | succ j =>
      have hj : nth (thK r 1) j = some q := hj
      obtain ⟨h1, h2⟩ := zIN hj
      subst h1
      have := hk (j + 1) (by omega) (by simp; exact h2)
      rw [← this, show j + 1 = 1 + j from by omega]
      show _ = (0 : Int) + (1 * σ (1 + j) + 0)
      omega
def zBi (ρ : Heap) : List Key → Bool
  | [] => true
  | k :: r => zAt ρ k k && zBi ρ r
theorem zAV {ρ : Heap} : ∀ {l : List Key}, zBi ρ l = true → ∀ k ∈ l, zAt ρ k k = true
  | [], _, k, h => by cases h
  | x :: r, h, k, hk => by
    unfold zBi at h
    rw [Bool.and_eq_true] at h
    rcases List.mem_cons.1 hk with rfl | hk
    · exact h.1
    · exact zAV h.2 k hk
def zEx (G : Nat) (s : Sm) (po : Po) (v : CV) (h : Heap) (n : Key) (ks : List Key) : Bool :=
  jV (mkRho po.objs ks) (jJ po.objs ks) (thS s.b) h G 65535 po.objs ks && xH (mkRho po.objs ks) (thS s.b) po.v v && zBi (mkRho po.objs ks) s.pins && Nat.ble (Nat.succ n.ix) 65535
def zNx (l : List (Key × CObj)) : Nat := match l with
  | p :: _ => p.1.ix
  | [] => 0
def zIh (s : Sm) (po : Po) (v : CV) (h : Heap) (k : List Key → Bool) : Bool := match zIW h po.objs (hV po.v v ⟨s.pins, [], Nat.add (zNx po.objs) s.pins.length, []⟩) [] with
  | (ks, _) => zA1 ks k
theorem zHj {s : Sm} {po : Po} {v : CV} {h : Heap} {k : List Key → Bool} (hh : zIh s po v h k = true) : ∃ x, k x = true := by
  unfold zIh at hh
  split at hh
  rw [k8] at hh
  exact ⟨_, hh⟩
def zGe (G : Nat) (s : Sm) (v : CV) (h : Heap) (n : Key) : List Po → Bool
  | [] => false
  | po :: r => match zIh s po v h (zEx G s po v h n) with
    | true => true
    | false => zGe G s v h n r
theorem zCD {G : Nat} {s : Sm} {v : CV} {h : Heap} {n : Key} : ∀ {l : List Po}, zGe G s v h n l = true → ∃ po ∈ l, ∃ ks, zEx G s po v h n ks = true
  | [], hh => by cases hh
  | po :: r, hh => by
    unfold zGe at hh
    split at hh
    · rename_i h1
      obtain ⟨ks, hk⟩ := zHj h1
      exact ⟨po, by simp, ks, hk⟩
    · obtain ⟨po', h1, h2⟩ := zCD hh
      exact ⟨po', by simp [h1], h2⟩
def qg (G : Nat) (s : Sm) : R → Bool
  | .ret v h n => zGe G s v h n s.posts
  | .fork a b => qg G s a && qg G s b
  | _ => false
theorem jA {G : Nat} {s : Sm} : ∀ {r : R}, qg G s r = true → zM r
  | .ok .., h => by cases h
  | .ret v hh n, h => by
    obtain ⟨po, _, ks, hk⟩ := zCD (show zGe G s v hh n s.posts = true from h)
    unfold zEx at hk
    rw [Bool.and_eq_true] at hk
    exact @zH zN _ _ hk.2
  | .err _, h => by cases h
  | .fork a b, h => by
    have h : (qg G s a && qg G s b) = true := h
    rw [Bool.and_eq_true] at h
    exact ⟨jA h.1, jA h.2⟩
theorem vE {S : Sym} {G : Nat} {s : Sm} {ψ₀ : Psi} {g₀ : Fam} {n₀ : Key} {w₀ : World} {v : Value} {w : World} : ∀ {r : R}, qg G s r = true → @zX S ψ₀ g₀ n₀ w₀ r v w →
    ∃ (cv : CV) (h : Heap) (n : Key) (ψ : Psi), @zh S ψ₀ g₀ n₀ w₀ ψ (Heap.fam h) n w ∧ @zG S ψ cv v ∧ ∃ po ∈ s.posts, ∃ ks, zEx G s po cv h n ks = true
  | .ok .., h, _ => by cases h
  | .ret cv hh n, h, ⟨ψ, h1, h2⟩ => ⟨cv, hh, n, ψ, h1, h2, zCD h⟩
  | .err _, h, _ => by cases h
  | .fork a b, h, ho => by
    have h : (qg G s a && qg G s b) = true := h
    rw [Bool.and_eq_true] at h
    rcases ho with ho | ho
    · exact vE h.1 ho
    · exact vE h.2 ho
theorem zOQ {σ σ0 : Nat → Int} {K K0 : zQ} {G : Nat} {s : Sm} {po : Po} {ψ0 ψ ψ' : Psi} {g : Fam} {n n' : Key} {w0 w w' : World} {v : Value} {cv : CV} {h : Heap} {ks : List Key}
    (h0 : ∀ x r, s.b = x :: r → σ0 0 = 0) (hk : ∀ j, 1 ≤ j → j < s.b.length → σ j = σ0 j)
    (hpin : ∀ k ∈ s.pins, ∀ p0, ψ0 k = some p0 → ∃ p, ψ k = some p ∧ uc p0 p) (hl : Lft (uG ψ0 s.objs w0) w0 w)
    (hm : ∀ k o p, g k = some o → o.isRo = false → ψ k = some p → uG ψ0 s.objs w0 p.blk)
    (hp : @zh (linSym σ K) ψ g n w ψ' (Heap.fam h) n' w') (hv : @zG (linSym σ K) ψ' cv v) (hc : zEx G s po cv h n' ks = true) : ∃ ψT, zIq (linSym σ0 K0) ψ0 s w0 po v ψT w' := by
  unfold zEx at hc
  simp only [Bool.and_eq_true] at hc
  obtain ⟨⟨⟨c1, c2⟩, c3⟩, _⟩ := hc
  have hθ := zNA h0 hk
  obtain ⟨r1, r2, r3⟩ := zBp (G := G) (KT := K0) hθ (@zh.rel (linSym σ K) _ _ _ _ _ _ _ _ hp) c1
  refine ⟨_, ⟨fun k hk p hp0 => ?_, r1, wO hθ r2 po.v cv c2 hv, fun k o p q1 q2 => ?_, zHc hl hp zAK hm⟩⟩
  · obtain ⟨p1, e1, e2⟩ := hpin k hk p hp0
    obtain ⟨p', e3, e4, e5, e6⟩ := r2 k k p1 (zAV c3 k hk) (@zh.ext (linSym σ K) _ _ _ _ _ _ _ _ hp k p1 e1)
    exact ⟨p', e3, e4.trans e2.1, e5.trans e2.2.1, e6.trans e2.2.2⟩
  · obtain ⟨f1, k0, o0, p0, f2, f3, f4, f5, _⟩ := r3 k o p q1 q2
    refine ⟨f1, ?_⟩
    rw [← f5]
    exact zGz hl hp zAK hm k0 o0 p0 f2 f3 f4
theorem zFK {f : FuncId} {args : Array Value} {w : World} {K K' : Value → World → Prop} (h : yB P f args w K) (hk : ∀ v w', K v w' → K' v w') : yB P f args w K' := by
  unfold yB at h ⊢
  split at h
  · exact Calls.mono h fun e w'' ⟨v, e1, h1⟩ => ⟨v, e1, hk _ _ h1⟩
  · exact hk _ _ h
  · exact h.elim
def zLE : List (Int × Int) → Bool
  | [] => false
  | q :: _ => ym q.1 0 && ym q.2 0
theorem zLF {b : List (Int × Int)} (h : zLE b = true) {σ : Nat → Int} (hb : yc σ 0 b) : 1 ≤ b.length ∧ σ 0 = 0 := by
  cases b with
  | nil => cases h
  | cons q r =>
    unfold zLE at h
    rw [Bool.and_eq_true, @zZ zN, @zZ zN, decide_eq_true_eq, decide_eq_true_eq] at h
    have := hb.1
    rw [h.1, h.2] at this
    exact ⟨by simp, by omega⟩
section
variable {code : FuncId → CFn} {nat : Nats} {fuel : Nat} {f : FuncId} {fn : Func} {G : Nat} {s : Sm}
def okB (b : List (Int × Int)) : Bool := zLE b && Nat.ble b.length 1000
end
def zJq (θ : TH) : Nat → Nat → Bool
  | _, 0 => true
  | j, m + 1 => (match nth θ j with
    | some u => ym u.1 0 && zBW u.2 [(j, 1)]
    | none => false) && zJq θ (Nat.succ j) m
def zLA (θ : TH) (b : List (Int × Int)) : Bool := zJq θ 1 (Nat.sub b.length 1)
theorem zGX {θ : TH} : ∀ {m j : Nat}, zJq θ j m = true → ∀ i, j ≤ i → i < j + m → nth θ i = some (0, [(i, 1)])
  | 0, j, _, i, h1, h2 => by omega
  | m + 1, j, h, i, h1, h2 => by
    unfold zJq at h
    rw [Bool.and_eq_true] at h
    by_cases e : i = j
    · subst e
      have h3 := h.1
      split at h3
      · rename_i u hu
        rw [Bool.and_eq_true, @zZ zN, decide_eq_true_eq] at h3
        rw [hu]
        obtain ⟨a, b⟩ := u
        simp only at h3
        rw [h3.1, @jX zN _ _ h3.2]
      · cases h3
    · exact zGX h.2 i (by omega) (by omega)
structure zJo (P : Program) (F N : Nat) (s : Sm) (σ0 : Nat → Int) (ψ0 : Psi) (w0 : World) (T : TS) (σ : Nat → Int) (ψ : Psi) (a : Act) (w : World) : Prop where
  bnd : yc σ 0 T.b
  fct : qK σ T.f
  rul : xL σ T.r
  keep : ∀ j, 1 ≤ j → j < s.b.length → σ j = σ0 j
  st : ∀ σ' K', (∀ j, j < T.b.length → σ' j = σ j) → K'.arg = noA → @St (linSym σ' K') P F N ψ (wF T.locs) [] (mkH .nil T.objs) T.n a w
  own : ∀ k o p, zDf T.objs k = some o → ψ k = some p → o.isRo = false ∧ uG ψ0 s.objs w0 p.blk
  lft : Lft (uG ψ0 s.objs w0) w0 w
  pin : ∀ k ∈ s.pins, ∀ p0, ψ0 k = some p0 → ∃ p, ψ k = some p ∧ uc p0 p
section
variable {code : FuncId → CFn} {nat : Nats} {fuel : Nat} {fn : Func} {c b : Code} {p : List Stp} {rs : List CRes} {G : Nat} {Ts : List TS} {bound : Int} {s : Sm} {F N : Nat} {σ0 : Nat → Int} {ψ0 : Psi} {w0 : World}
theorem zJt {σs : Nat → Int} {Ks : zQ} (hK : KnownOk σs Ks) (hKA : Ks.arg = noA) {θ : TH} {T : TS} {ks : List Key} {ψ₀ ψ : Psi} {g₀ : Fam} {n₀ : Key} {w₀ : World} {tm : Tm} {h : Heap} {n : Key} {a : Act} {w : World}
    (hst : @St (linSym σs Ks) P F N ψ tm [] h n a w) (hp : @zh (linSym σs Ks) ψ₀ g₀ n₀ w₀ ψ (Heap.fam h) n w) (hG : P.globals.size ≤ G) (hc : zG1 G [] T ks θ Ks tm h = true)
    (h0 : ∃ q, nth θ 0 = some q) (hkeep : zLA θ s.b = true) (hpins : zBi (mkRho T.objs ks) s.pins = true) (hkσ : ∀ j, 1 ≤ j → j < s.b.length → σs j = σ0 j)
    (hl : Lft (uG ψ0 s.objs w0) w0 w₀) (hm : ∀ k o p, g₀ k = some o → o.isRo = false → ψ₀ k = some p → uG ψ0 s.objs w0 p.blk)
    (hpin : ∀ k ∈ s.pins, ∀ p0, ψ0 k = some p0 → ∃ p, ψ₀ k = some p ∧ uc p0 p) :
    ∃ σ ψT, zJo P F N s σ0 ψ0 w0 T σ ψT a w ∧ ∀ q, nth θ 0 = some q → σ 0 = evQ σs q := by
  obtain ⟨σ, hσ⟩ : ∃ σ : Nat → Int, ∀ j, σ j = match nth θ j with | some q => evQ σs q | none => 0 := ⟨_, fun _ => rfl⟩
  have hth : ∀ j q, nth θ j = some q → σ j = evQ σs q := fun j q hj => by rw [hσ, hj]
  obtain ⟨q0, hq0⟩ := h0
  obtain ⟨ψT, c1, c2, _, c4⟩ := zF1 (wins := []) hst hG (fun w hw => by cases hw) hc (evQ σs q0) (fun q hq => by rw [hq0] at hq; injection hq with hq; rw [hq]) ⟨q0, hq0⟩
  have hc' := hc
  unfold zG1 at hc'
  simp only [Bool.and_eq_true] at hc'
  obtain ⟨⟨⟨⟨⟨⟨_, _⟩, c6⟩, c7⟩, _⟩, _⟩, c10⟩ := hc'
  obtain ⟨hlenb, hbd⟩ := zE8 hK (σT := σ) (k := 0) c6 (fun j q hj => by rw [Nat.zero_add]; exact hth j q hj)
  refine ⟨σ, ψT, ⟨hbd, zE5 hK (fun j q hj => hth j q hj) c7, vK (fun j q hj => hth j q hj) hK.rules c10, fun j h1 h2 => ?_, fun σ' K' hag hK' => ?_, fun k o p h1 h2 => ?_, zHc hl hp zAK hm, fun k hk p0 hp0 => ?_⟩, fun q hq => hth 0 q hq⟩
  · rw [hth j _ (zGX hkeep j h1 (by show j < 1 + (s.b.length - 1); omega)), ← hkσ j h1 h2]
    show (0 : Int) + (1 * σs j + 0) = _
    omega
  · refine c1 σ' K' (fun j q hj => ?_) (by rw [hK', hKA])
    have hlt : j < T.b.length := by
      rw [hlenb]
      rw [@yH zN] at hj
      exact (List.getElem?_eq_some_iff.1 hj).1
    rw [hag j hlt]
    exact hth j q hj
  · obtain ⟨g1, k0, o0, p0, g2, g3, g4, g5⟩ := c2 k o p h1 h2
    refine ⟨g1, ?_⟩
    rw [← g5]
    exact zGz hl hp zAK hm k0 o0 p0 g2 g3 g4
  · obtain ⟨p1, e1, e2⟩ := hpin k hk p0 hp0
    obtain ⟨p', e3, e4, e5, e6⟩ := c4 k k p1 (zAV hpins k hk) (@zh.ext (linSym σs Ks) _ _ _ _ _ _ _ _ hp k p1 e1)
    exact ⟨p', e3, e4.trans e2.1, e5.trans e2.2.1, e6.trans e2.2.2⟩
def okP (Ts : List TS) (s : Sm) (one : Bool) (t : jF) : Bool := (match one with
  | true => kU t.θ
  | false => wU t.θ) && zLA t.θ s.b && (match nth Ts t.T with
  | some T => zBi (mkRho T.objs t.ks) s.pins
  | none => false)
def zLV (P : Program) (code : FuncId → CFn) (nat : Nats) (fuel G : Nat) (s : Sm) (p : List Stp) (cc : CCode) (rs : List CRes) (S : Sym) (r : R) : Bool :=
  qg G s (yK false (@ev S P code nat fuel) rs (@xW S P (@ev S P code nat fuel) p cc r))
def zIO (P : Program) (code : FuncId → CFn) (nat : Nats) (fuel G : Nat) (s : Sm) (Ts : List TS) (p : List Stp) (cc : CCode) (rs : List CRes) (T : TS) (σ : Nat → Int) (K : zQ) (hs : List jF) : Bool :=
  qI (qZ G [] Ts (okP Ts s true) K (zLV P code nat fuel G s p cc rs (linSym σ K)) (@ze (linSym σ K) P (@ev (linSym σ K) P code nat fuel) (zAJ p cc) (wF T.locs) [] (mkH .nil T.objs) T.n) hs)
def zHG (P : Program) (code : FuncId → CFn) (nat : Nats) (fuel G : Nat) (s : Sm) (Ts : List TS) (p : List Stp) (cc : CCode) (σ : Nat → Int) (K : zQ) (hs : List jF) : Bool :=
  qI (qZ G [] Ts (okP Ts s false) K (fun _ => false) (@zAN (linSym σ K) P (@ev (linSym σ K) P code nat fuel) p cc (xR s.args 0 .nil) [] (mkH .nil s.objs) s.n) hs)
def zFC (P : Program) (code : FuncId → CFn) (nat : Nats) (fuel G : Nat) (s : Sm) (Ts : List TS) (p : List Stp) (cc : CCode) (rs : List CRes) : Prop :=
  ∀ t T, nth Ts t = some T → ∀ σ, yc σ 0 T.b → qK σ T.f → xL σ T.r → ∃ σ' K' hs, (∀ j, j < T.b.length → σ' j = σ j) ∧ K'.arg = noA ∧ KnownOk σ' K' ∧ s.b.length ≤ T.b.length ∧ zIO P code nat fuel G s Ts p cc rs T σ' K' hs = true
abbrev QS (P : Program) (fn : Func) (s : Sm) (σ0 : Nat → Int) (ψ0 : Psi) (w0 : World) : Exit → Act → World → Prop :=
  bodyPostD P fn fun e w => ∃ v, e = .returned v ∧ ∃ po ∈ s.posts, ∃ ψ', zIq (linSym σ0 kno) ψ0 s w0 po v ψ' w
theorem zIF {σ : Nat → Int} {K : zQ} (hK : KnownOk σ K) (hm : P.follows .mixedOrders = true) (hcode : CodeOk P code) (hnat : ∀ σ K, KnownOk σ K → @NatsOk (linSym σ K) P nat) {cc : CCode} : ∀ r, zLV P code nat fuel G s p cc rs (linSym σ K) r = true → zM r := by
  letI S : Sym := linSym σ K
  haveI hS : SymFact P := yI hK
  have hcall : yR P (ev P code nat fuel) := qe (fun call hcall F N => zu hm hcall) hcode (hnat _ _ hK) fuel
  intro r h
  have h : qg G s (yK false (ev P code nat fuel) rs (xW P (ev P code nat fuel) p cc r)) = true := h
  exact xN hcall.above p cc (yO hcall.above false rs (jA h))
theorem zLs {σ : Nat → Int} {K : zQ} (hK : KnownOk σ K) (hm : P.follows .mixedOrders = true) (hcode : CodeOk P code) (hnat : ∀ σ K, KnownOk σ K → @NatsOk (linSym σ K) P nat) (hsub : k6 p c = some b) (hn : zT c = true)
    (hrs : yW (yo P F N) fn.results.toList = some rs) {ψ₀ : Psi} {g₀ : Fam} {n₀ : Key} {w₀ : World} {r : R} {e : Exit} {a : Act} {w : World}
    (ho : @yP (linSym σ K) P F N ψ₀ g₀ n₀ w₀ r e a w) (hf : zLV P code nat fuel G s p (zE P F N c) rs (linSym σ K) r = true)
    (h0 : ∀ x r, s.b = x :: r → σ0 0 = 0) (hkσ : ∀ j, 1 ≤ j → j < s.b.length → σ j = σ0 j)
    (hl : Lft (uG ψ0 s.objs w0) w0 w₀) (hm0 : ∀ k o p, g₀ k = some o → o.isRo = false → ψ₀ k = some p → uG ψ0 s.objs w0 p.blk)
    (hpin : ∀ k ∈ s.pins, ∀ p0, ψ0 k = some p0 → ∃ p, ψ₀ k = some p ∧ uc p0 p) : QH P p c (QS P fn s σ0 ψ0 w0) e a w := by
  letI S : Sym := linSym σ K
  haveI hS : SymFact P := yI hK
  have hcall : yR P (ev P code nat fuel) := qe (fun call hcall F N => zu hm hcall) hcode (hnat _ _ hK) fuel
  have hdraw : xD P F N (ev P code nat fuel) := zu hm hcall
  have hf : qg G s (yK false (ev P code nat fuel) rs (xW P (ev P code nat fuel) p (zE P F N c) r)) = true := hf
  have hc := jA hf
  have hc2 := yO hcall.above false rs hc
  refine kC hcall hdraw p c hsub hn ho hc2 fun e a w ho => ?_
  refine qU false rs hc ho fun tm ds h' n' ψ' q1 q2 q3 q4 q5 => ?_
  have hl' := vk hcall hrs q2 q4
  have : Leaves P fn a.tmps (fun e w => ∃ v, e = .returned v ∧ ∃ po ∈ s.posts, ∃ ψ', zIq (linSym σ0 kno) ψ0 s w0 po v ψ' w) a.defers .returning w := by
    refine xP (fun e w'' ⟨v, he, hr⟩ => ?_) _ _ _ hl'
    obtain ⟨cv, h, n, ψ2, p1, p2, po, hpo, ks, hc⟩ := vE hf (q5 _ _ (zX.trans q3 hr))
    obtain ⟨ψT, hT⟩ := zOQ (K0 := kno) h0 hkσ hpin hl hm0 p1 p2 hc
    exact ⟨v, he, po, hpo, ψT, hT⟩
  rcases q1 with rfl | rfl
  · exact this
  · exact this
theorem vq : ∀ {p : List Stp} {c b : Code}, k6 p c = some b → zT c = true → zT b = true
  | [], c, b, hs, hn => by
    cases c <;> try (cases hs; done)
    injection hs with hs; subst hs
    simpa [zT] using hn
  | .l :: p, c, b, hs, hn => by
    cases c <;> try (cases hs; done)
    rename_i x y
    have hn : zT x = true ∧ zT y = true := by simpa [zT] using hn
    exact vq (p := p) hs hn.1
  | .r :: p, c, b, hs, hn => by
    cases c <;> try (cases hs; done)
    rename_i x y
    have hn : zT x = true ∧ zT y = true := by simpa [zT] using hn
    exact vq (p := p) hs hn.2
  | .b :: p, c, b, hs, hn => by
    cases c <;> try (cases hs; done)
    exact vq (p := p) hs (by simpa [zT] using hn)
theorem zHL (hm : P.follows .mixedOrders = true) (hcode : CodeOk P code) (hnat : ∀ σ K, KnownOk σ K → @NatsOk (linSym σ K) P nat) (hG : P.globals.size ≤ G) (hsub : k6 p c = some b) (hn : zT c = true)
    (hrs : yW (yo P F N) fn.results.toList = some rs) (hbd : boundIs bound Ts = true) (h00 : ∀ x r, s.b = x :: r → σ0 0 = 0)
    (hgood : zFC P code nat fuel G s Ts p (zE P F N c) rs) : ∀ (m : Nat) (t : Nat) (T : TS) (σ : Nat → Int) (ψ : Psi) (a : Act) (w : World), nth Ts t = some T → zJo P F N s σ0 ψ0 w0 T σ ψ a w → (bound - σ 0).toNat ≤ m →
    jq P b (QH P p c (QS P fn s σ0 ψ0 w0)) a w := by
  have hnb : zT b = true := vq hsub hn
  have step : ∀ (t : Nat) (T : TS) (σ : Nat → Int) (ψ : Psi) (a : Act) (w : World), nth Ts t = some T → zJo P F N s σ0 ψ0 w0 T σ ψ a w →
      (∀ (t' : Nat) (T' : TS) (σ' : Nat → Int) (ψ' : Psi) (a' : Act) (w' : World), nth Ts t' = some T' → zJo P F N s σ0 ψ0 w0 T' σ' ψ' a' w' → (bound - σ' 0).toNat < (bound - σ 0).toNat → jq P b (QH P p c (QS P fn s σ0 ψ0 w0)) a' w') →
      jq P b (QH P p c (QS P fn s σ0 ψ0 w0)) a w := by
    intro t T σ ψ a w hT hi hrec
    obtain ⟨σ', K', hs, hag, hKA, hK, hlen, hpass⟩ := hgood t T hT σ hi.bnd hi.fct hi.rul
    have hst := hi.st σ' K' hag hKA
    obtain ⟨q1, r1, hb1, _⟩ := jo hbd hT
    have hag0 : σ' 0 = σ 0 := hag 0 (by rw [hb1]; simp)
    have hkσ : ∀ j, 1 ≤ j → j < s.b.length → σ' j = σ0 j := fun j h1 h2 => by rw [hag j (by omega)]; exact hi.keep j h1 h2
    have hm0 : ∀ k o p, zDf T.objs k = some o → o.isRo = false → ψ k = some p → uG ψ0 s.objs w0 p.blk := fun k o p h1 _ h3 => (hi.own k o p h1 h3).2
    letI S : Sym := linSym σ' K'
    haveI hS : SymFact P := yI hK
    have hcall : yR P (ev P code nat fuel) := qe (fun call hcall F N => zu hm hcall) hcode (hnat _ _ hK) fuel
    have hdraw : xD P F N (ev P code nat fuel) := zu hm hcall
    unfold zIO at hpass
    rw [@k4 S P F N p c b hsub] at hpass
    generalize hres : ze P (ev P code nat fuel) (zE P F N b) (wF T.locs) [] (mkH .nil T.objs) T.n = r at hpass
    obtain ⟨hs', hchk⟩ : ∃ x, qZ G [] Ts (okP Ts s true) K' (zLV P code nat fuel G s p (zE P F N c) rs (linSym σ' K')) r hs = some x := by
      unfold qI at hpass
      split at hpass
      · rename_i x hx; exact ⟨x, hx⟩
      · cases hpass
    have hclean : zM r := xn (zIF hK hm hcode hnat) hchk
    have hsim := xz hcall hdraw b hnb hst (by rw [hres]; exact hclean)
    rw [hres] at hsim
    refine zAP (wp_mono hsim fun e a' w' ho => ?_)
    rcases jt hchk ho with ⟨rfl, tm, h, n, ψ', t', T', h1, h2, h3, h4, h5⟩ | ⟨hne, r', h1, h2⟩
    · unfold okP at h4
      rw [Bool.and_eq_true, Bool.and_eq_true, h3] at h4
      obtain ⟨⟨h4, h4k⟩, h4p⟩ := h4
      have h4 : kU t'.θ = true := h4
      obtain ⟨q0, θr, hθ, e1, e2⟩ : ∃ q0 θr, t'.θ = q0 :: θr ∧ q0.1 = 1 ∧ q0.2 = [(0, 1)] := by
        unfold kU at h4
        split at h4
        · rename_i q θr hq
          rw [Bool.and_eq_true, @zZ zN, decide_eq_true_eq] at h4
          exact ⟨q, θr, hq, h4.1, @jX zN _ _ h4.2⟩
        · cases h4
      obtain ⟨σ'', ψT, hinv, h0⟩ := zJt hK hKA h1 h2 hG h5 ⟨q0, by rw [hθ]; rfl⟩ h4k h4p hkσ hi.lft hm0 hi.pin
      have hσ : σ'' 0 = σ 0 + 1 := by
        rw [h0 q0 (by rw [hθ]; rfl)]
        unfold evQ
        rw [e1, e2]
        show (1 : Int) + (1 * σ' 0 + 0) = _
        rw [hag0]; omega
      obtain ⟨q2, r2, hb2, hle⟩ := jo hbd h3
      have hbb := hinv.bnd
      rw [hb2] at hbb
      have := hbb.1.2
      exact hrec t'.T T' σ'' ψT a' w' h3 hinv (by omega)
    · have := zLs hK hm hcode hnat hsub hn hrs h1 h2 h00 hkσ hi.lft hm0 hi.pin
      cases e <;> first | exact absurd rfl hne | exact this
  intro m
  induction m with
  | zero =>
    intro t T σ ψ a w hT hi hm0
    exact step t T σ ψ a w hT hi fun t' T' σ' ψ' a' w' hT' hi' hlt => by omega
  | succ m ih =>
    intro t T σ ψ a w hT hi hm0
    exact step t T σ ψ a w hT hi fun t' T' σ' ψ' a' w' hT' hi' hlt => ih t' T' σ' ψ' a' w' hT' hi' (by omega)
theorem zJH {f : FuncId} {cc : CCode} {tree : LTree} {ls : List Lf} (hm : P.follows .mixedOrders = true) (hcode : CodeOk P code) (hnat : ∀ σ K, KnownOk σ K → @NatsOk (linSym σ K) P nat)
    (hf : P.funcs[f]? = some fn) (hname : (fn.name == "runtime.NumGoroutine") = false) (hb : fn.body = some c) (hcf : compFn P f = .mk cc rs) (hsub : k6 p c = some b) (hG : P.globals.size ≤ G) (hbd : boundIs bound Ts = true)
    (hls : leaves [] tree ⟨s.b, [], [], [], 1000⟩ = some ls) (hok : okB s.b = true)
    (hrun : AllG (fun e => ∀ (σ : Nat → Int), ∃ hs, zHG P code nat fuel G s Ts p cc σ (e.known noA) hs = true) ls)
    (hgood : zFC P code nat fuel G s Ts p cc rs) : SmOk P f s := by
  obtain ⟨hrs, hnr, rfl⟩ := zCQ hf hb hcf
  intro σ hbs ψ w args' hrel hglob hfr
  unfold okB at hok
  rw [Bool.and_eq_true] at hok
  obtain ⟨hlen, hz⟩ := zLF hok.1 hbs
  obtain ⟨e, he, σ', r1, r2⟩ := yQ (wins := []) (w0 := w) (i := σ 0) tree _ σ hls ⟨hbs, trivial, trivial, fun q hq => by cases hq⟩ ⟨fun j k hj => by cases j <;> cases hj⟩ rfl (by show 0 < s.b.length; omega) (@zH zN _ _ hok.2) (Nat.le_refl _)
  have hag : ∀ j, j < s.b.length → σ' j = σ j := fun j hj => r2 j (.inl hj)
  obtain ⟨hs, hrun⟩ := vM hrun e he σ'
  have hK : KnownOk σ' (e.known noA) := r1.known noA
  obtain ⟨q1, q2⟩ := hrel σ' (e.known noA) hag rfl
  letI S : Sym := linSym σ' (e.known noA)
  haveI hS : SymFact P := yI hK
  have hcall : yR P (ev P code nat fuel) := qe (fun call hcall F N => zu hm hcall) hcode (hnat _ _ hK) fuel
  have hdraw : ∀ F N, xD P F N (ev P code nat fuel) := fun F N => zu hm hcall
  have hst : St P (yU fn c) fn.ntmps ψ (xR s.args 0 .nil) [] (mkH .nil s.objs) s.n { tmps := args' ++ Array.replicate (fn.ntmps - args'.size) undef, defers := [] } w :=
    vG hcall hdraw q1 hglob q2 hfr
  unfold zHG at hrun
  generalize hres : zAN P (ev P code nat fuel) p (zE P (yU fn c) fn.ntmps c) (xR s.args 0 .nil) [] (mkH .nil s.objs) s.n = r at hrun
  obtain ⟨hs', hchk⟩ : ∃ x, qZ G [] Ts (okP Ts s false) (e.known noA) (fun _ => false) r hs = some x := by
    unfold qI at hrun
    split at hrun
    · rename_i x hx; exact ⟨x, hx⟩
    · cases hrun
  have hclean : zM r := xn (fun _ h => by cases h) hchk
  unfold yB
  rw [run_callFunc_enter hf hname hb]
  show Calls P f args' w fun e w'' => ∃ v, e = .returned v ∧ ∃ po ∈ s.posts, ∃ ψ', zIq (linSym σ kno) ψ s w po v ψ' w''
  refine calls_of_wp_defers hf hb (uZ hcall (hdraw _ _) p c hsub hnr hst (by rw [hres]; exact hclean) fun e1 a w' ho => ?_)
  rw [hres] at ho
  have hm0 : ∀ k o p, zDf s.objs k = some o → o.isRo = false → ψ k = some p → uG ψ s.objs w p.blk := fun k o p g1 _ g3 => .inl ⟨k, o, p, g1, g3, rfl⟩
  rcases jt hchk ho with ⟨rfl, tm, h, n', ψ', t', T', h1, h2, h3, h4, h5⟩ | ⟨_, r', _, h2⟩
  · unfold okP at h4
    rw [Bool.and_eq_true, Bool.and_eq_true, h3] at h4
    obtain ⟨⟨h4, h4k⟩, h4p⟩ := h4
    have h4 : wU t'.θ = true := h4
    obtain ⟨q0, θr, hθ⟩ : ∃ q0 θr, t'.θ = q0 :: θr := by
      unfold wU at h4
      split at h4
      · rename_i q θr hq; exact ⟨q, θr, hq⟩
      · cases h4
    obtain ⟨σ'', ψT, hinv, _⟩ := zJt (s := s) (σ0 := σ) (ψ0 := ψ) (w0 := w) hK rfl h1 h2 hG h5 ⟨q0, by rw [hθ]; rfl⟩ h4k h4p (fun j _ hj => hag j hj) (Lft.refl _ _) hm0 (fun k hk p0 h0 => ⟨p0, h0, rfl, rfl, rfl⟩)
    exact ⟨rfl, zHL hm hcode hnat hG hsub hnr hrs hbd (fun _ _ _ => hz) hgood _ _ _ _ _ _ _ h3 hinv (Nat.le_refl _)⟩
  · cases h2
end
end
end Go.Ev

namespace Go.Ev
open Go.RowKit
noncomputable section
variable {P : Program}
mutual
def y5 (ρ : Heap) (θ : TH) : CV → CV
  | .sym e => match zIy θ e.l with
    | some s => mkS e.k (e.c + s.1) s.2
    | none => .any
  | .ptr k o => match rhoOf ρ k with
    | some j => .ptr j o
    | none => .any
  | .sl k o l c e x => match rhoOf ρ k with
    | some j => .sl j o l c e x
    | none => .any
  | .map k => match rhoOf ρ k with
    | some j => .map j
    | none => .any
  | .func f a b => .func f (xw ρ θ a) (xw ρ θ b)
  | .iface t v => .iface t (y5 ρ θ v)
  | .agg l => .agg (xw ρ θ l)
  | .tup l => .tup (xw ρ θ l)
  | .sst l => .sst (xw ρ θ l)
  | .win .. => .any
  | .bool b => .bool b
  | .nat n => .nat n
  | .int k n => .int k n
  | .anyi k => .anyi k
  | .str s => .str s
  | .nilptr => .nilptr
  | .nilsl => .nilsl
  | .nilmap => .nilmap
  | .nilfunc => .nilfunc
  | .niliface => .niliface
  | .big n => .big n
  | .any => .any
def xw (ρ : Heap) (θ : TH) : List CV → List CV
  | [] => []
  | c :: l => y5 ρ θ c :: xw ρ θ l
end
def zGR (ρ : Heap) (ψs ψT : Psi) : Prop := ∀ k j p, rhoOf ρ k = some j → ψs k = some p → ∃ p', ψT j = some p' ∧ uc p p'
section
variable {σ σT : Nat → Int} {K KT : zQ} {θ : TH} {ρ : Heap} {ψs ψT : Psi}
mutual
theorem wB (hθ : wJ σ σT θ) (hψ : zGR ρ ψs ψT) : ∀ (c : CV) {v : Value}, @zG (linSym σT KT) ψs c v → @zG (linSym σ K) ψT (y5 ρ θ c) v
  | .sym e, v, hv => by
    rw [@yX (linSym σT KT)] at hv
    have hv : v = .int e.k (evE σT e) := hv
    unfold y5
    split
    · rename_i s hs
      have h2 := vn hθ hs
      rw [hv]
      unfold evE
      rw [h2, ← Int.add_assoc]
      exact um _ _ _
    · exact @xy (linSym σ K) _ _
  | .ptr k o, v, hv => by
    rw [@zb (linSym σT KT)] at hv
    obtain ⟨p, hp, rfl⟩ := hv
    unfold y5
    split
    · rename_i j hj
      obtain ⟨p', h1, h2, h3, h4⟩ := hψ k j p hj hp
      exact (@zb (linSym σ K) _ _ _ _).2 ⟨p', h1, by rw [h2, h3]⟩
    · exact @xy (linSym σ K) _ _
  | .sl k o l c e x, v, hv => by
    rw [@zl (linSym σT KT)] at hv
    obtain ⟨p, y, cap', hp, rfl, h1, h2, h3, h4⟩ := hv
    unfold y5
    split
    · rename_i j hj
      obtain ⟨p', g1, g2, g3, g4⟩ := hψ k j p hj hp
      exact (@zl (linSym σ K) _ _ _ _ _ _ _ _).2 ⟨p', y, cap', g1, by rw [g2], h1, h2, h3, by rw [g3, g4]; exact h4⟩
    · exact @xy (linSym σ K) _ _
  | .map k, v, hv => by
    rw [@yS (linSym σT KT)] at hv
    obtain ⟨p, hp, rfl⟩ := hv
    unfold y5
    split
    · rename_i j hj
      obtain ⟨p', g1, g2, g3, g4⟩ := hψ k j p hj hp
      exact (@yS (linSym σ K) _ _ _).2 ⟨p', g1, by rw [g2]⟩
    · exact @xy (linSym σ K) _ _
  | .func f a b, v, hv => by
    rw [@yf (linSym σT KT)] at hv
    obtain ⟨a', b', rfl, g1, g2⟩ := hv
    unfold y5
    exact (@yf (linSym σ K) _ _ _ _ _).2 ⟨a', b', rfl, jY hθ hψ a g1, jY hθ hψ b g2⟩
  | .iface t x, v, hv => by
    rw [@zq (linSym σT KT)] at hv
    obtain ⟨y, rfl, g⟩ := hv
    unfold y5
    exact (@zq (linSym σ K) _ _ _ _).2 ⟨y, rfl, wB hθ hψ x g⟩
  | .agg a, v, hv => by
    rw [@yL (linSym σT KT)] at hv
    obtain ⟨a', rfl, g⟩ := hv
    unfold y5
    exact (@yL (linSym σ K) _ _ _).2 ⟨a', rfl, jY hθ hψ a g⟩
  | .tup a, v, hv => by
    rw [@zn (linSym σT KT)] at hv
    obtain ⟨a', rfl, g⟩ := hv
    unfold y5
    exact (@zn (linSym σ K) _ _ _).2 ⟨a', rfl, jY hθ hψ a g⟩
  | .sst a, v, hv => by
    rw [@y2 (linSym σT KT)] at hv
    obtain ⟨b, rfl, g⟩ := hv
    unfold y5
    exact (@y2 (linSym σ K) _ _ _).2 ⟨b, rfl, jY hθ hψ a g⟩
  | .win .., v, hv => by unfold y5; exact @xy (linSym σ K) _ _
  | .bool b, v, hv => by
    rw [@zF (linSym σT KT)] at hv
    unfold y5
    exact (@zF (linSym σ K) _ _ _).2 hv
  | .nat b, v, hv => by
    rw [@zO (linSym σT KT)] at hv
    unfold y5
    exact (@zO (linSym σ K) _ _ _).2 hv
  | .int k b, v, hv => by
    rw [@zV (linSym σT KT)] at hv
    unfold y5
    exact (@zV (linSym σ K) _ _ _ _).2 hv
  | .anyi k, v, hv => by
    rw [@z7 (linSym σT KT)] at hv
    unfold y5
    exact (@z7 (linSym σ K) _ _ _).2 hv
  | .str b, v, hv => by
    rw [@za (linSym σT KT)] at hv
    unfold y5
    exact (@za (linSym σ K) _ _ _).2 hv
  | .nilptr, v, hv => by
    rw [@yk (linSym σT KT)] at hv
    unfold y5
    exact (@yk (linSym σ K) _ _).2 hv
  | .nilsl, v, hv => by
    rw [@zc (linSym σT KT)] at hv
    unfold y5
    exact (@zc (linSym σ K) _ _).2 hv
  | .nilmap, v, hv => by
    rw [@zk (linSym σT KT)] at hv
    unfold y5
    exact (@zk (linSym σ K) _ _).2 hv
  | .nilfunc, v, hv => by
    rw [@yY (linSym σT KT)] at hv
    unfold y5
    exact (@yY (linSym σ K) _ _).2 hv
  | .niliface, v, hv => by
    rw [@zr (linSym σT KT)] at hv
    unfold y5
    exact (@zr (linSym σ K) _ _).2 hv
  | .big n, v, hv => by
    rw [@x9 (linSym σT KT)] at hv
    unfold y5
    exact (@x9 (linSym σ K) _ _ _).2 hv
  | .any, v, hv => by unfold y5; exact @xy (linSym σ K) _ _
theorem jY (hθ : wJ σ σT θ) (hψ : zGR ρ ψs ψT) : ∀ (cs : List CV) {l : List Value}, @zK (linSym σT KT) ψs cs l → @zK (linSym σ K) ψT (xw ρ θ cs) l
  | [], l, hl => by
    rw [@zI (linSym σT KT)] at hl
    unfold xw
    exact (@zI (linSym σ K) _ _).2 hl
  | c :: cs, l, hl => by
    rw [@zP (linSym σT KT)] at hl
    obtain ⟨v, r, rfl, h1, h2⟩ := hl
    unfold xw
    exact (@zL (linSym σ K) _ _ _ _ _).2 ⟨wB hθ hψ c h1, jY hθ hψ cs h2⟩
end
def zH8 (ρ : Heap) (θ : TH) : List CE → List CE
  | [] => []
  | e :: l => ⟨y5 ρ θ e.key, y5 ρ θ e.val, e.born⟩ :: zH8 ρ θ l
def zGl (ρ : Heap) (θ : TH) : CObj → CObj
  | .cells l => .cells (xw ρ θ l)
  | .map es c => .map (zH8 ρ θ es) c
  | o => o
def okO : CObj → Bool
  | .cells _ => true
  | .map _ _ => true
  | _ => false
theorem zC8 : ∀ {l : List CV}, (xw ρ θ l).length = l.length
  | [] => rfl
  | c :: l => by rw [xw, List.length_cons, List.length_cons, zC8]
theorem zCf : ∀ {l : List CV} {i : Nat} {c : CV}, (xw ρ θ l)[i]? = some c → ∃ d, l[i]? = some d ∧ c = y5 ρ θ d
  | [], i, c, h => by rw [xw] at h; simp at h
  | d :: l, 0, c, h => by
    rw [xw] at h
    simp at h
    exact ⟨d, rfl, h.symm⟩
  | d :: l, i + 1, c, h => by
    rw [xw] at h
    exact zCf (l := l) (i := i) (by simpa using h)
theorem zEu (hθ : wJ σ σT θ) (hψ : zGR ρ ψs ψT) {ck : Nat → Nat} : ∀ {es : List CE} {l : List MapEntry}, @zw (linSym σT KT) ψs ck es l → @zw (linSym σ K) ψT ck (zH8 ρ θ es) l
  | [], l, h => h
  | c :: es, l, h => by
    obtain ⟨e, r, rfl, ⟨h1, h2, h3⟩, h4⟩ := h
    exact ⟨e, r, rfl, ⟨wB hθ hψ _ h1, wB hθ hψ _ h2, h3⟩, zEu hθ hψ h4⟩
theorem zLS (hθ : wJ σ σT θ) (hψ : zGR ρ ψs ψT) {o : CObj} (ho : okO o = true) {w : World} {p p' : Pl} (hp : uc p p') (hck : (∀ es c, o = .map es c → p' = p)) (h : @yy (linSym σT KT) ψs w p o) : @yy (linSym σ K) ψT w p' (zGl ρ θ o) := by
  obtain ⟨e1, e2, e3⟩ := hp
  cases o with
  | cells l =>
    obtain ⟨arr, elem, fz, g1, g2, g3, g4, g5⟩ := h
    refine ⟨arr, elem, fz, by rw [e1]; exact g1, by rw [e3]; exact g2, by rw [e2, e3, zC8]; exact g3, by rw [e3]; exact g4, fun i c hi => ?_⟩
    obtain ⟨d, hd, rfl⟩ := zCf hi
    obtain ⟨x, hx, hr⟩ := g5 i d hd
    exact ⟨x, by rw [e2]; exact hx, wB hθ hψ d hr⟩
  | map es c =>
    obtain rfl := hck es c rfl
    obtain ⟨arr, g1, ⟨l0, gp, g2⟩, g3⟩ := h
    exact ⟨arr, g1, ⟨l0, gp, zEu hθ hψ g2⟩, g3⟩
  | ro _ => cases ho
  | striter _ _ => cases ho
  | mapiter _ _ _ _ => cases ho
  | full _ _ => cases ho
end
def fZ (z : Int) (k : Int → R) : R := match z with
  | .ofNat n => k (.ofNat n)
  | .negSucc n => k (.negSucc n)
def fL : LL → (LL → R) → R
  | [], k => k []
  | (i, a) :: l, k => fZ a fun a => fL l fun l => k ((i, a) :: l)
def fSE (e : SE) (k : SE → R) : R := match e with
  | ⟨j, c, l⟩ => fZ c fun c => fL l fun l => k ⟨j, c, l⟩
mutual
def fV : CV → (CV → R) → R
  | .agg l, k => fVs l fun l => k (.agg l)
  | .tup l, k => fVs l fun l => k (.tup l)
  | .sst l, k => fVs l fun l => k (.sst l)
  | .iface t v, k => fV v fun v => k (.iface t v)
  | .func f a b, k => fVs a fun a => fVs b fun b => k (.func f a b)
  | .sym e, k => fSE e fun e => k (.sym e)
  | .bool b, k => k (.bool b)
  | .nat n, k => k (.nat n)
  | .int j n, k => k (.int j n)
  | .anyi j, k => k (.anyi j)
  | .str s, k => k (.str s)
  | .nilptr, k => k .nilptr
  | .ptr b o, k => k (.ptr b o)
  | .nilsl, k => k .nilsl
  | .sl b o l c e x, k => k (.sl b o l c e x)
  | .nilmap, k => k .nilmap
  | .map b, k => k (.map b)
  | .nilfunc, k => k .nilfunc
  | .niliface, k => k .niliface
  | .win a b c d, k => k (.win a b c d)
  | .big n, k => k (.big n)
  | .any, k => k .any
def fVs : List CV → (List CV → R) → R
  | [], k => k []
  | v :: l, k => fV v fun v => fVs l fun l => k (v :: l)
end
theorem zK3 {z : Int} {k : Int → R} : fZ z k = k z := by cases z <;> rfl
theorem zLx : ∀ {l : LL} {k : LL → R}, fL l k = k l
  | [], _ => rfl
  | (i, a) :: l, k => by unfold fL; rw [zK3, zLx]
theorem zNI {e : SE} {k : SE → R} : fSE e k = k e := by
  obtain ⟨j, c, l⟩ := e
  show (fZ c fun c => fL l fun l => k ⟨j, c, l⟩) = k ⟨j, c, l⟩
  rw [zK3, zLx]
mutual
theorem zEs : ∀ (c : CV) (k : CV → R), fV c k = k c
  | .agg l, k => by unfold fV; exact uE l _
  | .tup l, k => by unfold fV; exact uE l _
  | .sst l, k => by unfold fV; exact uE l _
  | .iface t v, k => by unfold fV; exact zEs v _
  | .func f a b, k => by unfold fV; rw [uE a, uE b]
  | .sym e, k => by unfold fV; exact zNI
  | .bool b, k => by unfold fV; rfl
  | .nat n, k => by unfold fV; rfl
  | .int j n, k => by unfold fV; rfl
  | .anyi j, k => by unfold fV; rfl
  | .str s, k => by unfold fV; rfl
  | .nilptr, k => by unfold fV; rfl
  | .ptr b o, k => by unfold fV; rfl
  | .nilsl, k => by unfold fV; rfl
  | .sl b o l c e x, k => by unfold fV; rfl
  | .nilmap, k => by unfold fV; rfl
  | .map b, k => by unfold fV; rfl
  | .nilfunc, k => by unfold fV; rfl
  | .niliface, k => by unfold fV; rfl
  | .win a b c d, k => by unfold fV; rfl
  | .big n, k => by unfold fV; rfl
  | .any, k => by unfold fV; rfl
theorem uE : ∀ (l : List CV) (k : List CV → R), fVs l k = k l
  | [], k => by unfold fVs; rfl
  | v :: l, k => by unfold fVs; rw [zEs v, uE l]
end
def fEs : List CE → (List CE → R) → R
  | [], k => k []
  | ⟨a, b, n⟩ :: l, k => fV a fun a => fV b fun b => fEs l fun l => k (⟨a, b, n⟩ :: l)
theorem zLU : ∀ {l : List CE} {k : List CE → R}, fEs l k = k l
  | [], _ => rfl
  | ⟨a, b, n⟩ :: l, k => by unfold fEs; rw [zEs, zEs, zLU]
def fO (o : CObj) (k : CObj → R) : R := match o with
  | .cells l => fVs l fun l => k (.cells l)
  | .map es c => fEs es fun es => k (.map es c)
  | o => k o
theorem zOG {o : CObj} {k : CObj → R} : fO o k = k o := by
  cases o <;> first | rfl | (unfold fO; first | exact uE _ _ | exact zLU)
def fOs : List (Key × CObj) → (List (Key × CObj) → R) → R
  | [], k => k []
  | (j, o) :: l, k => fO o fun o => fOs l fun l => k ((j, o) :: l)
theorem zIl : ∀ {l : List (Key × CObj)} {k : List (Key × CObj) → R}, fOs l k = k l
  | [], _ => rfl
  | (j, o) :: l, k => by unfold fOs; rw [zOG, zIl]
def fTH : TH → (TH → R) → R
  | [], k => k []
  | (a, l) :: r, k => fZ a fun a => fL l fun l => fTH r fun r => k ((a, l) :: r)
theorem zHs : ∀ {l : TH} {k : TH → R}, fTH l k = k l
  | [], _ => rfl
  | (a, l) :: r, k => by unfold fTH; rw [zK3, zLx, zHs]
def fKs : List Key → (List Key → R) → R
  | [], k => k []
  | x :: l, k => fKs l fun l => k (x :: l)
theorem zIz : ∀ {l : List Key} {k : List Key → R}, fKs l k = k l
  | [], _ => rfl
  | x :: l, k => by unfold fKs; rw [zIz]
def zJP (k : Key) : List Key → Bool
  | [] => false
  | x :: r => decide (x = k) || zJP k r
theorem zJe {k : Key} : ∀ {l : List Key}, zJP k l = true → k ∈ l
  | [], h => by cases h
  | x :: r, h => by
    unfold zJP at h
    rw [Bool.or_eq_true, decide_eq_true_eq] at h
    rcases h with h | h
    · simp [h]
    · simp [zJe h]
def wX (pins : List Key) (ρ : Heap) : List (Key × CObj) → Key → Option (List Key × Key)
  | [], n => some ([], n)
  | p :: r, n => match zJP p.1 pins with
    | true => match rhoOf ρ p.1, p.2 with
      | some j, .cells _ => match wX pins ρ r n with
        | some q => some (j :: q.1, q.2)
        | none => none
      | _, _ => none
    | false => match n.succ with
      | .mk a b c d => match wX pins ρ r (.mk a b c d) with
        | some q => some (n :: q.1, q.2)
        | none => none
theorem zBr {pins : List Key} {ρ : Heap} : ∀ {l : List (Key × CObj)} {n : Key} {q : List Key × Key}, wX pins ρ l n = some q → q.2.room → n.ix ≤ q.2.ix ∧
    ∀ (i : Nat) (k : Key) (o : CObj) (j : Key), l[i]? = some (k, o) → q.1[i]? = some j → (k ∈ pins ∧ rhoOf ρ k = some j ∧ ∃ cs, o = .cells cs) ∨ (k ∉ pins ∧ n.ix ≤ j.ix ∧ j.ix < q.2.ix)
  | [], n, q, h, hr => by
    injection h with h; subst h
    exact ⟨Nat.le_refl _, fun i k o j h1 _ => by simp at h1⟩
  | p :: r, n, q, h, hr => by
    unfold wX at h
    split at h
    · rename_i hm
      split at h
      · rename_i j cs hj hcs
        split at h
        · rename_i q' hq'
          injection h with h; subst h
          obtain ⟨h1, h2⟩ := zBr hq' hr
          refine ⟨h1, fun i k o j' g1 g2 => ?_⟩
          cases i with
          | zero =>
            simp at g1 g2
            subst g1 g2
            exact .inl ⟨zJe hm, hj, cs, hcs⟩
          | succ i => exact h2 i k o j' (by simpa using g1) (by simpa using g2)
        · cases h
      · cases h
    · rename_i hm
      have hnm : p.1 ∉ pins := fun hin => by
        have : ∀ {l : List Key}, p.1 ∈ l → zJP p.1 l = true := by
          intro l
          induction l with
          | nil => intro h; cases h
          | cons x l ih =>
            intro h
            unfold zJP
            rcases List.mem_cons.1 h with e | h
            · simp [e]
            · simp [ih h]
        rw [this hin] at hm; cases hm
      split at h
      rename_i a b c d hs
      split at h
      · rename_i q' hq'
        injection h with h; subst h
        obtain ⟨h1, h2⟩ := zBr hq' hr
        rw [← hs] at h1 h2
        have hle := @Key.ix_le_succ zN n
        have hroom : n.ix < 65535 := by
          have : q'.2.ix < 65535 := hr
          omega
        have hix := @Key.ix_succ zN n hroom
        refine ⟨by simp only; omega, fun i k o j' g1 g2 => ?_⟩
        cases i with
        | zero =>
          simp at g1 g2
          subst g1 g2
          exact .inr ⟨hnm, Nat.le_refl _, by simp only; omega⟩
        | succ i =>
          rcases h2 i k o j' (by simpa using g1) (by simpa using g2) with g | ⟨g3, g4, g5⟩
          · exact .inl g
          · exact .inr ⟨g3, by omega, g5⟩
      · cases h
def zGZ (ρ inv : Heap) : List (Key × CObj) → List Key → Bool
  | [], [] => true
  | p :: r, j :: js => zAt ρ p.1 j && zAt inv j p.1 && okO p.2 && zGZ ρ inv r js
  | _, _ => false
theorem zJk {ρ inv : Heap} : ∀ {l : List (Key × CObj)} {ks : List Key}, zGZ ρ inv l ks = true → l.length = ks.length ∧ ∀ (i : Nat) (k : Key) (o : CObj), l[i]? = some (k, o) → ∃ j, ks[i]? = some j ∧ rhoOf ρ k = some j ∧ rhoOf inv j = some k ∧ okO o = true
  | [], [], _ => ⟨rfl, fun i k o h => by simp at h⟩
  | [], _ :: _, h => by cases h
  | _ :: _, [], h => by cases h
  | p :: r, j :: js, h => by
    unfold zGZ at h
    simp only [Bool.and_eq_true] at h
    obtain ⟨⟨⟨h1, h2⟩, h3⟩, h4⟩ := h
    obtain ⟨g1, g2⟩ := zJk h4
    refine ⟨by simp [g1], fun i k o hi => ?_⟩
    cases i with
    | zero =>
      simp at hi
      subst hi
      exact ⟨j, rfl, kT h1, kT h2, h3⟩
    | succ i =>
      obtain ⟨j', q1, q2⟩ := g2 i k o (by simpa using hi)
      exact ⟨j', by simpa using q1, q2⟩
def zCb (ρ : Heap) (θ : TH) : List (Key × CObj) → List Key → List (Key × CObj)
  | p :: r, j :: js => (j, zGl ρ θ p.2) :: zCb ρ θ r js
  | _, _ => []
theorem zLo {k b : Key} : ∀ {objs : List (Key × CObj)} {ks : List Key}, rhoOf (jJ objs ks) k = some b → ∃ j : Nat, (∃ o : CObj, objs[j]? = some (b, o)) ∧ ks[j]? = some k
  | [], _, h => by
    have h : rhoOf .nil k = some b := h
    unfold rhoOf at h
    rw [wj] at h; cases h
  | _ :: _, [], h => by
    have h : rhoOf .nil k = some b := h
    unfold rhoOf at h
    rw [wj] at h; cases h
  | p :: r, j :: js, h => by
    by_cases e : k = j
    · have h : rhoOf (yj (some (.cells [.ptr p.1 0])) j (jJ r js)) k = some b := h
      unfold rhoOf at h
      rw [kq, if_pos e] at h
      injection h with h
      exact ⟨0, ⟨p.2, by subst h; rfl⟩, by subst e; rfl⟩
    · have h' : rhoOf (jJ r js) k = some b := by
        have h : rhoOf (yj (some (.cells [.ptr p.1 0])) j (jJ r js)) k = some b := h
        unfold rhoOf at h ⊢
        rw [kq, if_neg e] at h
        exact h
      obtain ⟨i, ⟨o, h1⟩, h2⟩ := zLo h'
      exact ⟨i + 1, ⟨o, by simpa using h1⟩, by simpa using h2⟩
theorem zEO {ρ inv ρ' : Heap} {θ : TH} {h0 : Heap} {k : Key} {o : CObj} : ∀ {l : List (Key × CObj)} {ks : List Key}, zGZ ρ inv l ks = true → yF k (mkH h0 (zCb ρ' θ l ks)) = some o →
    (∃ (kp : Key) (o' : CObj) (i : Nat), yF kp (mkH .nil l) = some o' ∧ o = zGl ρ' θ o' ∧ okO o' = true ∧ rhoOf ρ kp = some k ∧ l[i]? = some (kp, o') ∧ ks[i]? = some k) ∨ yF k h0 = some o
  | [], [], _, h => .inr h
  | [], _ :: _, hb, _ => by cases hb
  | _ :: _, [], hb, _ => by cases hb
  | p :: r, j :: js, hb, h => by
    unfold zGZ at hb
    simp only [Bool.and_eq_true] at hb
    obtain ⟨⟨⟨h1, h2⟩, h3⟩, h4⟩ := hb
    have h : yF k (yj (some (zGl ρ' θ p.2)) j (mkH h0 (zCb ρ' θ r js))) = some o := h
    rw [kq] at h
    split at h
    · rename_i e
      injection h with h
      refine .inl ⟨p.1, p.2, 0, ?_, h.symm, h3, by rw [e]; exact kT h1, rfl, by rw [e]; rfl⟩
      show yF p.1 (yj (some p.2) p.1 (mkH .nil r)) = _
      rw [kq, if_pos rfl]
    · rename_i e
      rcases zEO h4 h with ⟨kp, o', i, g1, g2, g3, g4, g5, g6⟩ | g
      · refine .inl ⟨kp, o', i + 1, ?_, g2, g3, g4, by simpa using g5, by simpa using g6⟩
        show yF kp (yj (some p.2) p.1 (mkH .nil r)) = _
        rw [kq, if_neg (fun e' => by
          rw [e', kT h1] at g4
          injection g4 with g4
          exact e g4.symm)]
        exact g1
      · exact .inr g
def zGt : List Key → Heap → Heap
  | [], h => h
  | k :: r, h => yj none k (zGt r h)
theorem zEP {h : Heap} {k : Key} {o : CObj} : ∀ {l : List Key}, yF k (zGt l h) = some o → k ∉ l ∧ yF k h = some o
  | [], hh => ⟨by simp, hh⟩
  | x :: r, hh => by
    have hh : yF k (yj none x (zGt r h)) = some o := hh
    rw [kq] at hh
    split at hh
    · cases hh
    · rename_i e
      obtain ⟨h1, h2⟩ := zEP hh
      exact ⟨by simp [e, h1], h2⟩
def zNT [Sym] (q : Int × Int) (u : Int × LL) : Bool := match u.2 with
  | [] => decide (q.1 ≤ u.1) && decide (u.1 ≤ q.2)
  | l => match Sym.bin .geq (.sym ⟨.i64, u.1, l⟩) (mkInt .i64 q.1), Sym.bin .leq (.sym ⟨.i64, u.1, l⟩) (mkInt .i64 q.2) with
    | some [.bool true], some [.bool true] => true
    | _, _ => false
def zNb [Sym] : List (Int × Int) → TH → Bool
  | [], [] => true
  | q :: r, u :: θ => zNT q u && zNb r θ
  | _, _ => false
def zLm [Sym] (G : Nat) (s : Sm) (ks : List Key) (θ : TH) (args : List CV) (h : Heap) : Bool :=
  vW (mkRho s.objs ks) θ s.args args && jV (mkRho s.objs ks) (jJ s.objs ks) θ h G s.n.ix s.objs ks && Nat.ble G s.n.ix && zNb s.b θ
def vF (s : Sm) (ks : List Key) (θ : TH) (h : Heap) (n : Key) (po : Po) : R := match wX s.pins (mkRho s.objs ks) po.objs n with
  | none => .err 432
  | some q => match zGZ (mkRho po.objs q.1) (jJ po.objs q.1) po.objs q.1 with
    | false => .err 433
    | true => fV (y5 (mkRho po.objs q.1) θ po.v) fun v => fOs (zCb (mkRho po.objs q.1) θ po.objs q.1) fun os => .ret v (mkH (zGt ks h) os) q.2
def kZ (s : Sm) (ks : List Key) (θ : TH) (h : Heap) (n : Key) : List Po → R
  | [] => .err 434
  | [po] => vF s ks θ h n po
  | po :: r => .fork (vF s ks θ h n po) (kZ s ks θ h n r)
def zO8 (th : List (Nat × Int × LL)) : List (Int × Int) → TH
  | [] => []
  | _ :: r => (0, []) :: hTh th r 1
def zKQ [Sym] (G : Nat) (args : List CV) (h : Heap) (n : Key) (s : Sm) (z : R) : R := match zIW h s.objs (hVs s.args args ⟨[], [], zNx s.objs, []⟩) [] with
  | (ks, a) => fKs ks fun ks => fTH (zO8 a.th s.b) fun θ => match zLm G s ks θ args h with
    | true => kZ s ks θ h n s.posts
    | false => z
def zCI [Sym] (G : Nat) (args : List CV) (h : Heap) (n : Key) (z : R) : List Sm → R
  | [] => z
  | s :: r => zKQ G args h n s (zCI G args h n z r)
def smC [Sym] (G : Nat) (l : List Sm) (d : Bool) (args : List CV) (h : Heap) (n : Key) : R := match d with
  | true => .err 430
  | false => zCI G args h n (.err 431) l
def smN (G : Nat) (l : List Sm) : NatF := fun S => @smC S G l
theorem zAY {pins : List Key} {ρ : Heap} : ∀ {l : List (Key × CObj)} {n : Key} {q : List Key × Key}, wX pins ρ l n = some q → n.ix ≤ q.2.ix
  | [], n, q, h => by
    injection h with h; subst h
    exact Nat.le_refl _
  | p :: r, n, q, h => by
    unfold wX at h
    split at h
    · split at h
      · split at h
        · rename_i q' hq'
          injection h with h; subst h
          have := zAY hq'
          exact this
        · cases h
      · cases h
    · split at h
      rename_i a b c d hs
      split at h
      · rename_i q' hq'
        injection h with h; subst h
        have h1 := zAY hq'
        rw [← hs] at h1
        have hle := @Key.ix_le_succ zN n
        simp only; omega
      · cases h
theorem zAL {s : Sm} {ks : List Key} {θ : TH} {h : Heap} {n : Key} {po : Po} : zW n (vF s ks θ h n po) := by
  unfold vF
  cases hq : wX s.pins (mkRho s.objs ks) po.objs n with
  | none => trivial
  | some q =>
    simp only
    cases hb : zGZ (mkRho po.objs q.1) (jJ po.objs q.1) po.objs q.1 with
    | false => trivial
    | true =>
      simp only [zEs, zIl]
      exact zAY hq
theorem v8 {s : Sm} {ks : List Key} {θ : TH} {h : Heap} {n : Key} : ∀ {l : List Po}, zW n (kZ s ks θ h n l)
  | [] => trivial
  | [po] => zAL
  | po :: po' :: r => ⟨zAL, v8 (l := po' :: r)⟩
theorem zBt [Sym] {G : Nat} {args : List CV} {h : Heap} {n : Key} {z : R} (hz : zW n z) : ∀ {l : List Sm}, zW n (zCI G args h n z l)
  | [] => hz
  | s :: r => by
    unfold zCI zKQ
    split
    rw [zIz, zHs]
    split
    · exact v8
    · exact zBt hz
theorem zCS {σ σT : Nat → Int} {K : zQ} {G : Nat} {s : Sm} {ks : List Key} {θ : TH} {h : Heap} {n : Key} {po : Po} {ψ ψ' : Psi} {w w' : World} {v : Value} (hθ : wJ σ σT θ) (hR : @Rel (linSym σ K) ψ (Heap.fam h) w) (hfr : xf ψ n)
    (hc : jV (mkRho s.objs ks) (jJ s.objs ks) θ h G s.n.ix s.objs ks = true) (hpo : zIq (linSym σT kno) (jp (mkRho s.objs ks) h [] ψ G 0) s w po v ψ' w') (hcl : zM (vF s ks θ h n po)) :
    @zX (linSym σ K) ψ (Heap.fam h) n w (vF s ks θ h n po) v w' := by
  unfold vF at hcl ⊢
  cases hq : wX s.pins (mkRho s.objs ks) po.objs n with
  | none => rw [hq] at hcl; exact hcl.elim
  | some q =>
    rw [hq] at hcl
    simp only at hcl ⊢
    cases hb : zGZ (mkRho po.objs q.1) (jJ po.objs q.1) po.objs q.1 with
    | false => rw [hb] at hcl; exact hcl.elim
    | true =>
      rw [hb] at hcl
      simp only [zEs, zIl] at hcl ⊢
      have hroom : q.2.room := hcl
      obtain ⟨hmono, hkeys⟩ := zBr hq hroom
      obtain ⟨hlen, hbij⟩ := zJk hb
      obtain ⟨c1, c2, c3⟩ := zBp (G := G) (KT := kno) hθ hR hc
      have hobj := je hc
      have hTot : ∀ k o, Heap.fam h k = some o → ∃ p, ψ k = some p := @Rel.tot (linSym σ K) _ _ _ hR
      have hOn : ∀ k o p, Heap.fam h k = some o → ψ k = some p → @yy (linSym σ K) ψ w p o := @Rel.on (linSym σ K) _ _ _ hR
      have hInj := @Rel.inj (linSym σ K) _ _ _ hR
      have pTot := @Rel.tot (linSym σT kno) _ _ _ hpo.rel
      have pOn := @Rel.on (linSym σT kno) _ _ _ hpo.rel
      have pInj := @Rel.inj (linSym σT kno) _ _ _ hpo.rel
      have hold : ∀ k p, ψ k = some p → k.ix < n.ix := fun k p hp => by
        rcases Nat.lt_or_ge k.ix n.ix with g | g
        · exact g
        · rw [hfr k g] at hp; cases hp
      obtain ⟨ψ2, hψ2⟩ : ∃ ψ2 : Psi, ∀ k, ψ2 k = if n.ix ≤ k.ix then (match rhoOf (jJ po.objs q.1) k with | some kp => ψ' kp | none => ψ k) else ψ k := ⟨_, fun _ => rfl⟩
      have h2old : ∀ k, k.ix < n.ix → ψ2 k = ψ k := fun k hk => by rw [hψ2, if_neg (by omega)]
      have hle : ψ.le ψ2 := fun k p hp => by rw [h2old k (hold k p hp)]; exact hp
      have hrho : ∀ k j, rhoOf (mkRho s.objs ks) k = some j → j ∈ ks ∧ ∃ o p, yF j h = some o ∧ ψ j = some p := by
        intro k j hk
        obtain ⟨i, o, g1, g2⟩ := zBj hk
        obtain ⟨j', o', f1, f2, f3, f4, f5, f6, f7⟩ := hobj i k o g1
        rw [g2] at f1
        injection f1 with f1
        subst f1
        obtain ⟨p, hp⟩ := hTot j o' f6
        exact ⟨List.mem_of_getElem? g2, o', p, f6, hp⟩
      have hend : ∀ (i : Nat) (k : Key) (o : CObj) (j : Key), po.objs[i]? = some (k, o) → q.1[i]? = some j → ∀ p, ψ' k = some p → ∃ p', ψ2 j = some p' ∧ uc p p' ∧ ((∀ es c, o = .map es c → p' = p)) := by
        intro i k o j g1 g2 p hp
        rcases hkeys i k o j g1 g2 with ⟨f1, f2, cs, f3⟩ | ⟨f1, f2, f3⟩
        · obtain ⟨_, o0, pj, e1, e2⟩ := hrho k j f2
          have e3 : zAt (mkRho s.objs ks) k j = true := by unfold zAt; rw [f2]; simp
          obtain ⟨pT, t1, t2, t3, t4⟩ := c2 k j pj e3 e2
          obtain ⟨p', u1, u2, u3, u4⟩ := hpo.pin k f1 pT t1
          rw [hp] at u1
          injection u1 with u1
          subst u1
          refine ⟨pj, by rw [h2old j (hold j pj e2)]; exact e2, ⟨(u2.trans t2).symm, (u3.trans t3).symm, (u4.trans t4).symm⟩, fun es c e => ?_⟩
          rw [f3] at e; cases e
        · obtain ⟨j', b1, b2, b3, _⟩ := hbij i k o g1
          rw [g2] at b1
          injection b1 with b1
          subst b1
          exact ⟨p, by rw [hψ2, if_pos f2, b3]; exact hp, ⟨rfl, rfl, rfl⟩, fun _ _ _ => rfl⟩
      have hM : zGR (mkRho po.objs q.1) ψ' ψ2 := by
        intro k j p hk hp
        obtain ⟨i, o, g1, g2⟩ := zBj hk
        obtain ⟨p', h1, h2, _⟩ := hend i k o j g1 g2 p hp
        exact ⟨p', h1, h2⟩
      have hOwn : ∀ B, uG (jp (mkRho s.objs ks) h [] ψ G 0) s.objs w B → (∃ k0 o0 p0, yF k0 h = some o0 ∧ o0.isRo = false ∧ ψ k0 = some p0 ∧ p0.blk = B ∧ k0 ∈ ks) ∨ w.heap.size ≤ B := by
        intro B hB
        rcases hB with ⟨k, o, p, g1, g2, g3⟩ | g
        · obtain ⟨_, k0, o0, p0, f1, f2, f3, f4, f5⟩ := c3 k o p g1 g2
          exact .inl ⟨k0, o0, p0, f1, f2, f3, f4.trans g3, (hrho k k0 f5).1⟩
        · exact .inr g
      have hnew : ∀ k o, yF k (mkH (zGt ks h) (zCb (mkRho po.objs q.1) θ po.objs q.1)) = some o →
          (∃ (kp : Key) (o' : CObj) (p p' : Pl), zDf po.objs kp = some o' ∧ o = zGl (mkRho po.objs q.1) θ o' ∧ okO o' = true ∧ ψ' kp = some p ∧ ψ2 k = some p' ∧ uc p p' ∧ (∀ es c, o' = .map es c → p' = p) ∧ rhoOf (mkRho po.objs q.1) kp = some k) ∨ (k ∉ ks ∧ yF k h = some o) := by
        intro k o hk
        rcases zEO hb hk with ⟨kp, o', i, g1, g2, g3, g4, g5, g6⟩ | hk
        · obtain ⟨p, hp⟩ := pTot kp o' g1
          obtain ⟨p', e1, e2, e3⟩ := hend i kp o' k g5 g6 p hp
          exact .inl ⟨kp, o', p, p', g1, g2, g3, hp, e1, e2, e3, g4⟩
        · exact .inr (zEP hk)
      have hin : ∀ k o p, yF k h = some o → ψ k = some p → p.blk < w.heap.size := fun k o p h1 h2 => @yy.lt (linSym σ K) _ _ _ _ (hOn k o p h1 h2)
      have hlow : ∀ k o p, k ∉ ks → yF k h = some o → ψ k = some p → ¬ uG (jp (mkRho s.objs ks) h [] ψ G 0) s.objs w p.blk := by
        intro k o p g1 g2 g3 hB
        rcases hOwn _ hB with ⟨k0, o0, p0, f1, f2, f3, f4, f5⟩ | g
        · have := hInj k0 k o0 o p0 p f1 g2 f3 g3 (.inl f2) f4
          subst this
          exact g1 f5
        · have := hin k o p g2 g3
          omega
      refine ⟨ψ2, @zh.mk (linSym σ K) _ _ _ _ _ _ _ _ hle ?_ (@Rel.mk (linSym σ K) _ _ _ ?_ ?_ ?_) ?_ ?_ hpo.lft.size hpo.lft.tape hpo.lft.os hpo.lft.output hmono ?_, wB hθ hM _ hpo.val⟩
      · intro k hk
        rcases hk with hk | hk
        · exact h2old k hk
        · rw [hψ2, if_pos (by omega)]
          split
          · rename_i kp hkp
            exfalso
            obtain ⟨i, g1, g2⟩ := zLo hkp
            obtain ⟨o, g1⟩ := g1
            rcases hkeys i kp o k g1 g2 with ⟨f1, f2, _⟩ | ⟨f1, f2, f3⟩
            · obtain ⟨_, o0, pj, e1, e2⟩ := hrho kp k f2
              have := hold k pj e2
              omega
            · omega
          · rfl
      · intro k o p hk hp
        rcases hnew k o hk with ⟨kp, o', p0, p', g1, rfl, g3, g4, g5, g6, g7, _⟩ | ⟨g1, g2⟩
        · rw [g5] at hp
          injection hp with hp
          subst hp
          exact zLS hθ hM g3 g6 g7 (pOn kp o' p0 g1 g4)
        · obtain ⟨p1, hp1⟩ := hTot k o g2
          rw [hle k p1 hp1] at hp
          injection hp with hp
          subst hp
          exact @yy.mono (linSym σ K) _ _ hle _ _ _ (@yy.congr (linSym σ K) _ _ _ _ _ (hpo.lft.block _ (hlow k o p1 g1 g2 hp1)) (hOn k o p1 g2 hp1))
      · intro k o hk
        rcases hnew k o hk with ⟨kp, o', p0, p', g1, _, g3, g4, g5, _⟩ | ⟨g1, g2⟩
        · exact ⟨p', g5⟩
        · obtain ⟨p1, hp1⟩ := hTot k o g2
          exact ⟨p1, hle k p1 hp1⟩
      · intro k₁ k₂ o₁ o₂ p₁ p₂ h1 h2 h3 h4 hr e
        rcases hnew k₁ o₁ h1 with ⟨kp1, o1', p01, p1', a1, _, a3, a4, a5, a6, _, a8⟩ | ⟨a1, a2⟩ <;> rcases hnew k₂ o₂ h2 with ⟨kp2, o2', p02, p2', b1, _, b3, b4, b5, b6, _, b8⟩ | ⟨b1, b2⟩
        · rw [a5] at h3; rw [b5] at h4
          injection h3 with h3; injection h4 with h4
          subst h3; subst h4
          have := pInj kp1 kp2 o1' o2' p01 p02 a1 b1 a4 b4 (.inl (hpo.own kp1 o1' p01 a1 a4).1) (by rw [← a6.1, ← b6.1]; exact e)
          subst this
          rw [a8] at b8
          injection b8
        · exfalso
          rw [a5] at h3
          injection h3 with h3; subst h3
          obtain ⟨p1, hp1⟩ := hTot k₂ o₂ b2
          rw [hle k₂ p1 hp1] at h4
          injection h4 with h4; subst h4
          refine hlow k₂ o₂ p1 b1 b2 hp1 ?_
          rw [← e, a6.1]
          exact (hpo.own kp1 o1' p01 a1 a4).2
        · exfalso
          rw [b5] at h4
          injection h4 with h4; subst h4
          obtain ⟨p1, hp1⟩ := hTot k₁ o₁ a2
          rw [hle k₁ p1 hp1] at h3
          injection h3 with h3; subst h3
          refine hlow k₁ o₁ p1 a1 a2 hp1 ?_
          rw [e, b6.1]
          exact (hpo.own kp2 o2' p02 b1 b4).2
        · obtain ⟨p1, hp1⟩ := hTot k₁ o₁ a2
          obtain ⟨p2, hp2⟩ := hTot k₂ o₂ b2
          rw [hle k₁ p1 hp1] at h3
          rw [hle k₂ p2 hp2] at h4
          injection h3 with h3; injection h4 with h4
          subst h3; subst h4
          exact hInj k₁ k₂ o₁ o₂ p1 p2 a2 b2 hp1 hp2 hr e
      · intro B hB hfree
        refine hpo.lft.block B fun hO => ?_
        rcases hOwn B hO with ⟨k0, o0, p0, f1, f2, f3, f4, _⟩ | g
        · exact hfree k0 o0 p0 f1 f2 f3 f4
        · omega
      · intro k o p hk hro hp
        rcases hnew k o hk with ⟨kp, o', p0, p', g1, _, g3, g4, g5, g6, _⟩ | ⟨g1, g2⟩
        · rw [g5] at hp
          injection hp with hp
          subst hp
          have := (hpo.own kp o' p0 g1 g4).2
          rw [← g6.1] at this
          rcases hOwn _ this with ⟨k0, o0, p00, f1, f2, f3, f4, _⟩ | g
          · exact .inl ⟨k0, o0, p00, f1, f2, f3, f4⟩
          · exact .inr g
        · obtain ⟨p1, hp1⟩ := hTot k o g2
          rw [hle k p1 hp1] at hp
          injection hp with hp
          subst hp
          exact .inl ⟨k, o, p1, g2, hro, hp1, rfl⟩
      · intro k o p hk hp
        rcases hnew k o hk with ⟨kp, o', p0, p', g1, _, g3, g4, g5, g6, _⟩ | ⟨g1, g2⟩
        · rw [g5] at hp
          injection hp with hp
          subst hp
          have := (hpo.own kp o' p0 g1 g4).2
          rw [← g6.1] at this
          rcases hOwn _ this with ⟨k0, o0, p00, f1, f2, f3, f4, _⟩ | g
          · exact .inl ⟨k0, o0, p00, f1, f3, f4⟩
          · exact .inr g
        · obtain ⟨p1, hp1⟩ := hTot k o g2
          rw [hle k p1 hp1] at hp
          injection hp with hp
          subst hp
          exact .inl ⟨k, o, p1, g2, hp1, rfl⟩
theorem zBL {σ σT : Nat → Int} {K : zQ} {G : Nat} {s : Sm} {ks : List Key} {θ : TH} {h : Heap} {n : Key} {ψ ψ' : Psi} {w w' : World} {v : Value} (hθ : wJ σ σT θ) (hR : @Rel (linSym σ K) ψ (Heap.fam h) w) (hfr : xf ψ n)
    (hc : jV (mkRho s.objs ks) (jJ s.objs ks) θ h G s.n.ix s.objs ks = true) : ∀ {l : List Po} {po : Po}, po ∈ l → zIq (linSym σT kno) (jp (mkRho s.objs ks) h [] ψ G 0) s w po v ψ' w' → zM (kZ s ks θ h n l) →
    @zX (linSym σ K) ψ (Heap.fam h) n w (kZ s ks θ h n l) v w'
  | [], _, hm, _, _ => by cases hm
  | [po'], po, hm, hpo, hcl => by
    rw [List.mem_singleton.1 hm] at hpo
    exact zCS hθ hR hfr hc hpo hcl
  | po' :: po2 :: r, po, hm, hpo, hcl => by
    have hcl : zM (vF s ks θ h n po') ∧ zM (kZ s ks θ h n (po2 :: r)) := hcl
    rcases List.mem_cons.1 hm with e | hm
    · subst e
      exact .inl (zCS hθ hR hfr hc hpo hcl.1)
    · exact .inr (zBL hθ hR hfr hc (l := po2 :: r) hm hpo hcl.2)
theorem zEJ (P : Program) [Sym] [SymFact P] {ψ : Psi} {op : BinOp} {x y : CV} {b : Bool} {u v : Value} (w : World) (h : Sym.bin op x y = some [.bool b]) (hx : zG ψ x u) (hy : zG ψ y v) :
    (binOp op 0 u v).run P w = .ok (.bool b) w := by
  obtain ⟨h1, z, h2, c, h3, h4⟩ := (SymFact.ok (P := P)).1 op x y _ h ψ 0 u v w hx hy
  obtain rfl : c = .bool b := by simpa using h3
  rw [zF.1 h4] at h2
  exact h2
theorem zMN (P : Program) {σ : Nat → Int} {K : zQ} (hK : KnownOk σ K) {q : Int × Int} {u : Int × LL} (h : @zNT (linSym σ K) q u = true) : q.1 ≤ evQ σ u ∧ evQ σ u ≤ q.2 := by
  letI S : Sym := linSym σ K
  haveI hS : SymFact P := yI hK
  unfold zNT at h
  split at h
  · rename_i hu
    rw [Bool.and_eq_true, decide_eq_true_eq, decide_eq_true_eq] at h
    unfold evQ
    rw [hu]
    simp [evL]
    exact h
  · split at h
    · rename_i h1 h2
      have hv : @zG (linSym σ K) (fun _ => none) (.sym ⟨.i64, u.1, u.2⟩) (.int .i64 (evQ σ u)) := (@yX (linSym σ K) _ _ _).2 rfl
      have hl : ∀ z : Int, @zG (linSym σ K) (fun _ => none) (mkInt .i64 z) (.int .i64 z) := fun z => @yV (linSym σ K) _ _ _
      have g1 := @zEJ P (linSym σ K) hS _ _ _ _ _ _ _ default h1 hv (hl q.1)
      have g2 := @zEJ P (linSym σ K) hS _ _ _ _ _ _ _ default h2 hv (hl q.2)
      have e1 : q.1 ≤ evQ σ u := by simpa [binOp, Op.intCmp] using g1
      have e2 : evQ σ u ≤ q.2 := by simpa [binOp, Op.intCmp] using g2
      exact ⟨e1, e2⟩
    · cases h
theorem zJB {σ : Nat → Int} {K : zQ} (hK : KnownOk σ K) (P : Program) : ∀ {b : List (Int × Int)} {θ : TH} {σT : Nat → Int} {j : Nat}, @zNb (linSym σ K) b θ = true → (∀ i q, nth θ i = some q → σT (j + i) = evQ σ q) → b.length = θ.length ∧ yc σT j b
  | [], [], _, _, _, _ => ⟨rfl, trivial⟩
  | [], _ :: _, _, _, h, _ => by cases h
  | _ :: _, [], _, _, h, _ => by cases h
  | q :: r, u :: θ, σT, j, h, hθ => by
    unfold zNb at h
    rw [Bool.and_eq_true] at h
    obtain ⟨g1, g2⟩ := zJB hK P (σT := σT) (j := j + 1) h.2 (fun i x hi => by
      have := hθ (i + 1) x hi
      rw [show j + 1 + i = j + (i + 1) from by omega]; exact this)
    refine ⟨by simp [g1], ?_, g2⟩
    rw [show σT j = evQ σ u from hθ 0 u rfl]
    exact zMN P hK h.1
theorem zKt {σ : Nat → Int} {K : zQ} (hK : KnownOk σ K) {f : FuncId} {G : Nat} (hG : P.globals.size ≤ G) {s : Sm} (hs : SmOk P f s) {args : List CV} {h : Heap} {n : Key} {ψ : Psi} {w : World} {args' : Array Value} {ks : List Key} {θ : TH}
    (ha : @zK (linSym σ K) ψ args args'.toList) (hg : kJ P ψ) (hR : @Rel (linSym σ K) ψ (Heap.fam h) w) (hfr : xf ψ n) (hfit : @zLm (linSym σ K) G s ks θ args h = true) (hcl : zM (kZ s ks θ h n s.posts)) :
    yB P f args' w (@zX (linSym σ K) ψ (Heap.fam h) n w (kZ s ks θ h n s.posts)) := by
  unfold zLm at hfit
  simp only [Bool.and_eq_true] at hfit
  obtain ⟨⟨⟨f1, f2⟩, f3⟩, f4⟩ := hfit
  obtain ⟨σT, hσ⟩ : ∃ σT : Nat → Int, ∀ j, σT j = match nth θ j with | some q => evQ σ q | none => 0 := ⟨_, fun _ => rfl⟩
  have hth : ∀ j q, nth θ j = some q → σT j = evQ σ q := fun j q hj => by rw [hσ, hj]
  obtain ⟨hlen, hb⟩ := zJB hK P (σT := σT) (j := 0) f4 (fun i q hi => by rw [Nat.zero_add]; exact hth i q hi)
  have hobj := je f2
  have f3 := @zH zN _ _ f3
  have hrho : ∀ k b, rhoOf (mkRho s.objs ks) k = some b → G ≤ k.ix ∧ k.ix < s.n.ix := by
    intro k b hk
    obtain ⟨j, o, h1, h2⟩ := zBj hk
    obtain ⟨i', o', g1, g2, g3, g4, g5, g6, g7⟩ := hobj j k o h1
    exact ⟨g4, g5⟩
  refine zFK (hs σT hb (jp (mkRho s.objs ks) h [] ψ G 0) w args' (fun σ' K' hag hK' => ?_) ?_ ?_) fun v w' ⟨po, hpo, ψ', hok⟩ => ?_
  · have hθ' : wJ σ σ' θ := fun j q hj => by
      have hlt : j < θ.length := by
        rw [@yH zN] at hj
        exact (List.getElem?_eq_some_iff.1 hj).1
      rw [hag j (by omega)]
      exact hth j q hj
    obtain ⟨c1, c2, _⟩ := zBp (G := G) (KT := K') hθ' hR f2
    exact ⟨jn hθ' c2 _ _ f1 ha, c1⟩
  · intro g hg' h4
    obtain ⟨sz, e⟩ := hg g hg' h4
    have hix : (Key.ofNat g).ix = g := @Key.ix_ofNat zN _ (by omega)
    refine ⟨sz, ?_⟩
    have hno : rhoOf (mkRho s.objs ks) (Key.ofNat g) = none := by
      cases hr : rhoOf (mkRho s.objs ks) (Key.ofNat g) with
      | none => rfl
      | some b => have := (hrho _ _ hr).1; omega
    unfold jp
    rw [hno]
    simp only [findW]
    rw [if_pos (by omega)]
    exact e
  · intro k hk
    have hno : rhoOf (mkRho s.objs ks) k = none := by
      cases hr : rhoOf (mkRho s.objs ks) k with
      | none => rfl
      | some b => have := (hrho _ _ hr).2; omega
    unfold jp
    rw [hno]
    simp only [findW]
    rw [if_neg (by omega)]
  · exact zBL (fun j q hj => hth j q hj) hR hfr f2 hpo hok hcl
theorem zEC {σ : Nat → Int} {K : zQ} (hK : KnownOk σ K) {f : FuncId} {G : Nat} (hG : P.globals.size ≤ G) {args : List CV} {h : Heap} {n : Key} {ψ : Psi} {w : World} {args' : Array Value}
    (ha : @zK (linSym σ K) ψ args args'.toList) (hg : kJ P ψ) (hR : @Rel (linSym σ K) ψ (Heap.fam h) w) (hfr : xf ψ n) {z : R} (hz : zM z → yB P f args' w (@zX (linSym σ K) ψ (Heap.fam h) n w z)) : ∀ {l : List Sm}, (∀ s ∈ l, SmOk P f s) →
    zM (@zCI (linSym σ K) G args h n z l) → yB P f args' w (@zX (linSym σ K) ψ (Heap.fam h) n w (@zCI (linSym σ K) G args h n z l))
  | [], _, hcl => hz hcl
  | s :: r, hl, hcl => by
    unfold zCI zKQ at hcl ⊢
    split at hcl
    rename_i ks a hh
    simp only [zIz, zHs] at hcl ⊢
    split at hcl
    · rename_i hfit
      exact zKt hK hG (hl s (by simp)) ha hg hR hfr hfit hcl
    · rename_i hfit
      exact zEC hK hG ha hg hR hfr hz (fun s' h' => hl s' (by simp [h'])) hcl
def natS (f : FuncId) (G : Nat) (l : List Sm) (nat : Nats) : Nats := fun g => Bool.rec (motive := fun _ => Option NatF) (nat g) (some (smN G l)) (Nat.beq g f)
theorem zMV {f : FuncId} {G : Nat} {l : List Sm} {nat : Nats} (hG : P.globals.size ≤ G) (hl : ∀ s ∈ l, SmOk P f s) (hn : ∀ σ K, KnownOk σ K → @NatsOk (linSym σ K) P nat) : ∀ σ K, KnownOk σ K → @NatsOk (linSym σ K) P (natS f G l nat) := by
  intro σ K hK
  have hn := hn σ K hK
  have key : ∀ g q, natS f G l nat g = some q → (g = f ∧ q = smN G l) ∨ nat g = some q := by
    intro g q h
    unfold natS at h
    cases e : Nat.beq g f with
    | true =>
      rw [e] at h
      injection h with h
      exact .inl ⟨Nat.eq_of_beq_eq_true e, h.symm⟩
    | false => rw [e] at h; exact .inr h
  refine @NatsOk.mk (linSym σ K) P _ (fun g q hg d args h n => ?_) (fun g q hg args h n ψ w args' h1 h2 h3 h4 hc => ?_) (fun g q hg args h n ψ w args' h1 h2 h3 h4 hc => ?_)
  · rcases key g q hg with ⟨rfl, rfl⟩ | hg
    · cases d with
      | true => trivial
      | false => exact @zBt (linSym σ K) G args h n (.err 431) trivial l
    · exact @NatsOk.above (linSym σ K) _ _ hn g q hg d args h n
  · rcases key g q hg with ⟨rfl, rfl⟩ | hg
    · exact zEC (z := .err 431) hK hG h1 h2 h3 h4 (fun h => False.elim h) hl hc
    · exact @NatsOk.calls (linSym σ K) _ _ hn g q hg args h n ψ w args' h1 h2 h3 h4 hc
  · rcases key g q hg with ⟨rfl, rfl⟩ | hg
    · exact hc.elim
    · exact @NatsOk.defers (linSym σ K) _ _ hn g q hg args h n ψ w args' h1 h2 h3 h4 hc
theorem nats_lin {nat : Nats} (h : ∀ [Sym] [SymFact P], NatsOk P nat) : ∀ σ K, KnownOk σ K → @NatsOk (linSym σ K) P nat := fun σ K hK => @h (linSym σ K) (yI hK)
end
end Go.Ev

namespace Go.Ev
open Go.RowKit
noncomputable section
variable {P : Program}
section
variable {code : FuncId → CFn} {nat : Nats} {fuel : Nat} {p : List Stp} {rs : List CRes} {G : Nat} {Ts : List TS} {s : Sm} {cc : CCode} {T : TS}
def zLl (P : Program) (code : FuncId → CFn) (nat : Nats) (fuel G : Nat) (s : Sm) (Ts : List TS) (p : List Stp) (cc : CCode) (rs : List CRes) (T : TS) (σ : Nat → Int) (K : zQ) (ts : List Nat) : Bool :=
  wg (uH G [] Ts (okP Ts s true) K (zLV P code nat fuel G s p cc rs (linSym σ K)) (@ze (linSym σ K) P (@ev (linSym σ K) P code nat fuel) (zAJ p cc) (wF T.locs) [] (mkH .nil T.objs) T.n) ts)
theorem zKg {σ : Nat → Int} {K : zQ} {ts : List Nat} (h : zLl P code nat fuel G s Ts p cc rs T σ K ts = true) : ∃ hs, zIO P code nat fuel G s Ts p cc rs T σ K hs = true := xr h
def startSN (P : Program) (code : FuncId → CFn) (nat : Nats) (fuel G : Nat) (s : Sm) (Ts : List TS) (p : List Stp) (cc : CCode) (σ : Nat → Int) (K : zQ) (ts : List Nat) : Bool :=
  wg (uH G [] Ts (okP Ts s false) K (fun _ => false) (@zAN (linSym σ K) P (@ev (linSym σ K) P code nat fuel) p cc (xR s.args 0 .nil) [] (mkH .nil s.objs) s.n) ts)
theorem zHX {σ : Nat → Int} {K : zQ} {ts : List Nat} (h : startSN P code nat fuel G s Ts p cc σ K ts = true) : ∃ hs, zHG P code nat fuel G s Ts p cc σ K hs = true := xr h
def uP (P : Program) (code : FuncId → CFn) (nat : Nats) (fuel G : Nat) (s : Sm) (Ts : List TS) (p : List Stp) (cc : CCode) (rs : List CRes) (T : TS) : Prop :=
  ∃ tree ls, leaves [] tree ⟨T.b, T.f, T.r, [], 1000⟩ = some ls ∧ (Nat.ble 1 T.b.length && Nat.ble T.b.length 1000 && Nat.ble s.b.length T.b.length) = true ∧
    AllG (fun e => ∀ (σ : Nat → Int), ∃ hs, zIO P code nat fuel G s Ts p cc rs T σ (e.known noA) hs = true) ls
theorem zGk (h : AllS (uP P code nat fuel G s Ts p cc rs) Ts) : zFC P code nat fuel G s Ts p cc rs := by
  intro t T hT σ hb hf hr
  obtain ⟨tree, ls, h1, h2, h3⟩ := zC6 h hT
  rw [Bool.and_eq_true, Bool.and_eq_true] at h2
  have g1 := @zH zN _ _ h2.1.1
  have g2 := @zH zN _ _ h2.1.2
  have g3 := @zH zN _ _ h2.2
  obtain ⟨e, hm, σ', r1, r2⟩ := yQ (wins := []) (w0 := default) (i := σ 0) tree _ σ h1 ⟨hb, hf, hr, fun q hq => by cases hq⟩ ⟨fun j k hj => by cases j <;> cases hj⟩ rfl (by show 0 < T.b.length; omega) g2 (Nat.le_refl _)
  obtain ⟨hs, hpass⟩ := vM h3 e hm σ'
  exact ⟨σ', e.known noA, hs, fun j hj => r2 j (.inl hj), rfl, r1.known noA, g3, hpass⟩
def zJa (f : Lf → List Nat → Bool) : List Lf → List (List Nat) → Bool
  | [], [] => true
  | e :: l, t :: r => forceLf e (fun e => f e t) && zJa f l r
  | _, _ => false
theorem zEg {f : Lf → List Nat → Bool} : ∀ {l : List Lf} {r : List (List Nat)}, zJa f l r = true → ∀ e ∈ l, ∃ t, f e t = true
  | [], _, _, e, he => by cases he
  | x :: l, [], h, _, _ => by cases h
  | x :: l, t :: r, h, e, he => by
    unfold zJa at h
    rw [Bool.and_eq_true, forceLf_eq] at h
    rcases List.mem_cons.1 he with rfl | he
    · exact ⟨t, h.1⟩
    · exact zEg h.2 e he
def stateRun (P : Program) (code : FuncId → CFn) (nat : Nats) (fuel G : Nat) (s : Sm) (Ts : List TS) (p : List Stp) (cc : CCode) (rs : List CRes) (T : TS) (tree : LTree) (tss : List (List Nat)) (σ : Nat → Int) : Bool :=
  (match leaves [] tree ⟨T.b, T.f, T.r, [], 1000⟩ with
  | some ls => zJa (fun e ts => zLl P code nat fuel G s Ts p cc rs T σ (e.known noA) ts) ls tss
  | none => false) && (Nat.ble 1 T.b.length && Nat.ble T.b.length 1000 && Nat.ble s.b.length T.b.length)
theorem zJG {Q : Lf → Prop} : ∀ {l : List Lf}, (∀ e ∈ l, Q e) → AllG Q l
  | [], _ => allG_nil
  | e :: l, h => allG_cons (h e (by simp)) (zJG fun x hx => h x (by simp [hx]))
theorem state_goodS {tree : LTree} {tss : List (List Nat)} (h : ∀ σ, stateRun P code nat fuel G s Ts p cc rs T tree tss σ = true) : uP P code nat fuel G s Ts p cc rs T := by
  have h0 := h fun _ => 0
  unfold stateRun at h0
  rw [Bool.and_eq_true] at h0
  split at h0
  · rename_i ls hls
    refine ⟨tree, ls, hls, h0.2, zJG fun e he σ => ?_⟩
    have h1 := h σ
    unfold stateRun at h1
    rw [Bool.and_eq_true, hls] at h1
    obtain ⟨t, ht⟩ := zEg h1.1 e he
    exact zKg ht
  · cases h0.1
theorem smOk_states {f : FuncId} {fn : Func} {c b : Code} {bound : Int} {ts : List Nat} (hm : P.follows .mixedOrders = true) (hcode : CodeOk P code) (hnat : ∀ σ K, KnownOk σ K → @NatsOk (linSym σ K) P nat)
    (hf : P.funcs[f]? = some fn) (hname : (fn.name == "runtime.NumGoroutine") = false) (hb : fn.body = some c) (hcf : compFn P f = .mk cc rs) (hsub : k6 p c = some b) (hG : P.globals.size ≤ G) (hbd : (boundIs bound Ts && okB s.b) = true)
    (h0 : ∀ σ, startSN P code nat fuel G s Ts p cc σ ⟨s.b, [], [], noA⟩ ts = true) (h : AllS (uP P code nat fuel G s Ts p cc rs) Ts) : SmOk P f s := by
  rw [Bool.and_eq_true] at hbd
  exact zJH (tree := .leaf) hm hcode hnat hf hname hb hcf hsub hG hbd.1 rfl hbd.2 (allG_cons (fun σ => zHX (h0 σ)) allG_nil) (zGk h)
def zEA (Q : Sm → Prop) : List Sm → Prop
  | [] => True
  | x :: l => Q x ∧ zEA Q l
theorem allSm_nil {Q : Sm → Prop} : zEA Q [] := trivial
theorem allSm_cons {Q : Sm → Prop} {x : Sm} {l : List Sm} (h : Q x) (h' : zEA Q l) : zEA Q (x :: l) := ⟨h, h'⟩
theorem zEW {Q : Sm → Prop} : ∀ {l : List Sm}, zEA Q l → ∀ x ∈ l, Q x
  | [], _, x, hx => by cases hx
  | y :: l, h, x, hx => by
    rcases List.mem_cons.1 hx with rfl | hx
    · exact h.1
    · exact zEW h.2 x hx
theorem natS_all {f : FuncId} {l : List Sm} (hG : P.globals.size ≤ G) (hl : zEA (SmOk P f) l) (hn : ∀ σ K, KnownOk σ K → @NatsOk (linSym σ K) P nat) : ∀ σ K, KnownOk σ K → @NatsOk (linSym σ K) P (natS f G l nat) := zMV hG (zEW hl) hn
end
end
end Go.Ev


