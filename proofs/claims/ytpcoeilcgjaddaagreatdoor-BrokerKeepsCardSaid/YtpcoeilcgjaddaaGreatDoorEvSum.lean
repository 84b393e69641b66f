/- A verified evaluator for the model's code: EvSum, EvSumN, EvSumH, EvMemo. -/
import Derived.Test.YtpcoeilcgjaddaaGreatDoorEvHint
set_option linter.unusedSectionVars false
set_option linter.unusedVariables false
set_option linter.unusedSimpArgs false
namespace Go.Ev
open Go.RowKit
noncomputable section
variable {P : Program}
structure Po where
  v : CV
  objs : List (Key × CObj)
structure Sm where
  args : List CV
  objs : List (Key × CObj)
  n : Key
  b : List (Int × Int)
  pins : List Key
  posts : List Po
abbrev zG2 (l : List (Key × CObj)) : Fam := Heap.fam (mkH .nil l)
def zGP (ψ : Psi) (l : List (Key × CObj)) (w : World) (B : Nat) : Prop := (∃ k o p, zG2 l k = some o ∧ ψ k = some p ∧ p.blk = B) ∨ w.heap.size ≤ B
structure Lft (O : Nat → Prop) (w w' : World) : Prop where
  os : w'.os = w.os
  tape : w'.tape = w.tape
  output : w'.output = w.output
  size : w.heap.size ≤ w'.heap.size
  block : ∀ B, ¬ O B → w'.heap[B]? = w.heap[B]?
theorem Lft.refl (O : Nat → Prop) (w : World) : Lft O w w := ⟨rfl, rfl, rfl, Nat.le_refl _, fun _ _ => rfl⟩
theorem zMR {S : Sym} {O : Nat → Prop} {ψ ψ' : Psi} {g g' : Fam} {n n' : Key} {w0 w w' : World} (h : Lft O w0 w) (hp : @zq S ψ g n w ψ' g' n' w') (ho : ∀ B, w0.heap.size ≤ B → O B)
    (hm : ∀ k o p, g k = some o → o.isRo = false → ψ k = some p → O p.blk) : Lft O w0 w' := by
  have h1 := @zq.os S _ _ _ _ _ _ _ _ hp
  have h2 := @zq.tape S _ _ _ _ _ _ _ _ hp
  have h3 := @zq.output S _ _ _ _ _ _ _ _ hp
  have h4 := @zq.size S _ _ _ _ _ _ _ _ hp
  have h5 := @zq.frame S _ _ _ _ _ _ _ _ hp
  refine ⟨h1.trans h.os, h2.trans h.tape, h3.trans h.output, Nat.le_trans h.size h4, fun B hB => ?_⟩
  have hlt : B < w0.heap.size := by
    rcases Nat.lt_or_ge B w0.heap.size with q | q
    · exact q
    · exact absurd (ho B q) hB
  rw [h5 B (Nat.lt_of_lt_of_le hlt h.size) fun k o p q1 q2 q3 e => hB (e ▸ hm k o p q1 q2 q3), h.block B hB]
theorem zMH {S : Sym} {O : Nat → Prop} {ψ ψ' : Psi} {g g' : Fam} {n n' : Key} {w0 w w' : World} (h : Lft O w0 w) (hp : @zq S ψ g n w ψ' g' n' w') (ho : ∀ B, w0.heap.size ≤ B → O B)
    (hm : ∀ k o p, g k = some o → o.isRo = false → ψ k = some p → O p.blk) : ∀ k o p, g' k = some o → o.isRo = false → ψ' k = some p → O p.blk := by
  intro k o p q1 q2 q3
  rcases @zq.img S _ _ _ _ _ _ _ _ hp k o p q1 q2 q3 with ⟨k₀, o₀, p₀, a, b, c, d⟩ | hge
  · rw [← d]; exact hm k₀ o₀ p₀ a b c
  · exact ho _ (Nat.le_trans h.size hge)
theorem zIw {ψ : Psi} {l : List (Key × CObj)} {w : World} : ∀ B, w.heap.size ≤ B → zGP ψ l w B := fun _ h => .inr h
def zDJ (p q : Pl) : Prop := q.blk = p.blk ∧ q.off = p.off ∧ q.sz = p.sz
structure zOS (S : Sym) (ψ : Psi) (s : Sm) (w : World) (po : Po) (v : Value) (ψ' : Psi) (w' : World) : Prop where
  pin : ∀ k ∈ s.pins, ∀ p, ψ k = some p → ∃ p', ψ' k = some p' ∧ zDJ p p'
  rel : @Rel S ψ' (zG2 po.objs) w'
  val : @zJ S ψ' po.v v
  own : ∀ k o p, zG2 po.objs k = some o → ψ' k = some p → o.isRo = false ∧ zGP ψ s.objs w p.blk
  lft : Lft (zGP ψ s.objs w) w w'
abbrev noA : Key → Option Value := fun _ => none
abbrev kno : zY := ⟨[], [], [], noA⟩
def zNG (P : Program) (f : FuncId) (s : Sm) : Prop := ∀ (σ : Nat → Int), yt σ 0 s.b → ∀ (ψ : Psi) (w : World) (args' : Array Value),
  (∀ σ' K', (∀ j, j < s.b.length → σ' j = σ j) → K'.arg = noA → @zS (linSym σ' K') ψ s.args args'.toList ∧ @Rel (linSym σ' K') ψ (zG2 s.objs) w) → kf P ψ → xv ψ s.n →
  yP P f args' w fun v w' => ∃ po ∈ s.posts, ∃ ψ', zOS (linSym σ kno) ψ s w po v ψ' w'
theorem zBB {σs σT : Nat → Int} {Ks KT : zY} {θ : TH} {objs : List (Key × CObj)} {ks : List Key} {h : Heap} {lo hi G : Nat} {ψ : Psi} {w : World} (hθ : wN σs σT θ) (hR : @Rel (linSym σs Ks) ψ (Heap.fam h) w)
    (hc : jX (mkRho objs ks) (jC objs ks) θ h lo hi objs ks = true) :
    @Rel (linSym σT KT) (kO (mkRho objs ks) h [] ψ G 0) (zG2 objs) w ∧ zGK (mkRho objs ks) ψ (kO (mkRho objs ks) h [] ψ G 0) ∧
    (∀ k o p, zG2 objs k = some o → kO (mkRho objs ks) h [] ψ G 0 k = some p → o.isRo = false ∧ ∃ k0 o0 p0, Heap.fam h k0 = some o0 ∧ o0.isRo = false ∧ ψ k0 = some p0 ∧ p0.blk = p.blk ∧ rhoOf (mkRho objs ks) k = some k0) := by
  have hTot : ∀ k o, Heap.fam h k = some o → ∃ p, ψ k = some p := @Rel.tot (linSym σs Ks) _ _ _ hR
  have hOn : ∀ k o p, Heap.fam h k = some o → ψ k = some p → @xE (linSym σs Ks) ψ w p o := @Rel.on (linSym σs Ks) _ _ _ hR
  have hInj := @Rel.inj (linSym σs Ks) _ _ _ hR
  generalize hρ : mkRho objs ks = ρ at hc ⊢
  generalize hinv : jC objs ks = inv at hc
  have hobj := kc hc
  have hps : ∀ k j p, rhoOf ρ k = some j → ψ j = some p → kO ρ h [] ψ G 0 k = some ⟨p.blk, p.off, p.sz, zHS (yK j h) p.ck⟩ := by
    intro k j p hk hp
    unfold kO
    rw [hk]
    simp only
    rw [hp]; rfl
  have hPs : zGK ρ ψ (kO ρ h [] ψ G 0) := fun k j p hk hp => ⟨_, hps k j p (ku hk) hp, rfl, rfl, rfl⟩
  have hfam : ∀ k o p, zG2 objs k = some o → kO ρ h [] ψ G 0 k = some p → ∃ b o' p0, rhoOf ρ k = some b ∧ rhoOf inv b = some k ∧ Heap.fam h b = some o' ∧ ψ b = some p0 ∧ zBO ρ θ o o' = true ∧
      p = ⟨p0.blk, p0.off, p0.sz, zHS (some o') p0.ck⟩ := by
    intro k o p hk hp
    rcases wi hk with ⟨j, hj⟩ | hn
    · obtain ⟨b, o', g1, g2, g3, g4, g5, g6, g7⟩ := hobj j k o hj
      obtain ⟨p0, hp0⟩ := hTot b o' g6
      rw [hps k b p0 g2 hp0, g6] at hp
      injection hp with hp
      exact ⟨b, o', p0, g2, g3, g6, hp0, g7, hp.symm⟩
    · rw [wx] at hn; cases hn
  refine ⟨?_, hPs, ?_⟩
  · refine @Rel.mk (linSym σT KT) _ _ _ ?_ ?_ ?_
    · intro k o p hk hp
      obtain ⟨b, o', p0, g1, g2, g3, g4, g5, rfl⟩ := hfam k o p hk hp
      exact (zKD (p := p0) (p' := ⟨p0.blk, p0.off, p0.sz, zHS (some o') p0.ck⟩) hθ hPs g5 rfl rfl rfl rfl (hOn b o' p0 g3 g4)).1
    · intro k o hk
      rcases wi hk with ⟨j, hj⟩ | hn
      · obtain ⟨b, o', g1, g2, g3, g4, g5, g6, g7⟩ := hobj j k o hj
        obtain ⟨p0, hp0⟩ := hTot b o' g6
        exact ⟨_, hps k b p0 g2 hp0⟩
      · rw [wx] at hn; cases hn
    · intro k₁ k₂ o₁ o₂ p₁ p₂ h1 h2 h3 h4 hr e
      obtain ⟨b1, o1', q1, g1, g2, g3, g4, g5, rfl⟩ := hfam _ _ _ h1 h3
      obtain ⟨b2, o2', q2, f1, f2, f3, f4, f5, rfl⟩ := hfam _ _ _ h2 h4
      have := hInj b1 b2 _ _ _ _ g3 f3 g4 f4 (.inl (zHx g5)) e
      subst this
      rw [g2] at f2
      injection f2
  · intro k o p hk hp
    obtain ⟨b, o', p0, g1, g2, g3, g4, g5, rfl⟩ := hfam k o p hk hp
    have hro : o.isRo = false ∧ o'.isRo = false := by
      unfold zBO at g5
      split at g5
      · exact ⟨rfl, rfl⟩
      · exact ⟨rfl, rfl⟩
      · exact ⟨rfl, rfl⟩
      · cases g5
    exact ⟨hro.1, b, o', p0, g3, hro.2, g4, rfl, g1⟩
def thK : List (Int × Int) → Nat → TH
  | [], _ => []
  | _ :: r, j => (0, [(j, 1)]) :: thK r (Nat.succ j)
def thS : List (Int × Int) → TH
  | [] => []
  | _ :: r => (0, []) :: thK r 1
theorem zKS : ∀ {b : List (Int × Int)} {i j : Nat} {q : Int × LL}, nth (thK b i) j = some q → q = (0, [(i + j, 1)]) ∧ j < b.length
  | [], i, j, q, h => by cases j <;> cases h
  | x :: r, i, 0, q, h => by
    injection h with h
    exact ⟨h.symm, by simp⟩
  | x :: r, i, j + 1, q, h => by
    have h : nth (thK r (i + 1)) j = some q := h
    obtain ⟨h1, h2⟩ := zKS h
    exact ⟨by rw [h1, show i + 1 + j = i + (j + 1) from by omega], by simp; exact h2⟩
theorem zPR {σ σ0 : Nat → Int} {b : List (Int × Int)} (h0 : ∀ x r, b = x :: r → σ0 0 = 0) (hk : ∀ j, 1 ≤ j → j < b.length → σ j = σ0 j) : wN σ σ0 (thS b) := by
  intro j q hj
  cases b with
  | nil => cases j <;> cases hj
  | cons x r =>
    cases j with
    | zero =>
      injection hj with hj
      subst hj
      rw [h0 x r rfl]; rfl
    | succ j =>
      have hj : nth (thK r 1) j = some q := hj
      obtain ⟨h1, h2⟩ := zKS hj
      subst h1
      have := hk (j + 1) (by omega) (by simp; exact h2)
      rw [← this, show j + 1 = 1 + j from by omega]
      show _ = (0 : Int) + (1 * σ (1 + j) + 0)
      omega
def zGM (ρ : Heap) : List Key → Bool
  | [] => true
  | k :: r => vK ρ k k && zGM ρ r
theorem zFI {ρ : Heap} : ∀ {l : List Key}, zGM ρ l = true → ∀ k ∈ l, vK ρ k k = true
  | [], _, k, h => by cases h
  | x :: r, h, k, hk => by
    unfold zGM at h
    rw [Bool.and_eq_true] at h
    rcases List.mem_cons.1 hk with rfl | hk
    · exact h.1
    · exact zFI h.2 k hk
def zFp (G : Nat) (s : Sm) (po : Po) (v : CV) (h : Heap) (n : Key) (ks : List Key) : Bool :=
  jX (mkRho po.objs ks) (jC po.objs ks) (thS s.b) h G 65535 po.objs ks && yQ (mkRho po.objs ks) (thS s.b) po.v v && zGM (mkRho po.objs ks) s.pins && Nat.ble (Nat.succ n.ix) 65535
def zPz (l : List (Key × CObj)) : Nat := match l with
  | p :: _ => p.1.ix
  | [] => 0
def zJF (s : Sm) (po : Po) (v : CV) (h : Heap) (k : List Key → Bool) : Bool := match zKV h po.objs (hV po.v v ⟨s.pins, [], Nat.add (zPz po.objs) s.pins.length, []⟩) [] with
  | (ks, _) => zBE ks k
theorem zIf {s : Sm} {po : Po} {v : CV} {h : Heap} {k : List Key → Bool} (hh : zJF s po v h k = true) : ∃ x, k x = true := by
  unfold zJF at hh
  split at hh
  rw [wX] at hh
  exact ⟨_, hh⟩
def zHk (G : Nat) (s : Sm) (v : CV) (h : Heap) (n : Key) : List Po → Bool
  | [] => false
  | po :: r => match zJF s po v h (zFp G s po v h n) with
    | true => true
    | false => zHk G s v h n r
theorem zEz {G : Nat} {s : Sm} {v : CV} {h : Heap} {n : Key} : ∀ {l : List Po}, zHk G s v h n l = true → ∃ po ∈ l, ∃ ks, zFp G s po v h n ks = true
  | [], hh => by cases hh
  | po :: r, hh => by
    unfold zHk at hh
    split at hh
    · rename_i h1
      obtain ⟨ks, hk⟩ := zIf h1
      exact ⟨po, by simp, ks, hk⟩
    · obtain ⟨po', h1, h2⟩ := zEz hh
      exact ⟨po', by simp [h1], h2⟩
def qu (G : Nat) (s : Sm) : R → Bool
  | .ret v h n => zHk G s v h n s.posts
  | .fork a b => qu G s a && qu G s b
  | _ => false
theorem wB {G : Nat} {s : Sm} : ∀ {r : R}, qu G s r = true → zW r
  | .ok .., h => by cases h
  | .ret v hh n, h => by
    obtain ⟨po, _, ks, hk⟩ := zEz (show zHk G s v hh n s.posts = true from h)
    unfold zFp at hk
    rw [Bool.and_eq_true] at hk
    exact @zM zZ _ _ hk.2
  | .err _, h => by cases h
  | .fork a b, h => by
    have h : (qu G s a && qu G s b) = true := h
    rw [Bool.and_eq_true] at h
    exact ⟨wB h.1, wB h.2⟩
theorem vi {S : Sym} {G : Nat} {s : Sm} {ψ₀ : Psi} {g₀ : Fam} {n₀ : Key} {w₀ : World} {v : Value} {w : World} : ∀ {r : R}, qu G s r = true → @zf S ψ₀ g₀ n₀ w₀ r v w →
    ∃ (cv : CV) (h : Heap) (n : Key) (ψ : Psi), @zq S ψ₀ g₀ n₀ w₀ ψ (Heap.fam h) n w ∧ @zJ S ψ cv v ∧ ∃ po ∈ s.posts, ∃ ks, zFp G s po cv h n ks = true
  | .ok .., h, _ => by cases h
  | .ret cv hh n, h, ⟨ψ, h1, h2⟩ => ⟨cv, hh, n, ψ, h1, h2, zEz h⟩
  | .err _, h, _ => by cases h
  | .fork a b, h, ho => by
    have h : (qu G s a && qu G s b) = true := h
    rw [Bool.and_eq_true] at h
    rcases ho with ho | ho
    · exact vi h.1 ho
    · exact vi h.2 ho
theorem zQq {σ σ0 : Nat → Int} {K K0 : zY} {G : Nat} {s : Sm} {po : Po} {ψ0 ψ ψ' : Psi} {g : Fam} {n n' : Key} {w0 w w' : World} {v : Value} {cv : CV} {h : Heap} {ks : List Key}
    (h0 : ∀ x r, s.b = x :: r → σ0 0 = 0) (hk : ∀ j, 1 ≤ j → j < s.b.length → σ j = σ0 j)
    (hpin : ∀ k ∈ s.pins, ∀ p0, ψ0 k = some p0 → ∃ p, ψ k = some p ∧ zDJ p0 p) (hl : Lft (zGP ψ0 s.objs w0) w0 w)
    (hm : ∀ k o p, g k = some o → o.isRo = false → ψ k = some p → zGP ψ0 s.objs w0 p.blk)
    (hp : @zq (linSym σ K) ψ g n w ψ' (Heap.fam h) n' w') (hv : @zJ (linSym σ K) ψ' cv v) (hc : zFp G s po cv h n' ks = true) : ∃ ψT, zOS (linSym σ0 K0) ψ0 s w0 po v ψT w' := by
  unfold zFp at hc
  simp only [Bool.and_eq_true] at hc
  obtain ⟨⟨⟨c1, c2⟩, c3⟩, _⟩ := hc
  have hθ := zPR h0 hk
  obtain ⟨r1, r2, r3⟩ := zBB (G := G) (KT := K0) hθ (@zq.rel (linSym σ K) _ _ _ _ _ _ _ _ hp) c1
  refine ⟨_, ⟨fun k hk p hp0 => ?_, r1, vD hθ r2 po.v cv c2 hv, fun k o p q1 q2 => ?_, zMR hl hp zIw hm⟩⟩
  · obtain ⟨p1, e1, e2⟩ := hpin k hk p hp0
    obtain ⟨p', e3, e4, e5, e6⟩ := r2 k k p1 (zFI c3 k hk) (@zq.ext (linSym σ K) _ _ _ _ _ _ _ _ hp k p1 e1)
    exact ⟨p', e3, e4.trans e2.1, e5.trans e2.2.1, e6.trans e2.2.2⟩
  · obtain ⟨f1, k0, o0, p0, f2, f3, f4, f5, _⟩ := r3 k o p q1 q2
    refine ⟨f1, ?_⟩
    rw [← f5]
    exact zMH hl hp zIw hm k0 o0 p0 f2 f3 f4
theorem zBe {f : FuncId} {args : Array Value} {w : World} {K K' : Value → World → Prop} (h : yP P f args w K) (hk : ∀ v w', K v w' → K' v w') : yP P f args w K' := by
  unfold yP at h ⊢
  split at h
  · exact Calls.mono h fun e w'' ⟨v, e1, h1⟩ => ⟨v, e1, hk _ _ h1⟩
  · exact hk _ _ h
  · exact h.elim
def zMr : List (Int × Int) → Bool
  | [] => false
  | q :: _ => yy q.1 0 && yy q.2 0
theorem zOd {b : List (Int × Int)} (h : zMr b = true) {σ : Nat → Int} (hb : yt σ 0 b) : 1 ≤ b.length ∧ σ 0 = 0 := by
  cases b with
  | nil => cases h
  | cons q r =>
    unfold zMr at h
    rw [Bool.and_eq_true, @zk zZ, @zk zZ, decide_eq_true_eq, decide_eq_true_eq] at h
    have := hb.1
    rw [h.1, h.2] at this
    exact ⟨by simp, by omega⟩
section
variable {code : FuncId → CFn} {nat : Nats} {fuel : Nat} {f : FuncId} {fn : Func} {G : Nat} {s : Sm}
def okB (b : List (Int × Int)) : Bool := zMr b && Nat.ble b.length 1000
theorem zN5 {tree : LTree} {ls : List Lf} (hm : P.follows .mixedOrders = true) (hcode : CodeOk P code) (hnat : ∀ σ K, KnownOk σ K → @NatsOk (linSym σ K) P nat)
    (hls : leaves [] tree ⟨s.b, [], [], [], 1000⟩ = some ls) (hok : okB s.b = true)
    (hrun : AllG (fun e => ∀ (σ : Nat → Int), qu G s (@ev (linSym σ (e.known noA)) P code nat fuel false f s.args (mkH .nil s.objs) s.n) = true) ls) : zNG P f s := by
  intro σ hb ψ w args' hrel hglob hfr
  unfold okB at hok
  rw [Bool.and_eq_true] at hok
  obtain ⟨hlen, hz⟩ := zOd hok.1 hb
  obtain ⟨e, he, σ', r1, r2⟩ := yg (wins := []) (w0 := w) (i := σ 0) tree _ σ hls ⟨hb, trivial, trivial, fun q hq => by cases hq⟩ ⟨fun j k hj => by cases j <;> cases hj⟩ rfl (by show 0 < s.b.length; omega) (@zM zZ _ _ hok.2) (Nat.le_refl _)
  have hag : ∀ j, j < s.b.length → σ' j = σ j := fun j hj => r2 j (.inl hj)
  have hrun := zBv hrun e he σ'
  have hK : KnownOk σ' (e.known noA) := r1.known noA
  obtain ⟨q1, q2⟩ := hrel σ' (e.known noA) hag rfl
  have hcall : @yN (linSym σ' (e.known noA)) P (@ev (linSym σ' (e.known noA)) P code nat fuel) := by
    letI S : Sym := linSym σ' (e.known noA)
    haveI hS : SymFact P := ye hK
    exact jb (fun call hcall F N => yW hm hcall) hcode (hnat _ _ hK) fuel
  refine zBe (@yN.calls (linSym σ' (e.known noA)) _ _ hcall f s.args _ s.n ψ w args' q1 hglob q2 hfr (wB hrun)) fun v w' ho => ?_
  obtain ⟨cv, h, n, ψ', p1, p2, po, hpo, ks, hc⟩ := vi hrun ho
  obtain ⟨ψT, hT⟩ := zQq (σ0 := σ) (K0 := kno) (ψ0 := ψ) (w0 := w) (fun _ _ _ => hz) (fun j _ hj => hag j hj) (fun k hk p0 h0 => ⟨p0, h0, rfl, rfl, rfl⟩) (Lft.refl _ _) (fun k o p g1 _ g3 => .inl ⟨k, o, p, g1, g3, rfl⟩) p1 p2 hc
  exact ⟨po, hpo, ψT, hT⟩
end
structure zRv (P : Program) (F N : Nat) (s : Sm) (σ0 : Nat → Int) (ψ0 : Psi) (w0 : World) (T : TS) (σ : Nat → Int) (ψ : Psi) (a : Act) (w : World) : Prop where
  bnd : yt σ 0 T.b
  fct : qr σ T.f
  rul : xn σ T.r
  keep : ∀ j, 1 ≤ j → j < s.b.length → σ j = σ0 j
  st : ∀ σ' K', (∀ j, j < T.b.length → σ' j = σ j) → K'.arg = noA → @St (linSym σ' K') P F N ψ (vI T.locs) [] (mkH .nil T.objs) T.n a w
  own : ∀ k o p, zG2 T.objs k = some o → ψ k = some p → o.isRo = false ∧ zGP ψ0 s.objs w0 p.blk
  lft : Lft (zGP ψ0 s.objs w0) w0 w
  pin : ∀ k ∈ s.pins, ∀ p0, ψ0 k = some p0 → ∃ p, ψ k = some p ∧ zDJ p0 p
section
variable {code : FuncId → CFn} {nat : Nats} {fuel : Nat} {fn : Func} {c b : Code} {p : List Stp} {rs : List CRes} {G : Nat} {Ts : List TS} {bound : Int} {s : Sm} {F N : Nat} {σ0 : Nat → Int} {ψ0 : Psi} {w0 : World}
end
end
end Go.Ev

namespace Go.Ev
open Go.RowKit
noncomputable section
variable {P : Program}
mutual
def yJ (ρ : Heap) (θ : TH) : CV → CV
  | .sym e => match zHd θ e.l with
    | some s => mkS e.k (e.c + s.1) s.2
    | none => .any
  | .ptr k o => match rhoOf ρ k with
    | some j => .ptr j o
    | none => .any
  | .sl k o l c e x => match rhoOf ρ k with
    | some j => .sl j o l c e x
    | none => .any
  | .map k => match rhoOf ρ k with
    | some j => .map j
    | none => .any
  | .func f a b => .func f (xi ρ θ a) (xi ρ θ b)
  | .iface t v => .iface t (yJ ρ θ v)
  | .agg l => .agg (xi ρ θ l)
  | .tup l => .tup (xi ρ θ l)
  | .sst l => .sst (xi ρ θ l)
  | .win .. => .any
  | .bool b => .bool b
  | .nat n => .nat n
  | .int k n => .int k n
  | .anyi k => .anyi k
  | .str s => .str s
  | .nilptr => .nilptr
  | .nilsl => .nilsl
  | .nilmap => .nilmap
  | .nilfunc => .nilfunc
  | .niliface => .niliface
  | .big n => .big n
  | .any => .any
def xi (ρ : Heap) (θ : TH) : List CV → List CV
  | [] => []
  | c :: l => yJ ρ θ c :: xi ρ θ l
end
def zHg (ρ : Heap) (ψs ψT : Psi) : Prop := ∀ k j p, rhoOf ρ k = some j → ψs k = some p → ∃ p', ψT j = some p' ∧ zDJ p p'
section
variable {σ σT : Nat → Int} {K KT : zY} {θ : TH} {ρ : Heap} {ψs ψT : Psi}
mutual
theorem wW (hθ : wN σ σT θ) (hψ : zHg ρ ψs ψT) : ∀ (c : CV) {v : Value}, @zJ (linSym σT KT) ψs c v → @zJ (linSym σ K) ψT (yJ ρ θ c) v
  | .sym e, v, hv => by
    rw [@yh (linSym σT KT)] at hv
    have hv : v = .int e.k (evE σT e) := hv
    unfold yJ
    split
    · rename_i s hs
      have h2 := uO hθ hs
      rw [hv]
      unfold evE
      rw [h2, ← Int.add_assoc]
      exact zAQ _ _ _
    · exact @qP (linSym σ K) _ _
  | .ptr k o, v, hv => by
    rw [@zj (linSym σT KT)] at hv
    obtain ⟨p, hp, rfl⟩ := hv
    unfold yJ
    split
    · rename_i j hj
      obtain ⟨p', h1, h2, h3, h4⟩ := hψ k j p hj hp
      exact (@zj (linSym σ K) _ _ _ _).2 ⟨p', h1, by rw [h2, h3]⟩
    · exact @qP (linSym σ K) _ _
  | .sl k o l c e x, v, hv => by
    rw [@zw (linSym σT KT)] at hv
    obtain ⟨p, y, cap', hp, rfl, h1, h2, h3, h4⟩ := hv
    unfold yJ
    split
    · rename_i j hj
      obtain ⟨p', g1, g2, g3, g4⟩ := hψ k j p hj hp
      exact (@zw (linSym σ K) _ _ _ _ _ _ _ _).2 ⟨p', y, cap', g1, by rw [g2], h1, h2, h3, by rw [g3, g4]; exact h4⟩
    · exact @qP (linSym σ K) _ _
  | .map k, v, hv => by
    rw [@yY (linSym σT KT)] at hv
    obtain ⟨p, hp, rfl⟩ := hv
    unfold yJ
    split
    · rename_i j hj
      obtain ⟨p', g1, g2, g3, g4⟩ := hψ k j p hj hp
      exact (@yY (linSym σ K) _ _ _).2 ⟨p', g1, by rw [g2]⟩
    · exact @qP (linSym σ K) _ _
  | .func f a b, v, hv => by
    rw [@yk (linSym σT KT)] at hv
    obtain ⟨a', b', rfl, g1, g2⟩ := hv
    unfold yJ
    exact (@yk (linSym σ K) _ _ _ _ _).2 ⟨a', b', rfl, kJ hθ hψ a g1, kJ hθ hψ b g2⟩
  | .iface t x, v, hv => by
    rw [@z7 (linSym σT KT)] at hv
    obtain ⟨y, rfl, g⟩ := hv
    unfold yJ
    exact (@z7 (linSym σ K) _ _ _ _).2 ⟨y, rfl, wW hθ hψ x g⟩
  | .agg a, v, hv => by
    rw [@yU (linSym σT KT)] at hv
    obtain ⟨a', rfl, g⟩ := hv
    unfold yJ
    exact (@yU (linSym σ K) _ _ _).2 ⟨a', rfl, kJ hθ hψ a g⟩
  | .tup a, v, hv => by
    rw [@z6 (linSym σT KT)] at hv
    obtain ⟨a', rfl, g⟩ := hv
    unfold yJ
    exact (@z6 (linSym σ K) _ _ _).2 ⟨a', rfl, kJ hθ hψ a g⟩
  | .sst a, v, hv => by
    rw [@xI (linSym σT KT)] at hv
    obtain ⟨b, rfl, g⟩ := hv
    unfold yJ
    exact (@xI (linSym σ K) _ _ _).2 ⟨b, rfl, kJ hθ hψ a g⟩
  | .win .., v, hv => by unfold yJ; exact @qP (linSym σ K) _ _
  | .bool b, v, hv => by
    rw [@zH (linSym σT KT)] at hv
    unfold yJ
    exact (@zH (linSym σ K) _ _ _).2 hv
  | .nat b, v, hv => by
    rw [@zU (linSym σT KT)] at hv
    unfold yJ
    exact (@zU (linSym σ K) _ _ _).2 hv
  | .int k b, v, hv => by
    rw [@zc (linSym σT KT)] at hv
    unfold yJ
    exact (@zc (linSym σ K) _ _ _ _).2 hv
  | .anyi k, v, hv => by
    rw [@yC (linSym σT KT)] at hv
    unfold yJ
    exact (@yC (linSym σ K) _ _ _).2 hv
  | .str b, v, hv => by
    rw [@zh (linSym σT KT)] at hv
    unfold yJ
    exact (@zh (linSym σ K) _ _ _).2 hv
  | .nilptr, v, hv => by
    rw [@yx (linSym σT KT)] at hv
    unfold yJ
    exact (@yx (linSym σ K) _ _).2 hv
  | .nilsl, v, hv => by
    rw [@zl (linSym σT KT)] at hv
    unfold yJ
    exact (@zl (linSym σ K) _ _).2 hv
  | .nilmap, v, hv => by
    rw [@zt (linSym σT KT)] at hv
    unfold yJ
    exact (@zt (linSym σ K) _ _).2 hv
  | .nilfunc, v, hv => by
    rw [@yi (linSym σT KT)] at hv
    unfold yJ
    exact (@yi (linSym σ K) _ _).2 hv
  | .niliface, v, hv => by
    rw [@z8 (linSym σT KT)] at hv
    unfold yJ
    exact (@z8 (linSym σ K) _ _).2 hv
  | .big n, v, hv => by
    rw [@qN (linSym σT KT)] at hv
    unfold yJ
    exact (@qN (linSym σ K) _ _ _).2 hv
  | .any, v, hv => by unfold yJ; exact @qP (linSym σ K) _ _
theorem kJ (hθ : wN σ σT θ) (hψ : zHg ρ ψs ψT) : ∀ (cs : List CV) {l : List Value}, @zS (linSym σT KT) ψs cs l → @zS (linSym σ K) ψT (xi ρ θ cs) l
  | [], l, hl => by
    rw [@zL (linSym σT KT)] at hl
    unfold xi
    exact (@zL (linSym σ K) _ _).2 hl
  | c :: cs, l, hl => by
    rw [@zX (linSym σT KT)] at hl
    obtain ⟨v, r, rfl, h1, h2⟩ := hl
    unfold xi
    exact (@zT (linSym σ K) _ _ _ _ _).2 ⟨wW hθ hψ c h1, kJ hθ hψ cs h2⟩
end
def zJP (ρ : Heap) (θ : TH) : List CE → List CE
  | [] => []
  | e :: l => ⟨yJ ρ θ e.key, yJ ρ θ e.val, e.born⟩ :: zJP ρ θ l
def zEb (ρ : Heap) (θ : TH) : CObj → CObj
  | .cells l => .cells (xi ρ θ l)
  | .map es c => .map (zJP ρ θ es) c
  | o => o
def okO : CObj → Bool
  | .cells _ => true
  | .map _ _ => true
  | _ => false
theorem zDE : ∀ {l : List CV}, (xi ρ θ l).length = l.length
  | [] => rfl
  | c :: l => by rw [xi, List.length_cons, List.length_cons, zDE]
theorem zEu : ∀ {l : List CV} {i : Nat} {c : CV}, (xi ρ θ l)[i]? = some c → ∃ d, l[i]? = some d ∧ c = yJ ρ θ d
  | [], i, c, h => by rw [xi] at h; simp at h
  | d :: l, 0, c, h => by
    rw [xi] at h
    simp at h
    exact ⟨d, rfl, h.symm⟩
  | d :: l, i + 1, c, h => by
    rw [xi] at h
    exact zEu (l := l) (i := i) (by simpa using h)
theorem zFl (hθ : wN σ σT θ) (hψ : zHg ρ ψs ψT) {ck : Nat → Nat} : ∀ {es : List CE} {l : List MapEntry}, @yD (linSym σT KT) ψs ck es l → @yD (linSym σ K) ψT ck (zJP ρ θ es) l
  | [], l, h => h
  | c :: es, l, h => by
    obtain ⟨e, r, rfl, ⟨h1, h2, h3⟩, h4⟩ := h
    exact ⟨e, r, rfl, ⟨wW hθ hψ _ h1, wW hθ hψ _ h2, h3⟩, zFl hθ hψ h4⟩
theorem zNE (hθ : wN σ σT θ) (hψ : zHg ρ ψs ψT) {o : CObj} (ho : okO o = true) {w : World} {p p' : Pl} (hp : zDJ p p') (hck : (∀ es c, o = .map es c → p' = p)) (h : @xE (linSym σT KT) ψs w p o) : @xE (linSym σ K) ψT w p' (zEb ρ θ o) := by
  obtain ⟨e1, e2, e3⟩ := hp
  cases o with
  | cells l =>
    obtain ⟨arr, elem, fz, g1, g2, g3, g4, g5⟩ := h
    refine ⟨arr, elem, fz, by rw [e1]; exact g1, by rw [e3]; exact g2, by rw [e2, e3, zDE]; exact g3, by rw [e3]; exact g4, fun i c hi => ?_⟩
    obtain ⟨d, hd, rfl⟩ := zEu hi
    obtain ⟨x, hx, hr⟩ := g5 i d hd
    exact ⟨x, by rw [e2]; exact hx, wW hθ hψ d hr⟩
  | map es c =>
    obtain rfl := hck es c rfl
    obtain ⟨arr, g1, ⟨l0, gp, g2⟩, g3⟩ := h
    exact ⟨arr, g1, ⟨l0, gp, zFl hθ hψ g2⟩, g3⟩
  | ro _ => cases ho
  | striter _ _ => cases ho
  | mapiter _ _ _ _ => cases ho
  | full _ _ => cases ho
end
def fZ (z : Int) (k : Int → R) : R := match z with
  | .ofNat n => k (.ofNat n)
  | .negSucc n => k (.negSucc n)
def fL : LL → (LL → R) → R
  | [], k => k []
  | (i, a) :: l, k => fZ a fun a => fL l fun l => k ((i, a) :: l)
def fSE (e : SE) (k : SE → R) : R := match e with
  | ⟨j, c, l⟩ => fZ c fun c => fL l fun l => k ⟨j, c, l⟩
mutual
def fV : CV → (CV → R) → R
  | .agg l, k => fVs l fun l => k (.agg l)
  | .tup l, k => fVs l fun l => k (.tup l)
  | .sst l, k => fVs l fun l => k (.sst l)
  | .iface t v, k => fV v fun v => k (.iface t v)
  | .func f a b, k => fVs a fun a => fVs b fun b => k (.func f a b)
  | .sym e, k => fSE e fun e => k (.sym e)
  | .bool b, k => k (.bool b)
  | .nat n, k => k (.nat n)
  | .int j n, k => k (.int j n)
  | .anyi j, k => k (.anyi j)
  | .str s, k => k (.str s)
  | .nilptr, k => k .nilptr
  | .ptr b o, k => k (.ptr b o)
  | .nilsl, k => k .nilsl
  | .sl b o l c e x, k => k (.sl b o l c e x)
  | .nilmap, k => k .nilmap
  | .map b, k => k (.map b)
  | .nilfunc, k => k .nilfunc
  | .niliface, k => k .niliface
  | .win a b c d, k => k (.win a b c d)
  | .big n, k => k (.big n)
  | .any, k => k .any
def fVs : List CV → (List CV → R) → R
  | [], k => k []
  | v :: l, k => fV v fun v => fVs l fun l => k (v :: l)
end
theorem zNe {z : Int} {k : Int → R} : fZ z k = k z := by cases z <;> rfl
theorem zMA : ∀ {l : LL} {k : LL → R}, fL l k = k l
  | [], _ => rfl
  | (i, a) :: l, k => by unfold fL; rw [zNe, zMA]
theorem zNk {e : SE} {k : SE → R} : fSE e k = k e := by
  obtain ⟨j, c, l⟩ := e
  show (fZ c fun c => fL l fun l => k ⟨j, c, l⟩) = k ⟨j, c, l⟩
  rw [zNe, zMA]
mutual
theorem zKU : ∀ (c : CV) (k : CV → R), fV c k = k c
  | .agg l, k => by unfold fV; exact zAf l _
  | .tup l, k => by unfold fV; exact zAf l _
  | .sst l, k => by unfold fV; exact zAf l _
  | .iface t v, k => by unfold fV; exact zKU v _
  | .func f a b, k => by unfold fV; rw [zAf a, zAf b]
  | .sym e, k => by unfold fV; exact zNk
  | .bool b, k => by unfold fV; rfl
  | .nat n, k => by unfold fV; rfl
  | .int j n, k => by unfold fV; rfl
  | .anyi j, k => by unfold fV; rfl
  | .str s, k => by unfold fV; rfl
  | .nilptr, k => by unfold fV; rfl
  | .ptr b o, k => by unfold fV; rfl
  | .nilsl, k => by unfold fV; rfl
  | .sl b o l c e x, k => by unfold fV; rfl
  | .nilmap, k => by unfold fV; rfl
  | .map b, k => by unfold fV; rfl
  | .nilfunc, k => by unfold fV; rfl
  | .niliface, k => by unfold fV; rfl
  | .win a b c d, k => by unfold fV; rfl
  | .big n, k => by unfold fV; rfl
  | .any, k => by unfold fV; rfl
theorem zAf : ∀ (l : List CV) (k : List CV → R), fVs l k = k l
  | [], k => by unfold fVs; rfl
  | v :: l, k => by unfold fVs; rw [zKU v, zAf l]
end
def fEs : List CE → (List CE → R) → R
  | [], k => k []
  | ⟨a, b, n⟩ :: l, k => fV a fun a => fV b fun b => fEs l fun l => k (⟨a, b, n⟩ :: l)
theorem zNU : ∀ {l : List CE} {k : List CE → R}, fEs l k = k l
  | [], _ => rfl
  | ⟨a, b, n⟩ :: l, k => by unfold fEs; rw [zKU, zKU, zNU]
def fO (o : CObj) (k : CObj → R) : R := match o with
  | .cells l => fVs l fun l => k (.cells l)
  | .map es c => fEs es fun es => k (.map es c)
  | o => k o
theorem zIo {o : CObj} {k : CObj → R} : fO o k = k o := by
  cases o <;> first | rfl | (unfold fO; first | exact zAf _ _ | exact zNU)
def fTH : TH → (TH → R) → R
  | [], k => k []
  | (a, l) :: r, k => fZ a fun a => fL l fun l => fTH r fun r => k ((a, l) :: r)
theorem zI7 : ∀ {l : TH} {k : TH → R}, fTH l k = k l
  | [], _ => rfl
  | (a, l) :: r, k => by unfold fTH; rw [zNe, zMA, zI7]
def fKs : List Key → (List Key → R) → R
  | [], k => k []
  | x :: l, k => fKs l fun l => k (x :: l)
theorem zIN : ∀ {l : List Key} {k : List Key → R}, fKs l k = k l
  | [], _ => rfl
  | x :: l, k => by unfold fKs; rw [zIN]
def zLd (k : Key) : List Key → Bool
  | [] => false
  | x :: r => decide (x = k) || zLd k r
theorem zKT {k : Key} : ∀ {l : List Key}, zLd k l = true → k ∈ l
  | [], h => by cases h
  | x :: r, h => by
    unfold zLd at h
    rw [Bool.or_eq_true, decide_eq_true_eq] at h
    rcases h with h | h
    · simp [h]
    · simp [zKT h]
def wm (pins : List Key) (ρ : Heap) : List (Key × CObj) → Key → Option (List Key × Key)
  | [], n => some ([], n)
  | p :: r, n => match zLd p.1 pins with
    | true => match rhoOf ρ p.1, p.2 with
      | some j, .cells _ => match wm pins ρ r n with
        | some q => some (j :: q.1, q.2)
        | none => none
      | _, _ => none
    | false => match n.succ with
      | .mk a b c d => match wm pins ρ r (.mk a b c d) with
        | some q => some (n :: q.1, q.2)
        | none => none
theorem zBF {pins : List Key} {ρ : Heap} : ∀ {l : List (Key × CObj)} {n : Key} {q : List Key × Key}, wm pins ρ l n = some q → q.2.room → n.ix ≤ q.2.ix ∧
    ∀ (i : Nat) (k : Key) (o : CObj) (j : Key), l[i]? = some (k, o) → q.1[i]? = some j → (k ∈ pins ∧ rhoOf ρ k = some j ∧ ∃ cs, o = .cells cs) ∨ (k ∉ pins ∧ n.ix ≤ j.ix ∧ j.ix < q.2.ix)
  | [], n, q, h, hr => by
    injection h with h; subst h
    exact ⟨Nat.le_refl _, fun i k o j h1 _ => by simp at h1⟩
  | p :: r, n, q, h, hr => by
    unfold wm at h
    split at h
    · rename_i hm
      split at h
      · rename_i j cs hj hcs
        split at h
        · rename_i q' hq'
          injection h with h; subst h
          obtain ⟨h1, h2⟩ := zBF hq' hr
          refine ⟨h1, fun i k o j' g1 g2 => ?_⟩
          cases i with
          | zero =>
            simp at g1 g2
            subst g1 g2
            exact .inl ⟨zKT hm, hj, cs, hcs⟩
          | succ i => exact h2 i k o j' (by simpa using g1) (by simpa using g2)
        · cases h
      · cases h
    · rename_i hm
      have hnm : p.1 ∉ pins := fun hin => by
        have : ∀ {l : List Key}, p.1 ∈ l → zLd p.1 l = true := by
          intro l
          induction l with
          | nil => intro h; cases h
          | cons x l ih =>
            intro h
            unfold zLd
            rcases List.mem_cons.1 h with e | h
            · simp [e]
            · simp [ih h]
        rw [this hin] at hm; cases hm
      split at h
      rename_i a b c d hs
      split at h
      · rename_i q' hq'
        injection h with h; subst h
        obtain ⟨h1, h2⟩ := zBF hq' hr
        rw [← hs] at h1 h2
        have hle := @Key.ix_le_succ zZ n
        have hroom : n.ix < 65535 := by
          have : q'.2.ix < 65535 := hr
          omega
        have hix := @Key.ix_succ zZ n hroom
        refine ⟨by simp only; omega, fun i k o j' g1 g2 => ?_⟩
        cases i with
        | zero =>
          simp at g1 g2
          subst g1 g2
          exact .inr ⟨hnm, Nat.le_refl _, by simp only; omega⟩
        | succ i =>
          rcases h2 i k o j' (by simpa using g1) (by simpa using g2) with g | ⟨g3, g4, g5⟩
          · exact .inl g
          · exact .inr ⟨g3, by omega, g5⟩
      · cases h
def zIG (ρ inv : Heap) : List (Key × CObj) → List Key → Bool
  | [], [] => true
  | p :: r, j :: js => vK ρ p.1 j && vK inv j p.1 && okO p.2 && zIG ρ inv r js
  | _, _ => false
theorem zJX {ρ inv : Heap} : ∀ {l : List (Key × CObj)} {ks : List Key}, zIG ρ inv l ks = true → l.length = ks.length ∧ ∀ (i : Nat) (k : Key) (o : CObj), l[i]? = some (k, o) → ∃ j, ks[i]? = some j ∧ rhoOf ρ k = some j ∧ rhoOf inv j = some k ∧ okO o = true
  | [], [], _ => ⟨rfl, fun i k o h => by simp at h⟩
  | [], _ :: _, h => by cases h
  | _ :: _, [], h => by cases h
  | p :: r, j :: js, h => by
    unfold zIG at h
    simp only [Bool.and_eq_true] at h
    obtain ⟨⟨⟨h1, h2⟩, h3⟩, h4⟩ := h
    obtain ⟨g1, g2⟩ := zJX h4
    refine ⟨by simp [g1], fun i k o hi => ?_⟩
    cases i with
    | zero =>
      simp at hi
      subst hi
      exact ⟨j, rfl, ku h1, ku h2, h3⟩
    | succ i =>
      obtain ⟨j', q1, q2⟩ := g2 i k o (by simpa using hi)
      exact ⟨j', by simpa using q1, q2⟩
def vx (ρ : Heap) (θ : TH) : List (Key × CObj) → List Key → List (Key × CObj)
  | p :: r, j :: js => (j, zEb ρ θ p.2) :: vx ρ θ r js
  | _, _ => []
theorem zMQ {k b : Key} : ∀ {objs : List (Key × CObj)} {ks : List Key}, rhoOf (jC objs ks) k = some b → ∃ j : Nat, (∃ o : CObj, objs[j]? = some (b, o)) ∧ ks[j]? = some k
  | [], _, h => by
    have h : rhoOf .nil k = some b := h
    unfold rhoOf at h
    rw [wx] at h; cases h
  | _ :: _, [], h => by
    have h : rhoOf .nil k = some b := h
    unfold rhoOf at h
    rw [wx] at h; cases h
  | p :: r, j :: js, h => by
    by_cases e : k = j
    · have h : rhoOf (yv (some (.cells [.ptr p.1 0])) j (jC r js)) k = some b := h
      unfold rhoOf at h
      rw [wL, if_pos e] at h
      injection h with h
      exact ⟨0, ⟨p.2, by subst h; rfl⟩, by subst e; rfl⟩
    · have h' : rhoOf (jC r js) k = some b := by
        have h : rhoOf (yv (some (.cells [.ptr p.1 0])) j (jC r js)) k = some b := h
        unfold rhoOf at h ⊢
        rw [wL, if_neg e] at h
        exact h
      obtain ⟨i, ⟨o, h1⟩, h2⟩ := zMQ h'
      exact ⟨i + 1, ⟨o, by simpa using h1⟩, by simpa using h2⟩
theorem zE5 {ρ inv ρ' : Heap} {θ : TH} {h0 : Heap} {k : Key} {o : CObj} : ∀ {l : List (Key × CObj)} {ks : List Key}, zIG ρ inv l ks = true → yK k (mkH h0 (vx ρ' θ l ks)) = some o →
    (∃ (kp : Key) (o' : CObj) (i : Nat), yK kp (mkH .nil l) = some o' ∧ o = zEb ρ' θ o' ∧ okO o' = true ∧ rhoOf ρ kp = some k ∧ l[i]? = some (kp, o') ∧ ks[i]? = some k) ∨ yK k h0 = some o
  | [], [], _, h => .inr h
  | [], _ :: _, hb, _ => by cases hb
  | _ :: _, [], hb, _ => by cases hb
  | p :: r, j :: js, hb, h => by
    unfold zIG at hb
    simp only [Bool.and_eq_true] at hb
    obtain ⟨⟨⟨h1, h2⟩, h3⟩, h4⟩ := hb
    have h : yK k (yv (some (zEb ρ' θ p.2)) j (mkH h0 (vx ρ' θ r js))) = some o := h
    rw [wL] at h
    split at h
    · rename_i e
      injection h with h
      refine .inl ⟨p.1, p.2, 0, ?_, h.symm, h3, by rw [e]; exact ku h1, rfl, by rw [e]; rfl⟩
      show yK p.1 (yv (some p.2) p.1 (mkH .nil r)) = _
      rw [wL, if_pos rfl]
    · rename_i e
      rcases zE5 h4 h with ⟨kp, o', i, g1, g2, g3, g4, g5, g6⟩ | g
      · refine .inl ⟨kp, o', i + 1, ?_, g2, g3, g4, by simpa using g5, by simpa using g6⟩
        show yK kp (yv (some p.2) p.1 (mkH .nil r)) = _
        rw [wL, if_neg (fun e' => by
          rw [e', ku h1] at g4
          injection g4 with g4
          exact e g4.symm)]
        exact g1
      · exact .inr g
def zIz : List Key → Heap → Heap
  | [], h => h
  | k :: r, h => yv none k (zIz r h)
theorem zFX {h : Heap} {k : Key} {o : CObj} : ∀ {l : List Key}, yK k (zIz l h) = some o → k ∉ l ∧ yK k h = some o
  | [], hh => ⟨by simp, hh⟩
  | x :: r, hh => by
    have hh : yK k (yv none x (zIz r h)) = some o := hh
    rw [wL] at hh
    split at hh
    · cases hh
    · rename_i e
      obtain ⟨h1, h2⟩ := zFX hh
      exact ⟨by simp [e, h1], h2⟩
def zQk [Sym] (q : Int × Int) (u : Int × LL) : Bool := match u.2 with
  | [] => decide (q.1 ≤ u.1) && decide (u.1 ≤ q.2)
  | l => match Sym.bin .geq (.sym ⟨.i64, u.1, l⟩) (mkInt .i64 q.1), Sym.bin .leq (.sym ⟨.i64, u.1, l⟩) (mkInt .i64 q.2) with
    | some [.bool true], some [.bool true] => true
    | _, _ => false
def zOB [Sym] : List (Int × Int) → TH → Bool
  | [], [] => true
  | q :: r, u :: θ => zQk q u && zOB r θ
  | _, _ => false
def zPH (ρ : Heap) (θ : TH) (c : CV) : CV := CV.rec (motive_1 := fun _ => CV) (motive_2 := fun _ => List CV)
  (fun x0 => .bool x0)
  (fun x0 => .nat x0)
  (fun x0 x1 => .int x0 x1)
  (fun x0 => .anyi x0)
  (fun x0 => .str x0)
  .nilptr
  (fun x0 x1 => match rhoOf ρ x0 with | some j => .ptr j x1 | none => .any)
  .nilsl
  (fun x0 x1 x2 x3 x4 x5 => match rhoOf ρ x0 with | some j => .sl j x1 x2 x3 x4 x5 | none => .any)
  .nilmap
  (fun x0 => match rhoOf ρ x0 with | some j => .map j | none => .any)
  (fun x0 x1 x2 ha hc => .func x0 ha hc)
  .nilfunc
  (fun x0 x1 hv => .iface x0 hv)
  .niliface
  (fun x0 hl => .agg hl)
  (fun x0 hl => .tup hl)
  (fun x0 => match zHd θ x0.l with | some s => mkS x0.k (x0.c + s.1) s.2 | none => .any)
  (fun x0 x1 x2 x3 => .any)
  (fun x0 hl => .sst hl)
  (fun x0 => .big x0)
  .any
  []
  (fun _ _ h g => h :: g) c
def zN9 (ρ : Heap) (θ : TH) (l : List CV) : List CV := CV.rec_1 (motive_1 := fun _ => CV) (motive_2 := fun _ => List CV)
  (fun x0 => .bool x0)
  (fun x0 => .nat x0)
  (fun x0 x1 => .int x0 x1)
  (fun x0 => .anyi x0)
  (fun x0 => .str x0)
  .nilptr
  (fun x0 x1 => match rhoOf ρ x0 with | some j => .ptr j x1 | none => .any)
  .nilsl
  (fun x0 x1 x2 x3 x4 x5 => match rhoOf ρ x0 with | some j => .sl j x1 x2 x3 x4 x5 | none => .any)
  .nilmap
  (fun x0 => match rhoOf ρ x0 with | some j => .map j | none => .any)
  (fun x0 x1 x2 ha hc => .func x0 ha hc)
  .nilfunc
  (fun x0 x1 hv => .iface x0 hv)
  .niliface
  (fun x0 hl => .agg hl)
  (fun x0 hl => .tup hl)
  (fun x0 => match zHd θ x0.l with | some s => mkS x0.k (x0.c + s.1) s.2 | none => .any)
  (fun x0 x1 x2 x3 => .any)
  (fun x0 hl => .sst hl)
  (fun x0 => .big x0)
  .any
  []
  (fun _ _ h g => h :: g) l
section
variable {ρ : Heap} {θ : TH}
mutual
theorem zAw : ∀ (c : CV), zPH ρ θ c = yJ ρ θ c
  | .bool x0 => by unfold yJ; rfl
  | .nat x0 => by unfold yJ; rfl
  | .int x0 x1 => by unfold yJ; rfl
  | .anyi x0 => by unfold yJ; rfl
  | .str x0 => by unfold yJ; rfl
  | .nilptr => by unfold yJ; rfl
  | .ptr x0 x1 => by unfold yJ; rfl
  | .nilsl => by unfold yJ; rfl
  | .sl x0 x1 x2 x3 x4 x5 => by unfold yJ; rfl
  | .nilmap => by unfold yJ; rfl
  | .map x0 => by unfold yJ; rfl
  | .func x0 x1 x2 => by unfold yJ; rw [← jP x1, ← jP x2]; rfl
  | .nilfunc => by unfold yJ; rfl
  | .iface x0 x1 => by unfold yJ; rw [← zAw x1]; rfl
  | .niliface => by unfold yJ; rfl
  | .agg x0 => by unfold yJ; rw [← jP x0]; rfl
  | .tup x0 => by unfold yJ; rw [← jP x0]; rfl
  | .sym x0 => by unfold yJ; rfl
  | .win x0 x1 x2 x3 => by unfold yJ; rfl
  | .sst x0 => by unfold yJ; rw [← jP x0]; rfl
  | .big x0 => by unfold yJ; rfl
  | .any => by unfold yJ; rfl
theorem jP : ∀ (l : List CV), zN9 ρ θ l = xi ρ θ l
  | [] => by unfold xi; rfl
  | c :: l => by unfold xi; rw [← zAw c, ← jP l]; rfl
end
def zNp (ρ : Heap) (θ : TH) (o : CObj) : CObj := match o with
  | .cells l => .cells (zN9 ρ θ l)
  | o => zEb ρ θ o
theorem zLG {o : CObj} : zNp ρ θ o = zEb ρ θ o := by
  cases o with
  | cells l => exact congrArg CObj.cells (jP l)
  | _ => rfl
def uI (ρ : Heap) (θ : TH) : List (Key × CObj) → List Key → List (Key × CObj)
  | p :: r, j :: js => (j, zNp ρ θ p.2) :: uI ρ θ r js
  | _, _ => []
theorem zAk : ∀ {l : List (Key × CObj)} {ks : List Key}, uI ρ θ l ks = vx ρ θ l ks
  | [], _ => by simp [uI, vx]
  | _ :: _, [] => by simp [uI, vx]
  | p :: r, j :: js => by unfold uI vx; rw [zLG, zAk]
end
def fQ (c : CV) : (CV → R) → R := CV.rec (motive_1 := fun _ => (CV → R) → R) (motive_2 := fun _ => (List CV → R) → R)
  (fun x0 k => k (.bool x0))
  (fun x0 k => k (.nat x0))
  (fun x0 x1 k => k (.int x0 x1))
  (fun x0 k => k (.anyi x0))
  (fun x0 k => k (.str x0))
  (fun k => k (.nilptr))
  (fun x0 x1 k => k (.ptr x0 x1))
  (fun k => k (.nilsl))
  (fun x0 x1 x2 x3 x4 x5 k => k (.sl x0 x1 x2 x3 x4 x5))
  (fun k => k (.nilmap))
  (fun x0 k => k (.map x0))
  (fun x0 x1 x2 ha hc k => ha fun x1 => hc fun x2 => k (.func x0 x1 x2))
  (fun k => k (.nilfunc))
  (fun x0 x1 hv k => hv fun x1 => k (.iface x0 x1))
  (fun k => k (.niliface))
  (fun x0 hl k => hl fun x0 => k (.agg x0))
  (fun x0 hl k => hl fun x0 => k (.tup x0))
  (fun x0 k => fSE x0 fun x0 => k (.sym x0))
  (fun x0 x1 x2 x3 k => k (.win x0 x1 x2 x3))
  (fun x0 hl k => hl fun x0 => k (.sst x0))
  (fun x0 k => k (.big x0))
  (fun k => k (.any))
  (fun k => k [])
  (fun _ _ h g k => h fun v => g fun l => k (v :: l)) c
def fQs (l : List CV) : (List CV → R) → R := CV.rec_1 (motive_1 := fun _ => (CV → R) → R) (motive_2 := fun _ => (List CV → R) → R)
  (fun x0 k => k (.bool x0))
  (fun x0 k => k (.nat x0))
  (fun x0 x1 k => k (.int x0 x1))
  (fun x0 k => k (.anyi x0))
  (fun x0 k => k (.str x0))
  (fun k => k (.nilptr))
  (fun x0 x1 k => k (.ptr x0 x1))
  (fun k => k (.nilsl))
  (fun x0 x1 x2 x3 x4 x5 k => k (.sl x0 x1 x2 x3 x4 x5))
  (fun k => k (.nilmap))
  (fun x0 k => k (.map x0))
  (fun x0 x1 x2 ha hc k => ha fun x1 => hc fun x2 => k (.func x0 x1 x2))
  (fun k => k (.nilfunc))
  (fun x0 x1 hv k => hv fun x1 => k (.iface x0 x1))
  (fun k => k (.niliface))
  (fun x0 hl k => hl fun x0 => k (.agg x0))
  (fun x0 hl k => hl fun x0 => k (.tup x0))
  (fun x0 k => fSE x0 fun x0 => k (.sym x0))
  (fun x0 x1 x2 x3 k => k (.win x0 x1 x2 x3))
  (fun x0 hl k => hl fun x0 => k (.sst x0))
  (fun x0 k => k (.big x0))
  (fun k => k (.any))
  (fun k => k [])
  (fun _ _ h g k => h fun v => g fun l => k (v :: l)) l
mutual
theorem zJ2 : ∀ (c : CV) (k : CV → R), fQ c k = k c
  | .bool x0, k => rfl
  | .nat x0, k => rfl
  | .int x0 x1, k => rfl
  | .anyi x0, k => rfl
  | .str x0, k => rfl
  | .nilptr, k => rfl
  | .ptr x0 x1, k => rfl
  | .nilsl, k => rfl
  | .sl x0 x1 x2 x3 x4 x5, k => rfl
  | .nilmap, k => rfl
  | .map x0, k => rfl
  | .func x0 x1 x2, k => by show (fQs x1 fun x1 => fQs x2 fun x2 => k (.func x0 x1 x2)) = _; rw [zAn x1, zAn x2]
  | .nilfunc, k => rfl
  | .iface x0 x1, k => zJ2 x1 fun x1 => k (.iface x0 x1)
  | .niliface, k => rfl
  | .agg x0, k => zAn x0 fun x0 => k (.agg x0)
  | .tup x0, k => zAn x0 fun x0 => k (.tup x0)
  | .sym x0, k => zNk (k := fun x0 => k (.sym x0))
  | .win x0 x1 x2 x3, k => rfl
  | .sst x0, k => zAn x0 fun x0 => k (.sst x0)
  | .big x0, k => rfl
  | .any, k => rfl
theorem zAn : ∀ (l : List CV) (k : List CV → R), fQs l k = k l
  | [], k => rfl
  | c :: l, k => by show (fQ c fun v => fQs l fun l => k (v :: l)) = _; rw [zJ2 c, zAn l]
end
def fOQ (o : CObj) (k : CObj → R) : R := match o with
  | .cells l => fQs l fun l => k (.cells l)
  | o => fO o k
theorem zPU {o : CObj} {k : CObj → R} : fOQ o k = k o := by
  cases o with
  | cells l => exact zAn l fun l => k (.cells l)
  | ro a => exact zIo (o := .ro a)
  | map a b => exact zIo (o := .map a b)
  | striter a b => exact zIo (o := .striter a b)
  | mapiter a b c d => exact zIo (o := .mapiter a b c d)
  | full a b => exact zIo (o := .full a b)
def zPd : List (Key × CObj) → (List (Key × CObj) → R) → R
  | [], k => k []
  | (j, o) :: l, k => fOQ o fun o => zPd l fun l => k ((j, o) :: l)
theorem zG1 : ∀ {l : List (Key × CObj)} {k : List (Key × CObj) → R}, zPd l k = k l
  | [], _ => rfl
  | (j, o) :: l, k => by unfold zPd; rw [zPU, zG1]
def zMy [Sym] (G : Nat) (s : Sm) (ks : List Key) (θ : TH) (args : List CV) (h : Heap) : Bool :=
  zPt (mkRho s.objs ks) θ s.args args && vl (mkRho s.objs ks) (jC s.objs ks) θ h G s.n.ix s.objs ks && Nat.ble G s.n.ix && zOB s.b θ
def vw (s : Sm) (ks : List Key) (θ : TH) (h : Heap) (n : Key) (po : Po) : R := match wm s.pins (mkRho s.objs ks) po.objs n with
  | none => .err 432
  | some q => match zIG (mkRho po.objs q.1) (jC po.objs q.1) po.objs q.1 with
    | false => .err 433
    | true => fQ (zPH (mkRho po.objs q.1) θ po.v) fun v => zPd (uI (mkRho po.objs q.1) θ po.objs q.1) fun os => .ret v (mkH (zIz ks h) os) q.2
def kj (s : Sm) (ks : List Key) (θ : TH) (h : Heap) (n : Key) : List Po → R
  | [] => .err 434
  | [po] => vw s ks θ h n po
  | po :: r => .fork (vw s ks θ h n po) (kj s ks θ h n r)
def zQZ (th : List (Nat × Int × LL)) : List (Int × Int) → TH
  | [] => []
  | _ :: r => (0, []) :: hTh th r 1
def zOn [Sym] (G : Nat) (args : List CV) (h : Heap) (n : Key) (s : Sm) (z : R) : R := match zKV h s.objs (hVs s.args args ⟨[], [], zPz s.objs, []⟩) [] with
  | (ks, a) => fKs ks fun ks => fTH (zQZ a.th s.b) fun θ => match zMy G s ks θ args h with
    | true => kj s ks θ h n s.posts
    | false => z
def qkV (c : CV) : CV → Bool := CV.rec (motive_1 := fun _ => CV → Bool) (motive_2 := fun _ => List CV → Bool)
  (fun x0 d => (CV.rec (motive_1 := fun _ => Bool) (motive_2 := fun _ => Unit) (fun y0 => zPX x0 y0) (fun _ => true) (fun _ _ => true) (fun _ => true) (fun _ => true) true (fun _ _ => true) true (fun _ _ _ _ _ _ => true) true (fun _ => true) (fun _ _ _ _ _ => true) true (fun _ _ _ => true) true (fun _ _ => true) (fun _ _ => true) (fun _ => true) (fun _ _ _ _ => true) (fun _ _ => true) (fun _ => true) true () (fun _ _ _ _ => ()) d))
  (fun x0 d => (CV.rec (motive_1 := fun _ => Bool) (motive_2 := fun _ => Unit) (fun _ => true) (fun y0 => Nat.beq x0 y0) (fun _ _ => true) (fun _ => true) (fun _ => true) true (fun _ _ => true) true (fun _ _ _ _ _ _ => true) true (fun _ => true) (fun _ _ _ _ _ => true) true (fun _ _ _ => true) true (fun _ _ => true) (fun _ _ => true) (fun _ => true) (fun _ _ _ _ => true) (fun _ _ => true) (fun _ => true) true () (fun _ _ _ _ => ()) d))
  (fun x0 x1 d => (CV.rec (motive_1 := fun _ => Bool) (motive_2 := fun _ => Unit) (fun _ => true) (fun _ => true) (fun y0 y1 => yy x1 y1) (fun _ => true) (fun _ => true) true (fun _ _ => true) true (fun _ _ _ _ _ _ => true) true (fun _ => true) (fun _ _ _ _ _ => true) true (fun _ _ _ => true) true (fun _ _ => true) (fun _ _ => true) (fun _ => true) (fun _ _ _ _ => true) (fun _ _ => true) (fun _ => true) true () (fun _ _ _ _ => ()) d))
  (fun x0 d => true)
  (fun x0 d => (CV.rec (motive_1 := fun _ => Bool) (motive_2 := fun _ => Unit) (fun _ => true) (fun _ => true) (fun _ _ => true) (fun _ => true) (fun y0 => xw x0 y0) true (fun _ _ => true) true (fun _ _ _ _ _ _ => true) true (fun _ => true) (fun _ _ _ _ _ => true) true (fun _ _ _ => true) true (fun _ _ => true) (fun _ _ => true) (fun _ => true) (fun _ _ _ _ => true) (fun _ _ => true) (fun _ => true) true () (fun _ _ _ _ => ()) d))
  (fun d => true)
  (fun x0 x1 d => true)
  (fun d => (CV.rec (motive_1 := fun _ => Bool) (motive_2 := fun _ => Unit) (fun _ => true) (fun _ => true) (fun _ _ => true) (fun _ => true) (fun _ => true) true (fun _ _ => true) true (fun y0 y1 y2 y3 y4 y5 => false) true (fun _ => true) (fun _ _ _ _ _ => true) true (fun _ _ _ => true) true (fun _ _ => true) (fun _ _ => true) (fun _ => true) (fun _ _ _ _ => true) (fun _ _ => true) (fun _ => true) true () (fun _ _ _ _ => ()) d))
  (fun x0 x1 x2 x3 x4 x5 d => (CV.rec (motive_1 := fun _ => Bool) (motive_2 := fun _ => Unit) (fun _ => true) (fun _ => true) (fun _ _ => true) (fun _ => true) (fun _ => true) true (fun _ _ => true) false (fun y0 y1 y2 y3 y4 y5 => Nat.beq x2 y2) true (fun _ => true) (fun _ _ _ _ _ => true) true (fun _ _ _ => true) true (fun _ _ => true) (fun _ _ => true) (fun _ => true) (fun _ _ _ _ => true) (fun _ _ => true) (fun _ => true) true () (fun _ _ _ _ => ()) d))
  (fun d => true)
  (fun x0 d => true)
  (fun x0 x1 x2 ha hc d => true)
  (fun d => true)
  (fun x0 x1 hv d => true)
  (fun d => true)
  (fun x0 hl d => (CV.rec (motive_1 := fun _ => Bool) (motive_2 := fun _ => Unit) (fun _ => true) (fun _ => true) (fun _ _ => true) (fun _ => true) (fun _ => true) true (fun _ _ => true) true (fun _ _ _ _ _ _ => true) true (fun _ => true) (fun _ _ _ _ _ => true) true (fun _ _ _ => true) true (fun y0 _ => hl y0) (fun _ _ => true) (fun _ => true) (fun _ _ _ _ => true) (fun _ _ => true) (fun _ => true) true () (fun _ _ _ _ => ()) d))
  (fun x0 hl d => true)
  (fun x0 d => true)
  (fun x0 x1 x2 x3 d => true)
  (fun x0 hl d => true)
  (fun x0 d => true)
  (fun d => true)
  (fun _ => true)
  (fun _ _ h g m => List.rec (motive := fun _ => Bool) true (fun b r _ => zCM (h b) (g r)) m) c
def zQF (l m : List CV) : Bool := qkV (.agg l) (.agg m)
def zFR : List CV → List Key → List Key
  | [], ks => ks
  | x :: l, ks => match x with
    | .sl k _ _ _ _ _ => k :: zFR l ks
    | .ptr k _ => k :: zFR l ks
    | .map k => k :: zFR l ks
    | _ => zFR l ks
def zNs : List CV → List Key
  | [] => []
  | x :: l => match x with
    | .agg m => zFR m (zNs l)
    | x => zFR [x] (zNs l)
def zP7 (h : Heap) : List Key → List (Key × CObj) → Bool
  | j :: js, p :: r => match p.2, yK j h with
    | .cells a, some (.cells b) => (match zQF a b with
      | true => zP7 h js r
      | false => false)
    | _, _ => zP7 h js r
  | _, _ => true
def zCD [Sym] (G : Nat) (args : List CV) (h : Heap) (n : Key) (z : R) : List Sm → R
  | [] => z
  | s :: r => match zP7 h (zNs args) s.objs && zQF s.args args with
    | true => zOn G args h n s (zCD G args h n z r)
    | false => zCD G args h n z r
theorem zBQ {pins : List Key} {ρ : Heap} : ∀ {l : List (Key × CObj)} {n : Key} {q : List Key × Key}, wm pins ρ l n = some q → n.ix ≤ q.2.ix
  | [], n, q, h => by
    injection h with h; subst h
    exact Nat.le_refl _
  | p :: r, n, q, h => by
    unfold wm at h
    split at h
    · split at h
      · split at h
        · rename_i q' hq'
          injection h with h; subst h
          have := zBQ hq'
          exact this
        · cases h
      · cases h
    · split at h
      rename_i a b c d hs
      split at h
      · rename_i q' hq'
        injection h with h; subst h
        have h1 := zBQ hq'
        rw [← hs] at h1
        have hle := @Key.ix_le_succ zZ n
        simp only; omega
      · cases h
theorem zAF {s : Sm} {ks : List Key} {θ : TH} {h : Heap} {n : Key} {po : Po} : ze n (vw s ks θ h n po) := by
  unfold vw
  cases hq : wm s.pins (mkRho s.objs ks) po.objs n with
  | none => trivial
  | some q =>
    simp only
    cases hb : zIG (mkRho po.objs q.1) (jC po.objs q.1) po.objs q.1 with
    | false => trivial
    | true =>
      simp only [zJ2, zG1, zAw, zAk]
      exact zBQ hq
theorem um {s : Sm} {ks : List Key} {θ : TH} {h : Heap} {n : Key} : ∀ {l : List Po}, ze n (kj s ks θ h n l)
  | [] => trivial
  | [po] => zAF
  | po :: po' :: r => ⟨zAF, um (l := po' :: r)⟩
theorem vu [Sym] {G : Nat} {args : List CV} {h : Heap} {n : Key} {z : R} (hz : ze n z) : ∀ {l : List Sm}, ze n (zCD G args h n z l)
  | [] => hz
  | s :: r => by
    unfold zCD
    split
    · unfold zOn
      split
      rw [zIN, zI7]
      split
      · exact um
      · exact vu hz
    · exact vu hz
theorem zDp {σ σT : Nat → Int} {K : zY} {G : Nat} {s : Sm} {ks : List Key} {θ : TH} {h : Heap} {n : Key} {po : Po} {ψ ψ' : Psi} {w w' : World} {v : Value} (hθ : wN σ σT θ) (hR : @Rel (linSym σ K) ψ (Heap.fam h) w) (hfr : xv ψ n)
    (hc : jX (mkRho s.objs ks) (jC s.objs ks) θ h G s.n.ix s.objs ks = true) (hpo : zOS (linSym σT kno) (kO (mkRho s.objs ks) h [] ψ G 0) s w po v ψ' w') (hcl : zW (vw s ks θ h n po)) :
    @zf (linSym σ K) ψ (Heap.fam h) n w (vw s ks θ h n po) v w' := by
  unfold vw at hcl ⊢
  cases hq : wm s.pins (mkRho s.objs ks) po.objs n with
  | none => rw [hq] at hcl; exact hcl.elim
  | some q =>
    rw [hq] at hcl
    simp only at hcl ⊢
    cases hb : zIG (mkRho po.objs q.1) (jC po.objs q.1) po.objs q.1 with
    | false => rw [hb] at hcl; exact hcl.elim
    | true =>
      rw [hb] at hcl
      simp only [zJ2, zG1, zAw, zAk] at hcl ⊢
      have hroom : q.2.room := hcl
      obtain ⟨hmono, hkeys⟩ := zBF hq hroom
      obtain ⟨hlen, hbij⟩ := zJX hb
      obtain ⟨c1, c2, c3⟩ := zBB (G := G) (KT := kno) hθ hR hc
      have hobj := kc hc
      have hTot : ∀ k o, Heap.fam h k = some o → ∃ p, ψ k = some p := @Rel.tot (linSym σ K) _ _ _ hR
      have hOn : ∀ k o p, Heap.fam h k = some o → ψ k = some p → @xE (linSym σ K) ψ w p o := @Rel.on (linSym σ K) _ _ _ hR
      have hInj := @Rel.inj (linSym σ K) _ _ _ hR
      have pTot := @Rel.tot (linSym σT kno) _ _ _ hpo.rel
      have pOn := @Rel.on (linSym σT kno) _ _ _ hpo.rel
      have pInj := @Rel.inj (linSym σT kno) _ _ _ hpo.rel
      have hold : ∀ k p, ψ k = some p → k.ix < n.ix := fun k p hp => by
        rcases Nat.lt_or_ge k.ix n.ix with g | g
        · exact g
        · rw [hfr k g] at hp; cases hp
      obtain ⟨ψ2, hψ2⟩ : ∃ ψ2 : Psi, ∀ k, ψ2 k = if n.ix ≤ k.ix then (match rhoOf (jC po.objs q.1) k with | some kp => ψ' kp | none => ψ k) else ψ k := ⟨_, fun _ => rfl⟩
      have h2old : ∀ k, k.ix < n.ix → ψ2 k = ψ k := fun k hk => by rw [hψ2, if_neg (by omega)]
      have hle : ψ.le ψ2 := fun k p hp => by rw [h2old k (hold k p hp)]; exact hp
      have hrho : ∀ k j, rhoOf (mkRho s.objs ks) k = some j → j ∈ ks ∧ ∃ o p, yK j h = some o ∧ ψ j = some p := by
        intro k j hk
        obtain ⟨i, o, g1, g2⟩ := zBR hk
        obtain ⟨j', o', f1, f2, f3, f4, f5, f6, f7⟩ := hobj i k o g1
        rw [g2] at f1
        injection f1 with f1
        subst f1
        obtain ⟨p, hp⟩ := hTot j o' f6
        exact ⟨List.mem_of_getElem? g2, o', p, f6, hp⟩
      have hend : ∀ (i : Nat) (k : Key) (o : CObj) (j : Key), po.objs[i]? = some (k, o) → q.1[i]? = some j → ∀ p, ψ' k = some p → ∃ p', ψ2 j = some p' ∧ zDJ p p' ∧ ((∀ es c, o = .map es c → p' = p)) := by
        intro i k o j g1 g2 p hp
        rcases hkeys i k o j g1 g2 with ⟨f1, f2, cs, f3⟩ | ⟨f1, f2, f3⟩
        · obtain ⟨_, o0, pj, e1, e2⟩ := hrho k j f2
          have e3 : vK (mkRho s.objs ks) k j = true := by unfold vK; rw [f2]; exact Nat.beq_refl _
          obtain ⟨pT, t1, t2, t3, t4⟩ := c2 k j pj e3 e2
          obtain ⟨p', u1, u2, u3, u4⟩ := hpo.pin k f1 pT t1
          rw [hp] at u1
          injection u1 with u1
          subst u1
          refine ⟨pj, by rw [h2old j (hold j pj e2)]; exact e2, ⟨(u2.trans t2).symm, (u3.trans t3).symm, (u4.trans t4).symm⟩, fun es c e => ?_⟩
          rw [f3] at e; cases e
        · obtain ⟨j', b1, b2, b3, _⟩ := hbij i k o g1
          rw [g2] at b1
          injection b1 with b1
          subst b1
          exact ⟨p, by rw [hψ2, if_pos f2, b3]; exact hp, ⟨rfl, rfl, rfl⟩, fun _ _ _ => rfl⟩
      have hM : zHg (mkRho po.objs q.1) ψ' ψ2 := by
        intro k j p hk hp
        obtain ⟨i, o, g1, g2⟩ := zBR hk
        obtain ⟨p', h1, h2, _⟩ := hend i k o j g1 g2 p hp
        exact ⟨p', h1, h2⟩
      have hOwn : ∀ B, zGP (kO (mkRho s.objs ks) h [] ψ G 0) s.objs w B → (∃ k0 o0 p0, yK k0 h = some o0 ∧ o0.isRo = false ∧ ψ k0 = some p0 ∧ p0.blk = B ∧ k0 ∈ ks) ∨ w.heap.size ≤ B := by
        intro B hB
        rcases hB with ⟨k, o, p, g1, g2, g3⟩ | g
        · obtain ⟨_, k0, o0, p0, f1, f2, f3, f4, f5⟩ := c3 k o p g1 g2
          exact .inl ⟨k0, o0, p0, f1, f2, f3, f4.trans g3, (hrho k k0 f5).1⟩
        · exact .inr g
      have hnew : ∀ k o, yK k (mkH (zIz ks h) (vx (mkRho po.objs q.1) θ po.objs q.1)) = some o →
          (∃ (kp : Key) (o' : CObj) (p p' : Pl), zG2 po.objs kp = some o' ∧ o = zEb (mkRho po.objs q.1) θ o' ∧ okO o' = true ∧ ψ' kp = some p ∧ ψ2 k = some p' ∧ zDJ p p' ∧ (∀ es c, o' = .map es c → p' = p) ∧ rhoOf (mkRho po.objs q.1) kp = some k) ∨ (k ∉ ks ∧ yK k h = some o) := by
        intro k o hk
        rcases zE5 hb hk with ⟨kp, o', i, g1, g2, g3, g4, g5, g6⟩ | hk
        · obtain ⟨p, hp⟩ := pTot kp o' g1
          obtain ⟨p', e1, e2, e3⟩ := hend i kp o' k g5 g6 p hp
          exact .inl ⟨kp, o', p, p', g1, g2, g3, hp, e1, e2, e3, g4⟩
        · exact .inr (zFX hk)
      have hin : ∀ k o p, yK k h = some o → ψ k = some p → p.blk < w.heap.size := fun k o p h1 h2 => @xE.lt (linSym σ K) _ _ _ _ (hOn k o p h1 h2)
      have hlow : ∀ k o p, k ∉ ks → yK k h = some o → ψ k = some p → ¬ zGP (kO (mkRho s.objs ks) h [] ψ G 0) s.objs w p.blk := by
        intro k o p g1 g2 g3 hB
        rcases hOwn _ hB with ⟨k0, o0, p0, f1, f2, f3, f4, f5⟩ | g
        · have := hInj k0 k o0 o p0 p f1 g2 f3 g3 (.inl f2) f4
          subst this
          exact g1 f5
        · have := hin k o p g2 g3
          omega
      refine ⟨ψ2, @zq.mk (linSym σ K) _ _ _ _ _ _ _ _ hle ?_ (@Rel.mk (linSym σ K) _ _ _ ?_ ?_ ?_) ?_ ?_ hpo.lft.size hpo.lft.tape hpo.lft.os hpo.lft.output hmono ?_, wW hθ hM _ hpo.val⟩
      · intro k hk
        rcases hk with hk | hk
        · exact h2old k hk
        · rw [hψ2, if_pos (by omega)]
          split
          · rename_i kp hkp
            exfalso
            obtain ⟨i, g1, g2⟩ := zMQ hkp
            obtain ⟨o, g1⟩ := g1
            rcases hkeys i kp o k g1 g2 with ⟨f1, f2, _⟩ | ⟨f1, f2, f3⟩
            · obtain ⟨_, o0, pj, e1, e2⟩ := hrho kp k f2
              have := hold k pj e2
              omega
            · omega
          · rfl
      · intro k o p hk hp
        rcases hnew k o hk with ⟨kp, o', p0, p', g1, rfl, g3, g4, g5, g6, g7, _⟩ | ⟨g1, g2⟩
        · rw [g5] at hp
          injection hp with hp
          subst hp
          exact zNE hθ hM g3 g6 g7 (pOn kp o' p0 g1 g4)
        · obtain ⟨p1, hp1⟩ := hTot k o g2
          rw [hle k p1 hp1] at hp
          injection hp with hp
          subst hp
          exact @xE.mono (linSym σ K) _ _ hle _ _ _ (@xE.congr (linSym σ K) _ _ _ _ _ (hpo.lft.block _ (hlow k o p1 g1 g2 hp1)) (hOn k o p1 g2 hp1))
      · intro k o hk
        rcases hnew k o hk with ⟨kp, o', p0, p', g1, _, g3, g4, g5, _⟩ | ⟨g1, g2⟩
        · exact ⟨p', g5⟩
        · obtain ⟨p1, hp1⟩ := hTot k o g2
          exact ⟨p1, hle k p1 hp1⟩
      · intro k₁ k₂ o₁ o₂ p₁ p₂ h1 h2 h3 h4 hr e
        rcases hnew k₁ o₁ h1 with ⟨kp1, o1', p01, p1', a1, _, a3, a4, a5, a6, _, a8⟩ | ⟨a1, a2⟩ <;> rcases hnew k₂ o₂ h2 with ⟨kp2, o2', p02, p2', b1, _, b3, b4, b5, b6, _, b8⟩ | ⟨b1, b2⟩
        · rw [a5] at h3; rw [b5] at h4
          injection h3 with h3; injection h4 with h4
          subst h3; subst h4
          have := pInj kp1 kp2 o1' o2' p01 p02 a1 b1 a4 b4 (.inl (hpo.own kp1 o1' p01 a1 a4).1) (by rw [← a6.1, ← b6.1]; exact e)
          subst this
          rw [a8] at b8
          injection b8
        · exfalso
          rw [a5] at h3
          injection h3 with h3; subst h3
          obtain ⟨p1, hp1⟩ := hTot k₂ o₂ b2
          rw [hle k₂ p1 hp1] at h4
          injection h4 with h4; subst h4
          refine hlow k₂ o₂ p1 b1 b2 hp1 ?_
          rw [← e, a6.1]
          exact (hpo.own kp1 o1' p01 a1 a4).2
        · exfalso
          rw [b5] at h4
          injection h4 with h4; subst h4
          obtain ⟨p1, hp1⟩ := hTot k₁ o₁ a2
          rw [hle k₁ p1 hp1] at h3
          injection h3 with h3; subst h3
          refine hlow k₁ o₁ p1 a1 a2 hp1 ?_
          rw [e, b6.1]
          exact (hpo.own kp2 o2' p02 b1 b4).2
        · obtain ⟨p1, hp1⟩ := hTot k₁ o₁ a2
          obtain ⟨p2, hp2⟩ := hTot k₂ o₂ b2
          rw [hle k₁ p1 hp1] at h3
          rw [hle k₂ p2 hp2] at h4
          injection h3 with h3; injection h4 with h4
          subst h3; subst h4
          exact hInj k₁ k₂ o₁ o₂ p1 p2 a2 b2 hp1 hp2 hr e
      · intro B hB hfree
        refine hpo.lft.block B fun hO => ?_
        rcases hOwn B hO with ⟨k0, o0, p0, f1, f2, f3, f4, _⟩ | g
        · exact hfree k0 o0 p0 f1 f2 f3 f4
        · omega
      · intro k o p hk hro hp
        rcases hnew k o hk with ⟨kp, o', p0, p', g1, _, g3, g4, g5, g6, _⟩ | ⟨g1, g2⟩
        · rw [g5] at hp
          injection hp with hp
          subst hp
          have := (hpo.own kp o' p0 g1 g4).2
          rw [← g6.1] at this
          rcases hOwn _ this with ⟨k0, o0, p00, f1, f2, f3, f4, _⟩ | g
          · exact .inl ⟨k0, o0, p00, f1, f2, f3, f4⟩
          · exact .inr g
        · obtain ⟨p1, hp1⟩ := hTot k o g2
          rw [hle k p1 hp1] at hp
          injection hp with hp
          subst hp
          exact .inl ⟨k, o, p1, g2, hro, hp1, rfl⟩
      · intro k o p hk hp
        rcases hnew k o hk with ⟨kp, o', p0, p', g1, _, g3, g4, g5, g6, _⟩ | ⟨g1, g2⟩
        · rw [g5] at hp
          injection hp with hp
          subst hp
          have := (hpo.own kp o' p0 g1 g4).2
          rw [← g6.1] at this
          rcases hOwn _ this with ⟨k0, o0, p00, f1, f2, f3, f4, _⟩ | g
          · exact .inl ⟨k0, o0, p00, f1, f3, f4⟩
          · exact .inr g
        · obtain ⟨p1, hp1⟩ := hTot k o g2
          rw [hle k p1 hp1] at hp
          injection hp with hp
          subst hp
          exact .inl ⟨k, o, p1, g2, hp1, rfl⟩
theorem zCu {σ σT : Nat → Int} {K : zY} {G : Nat} {s : Sm} {ks : List Key} {θ : TH} {h : Heap} {n : Key} {ψ ψ' : Psi} {w w' : World} {v : Value} (hθ : wN σ σT θ) (hR : @Rel (linSym σ K) ψ (Heap.fam h) w) (hfr : xv ψ n)
    (hc : jX (mkRho s.objs ks) (jC s.objs ks) θ h G s.n.ix s.objs ks = true) : ∀ {l : List Po} {po : Po}, po ∈ l → zOS (linSym σT kno) (kO (mkRho s.objs ks) h [] ψ G 0) s w po v ψ' w' → zW (kj s ks θ h n l) →
    @zf (linSym σ K) ψ (Heap.fam h) n w (kj s ks θ h n l) v w'
  | [], _, hm, _, _ => by cases hm
  | [po'], po, hm, hpo, hcl => by
    rw [List.mem_singleton.1 hm] at hpo
    exact zDp hθ hR hfr hc hpo hcl
  | po' :: po2 :: r, po, hm, hpo, hcl => by
    have hcl : zW (vw s ks θ h n po') ∧ zW (kj s ks θ h n (po2 :: r)) := hcl
    rcases List.mem_cons.1 hm with e | hm
    · subst e
      exact .inl (zDp hθ hR hfr hc hpo hcl.1)
    · exact .inr (zCu hθ hR hfr hc (l := po2 :: r) hm hpo hcl.2)
theorem zF0 (P : Program) [Sym] [SymFact P] {ψ : Psi} {op : BinOp} {x y : CV} {b : Bool} {u v : Value} (w : World) (h : Sym.bin op x y = some [.bool b]) (hx : zJ ψ x u) (hy : zJ ψ y v) :
    (binOp op 0 u v).run P w = .ok (.bool b) w := by
  obtain ⟨h1, z, h2, c, h3, h4⟩ := (SymFact.ok (P := P)).1 op x y _ h ψ 0 u v w hx hy
  obtain rfl : c = .bool b := by simpa using h3
  rw [zH.1 h4] at h2
  exact h2
theorem zPj (P : Program) {σ : Nat → Int} {K : zY} (hK : KnownOk σ K) {q : Int × Int} {u : Int × LL} (h : @zQk (linSym σ K) q u = true) : q.1 ≤ evQ σ u ∧ evQ σ u ≤ q.2 := by
  letI S : Sym := linSym σ K
  haveI hS : SymFact P := ye hK
  unfold zQk at h
  split at h
  · rename_i hu
    rw [Bool.and_eq_true, decide_eq_true_eq, decide_eq_true_eq] at h
    unfold evQ
    rw [hu]
    simp [evL]
    exact h
  · split at h
    · rename_i h1 h2
      have hv : @zJ (linSym σ K) (fun _ => none) (.sym ⟨.i64, u.1, u.2⟩) (.int .i64 (evQ σ u)) := (@yh (linSym σ K) _ _ _).2 rfl
      have hl : ∀ z : Int, @zJ (linSym σ K) (fun _ => none) (mkInt .i64 z) (.int .i64 z) := fun z => @yf (linSym σ K) _ _ _
      have g1 := @zF0 P (linSym σ K) hS _ _ _ _ _ _ _ default h1 hv (hl q.1)
      have g2 := @zF0 P (linSym σ K) hS _ _ _ _ _ _ _ default h2 hv (hl q.2)
      have e1 : q.1 ≤ evQ σ u := by simpa [binOp, Op.intCmp] using g1
      have e2 : evQ σ u ≤ q.2 := by simpa [binOp, Op.intCmp] using g2
      exact ⟨e1, e2⟩
    · cases h
theorem zKX {σ : Nat → Int} {K : zY} (hK : KnownOk σ K) (P : Program) : ∀ {b : List (Int × Int)} {θ : TH} {σT : Nat → Int} {j : Nat}, @zOB (linSym σ K) b θ = true → (∀ i q, nth θ i = some q → σT (j + i) = evQ σ q) → b.length = θ.length ∧ yt σT j b
  | [], [], _, _, _, _ => ⟨rfl, trivial⟩
  | [], _ :: _, _, _, h, _ => by cases h
  | _ :: _, [], _, _, h, _ => by cases h
  | q :: r, u :: θ, σT, j, h, hθ => by
    unfold zOB at h
    rw [Bool.and_eq_true] at h
    obtain ⟨g1, g2⟩ := zKX hK P (σT := σT) (j := j + 1) h.2 (fun i x hi => by
      have := hθ (i + 1) x hi
      rw [show j + 1 + i = j + (i + 1) from by omega]; exact this)
    refine ⟨by simp [g1], ?_, g2⟩
    rw [show σT j = evQ σ u from hθ 0 u rfl]
    exact zPj P hK h.1
theorem zLr {σ : Nat → Int} {K : zY} (hK : KnownOk σ K) {f : FuncId} {G : Nat} (hG : P.globals.size ≤ G) {s : Sm} (hs : zNG P f s) {args : List CV} {h : Heap} {n : Key} {ψ : Psi} {w : World} {args' : Array Value} {ks : List Key} {θ : TH}
    (ha : @zS (linSym σ K) ψ args args'.toList) (hg : kf P ψ) (hR : @Rel (linSym σ K) ψ (Heap.fam h) w) (hfr : xv ψ n) (hfit : @zMy (linSym σ K) G s ks θ args h = true) (hcl : zW (kj s ks θ h n s.posts)) :
    yP P f args' w (@zf (linSym σ K) ψ (Heap.fam h) n w (kj s ks θ h n s.posts)) := by
  unfold zMy at hfit
  rw [kU, vo] at hfit
  simp only [Bool.and_eq_true] at hfit
  obtain ⟨⟨⟨f1, f2⟩, f3⟩, f4⟩ := hfit
  obtain ⟨σT, hσ⟩ : ∃ σT : Nat → Int, ∀ j, σT j = match nth θ j with | some q => evQ σ q | none => 0 := ⟨_, fun _ => rfl⟩
  have hth : ∀ j q, nth θ j = some q → σT j = evQ σ q := fun j q hj => by rw [hσ, hj]
  obtain ⟨hlen, hb⟩ := zKX hK P (σT := σT) (j := 0) f4 (fun i q hi => by rw [Nat.zero_add]; exact hth i q hi)
  have hobj := kc f2
  have f3 := @zM zZ _ _ f3
  have hrho : ∀ k b, rhoOf (mkRho s.objs ks) k = some b → G ≤ k.ix ∧ k.ix < s.n.ix := by
    intro k b hk
    obtain ⟨j, o, h1, h2⟩ := zBR hk
    obtain ⟨i', o', g1, g2, g3, g4, g5, g6, g7⟩ := hobj j k o h1
    exact ⟨g4, g5⟩
  refine zBe (hs σT hb (kO (mkRho s.objs ks) h [] ψ G 0) w args' (fun σ' K' hag hK' => ?_) ?_ ?_) fun v w' ⟨po, hpo, ψ', hok⟩ => ?_
  · have hθ' : wN σ σ' θ := fun j q hj => by
      have hlt : j < θ.length := by
        rw [@yV zZ] at hj
        exact (List.getElem?_eq_some_iff.1 hj).1
      rw [hag j (by omega)]
      exact hth j q hj
    obtain ⟨c1, c2, _⟩ := zBB (G := G) (KT := K') hθ' hR f2
    exact ⟨kL hθ' c2 _ _ f1 ha, c1⟩
  · intro g hg' h4
    obtain ⟨sz, e⟩ := hg g hg' h4
    have hix : (Key.ofNat g).ix = g := @Key.ix_ofNat zZ _ (by omega)
    refine ⟨sz, ?_⟩
    have hno : rhoOf (mkRho s.objs ks) (Key.ofNat g) = none := by
      cases hr : rhoOf (mkRho s.objs ks) (Key.ofNat g) with
      | none => rfl
      | some b => have := (hrho _ _ hr).1; omega
    unfold kO
    rw [hno]
    simp only [findW]
    rw [if_pos (by omega)]
    exact e
  · intro k hk
    have hno : rhoOf (mkRho s.objs ks) k = none := by
      cases hr : rhoOf (mkRho s.objs ks) k with
      | none => rfl
      | some b => have := (hrho _ _ hr).2; omega
    unfold kO
    rw [hno]
    simp only [findW]
    rw [if_neg (by omega)]
  · exact zCu (fun j q hj => hth j q hj) hR hfr f2 hpo hok hcl
theorem zBA {σ : Nat → Int} {K : zY} (hK : KnownOk σ K) {f : FuncId} {G : Nat} (hG : P.globals.size ≤ G) {args : List CV} {h : Heap} {n : Key} {ψ : Psi} {w : World} {args' : Array Value}
    (ha : @zS (linSym σ K) ψ args args'.toList) (hg : kf P ψ) (hR : @Rel (linSym σ K) ψ (Heap.fam h) w) (hfr : xv ψ n) {z : R} (hz : zW z → yP P f args' w (@zf (linSym σ K) ψ (Heap.fam h) n w z)) : ∀ {l : List Sm}, (∀ s ∈ l, zNG P f s) →
    zW (@zCD (linSym σ K) G args h n z l) → yP P f args' w (@zf (linSym σ K) ψ (Heap.fam h) n w (@zCD (linSym σ K) G args h n z l))
  | [], _, hcl => hz hcl
  | s :: r, hl, hcl => by
    unfold zCD at hcl ⊢
    split at hcl
    · unfold zOn at hcl ⊢
      split at hcl
      rename_i ks a hh
      simp only [zIN, zI7] at hcl ⊢
      split at hcl
      · rename_i hfit
        exact zLr hK hG (hl s (by simp)) ha hg hR hfr hfit hcl
      · rename_i hfit
        exact zBA hK hG ha hg hR hfr hz (fun s' h' => hl s' (by simp [h'])) hcl
    · exact zBA hK hG ha hg hR hfr hz (fun s' h' => hl s' (by simp [h'])) hcl
def smChk (P : Program) (code : FuncId → CFn) (nat : Nats) (fuel : Nat) (f : FuncId) (G : Nat) (σ : Nat → Int) : List Sm → Bool
  | [] => true
  | s :: r => okB s.b && qu G s (@ev (linSym σ ((⟨s.b, [], [], [], 1000⟩ : Lf).known noA)) P code nat fuel false f s.args (mkH .nil s.objs) s.n) && smChk P code nat fuel f G σ r
theorem smChk_ok {code : FuncId → CFn} {nat : Nats} {fuel : Nat} {f : FuncId} {G : Nat} (hm : P.follows .mixedOrders = true) (hcode : CodeOk P code) (hnat : ∀ σ K, KnownOk σ K → @NatsOk (linSym σ K) P nat) :
    ∀ {l : List Sm}, (∀ σ, smChk P code nat fuel f G σ l = true) → ∀ s ∈ l, zNG P f s
  | [], _, s, hs => by cases hs
  | x :: r, h, s, hs => by
    have h' : ∀ σ, (okB x.b = true ∧ qu G x (@ev (linSym σ ((⟨x.b, [], [], [], 1000⟩ : Lf).known noA)) P code nat fuel false f x.args (mkH .nil x.objs) x.n) = true) ∧ smChk P code nat fuel f G σ r = true := by
      intro σ
      have := h σ
      unfold smChk at this
      rwa [Bool.and_eq_true, Bool.and_eq_true] at this
    rcases List.mem_cons.1 hs with rfl | hs
    · exact zN5 (tree := .leaf) (ls := [⟨s.b, [], [], [], 1000⟩]) hm hcode hnat rfl (h' fun _ => 0).1.1 ⟨fun σ => (h' σ).1.2, trivial⟩
    · exact smChk_ok hm hcode hnat (fun σ => (h' σ).2) s hs
theorem nats_lin {nat : Nats} (h : ∀ [Sym] [SymFact P], NatsOk P nat) : ∀ σ K, KnownOk σ K → @NatsOk (linSym σ K) P nat := fun σ K hK => @h (linSym σ K) (ye hK)
end
end Go.Ev

namespace Go.Ev
open Go.RowKit
noncomputable section
variable {P : Program}
section
variable {code : FuncId → CFn} {nat : Nats} {fuel : Nat} {p : List Stp} {rs : List CRes} {G : Nat} {Ts : List TS} {s : Sm} {cc : CCode} {T : TS}
end
end
end Go.Ev

namespace Go.Ev
open Go.RowKit
noncomputable section
variable {P : Program}
def smF [Sym] (P : Program) (code : FuncId → CFn) (nat : Nats) (fuel G : Nat) (f : FuncId) (l : List Sm) (d : Bool) (args : List CV) (h : Heap) (n : Key) : R := match d with
  | true => ev P code nat fuel true f args h n
  | false => zCD G args h n (ev P code nat fuel false f args h n) l
def zQE (P : Program) (code : FuncId → CFn) (nat : Nats) (fuel G : Nat) (f : FuncId) (l : List Sm) : NatF := fun S => @smF S P code nat fuel G f l
def natM (P : Program) (code : FuncId → CFn) (fuel : Nat) (f : FuncId) (G : Nat) (l : List Sm) (nat : Nats) : Nats := fun g => Bool.rec (motive := fun _ => Option NatF) (nat g) (some (zQE P code nat fuel G f l)) (Nat.beq g f)
theorem natM_ok {code : FuncId → CFn} {fuel : Nat} {f : FuncId} {G : Nat} {l : List Sm} {nat : Nats} (hm : P.follows .mixedOrders = true) (hcode : CodeOk P code) (hG : P.globals.size ≤ G) (hl : ∀ s ∈ l, zNG P f s) (hn : ∀ σ K, KnownOk σ K → @NatsOk (linSym σ K) P nat) :
    ∀ σ K, KnownOk σ K → @NatsOk (linSym σ K) P (natM P code fuel f G l nat) := by
  intro σ K hK
  have hc : @yN (linSym σ K) P (@ev (linSym σ K) P code nat fuel) := by
    letI S : Sym := linSym σ K
    haveI hS : SymFact P := ye hK
    exact jb (fun call hcall F N => yW hm hcall) hcode (hn _ _ hK) fuel
  have hn := hn σ K hK
  have key : ∀ g q, natM P code fuel f G l nat g = some q → (g = f ∧ q = zQE P code nat fuel G f l) ∨ nat g = some q := by
    intro g q h
    unfold natM at h
    cases e : Nat.beq g f with
    | true =>
      rw [e] at h
      injection h with h
      exact .inl ⟨Nat.eq_of_beq_eq_true e, h.symm⟩
    | false => rw [e] at h; exact .inr h
  refine @NatsOk.mk (linSym σ K) P _ (fun g q hg d args h n => ?_) (fun g q hg args h n ψ w args' h1 h2 h3 h4 hcl => ?_) (fun g q hg args h n ψ w args' h1 h2 h3 h4 hcl => ?_)
  · rcases key g q hg with ⟨rfl, rfl⟩ | hg
    · cases d with
      | true => exact @yN.above (linSym σ K) _ _ hc true g args h n
      | false => exact @vu (linSym σ K) G args h n _ (@yN.above (linSym σ K) _ _ hc false g args h n) l
    · exact @NatsOk.above (linSym σ K) _ _ hn g q hg d args h n
  · rcases key g q hg with ⟨rfl, rfl⟩ | hg
    · exact zBA hK hG h1 h2 h3 h4 (fun hz => @yN.calls (linSym σ K) _ _ hc g args h n ψ w args' h1 h2 h3 h4 hz) hl hcl
    · exact @NatsOk.calls (linSym σ K) _ _ hn g q hg args h n ψ w args' h1 h2 h3 h4 hcl
  · rcases key g q hg with ⟨rfl, rfl⟩ | hg
    · exact @yN.defers (linSym σ K) _ _ hc g args h n ψ w args' h1 h2 h3 h4 hcl
    · exact @NatsOk.defers (linSym σ K) _ _ hn g q hg args h n ψ w args' h1 h2 h3 h4 hcl
end
end Go.Ev


