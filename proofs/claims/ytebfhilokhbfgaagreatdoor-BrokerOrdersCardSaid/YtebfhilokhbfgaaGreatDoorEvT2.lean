/- A verified evaluator for the model's code: EvCov, EvLoop, EvInv, EvTwo. -/
import Derived.Test.YtebfhilokhbfgaaGreatDoorEvSym
set_option linter.unusedSectionVars false
set_option linter.unusedVariables false
set_option linter.unusedSimpArgs false
namespace Go.Ev
noncomputable section
variable {P : Program}
abbrev TH := List (Int × LL)
def zIy (θ : TH) : LL → Option (Int × LL)
  | [] => some (0, [])
  | p :: r => match nth θ p.1, zIy θ r with
    | some q, some s => some (p.2 * q.1 + s.1, zBX (ua p.2 q.2) s.2)
    | _, _ => none
def wJ (σs σT : Nat → Int) (θ : TH) : Prop := ∀ j q, nth θ j = some q → σT j = q.1 + evL σs q.2
theorem vn {σs σT : Nat → Int} {θ : TH} (hθ : wJ σs σT θ) : ∀ {l : LL} {s : Int × LL}, zIy θ l = some s → evL σT l = s.1 + evL σs s.2
  | [], s, h => by
    injection h with h; subst h
    simp [evL]
  | p :: r, s, h => by
    unfold zIy at h
    split at h
    · rename_i q u hq hu
      injection h with h; subst h
      have h1 := hθ _ _ hq
      have h2 := vn hθ hu
      show p.2 * σT p.1 + evL σT r = _
      rw [h1, h2, vj, kL, Int.mul_add]
      omega
    · cases h
def zKb (θ : TH) (e : SE) (v : CV) : Bool := match zFj v with
  | some (k, c, l) => match zIy θ e.l with
    | some s => kEq e.k k && ym (e.c + s.1) c && zBW s.2 l
    | none => false
  | none => false
def rhoOf (m : Heap) (k : Key) : Option Key := match yF k m with
  | some (.cells (.ptr b _ :: _)) => some b
  | _ => none
def zAt (ρ : Heap) (k j : Key) : Bool := match rhoOf ρ k with
  | some b => decide (b = j)
  | none => false
def zIC (k : IntKind) (v : CV) : Bool := match v with
  | .anyi j => kEq k j
  | v => match zFj v with
    | some (j, _, _) => kEq k j
    | none => false
mutual
def xH (ρ : Heap) (θ : TH) : CV → CV → Bool
  | .any, _ => true
  | .sym e, v => zKb θ e v
  | .bool a, .bool b => a == b
  | .nat a, .nat b => Nat.beq a b
  | .int k a, .int j b => kEq k j && ym a b
  | .anyi k, v => zIC k v
  | .str a, .str b => qC a b
  | .nilptr, .nilptr => true
  | .ptr k o, .ptr j p => zAt ρ k j && Nat.beq o p
  | .nilsl, .nilsl => true
  | .sl k o l c e x, .sl k' o' l' c' e' x' => zAt ρ k k' && Nat.beq o o' && Nat.beq l l' && Nat.beq e e' && x == x' && (Nat.beq c c' || (!x && Nat.ble c c'))
  | .nilmap, .nilmap => true
  | .map k, .map j => zAt ρ k j
  | .func f a b, .func g c d => decide (f = g) && vW ρ θ a c && vW ρ θ b d
  | .nilfunc, .nilfunc => true
  | .iface t v, .iface u w => Nat.beq t u && xH ρ θ v w
  | .niliface, .niliface => true
  | .agg a, .agg b => vW ρ θ a b
  | .tup a, .tup b => vW ρ θ a b
  | .sst a, .sst b => vW ρ θ a b
  | _, _ => false
def vW (ρ : Heap) (θ : TH) : List CV → List CV → Bool
  | [], [] => true
  | a :: as, b :: bs => xH ρ θ a b && vW ρ θ as bs
  | _, _ => false
end
def zFy (ρ : Heap) (ψs ψT : Psi) : Prop := ∀ k j p, zAt ρ k j = true → ψs j = some p → ∃ p', ψT k = some p' ∧ p'.blk = p.blk ∧ p'.off = p.off ∧ p'.sz = p.sz
section
variable {σs σT : Nat → Int} {Ks KT : zQ} {θ : TH} {ρ : Heap} {ψs ψT : Psi}
theorem zJd (hθ : wJ σs σT θ) {e : SE} {d : CV} (h : zKb θ e d = true) {v : Value} (hv : @zG (linSym σs Ks) ψs d v) : v = .int e.k (evE σT e) := by
  unfold zKb at h
  split at h
  · rename_i k c l hf
    split at h
    · rename_i s hs
      rw [Bool.and_eq_true, Bool.and_eq_true, @yu zN, @zZ zN, decide_eq_true_eq, decide_eq_true_eq] at h
      have h1 := qs d hf hv
      have h2 := vn hθ hs
      have h3 := @jX zN _ _ h.2
      rw [h1, h.1.1, ← h.1.2]
      unfold evE
      rw [h2, h3, Int.add_assoc]
    · cases h
  · cases h
theorem zKe {k : IntKind} {d : CV} (h : zIC k d = true) {v : Value} (hv : @zG (linSym σs Ks) ψs d v) : ∃ n, v = .int k n := by
  unfold zIC at h
  split at h
  · rename_i j
    rw [@yu zN, decide_eq_true_eq] at h
    subst h
    exact (@z7 (linSym σs Ks) _ _ _).1 hv
  · split at h
    · rename_i j c l hf
      rw [@yu zN, decide_eq_true_eq] at h
      subst h
      exact ⟨_, qs d hf hv⟩
    · cases h
mutual
theorem wO (hθ : wJ σs σT θ) (hψ : zFy ρ ψs ψT) : ∀ (c d : CV) {v : Value}, xH ρ θ c d = true → @zG (linSym σs Ks) ψs d v → @zG (linSym σT KT) ψT c v
  | .any, _, _, _, _ => @xy (linSym σT KT) _ _
  | .sym e, d, v, h, hv => by
    rw [xH] at h
    rw [@yX (linSym σT KT)]
    exact zJd hθ h hv
  | .anyi k, d, v, h, hv => by
    rw [xH] at h
    rw [@z7 (linSym σT KT)]
    exact zKe h hv
  | .bool a, d, v, h, hv => by
    cases d <;> try (simp [xH] at h; done)
    simp only [xH, beq_iff_eq] at h
    subst h
    rw [@zF (linSym σs Ks)] at hv
    rw [@zF (linSym σT KT)]; exact hv
  | .nat a, d, v, h, hv => by
    cases d <;> try (simp [xH] at h; done)
    simp only [xH] at h
    obtain rfl := @z6 zN _ _ h
    rw [@zO (linSym σs Ks)] at hv
    rw [@zO (linSym σT KT)]; exact hv
  | .int k a, d, v, h, hv => by
    cases d <;> try (simp [xH] at h; done)
    simp only [xH, Bool.and_eq_true, @yu zN, @zZ zN, decide_eq_true_eq] at h
    obtain ⟨rfl, rfl⟩ := h
    rw [@zV (linSym σs Ks)] at hv
    rw [@zV (linSym σT KT)]; exact hv
  | .str a, d, v, h, hv => by
    cases d <;> try (simp [xH] at h; done)
    simp only [xH, @wL zN, decide_eq_true_eq] at h
    subst h
    rw [@za (linSym σs Ks)] at hv
    rw [@za (linSym σT KT)]; exact hv
  | .nilptr, d, v, h, hv => by
    cases d <;> try (simp [xH] at h; done)
    rw [@yk (linSym σs Ks)] at hv
    rw [@yk (linSym σT KT)]; exact hv
  | .ptr k o, d, v, h, hv => by
    cases d <;> try (simp [xH] at h; done)
    simp only [xH, Bool.and_eq_true] at h
    obtain rfl := @z6 zN _ _ h.2
    rw [@zb (linSym σs Ks)] at hv
    obtain ⟨p, hp, rfl⟩ := hv
    obtain ⟨p', h1, h2, h3, h4⟩ := hψ _ _ _ h.1 hp
    rw [@zb (linSym σT KT)]
    exact ⟨p', h1, by rw [h2, h3]⟩
  | .nilsl, d, v, h, hv => by
    cases d <;> try (simp [xH] at h; done)
    rw [@zc (linSym σs Ks)] at hv
    rw [@zc (linSym σT KT)]; exact hv
  | .sl k o l c e x, d, v, h, hv => by
    cases d <;> try (simp [xH] at h; done)
    rename_i k' o' l' c' e' x'
    simp only [xH, Bool.and_eq_true, beq_iff_eq] at h
    obtain ⟨⟨⟨⟨⟨hk, ho⟩, hl⟩, he⟩, hx⟩, hc⟩ := h
    obtain rfl := @z6 zN _ _ ho
    obtain rfl := @z6 zN _ _ hl
    obtain rfl := @z6 zN _ _ he
    subst hx
    rw [@zl (linSym σs Ks)] at hv
    obtain ⟨p, y, cap', hp, rfl, h1, h2, h3, h4⟩ := hv
    obtain ⟨p', g1, g2, g3, g4⟩ := hψ _ _ _ hk hp
    rw [@zl (linSym σT KT)]
    refine ⟨p', y, cap', g1, by rw [g2], ?_, h2, ?_, ?_⟩
    · rw [Bool.or_eq_true, Bool.and_eq_true] at hc
      rcases hc with hc | hc
      · rw [@z6 zN _ _ hc]; exact h1
      · have := @zH zN _ _ hc.2; omega
    · intro hx
      subst hx
      rw [Bool.or_eq_true, Bool.and_eq_true] at hc
      rcases hc with hc | hc
      · rw [@z6 zN _ _ hc]; exact h3 rfl
      · simp at hc
    · rw [g3, g4]; exact h4
  | .nilmap, d, v, h, hv => by
    cases d <;> try (simp [xH] at h; done)
    rw [@zk (linSym σs Ks)] at hv
    rw [@zk (linSym σT KT)]; exact hv
  | .map k, d, v, h, hv => by
    cases d <;> try (simp [xH] at h; done)
    simp only [xH] at h
    rw [@yS (linSym σs Ks)] at hv
    obtain ⟨p, hp, rfl⟩ := hv
    obtain ⟨p', h1, h2, h3, h4⟩ := hψ _ _ _ h hp
    rw [@yS (linSym σT KT)]
    exact ⟨p', h1, by rw [h2]⟩
  | .func f a b, d, v, h, hv => by
    cases d <;> try (simp [xH] at h; done)
    simp only [xH, Bool.and_eq_true, decide_eq_true_eq] at h
    obtain ⟨⟨rfl, h1⟩, h2⟩ := h
    rw [@yf (linSym σs Ks)] at hv
    obtain ⟨a', b', rfl, g1, g2⟩ := hv
    rw [@yf (linSym σT KT)]
    exact ⟨a', b', rfl, jn hθ hψ a _ h1 g1, jn hθ hψ b _ h2 g2⟩
  | .nilfunc, d, v, h, hv => by
    cases d <;> try (simp [xH] at h; done)
    rw [@yY (linSym σs Ks)] at hv
    rw [@yY (linSym σT KT)]; exact hv
  | .iface t x, d, v, h, hv => by
    cases d <;> try (simp [xH] at h; done)
    simp only [xH, Bool.and_eq_true] at h
    obtain rfl := @z6 zN _ _ h.1
    rw [@zq (linSym σs Ks)] at hv
    obtain ⟨y, rfl, g⟩ := hv
    rw [@zq (linSym σT KT)]
    exact ⟨y, rfl, wO hθ hψ x _ h.2 g⟩
  | .niliface, d, v, h, hv => by
    cases d <;> try (simp [xH] at h; done)
    rw [@zr (linSym σs Ks)] at hv
    rw [@zr (linSym σT KT)]; exact hv
  | .agg a, d, v, h, hv => by
    cases d <;> try (simp [xH] at h; done)
    simp only [xH] at h
    rw [@yL (linSym σs Ks)] at hv
    obtain ⟨a', rfl, g⟩ := hv
    rw [@yL (linSym σT KT)]
    exact ⟨a', rfl, jn hθ hψ a _ h g⟩
  | .tup a, d, v, h, hv => by
    cases d <;> try (simp [xH] at h; done)
    simp only [xH] at h
    rw [@zn (linSym σs Ks)] at hv
    obtain ⟨a', rfl, g⟩ := hv
    rw [@zn (linSym σT KT)]
    exact ⟨a', rfl, jn hθ hψ a _ h g⟩
  | .sst a, d, v, h, hv => by
    cases d <;> try (simp [xH] at h; done)
    simp only [xH] at h
    rw [@y2 (linSym σs Ks)] at hv
    obtain ⟨b, rfl, g⟩ := hv
    rw [@y2 (linSym σT KT)]
    exact ⟨b, rfl, jn hθ hψ a _ h g⟩
  | .win .., d, v, h, hv => by
    cases d <;> simp [xH] at h
theorem jn (hθ : wJ σs σT θ) (hψ : zFy ρ ψs ψT) : ∀ (cs ds : List CV) {l : List Value}, vW ρ θ cs ds = true → @zK (linSym σs Ks) ψs ds l → @zK (linSym σT KT) ψT cs l
  | [], [], l, _, hl => by
    rw [@zI (linSym σs Ks)] at hl
    rw [@zI (linSym σT KT)]; exact hl
  | [], _ :: _, _, h, _ => by simp [vW] at h
  | _ :: _, [], _, h, _ => by simp [vW] at h
  | c :: cs, d :: ds, l, h, hl => by
    simp only [vW, Bool.and_eq_true] at h
    rw [@zP (linSym σs Ks)] at hl
    obtain ⟨v, r, rfl, h1, h2⟩ := hl
    exact (@zL (linSym σT KT) _ _ _ _ _).2 ⟨wO hθ hψ c d h.1 h1, jn hθ hψ cs ds h.2 h2⟩
end
def zAZ (ρ : Heap) (θ : TH) : List CV → List CV → Bool
  | [], _ => true
  | a :: as, b :: bs => xH ρ θ a b && zAZ ρ θ as bs
  | _ :: _, [] => false
def zEn (ρ : Heap) (θ : TH) : List CE → List CE → Bool
  | [], [] => true
  | a :: as, b :: bs => xH ρ θ a.key b.key && xH ρ θ a.val b.val && zEn ρ θ as bs
  | _, _ => false
def zNs : List Nat → List Nat → Bool
  | [], _ => true
  | _ :: _, [] => false
  | a :: x, b :: y => match Nat.beq a b with
    | true => zNs x y
    | false => Nat.ble a b
def zOI (a b : CV) : Bool := match a, b with
  | .str x, .str y => zNs x y
  | .nat x, .nat y => Nat.ble x y
  | _, _ => true
def zMy (e : CE) : List CE → List CE
  | [] => [e]
  | c :: l => match zOI e.key c.key with
    | true => e :: c :: l
    | false => c :: zMy e l
def zAX : List CE → List CE
  | [] => []
  | e :: l => zMy e (zAX l)
theorem zEB {e : CE} : ∀ {l : List CE}, (zMy e l).Perm (e :: l)
  | [] => List.Perm.refl _
  | c :: l => by
    unfold zMy
    split
    · exact List.Perm.refl _
    · exact (List.Perm.cons c zEB).trans (List.Perm.swap e c l)
theorem zEi : ∀ {l : List CE}, (zAX l).Perm l
  | [] => List.Perm.refl _
  | e :: l => zEB.trans (List.Perm.cons e zEi)
def zB3 (b : Nat) : List CE → Bool
  | [] => true
  | e :: r => !(Nat.beq b e.born) && zB3 b r
def upB : List CE → Nat → Bool
  | [], _ => true
  | e :: r, clock => Nat.ble (Nat.succ e.born) clock && zB3 e.born r && upB r clock
def zM1 : List CE → Nat → Nat → Bool
  | [], i, clock => Nat.beq i clock
  | e :: r, i, clock => Nat.beq e.born i && zM1 r (Nat.succ i) clock
def zDa (ρ : Heap) (θ : TH) : CObj → CObj → Bool
  | .cells a, .cells b => zAZ ρ θ a b
  | .cells a, .full _ b => zAZ ρ θ a b
  | .map es c, .map es' c' => zEn ρ θ es (zAX es') && zM1 es 0 c && upB (zAX es') c'
  | _, _ => false
theorem zEk : ∀ {as bs : List CV}, zAZ ρ θ as bs = true → as.length ≤ bs.length ∧ ∀ (i : Nat) (c : CV), as[i]? = some c → ∃ d, bs[i]? = some d ∧ xH ρ θ c d = true
  | [], bs, _ => ⟨Nat.zero_le _, fun i c h => by simp at h⟩
  | _ :: _, [], h => by cases h
  | a :: as, b :: bs, h => by
    unfold zAZ at h
    rw [Bool.and_eq_true] at h
    obtain ⟨h1, h2⟩ := zEk h.2
    refine ⟨by simp; exact h1, fun i c hc => ?_⟩
    cases i with
    | zero => simp at hc; subst hc; exact ⟨b, rfl, h.1⟩
    | succ i => exact h2 i c (by simpa using hc)
theorem u6 (hθ : wJ σs σT θ) (hψ : zFy ρ ψs ψT) {as bs : List CV} (h : zAZ ρ θ as bs = true) {w : World} {p p' : Pl} (h1 : p'.blk = p.blk) (h2 : p'.off = p.off) (h3 : p'.sz = p.sz)
    (hc : @yJ (linSym σs Ks) ψs w p bs) : @yJ (linSym σT KT) ψT w p' as := by
  obtain ⟨arr, elem, fz, g1, g2, g3, g4, g5⟩ := hc
  obtain ⟨q1, q2⟩ := zEk h
  refine ⟨arr, elem, fz, by rw [h1]; exact g1, by rw [h3]; exact g2, by rw [h2, h3]; omega, by rw [h3]; exact g4, fun i c hi => ?_⟩
  obtain ⟨d, hd, hcd⟩ := q2 i c hi
  obtain ⟨x, hx, hr⟩ := g5 i d hd
  exact ⟨x, by rw [h2]; exact hx, wO hθ hψ c d hcd hr⟩
def qF (bs : List CE) (clock : Nat) (j : Nat) : Nat := match bs[j]? with
  | some e => e.born
  | none => clock + (j - bs.length)
theorem zFu : ∀ {bs : List CE} {clock : Nat}, upB bs clock = true → ∀ (j : Nat) (e : CE), bs[j]? = some e → e.born < clock
  | [], clock, h, j, e, he => by simp at he
  | b :: bs, clock, h, j, e, he => by
    unfold upB at h
    rw [Bool.and_eq_true, Bool.and_eq_true] at h
    have h1 := @zH zN _ _ h.1.1
    cases j with
    | zero => simp at he; subst he; omega
    | succ j => exact zFu h.2 j e (by simpa using he)
theorem zDg {b : Nat} : ∀ {l : List CE}, zB3 b l = true → ∀ e ∈ l, e.born ≠ b
  | [], _, e, he => by cases he
  | x :: l, h, e, he => by
    unfold zB3 at h
    rw [Bool.and_eq_true] at h
    rcases List.mem_cons.1 he with rfl | he
    · intro q
      rw [← q, @qA zN] at h; simp at h
    · exact zDg h.2 e he
theorem zL9 : ∀ {bs : List CE} {clock : Nat}, upB bs clock = true → ∀ (i j : Nat) (a b : CE), i < j → bs[i]? = some a → bs[j]? = some b → b.born ≠ a.born
  | [], clock, h, i, j, a, b, _, h1, _ => by simp at h1
  | c :: bs, clock, h, i, j, a, b, hij, h1, h2 => by
    unfold upB at h
    rw [Bool.and_eq_true, Bool.and_eq_true] at h
    cases j with
    | zero => omega
    | succ j =>
      have h2 : bs[j]? = some b := by simpa using h2
      cases i with
      | zero =>
        simp at h1; subst h1
        exact zDg h.1.2 b (List.mem_of_getElem? h2)
      | succ i => exact zL9 h.2 i j a b (by omega) (by simpa using h1) h2
theorem zJM {bs : List CE} {clock : Nat} (h : upB bs clock = true) : ∀ a b, qF bs clock a = qF bs clock b → a = b := by
  have key : ∀ a b, a < b → qF bs clock a ≠ qF bs clock b := by
    intro a b hab
    unfold qF
    cases ha : bs[a]? with
    | none =>
      have hla := List.getElem?_eq_none_iff.1 ha
      rw [List.getElem?_eq_none (by omega)]
      simp only; omega
    | some x =>
      cases hb : bs[b]? with
      | none =>
        have := zFu h a x ha
        simp only; omega
      | some y =>
        have := zL9 h a b x y hab ha hb
        simp only; exact fun e => this e.symm
  intro a b e
  rcases Nat.lt_trichotomy a b with q | q | q
  · exact absurd e (key a b q)
  · exact q
  · exact absurd e.symm (key b a q)
theorem vv {bs : List CE} {clock : Nat} (k : Nat) : qF bs clock (bs.length + k) = clock + k := by
  unfold qF
  rw [List.getElem?_eq_none (by omega)]
  simp only; omega
theorem zL7 {bs : List CE} {clock : Nat} (h : upB bs clock = true) (k x : Nat) : x < bs.length + k ↔ qF bs clock x < clock + k := by
  unfold qF
  cases hx : bs[x]? with
  | none =>
    have := List.getElem?_eq_none_iff.1 hx
    simp only; omega
  | some e =>
    have h1 := zFu h x e hx
    have h2 := (List.getElem?_eq_some_iff.1 hx).1
    simp only
    exact ⟨fun _ => by omega, fun _ => by omega⟩
theorem zLt {bs : List CE} {clock : Nat} (h : upB bs clock = true) {ck : Nat → Nat} (hc : wV ck clock) : wV (fun j => ck (qF bs clock j)) bs.length := by
  refine ⟨fun a b hab => zJM h a b (hc.one _ _ hab), fun k x => ?_, fun k => ?_⟩
  · show _ ↔ ck (qF bs clock x) < ck (qF bs clock (bs.length + k))
    rw [vv, zL7 h k x]
    exact hc.cmp k _
  · show ck (qF bs clock (bs.length + k)) = ck (qF bs clock bs.length) + k
    have h0 : qF bs clock bs.length = clock := vv 0
    rw [vv, h0, hc.run]
theorem ub : ∀ {as bs : List CE}, zEn ρ θ as bs = true → as.length = bs.length
  | [], [], _ => rfl
  | [], _ :: _, h => by cases h
  | _ :: _, [], h => by cases h
  | a :: as, b :: bs, h => by
    unfold zEn at h
    rw [Bool.and_eq_true] at h
    simp [ub h.2]
theorem zEp : ∀ {es : List CE} {i clock : Nat}, zM1 es i clock = true → clock = i + es.length ∧ ∀ (j : Nat) (e : CE), es[j]? = some e → e.born = i + j
  | [], i, clock, h => ⟨by have := @z6 zN _ _ h; simp; omega, fun j e he => by simp at he⟩
  | a :: es, i, clock, h => by
    unfold zM1 at h
    rw [Bool.and_eq_true] at h
    have h1 := @z6 zN _ _ h.1
    obtain ⟨h2, h3⟩ := zEp h.2
    refine ⟨by simp; omega, fun j e he => ?_⟩
    cases j with
    | zero => simp at he; subst he; omega
    | succ j => have := h3 j e (by simpa using he); omega
theorem zG4 (hθ : wJ σs σT θ) (hψ : zFy ρ ψs ψT) {ck ck' : Nat → Nat} : ∀ {as bs : List CE} {l : List MapEntry}, zEn ρ θ as bs = true →
    (∀ (j : Nat) (a b : CE), as[j]? = some a → bs[j]? = some b → ck' a.born = ck b.born) → @zw (linSym σs Ks) ψs ck bs l → @zw (linSym σT KT) ψT ck' as l
  | [], [], l, _, _, hl => hl
  | [], _ :: _, _, h, _, _ => by cases h
  | _ :: _, [], _, h, _, _ => by cases h
  | a :: as, b :: bs, l, h, hb, hl => by
    unfold zEn at h
    rw [Bool.and_eq_true, Bool.and_eq_true] at h
    obtain ⟨e, r, rfl, ⟨h1, h2, h3⟩, h4⟩ := hl
    exact ⟨e, r, rfl, ⟨wO hθ hψ _ _ h.1.1 h1, wO hθ hψ _ _ h.1.2 h2, by rw [h3]; exact (hb 0 a b rfl rfl).symm⟩,
      zG4 hθ hψ h.2 (fun j x y hx hy => hb (j + 1) x y (by simpa using hx) (by simpa using hy)) h4⟩
theorem zM5 {S : Sym} {ψ : Psi} {ck : Nat → Nat} {cs ds : List CE} (hp : ds.Perm cs) : ∀ {l : List MapEntry}, @zw S ψ ck cs l → ∃ l', l'.Perm l ∧ @zw S ψ ck ds l' := by
  induction hp with
  | nil => intro l h; exact ⟨l, List.Perm.refl _, h⟩
  | cons x _ ih =>
    rintro l ⟨e, r, rfl, hx, hr⟩
    obtain ⟨r', g1, g2⟩ := ih hr
    exact ⟨e :: r', List.Perm.cons e g1, e, r', rfl, hx, g2⟩
  | swap x y m =>
    rintro l ⟨e, r, rfl, hx, e', r', rfl, hy, hr⟩
    exact ⟨e' :: e :: r', List.Perm.swap e e' r', e', _, rfl, hy, e, r', rfl, hx, hr⟩
  | trans _ _ ih1 ih2 =>
    intro l h
    obtain ⟨l1, g1, g2⟩ := ih2 h
    obtain ⟨l2, g3, g4⟩ := ih1 g2
    exact ⟨l2, g3.trans g1, g4⟩
def zF2 (o : Option CObj) (ck : Nat → Nat) : Nat → Nat := match o with
  | some (.map es clock) => fun j => ck (qF (zAX es) clock j)
  | _ => ck
theorem zI5 (hθ : wJ σs σT θ) (hψ : zFy ρ ψs ψT) {o o' : CObj} (h : zDa ρ θ o o' = true) {w : World} {p p' : Pl} (h1 : p'.blk = p.blk) (h2 : p'.off = p.off) (h3 : p'.sz = p.sz) (h4 : p'.ck = zF2 (some o') p.ck)
    (ho : @yy (linSym σs Ks) ψs w p o') : @yy (linSym σT KT) ψT w p' o ∧ o.isRo = false ∧ o'.isRo = false := by
  unfold zDa at h
  split at h
  · exact ⟨u6 hθ hψ h h1 h2 h3 ho, rfl, rfl⟩
  · exact ⟨u6 hθ hψ h h1 h2 h3 (@jP.toCells (linSym σs Ks) _ _ _ _ _ ho), rfl, rfl⟩
  · rename_i es c es' c'
    rw [Bool.and_eq_true, Bool.and_eq_true] at h
    refine ⟨?_, rfl, rfl⟩
    obtain ⟨arr, g1, ⟨l0, gp, g2⟩, g3⟩ := ho
    have hlen := ub h.1.1
    obtain ⟨n1, n2⟩ := zEp h.1.2
    have hc : c = (zAX es').length := by omega
    have h4 : p'.ck = fun j => p.ck (qF (zAX es') c' j) := h4
    obtain ⟨l1, gq, g2⟩ := zM5 (zEi (l := es')) g2
    refine ⟨arr, ?_, ⟨l1, gq.trans gp, ?_⟩, ?_⟩
    · rw [h1, g1, h4, hc]
      show _ = some (Obj.map arr (p.ck (qF (zAX es') c' (zAX es').length)))
      have h0 : qF (zAX es') c' (zAX es').length = c' := vv 0
      rw [h0]
    · refine zG4 hθ hψ h.1.1 (fun j a b ha hb => ?_) g2
      rw [h4]
      show p.ck (qF (zAX es') c' a.born) = _
      rw [n2 j a ha, Nat.zero_add]
      unfold qF
      rw [hb]
    · rw [h4, hc]
      exact zLt h.2 g3
  · cases h
end
theorem zF3 {ρ : Heap} {θ : TH} {o o' : CObj} (h : zDa ρ θ o o' = true) : o'.isRo = false := by
  unfold zDa at h
  split at h
  · rfl
  · rfl
  · rfl
  · cases h
structure Win where
  key : Key
  esz : Nat
  base : Option Addr
  B : Nat
  x : Nat
  len : Nat
  cap : Nat
  sz : Nat
structure TS where
  locs : List (Nat × CV)
  objs : List (Key × CObj)
  n : Key
  b : List (Int × Int)
  f : List (LL × Int × Int)
  r : List SRule := []
def wF : List (Nat × CV) → Tm
  | [] => .nil
  | p :: r => w9 p.2 (Loc.ofNat p.1) (wF r)
def mkH (h : Heap) : List (Key × CObj) → Heap
  | [] => h
  | p :: r => yj (some p.2) p.1 (mkH h r)
def mkRho : List (Key × CObj) → List Key → Heap
  | p :: r, j :: js => yj (some (.cells [.ptr j 0])) p.1 (mkRho r js)
  | _, _ => .nil
def jJ : List (Key × CObj) → List Key → Heap
  | p :: r, j :: js => yj (some (.cells [.ptr p.1 0])) j (jJ r js)
  | _, _ => .nil
def jV (ρ inv : Heap) (θ : TH) (h : Heap) (lo hi : Nat) : List (Key × CObj) → List Key → Bool
  | [], [] => true
  | p :: r, j :: js => zAt ρ p.1 j && zAt inv j p.1 && Nat.ble lo p.1.ix && Nat.ble (Nat.succ p.1.ix) hi && (match yF j h with
      | some o => zDa ρ θ p.2 o
      | none => false) && jV ρ inv θ h lo hi r js
  | _, _ => false
def findW : List Win → Key → Option Win
  | [], _ => none
  | w :: r, k => match decide (w.key = k) with
    | true => some w
    | false => findW r k
def zMa : List (Key × Nat) → Key → Nat → Bool
  | [], _, _ => false
  | p :: r, k, z => match decide (p.1 = k) with
    | true => Nat.beq p.2 z
    | false => zMa r k z
def zFc (lo hi : Nat) : List (Key × Nat) → Bool
  | [] => true
  | p :: r => Nat.ble lo p.1.ix && Nat.ble (Nat.succ p.1.ix) hi && zFc lo hi r
def wsOf (l : List Win) : List (Key × Nat) := l.map fun w => (w.key, w.esz)
def zEb (ρ : Heap) (k : Key) : Bool := match rhoOf ρ k with
  | none => true
  | some _ => false
def zNB (ρ : Heap) (θ : TH) (ws : List (Key × Nat)) (c d : CV) : Bool := match c with
  | .win k z e n => match d with
    | .win k' z' _ n' => decide (k = k') && Nat.beq z z' && zNe e (sv 0) && zKb θ n (.sym n') && zMa ws k z && zEb ρ k
    | _ => false
  | c => xH ρ θ c d
def zJF (ρ : Heap) (θ : TH) (ws : List (Key × Nat)) (tm : Tm) : List (Nat × CV) → Bool
  | [] => true
  | p :: r => Nat.ble p.1 271 && zNB ρ θ ws p.2 (qP (Loc.ofNat p.1) tm) && zJF ρ θ ws tm r
def zNd (K : zQ) : List (Int × Int) → TH → Bool
  | [], [] => true
  | q :: r, s :: θ => (match zIx K.b s.2 K.f with
      | some u => decide (q.1 ≤ s.1 + u.1) && decide (s.1 + u.2 ≤ q.2)
      | none => false) && zNd K r θ
  | _, _ => false
def zM7 (K : zQ) (θ : TH) : List (LL × Int × Int) → Bool
  | [] => true
  | q :: r => (match zIy θ q.1 with
    | some s => match zIx K.b s.2 K.f with
      | some u => decide (q.2.1 ≤ s.1 + u.1) && decide (s.1 + u.2 ≤ q.2.2)
      | none => false
    | none => false) && zM7 K θ r
def zHx (θ : TH) (r q : SRule) : Bool := (match zIy θ r.x.l with
    | some s => decide (r.op = q.op) && kEq r.x.k q.x.k && Nat.beq r.c q.c && ym (r.x.c + s.1) q.x.c && zBW s.2 q.x.l
    | none => false) && (match r.v, q.v with
    | .sym e, .sym e' => zKb θ e (.sym e')
    | _, _ => false)
def zBZ (θ : TH) (r : SRule) : List SRule → Bool
  | [] => false
  | q :: l => zHx θ r q || zBZ θ r l
def uk (θ : TH) (l : List SRule) : List SRule → Bool
  | [] => true
  | r :: rs => zBZ θ r l && uk θ l rs
theorem ka (k : IntKind) (n : Int) (e : SE) : mkInt k n ≠ .sym e := by
  cases n with
  | ofNat m => cases m <;> cases k <;> (intro h; cases h)
  | negSucc m => cases m <;> (intro h; cases h)
theorem zHd (k : IntKind) (n : Nat) (e : SE) : qT k n ≠ .sym e := by
  cases n <;> cases k <;> (intro h; cases h)
theorem zHf {op : BinOp} {k : IntKind} {a b : Int} {e : SE} (h : z8 op k a b = some (.sym e)) : False := by
  cases op <;> first
    | (have h : some (mkInt k _) = some (.sym e) := h
       injection h with h; exact ka _ _ _ h)
    | (have h : some (CV.bool _) = some (.sym e) := h
       injection h with h; cases h)
    | (have h : Bool.rec (motive := fun _ => Option CV) (some (mkInt k _)) none (ym b (.ofNat 0)) = some (.sym e) := h
       cases hb : ym b (.ofNat 0) <;> rw [hb] at h
       · injection h with h; exact ka _ _ _ h
       · cases h)
    | (cases b with
       | ofNat m =>
         first
           | (have h : some (mkInt k _) = some (.sym e) := h
              injection h with h; exact ka _ _ _ h)
           | (cases a with
              | ofNat x =>
                have h : some (qT k _) = some (.sym e) := h
                injection h with h; exact zHd _ _ _ h
              | negSucc x =>
                have h : some (mkInt k _) = some (.sym e) := h
                injection h with h; exact ka _ _ _ h)
       | negSucc m => cases h)
theorem zJU {σs σT : Nat → Int} {θ : TH} (hθ : wJ σs σT θ) {r q : SRule} (h : zHx θ r q = true) (hq : xj σs q) : xj σT r := by
  unfold zHx at h
  rw [Bool.and_eq_true] at h
  obtain ⟨h1, h2⟩ := h
  split at h1
  · rename_i s hs
    simp only [Bool.and_eq_true, decide_eq_true_eq] at h1
    obtain ⟨⟨⟨⟨a1, a2⟩, a3⟩, a4⟩, a5⟩ := h1
    rw [@yu zN, decide_eq_true_eq] at a2
    have a3 := @z6 zN _ _ a3
    rw [@zZ zN, decide_eq_true_eq] at a4
    have a5 := @jX zN _ _ a5
    obtain ⟨u, b1, b2, b3⟩ := hq
    have ex : evE σT r.x = evE σs q.x := by
      unfold evE
      rw [vn hθ hs, ← a4, a5]
      omega
    refine ⟨u, by rw [a1, a2]; exact b1, by rw [a1, a2, a3, ex]; exact b2, ?_⟩
    split at h2
    · rename_i e e' he he'
      refine .inr ⟨e, he, ?_⟩
      unfold zKb at h2
      split at h2
      · rename_i k c l hf
        split at h2
        · rename_i s' hs'
          simp only [Bool.and_eq_true] at h2
          obtain ⟨⟨c1, c2⟩, c3⟩ := h2
          rw [@yu zN, decide_eq_true_eq] at c1
          rw [@zZ zN, decide_eq_true_eq] at c2
          have c3 := @jX zN _ _ c3
          injection hf with hf
          injection hf with d1 hf
          injection hf with d2 d3
          rcases b3 with b3 | ⟨e2, b4, b5⟩
          · rw [he'] at b3
            rw [← b3] at b2
            exact (zHf b2).elim
          · rw [he'] at b4
            injection b4 with b4
            subst b4
            rw [b5, c1, ← d1]
            congr 1
            unfold evE
            rw [vn hθ hs', c3, ← d3, d2, ← c2]
            omega
        · cases h2
      · cases h2
    · cases h2
  · cases h1
theorem vK {σs σT : Nat → Int} {θ : TH} (hθ : wJ σs σT θ) {l : List SRule} (hl : ∀ q ∈ l, xj σs q) : ∀ {rs : List SRule}, uk θ l rs = true → xL σT rs
  | [], _ => trivial
  | r :: rs, h => by
    unfold uk at h
    rw [Bool.and_eq_true] at h
    refine ⟨?_, vK hθ hl h.2⟩
    have : ∀ {m : List SRule}, zBZ θ r m = true → (∀ q ∈ m, xj σs q) → xj σT r := by
      intro m
      induction m with
      | nil => intro h _; cases h
      | cons q m ih =>
        intro h hm
        unfold zBZ at h
        rw [Bool.or_eq_true] at h
        rcases h with h | h
        · exact zJU hθ h (hm q (by simp))
        · exact ih h fun q' hq' => hm q' (by simp [hq'])
    exact this h.1 hl
def zG1 (G : Nat) (ws : List (Key × Nat)) (T : TS) (ks : List Key) (θ : TH) (K : zQ) (tm : Tm) (h : Heap) : Bool :=
  jV (mkRho T.objs ks) (jJ T.objs ks) θ h G T.n.ix T.objs ks && zJF (mkRho T.objs ks) θ ws tm T.locs && zNd K T.b θ && zM7 K θ T.f && zFc G T.n.ix ws && Nat.ble G T.n.ix && uk θ K.rules T.r
theorem zNN (p : Loc) : qP p Tm.nil = .any := @zCq zN p
theorem zNa (v : CV) (p : Loc) (t : Tm) : qP p (w9 v p t) = v := @qd zN v p t
theorem zLN (v : CV) (p q : Loc) (t : Tm) (h : q ≠ p) : qP q (w9 v p t) = qP q t := @xQ zN v p q t h
theorem kq (o : Option CObj) (k j : Key) (h : Heap) : yF j (yj o k h) = if j = k then o else yF j h := @zEF zN o k j h
theorem wj (k : Key) : yF k (.nil : Heap) = none := @vx zN k
theorem zD2 (t : Nat) : ∀ {locs : List (Nat × CV)}, qP (Loc.ofNat t) (wF locs) = .any ∨ ∃ p ∈ locs, Loc.ofNat p.1 = Loc.ofNat t ∧ qP (Loc.ofNat t) (wF locs) = p.2
  | [] => .inl (zNN _)
  | p :: r => by
    by_cases e : Loc.ofNat p.1 = Loc.ofNat t
    · refine .inr ⟨p, by simp, e, ?_⟩
      show qP _ (w9 p.2 _ _) = _
      rw [e, zNa]
    · have h : qP (Loc.ofNat t) (wF (p :: r)) = qP (Loc.ofNat t) (wF r) := zLN _ _ _ _ (fun q => e q.symm)
      rcases zD2 t (locs := r) with h' | ⟨q, hq, h1, h2⟩
      · exact .inl (h.trans h')
      · exact .inr ⟨q, by simp [hq], h1, h.trans h2⟩
theorem k5 {h : Heap} {k : Key} {o : CObj} : ∀ {objs : List (Key × CObj)}, yF k (mkH h objs) = some o → (∃ j : Nat, objs[j]? = some (k, o)) ∨ yF k h = some o
  | [], hh => .inr hh
  | p :: r, hh => by
    have hh : yF k (yj (some p.2) p.1 (mkH h r)) = some o := hh
    rw [kq] at hh
    split at hh
    · rename_i e
      injection hh with h1
      exact .inl ⟨0, by subst e; subst h1; rfl⟩
    · rcases k5 hh with ⟨j, hj⟩ | h'
      · exact .inl ⟨j + 1, by simpa using hj⟩
      · exact .inr h'
theorem zBj {k b : Key} : ∀ {objs : List (Key × CObj)} {ks : List Key}, rhoOf (mkRho objs ks) k = some b → ∃ (j : Nat) (o : CObj), objs[j]? = some (k, o) ∧ ks[j]? = some b
  | [], _, h => by
    have h : rhoOf .nil k = some b := h
    unfold rhoOf at h
    rw [wj] at h; cases h
  | _ :: _, [], h => by
    have h : rhoOf .nil k = some b := h
    unfold rhoOf at h
    rw [wj] at h; cases h
  | p :: r, j :: js, h => by
    by_cases e : k = p.1
    · have h : rhoOf (yj (some (.cells [.ptr j 0])) p.1 (mkRho r js)) k = some b := h
      unfold rhoOf at h
      rw [kq, if_pos e] at h
      injection h with h
      exact ⟨0, p.2, by subst e; rfl, by subst h; rfl⟩
    · have h' : rhoOf (mkRho r js) k = some b := by
        have h : rhoOf (yj (some (.cells [.ptr j 0])) p.1 (mkRho r js)) k = some b := h
        unfold rhoOf at h ⊢
        rw [kq, if_neg e] at h
        exact h
      obtain ⟨i, o, h1, h2⟩ := zBj h'
      exact ⟨i + 1, o, by simpa using h1, by simpa using h2⟩
theorem kT {ρ : Heap} {k j : Key} (h : zAt ρ k j = true) : rhoOf ρ k = some j := by
  unfold zAt at h
  split at h
  · rename_i b hb
    rw [decide_eq_true_eq] at h
    rw [hb, h]
  · cases h
theorem je {ρ inv : Heap} {θ : TH} {h : Heap} {lo hi : Nat} : ∀ {objs : List (Key × CObj)} {ks : List Key}, jV ρ inv θ h lo hi objs ks = true → ∀ (j : Nat) (k : Key) (o : CObj), objs[j]? = some (k, o) →
    ∃ i o', ks[j]? = some i ∧ rhoOf ρ k = some i ∧ rhoOf inv i = some k ∧ lo ≤ k.ix ∧ k.ix < hi ∧ yF i h = some o' ∧ zDa ρ θ o o' = true
  | [], _, _, j, k, o, hj => by simp at hj
  | _ :: _, [], hc, _, _, _, _ => by cases hc
  | p :: r, i :: is, hc, j, k, o, hj => by
    unfold jV at hc
    simp only [Bool.and_eq_true] at hc
    obtain ⟨⟨⟨⟨⟨c1, c2⟩, c3⟩, c4⟩, c5⟩, c6⟩ := hc
    cases j with
    | zero =>
      simp at hj
      subst hj
      split at c5
      · rename_i o' ho
        exact ⟨i, o', rfl, kT c1, kT c2, @zH zN _ _ c3, @zH zN _ _ c4, ho, c5⟩
      · cases c5
    | succ j =>
      obtain ⟨i', o', h1, h2⟩ := je c6 j k o (by simpa using hj)
      exact ⟨i', o', by simpa using h1, h2⟩
theorem wD {l : List Win} {k : Key} {w : Win} (h : findW l k = some w) : w ∈ l ∧ w.key = k := by
  induction l with
  | nil => cases h
  | cons x l ih =>
    unfold findW at h
    split at h
    · rename_i e
      injection h with h; subst h
      exact ⟨by simp, of_decide_eq_true e⟩
    · have := ih h
      exact ⟨by simp [this.1], this.2⟩
theorem zMu {l : List Win} {k : Key} {z : Nat} (h : zMa (wsOf l) k z = true) : ∃ w, findW l k = some w ∧ w.esz = z := by
  induction l with
  | nil => cases h
  | cons x l ih =>
    have h : zMa ((x.key, x.esz) :: wsOf l) k z = true := h
    unfold zMa at h
    unfold findW
    split at h
    · rename_i e
      simp only at e
      rw [e]
      exact ⟨x, rfl, @z6 zN _ _ h⟩
    · rename_i e
      simp only at e
      rw [e]
      exact ih h
theorem zFR {lo hi : Nat} {l : List Win} (h : zFc lo hi (wsOf l) = true) : ∀ w ∈ l, lo ≤ w.key.ix ∧ w.key.ix < hi := by
  induction l with
  | nil => intro w hw; cases hw
  | cons x l ih =>
    have h : zFc lo hi ((x.key, x.esz) :: wsOf l) = true := h
    unfold zFc at h
    rw [Bool.and_eq_true, Bool.and_eq_true] at h
    intro w hw
    rcases List.mem_cons.1 hw with rfl | hw
    · exact ⟨@zH zN _ _ h.1.1, @zH zN _ _ h.1.2⟩
    · exact ih h.2 w hw
theorem zGd {ρ : Heap} {θ : TH} {ws : List (Key × Nat)} {tm : Tm} : ∀ {locs : List (Nat × CV)}, zJF ρ θ ws tm locs = true → ∀ p ∈ locs, p.1 ≤ 271 ∧ zNB ρ θ ws p.2 (qP (Loc.ofNat p.1) tm) = true
  | [], _, p, hp => by cases hp
  | q :: r, h, p, hp => by
    unfold zJF at h
    rw [Bool.and_eq_true, Bool.and_eq_true] at h
    rcases List.mem_cons.1 hp with rfl | hp
    · exact ⟨@zH zN _ _ h.1.1, h.1.2⟩
    · exact zGd h.2 p hp
def jp (ρ h : Heap) (wins : List Win) (ψ : Psi) (G : Nat) (i : Int) : Psi := fun k => match rhoOf ρ k with
  | some j => (ψ j).map fun p => ⟨p.blk, p.off, p.sz, zF2 (yF j h) p.ck⟩
  | none => match findW wins k with
    | some w => some ⟨w.B, w.x + i.toNat * w.esz, w.sz, fun n => n⟩
    | none => if k.ix < G then ψ k else none
def evQ (σ : Nat → Int) (q : Int × LL) : Int := q.1 + evL σ q.2
def ve (A : Key → Option Value) (wins : List Win) : Prop := ∀ w ∈ wins, A w.key = some (.slice w.base w.len w.cap) ∧ (0 < w.len → w.base = some ⟨w.B, w.x, none⟩)
section
variable {σs : Nat → Int} {Ks : zQ} {θ : TH} {T : TS} {ks : List Key} {wins : List Win} {G : Nat} {F N : Nat} {ψ : Psi} {tm : Tm} {h : Heap} {n : Key} {a : Act} {w : World}
theorem zE8 {σs : Nat → Int} {Ks : zQ} (hK : KnownOk σs Ks) {σT : Nat → Int} : ∀ {b : List (Int × Int)} {θ : TH} {k : Nat}, zNd Ks b θ = true → (∀ j q, nth θ j = some q → σT (k + j) = evQ σs q) →
    b.length = θ.length ∧ yc σT k b
  | [], [], _, _, _ => ⟨rfl, trivial⟩
  | [], _ :: _, _, h, _ => by cases h
  | _ :: _, [], _, h, _ => by cases h
  | q :: r, s :: θ, k, h, hθ => by
    unfold zNd at h
    rw [Bool.and_eq_true] at h
    obtain ⟨h1, h2⟩ := h
    obtain ⟨g1, g2⟩ := zE8 hK (σT := σT) (k := k + 1) h2 (fun j q hj => by
      have := hθ (j + 1) q hj
      rw [show k + 1 + j = k + (j + 1) from by omega]; exact this)
    refine ⟨by simp [g1], ?_, g2⟩
    split at h1
    · rename_i u hu
      rw [Bool.and_eq_true, decide_eq_true_eq, decide_eq_true_eq] at h1
      obtain ⟨r1, r2⟩ := vm hK.b hK.f hu
      have h0 : σT k = evQ σs s := hθ 0 s rfl
      rw [h0]
      unfold evQ
      constructor <;> omega
    · cases h1
theorem zE5 {σs σT : Nat → Int} {Ks : zQ} (hK : KnownOk σs Ks) {θ : TH} (hθ : wJ σs σT θ) : ∀ {f : List (LL × Int × Int)}, zM7 Ks θ f = true → qK σT f
  | [], _ => trivial
  | q :: r, h => by
    unfold zM7 at h
    rw [Bool.and_eq_true] at h
    refine ⟨?_, zE5 hK hθ h.2⟩
    have h1 := h.1
    split at h1
    · rename_i s hs
      split at h1
      · rename_i u hu
        rw [Bool.and_eq_true, decide_eq_true_eq, decide_eq_true_eq] at h1
        obtain ⟨r1, r2⟩ := vm hK.b hK.f hu
        rw [vn hθ hs]
        constructor <;> omega
      · cases h1
    · cases h1
theorem zF1 (hst : @St (linSym σs Ks) P F N ψ tm [] h n a w) (hG : P.globals.size ≤ G) (hA : ve Ks.arg wins) (hc : zG1 G (wsOf wins) T ks θ Ks tm h = true) (i : Int) (hi : ∀ q, nth θ 0 = some q → evQ σs q = i) (h0 : ∃ q, nth θ 0 = some q) :
    ∃ ψT, (∀ σT KT, wJ σs σT θ → KT.arg = Ks.arg → @St (linSym σT KT) P F N ψT (wF T.locs) [] (mkH .nil T.objs) T.n a w) ∧
      (∀ k o p, Heap.fam (mkH .nil T.objs) k = some o → ψT k = some p → o.isRo = false ∧ ∃ k0 o0 p0, Heap.fam h k0 = some o0 ∧ o0.isRo = false ∧ ψ k0 = some p0 ∧ p0.blk = p.blk) ∧
      (∀ k wn, findW wins k = some wn → zEb (mkRho T.objs ks) k = true → ψT k = some ⟨wn.B, wn.x + i.toNat * wn.esz, wn.sz, fun n => n⟩) ∧ zFy (mkRho T.objs ks) ψ ψT := by
  have hR : @Rel (linSym σs Ks) ψ (Heap.fam h) w := @St.rel (linSym σs Ks) _ _ _ _ _ _ _ _ _ _ hst
  have hTot : ∀ k o, Heap.fam h k = some o → ∃ p, ψ k = some p := @Rel.tot (linSym σs Ks) _ _ _ hR
  have hOn : ∀ k o p, Heap.fam h k = some o → ψ k = some p → @yy (linSym σs Ks) ψ w p o := @Rel.on (linSym σs Ks) _ _ _ hR
  have hInj := @Rel.inj (linSym σs Ks) _ _ _ hR
  have hGl : kJ P ψ := @St.glob (linSym σs Ks) _ _ _ _ _ _ _ _ _ _ hst
  have hDf := @St.dfr (linSym σs Ks) _ _ _ _ _ _ _ _ _ _ hst
  have hFr : @yh (linSym σs Ks) ψ F N tm a := @St.frame (linSym σs Ks) _ _ _ _ _ _ _ _ _ _ hst
  have hTmp := @yh.tmp (linSym σs Ks) _ _ _ _ _ hFr
  have hSz := @yh.size (linSym σs Ks) _ _ _ _ _ hFr
  unfold zG1 at hc
  simp only [Bool.and_eq_true] at hc
  obtain ⟨⟨⟨⟨⟨⟨c1, c2⟩, c3⟩, c4⟩, c5⟩, c6⟩, _⟩ := hc
  have c6 := @zH zN _ _ c6
  generalize hρ : mkRho T.objs ks = ρ at c1 c2
  generalize hinv : jJ T.objs ks = inv at c1
  have hobj := je c1
  have hwb := zFR c5
  have hrho : ∀ k b, rhoOf ρ k = some b → G ≤ k.ix ∧ k.ix < T.n.ix ∧ ∃ (o o' : CObj) (j : Nat), T.objs[j]? = some (k, o) ∧ rhoOf inv b = some k ∧ yF b h = some o' ∧ zDa ρ θ o o' = true := by
    intro k b hk
    have hk' := hk
    rw [← hρ] at hk'
    obtain ⟨j, o, h1, h2⟩ := zBj hk'
    obtain ⟨i', o', g1, g2, g3, g4, g5, g6, g7⟩ := hobj j k o h1
    rw [hk] at g2
    injection g2 with g2
    subst g2
    exact ⟨g4, g5, o, o', j, h1, g3, g6, g7⟩
  have hps : ∀ k j p, rhoOf ρ k = some j → ψ j = some p → jp ρ h wins ψ G i k = some ⟨p.blk, p.off, p.sz, zF2 (yF j h) p.ck⟩ := by
    intro k j p hk hp
    unfold jp
    rw [hk]
    simp only
    rw [hp]; rfl
  have hPs : zFy ρ ψ (jp ρ h wins ψ G i) := fun k j p hk hp => ⟨_, hps k j p (kT hk) hp, rfl, rfl, rfl⟩
  have hwin : ∀ k wn, findW wins k = some wn → zEb ρ k = true → jp ρ h wins ψ G i k = some ⟨wn.B, wn.x + i.toNat * wn.esz, wn.sz, fun n => n⟩ := by
    intro k wn hw hno
    have hno : rhoOf ρ k = none := by
      unfold zEb at hno
      split at hno
      · assumption
      · cases hno
    unfold jp
    rw [hno]
    simp only
    rw [hw]
  have hfam : ∀ k o p, Heap.fam (mkH .nil T.objs) k = some o → jp ρ h wins ψ G i k = some p → ∃ b o' p0, rhoOf ρ k = some b ∧ rhoOf inv b = some k ∧ Heap.fam h b = some o' ∧ ψ b = some p0 ∧ zDa ρ θ o o' = true ∧
      p = ⟨p0.blk, p0.off, p0.sz, zF2 (some o') p0.ck⟩ := by
    intro k o p hk hp
    rcases k5 hk with ⟨j, hj⟩ | hn
    · obtain ⟨b, o', g1, g2, g3, g4, g5, g6, g7⟩ := hobj j k o hj
      obtain ⟨p0, hp0⟩ := hTot b o' g6
      rw [hps k b p0 g2 hp0, g6] at hp
      injection hp with hp
      exact ⟨b, o', p0, g2, g3, g6, hp0, g7, hp.symm⟩
    · rw [wj] at hn; cases hn
  refine ⟨jp ρ h wins ψ G i, fun σT KT hθ hKT => ?_, ?_, hwin, by first | exact hPs | (rw [hρ]; exact hPs)⟩
  · refine @St.mk (linSym σT KT) P F N _ _ _ _ _ _ _ ?_ ?_ ?_ ?_ ?_
    · refine @yh.mk (linSym σT KT) _ _ _ _ _ hSz fun t h1 h2 h3 => ?_
      rcases zD2 t (locs := T.locs) with e | ⟨p, hp, e1, e2⟩
      · rw [e]; exact @xy (linSym σT KT) _ _
      · obtain ⟨q1, q2⟩ := zGd c2 p hp
        have e1 : p.1 = t := @Loc.ofNat_inj zN _ _ q1 h2 e1
        rw [e2]
        rw [e1] at q2
        have hv := hTmp t h1 h2 h3
        unfold zNB at q2
        split at q2
        · rename_i k z e nn heq
          split at q2
          · rename_i k' z' e' n' heq'
            simp only [Bool.and_eq_true, decide_eq_true_eq] at q2
            obtain ⟨⟨⟨⟨⟨rfl, hz⟩, he⟩, hn⟩, hw⟩, hno⟩ := q2
            obtain rfl := @z6 zN _ _ hz
            obtain rfl := @zIX zN _ _ he
            rw [heq', @x8 (linSym σs Ks)] at hv
            obtain ⟨ha, base, len, cap, iv, hv', hn', he', _⟩ := hv
            obtain ⟨wn, hwn, hez⟩ := zMu hw
            obtain ⟨hmem, hkey⟩ := wD hwn
            obtain ⟨hA', hbase⟩ := hA wn hmem
            rw [hkey] at hA'
            have ha : Ks.arg k = some (a.tmps.getD t undef) := ha
            rw [ha] at hA'
            injection hA' with hA'
            rw [heq, @x8 (linSym σT KT)]
            obtain ⟨q0, hq0⟩ := h0
            have hn2 := zJd (Ks := Ks) (ψs := ψ) hθ hn (v := .int .i64 len) ((@yX (linSym σs Ks) _ _ _).2 hn'.symm)
            have hlen : len = wn.len := by
              rw [hv'] at hA'
              injection hA' with _ h2 _
            refine ⟨by show KT.arg k = _; rw [hKT]; exact ha, wn.base, wn.len, wn.cap, i, hA', ?_, ?_, fun q1 q2 => ⟨_, wn.x, hwin k wn hwn hno, hbase (by omega), ?_⟩⟩
            · rw [← hlen]; exact hn2.symm
            · show Value.int .i64 (evE σT (sv 0)) = .int .i64 i
              rw [jO, hθ 0 q0 hq0]
              have := hi q0 hq0
              unfold evQ at this
              rw [this]
            · rw [← hez]
          · cases q2
        · exact wO hθ hPs _ _ q2 hv
    · exact hDf
    · refine @Rel.mk (linSym σT KT) _ _ _ ?_ ?_ ?_
      · intro k o p hk hp
        obtain ⟨b, o', p0, g1, g2, g3, g4, g5, rfl⟩ := hfam k o p hk hp
        exact (zI5 (p := p0) (p' := ⟨p0.blk, p0.off, p0.sz, zF2 (some o') p0.ck⟩) hθ hPs g5 rfl rfl rfl rfl (hOn b o' p0 g3 g4)).1
      · intro k o hk
        rcases k5 hk with ⟨j, hj⟩ | hn
        · obtain ⟨b, o', g1, g2, g3, g4, g5, g6, g7⟩ := hobj j k o hj
          obtain ⟨p0, hp0⟩ := hTot b o' g6
          exact ⟨_, hps k b p0 g2 hp0⟩
        · rw [wj] at hn; cases hn
      · intro k₁ k₂ o₁ o₂ p₁ p₂ h1 h2 h3 h4 hr e
        obtain ⟨b1, o1', q1, g1, g2, g3, g4, g5, rfl⟩ := hfam _ _ _ h1 h3
        obtain ⟨b2, o2', q2, f1, f2, f3, f4, f5, rfl⟩ := hfam _ _ _ h2 h4
        have := hInj b1 b2 _ _ _ _ g3 f3 g4 f4 (.inl (zF3 g5)) e
        subst this
        rw [g2] at f2
        injection f2
    · intro g hg h4
      obtain ⟨sz, e⟩ := hGl g hg h4
      have hix : (Key.ofNat g).ix = g := @Key.ix_ofNat zN _ (by omega)
      refine ⟨sz, ?_⟩
      have hno : rhoOf ρ (Key.ofNat g) = none := by
        cases hr : rhoOf ρ (Key.ofNat g) with
        | none => rfl
        | some b => have := (hrho _ _ hr).1; omega
      have hnw : findW wins (Key.ofNat g) = none := by
        cases hr : findW wins (Key.ofNat g) with
        | none => rfl
        | some wn =>
          obtain ⟨hm, hk⟩ := wD hr
          have := (hwb wn hm).1
          rw [hk] at this; omega
      unfold jp
      rw [hno]
      simp only
      rw [hnw]
      simp only
      rw [if_pos (by omega)]
      exact e
    · intro k hk
      have hno : rhoOf ρ k = none := by
        cases hr : rhoOf ρ k with
        | none => rfl
        | some b => have := (hrho _ _ hr).2.1; omega
      have hnw : findW wins k = none := by
        cases hr : findW wins k with
        | none => rfl
        | some wn =>
          obtain ⟨hm, hk⟩ := wD hr
          have := (hwb wn hm).2
          rw [hk] at this; omega
      unfold jp
      rw [hno]
      simp only
      rw [hnw]
      simp only
      split
      · rename_i hlt
        omega
      · rfl
  · intro k o p hk hp
    obtain ⟨b, o', p0, g1, g2, g3, g4, g5, rfl⟩ := hfam k o p hk hp
    have hro : o.isRo = false ∧ o'.isRo = false := by
      unfold zDa at g5
      split at g5
      · exact ⟨rfl, rfl⟩
      · exact ⟨rfl, rfl⟩
      · exact ⟨rfl, rfl⟩
      · cases g5
    exact ⟨hro.1, b, o', p0, g3, hro.2, g4, rfl⟩
end
end
end Go.Ev

namespace Go.Ev
variable [Sym]
noncomputable section
variable {P : Program}
variable [SymFact P]
inductive Stp where
  | l | r | b
def zAN (P : Program) (call : yA) : List Stp → CCode → K
  | [], _ => fun tm ds h n => .ok .normal tm ds h n
  | .l :: p, .seq a _ => zAN P call p a
  | .r :: p, .seq a b => fun tm ds h n => xX (zAN P call p b) (ze P call a tm ds h n)
  | .b :: p, .block _ x => zAN P call p x
  | _, _ => fun _ _ _ _ => .err 330
def xW (P : Program) (call : yA) : List Stp → CCode → R → R
  | [], _ => fun r => r
  | .l :: p, .seq a b => fun r => xX (ze P call b) (xW P call p a r)
  | .r :: p, .seq _ b => xW P call p b
  | .b :: p, .block id x => fun r => wl id (xW P call p x r)
  | _, _ => fun _ => .err 331
def zAJ : List Stp → CCode → CCode
  | [], .loop b => b
  | .l :: p, .seq a _ => zAJ p a
  | .r :: p, .seq _ b => zAJ p b
  | .b :: p, .block _ x => zAJ p x
  | _, _ => .bad 50
def bodyF : CFn → CCode
  | .mk b _ => b
  | _ => .bad 51
def resF : CFn → List CRes
  | .mk _ r => r
  | _ => []
def k6 : List Stp → Code → Option Code
  | [], .loop b => some b
  | .l :: p, .seq x _ => k6 p x
  | .r :: p, .seq _ y => k6 p y
  | .b :: p, .block _ x => k6 p x
  | _, _ => none
def QH (P : Program) : List Stp → Code → (Exit → Act → World → Prop) → Exit → Act → World → Prop
  | .l :: p, .seq x y, Q => QH P p x (Exit.then (y.wp P Q) Q)
  | .r :: p, .seq _ y, Q => QH P p y Q
  | .b :: p, .block id x, Q => QH P p x (Exit.inBlock id Q)
  | _, _, Q => Q
omit [SymFact P] in
theorem k4 {F N : Nat} : ∀ {p : List Stp} {c b : Code}, k6 p c = some b → zAJ p (zE P F N c) = zE P F N b
  | [], c, b, h => by
    cases c <;> first | (injection h with h; subst h; rfl) | cases h
  | .l :: p, c, b, h => by
    cases c <;> first | exact k4 (p := p) h | cases h
  | .r :: p, c, b, h => by
    cases c <;> first | exact k4 (p := p) h | cases h
  | .b :: p, c, b, h => by
    cases c <;> first | exact k4 (p := p) h | cases h
section
variable {F N : Nat} {call : yA}
theorem wS (hcall : ye call) : ∀ (p : List Stp) (c : CCode) (tm : Tm) (ds : xU) (h : Heap) (n : Key), zW n (zAN P call p c tm ds h n)
  | [], _, _, _, _, _ => Nat.le_refl _
  | .l :: p, c, tm, ds, h, n => by
    cases c <;> first | exact wS hcall p _ tm ds h n | trivial
  | .r :: p, c, tm, ds, h, n => by
    cases c <;> first | exact xe (fun tm ds h n => wS hcall p _ tm ds h n) (yE hcall _ tm ds h n) | trivial
  | .b :: p, c, tm, ds, h, n => by
    cases c <;> first | exact wS hcall p _ tm ds h n | trivial
theorem uZ (hcall : yR P call) (hdraw : xD P F N call) : ∀ (p : List Stp) (c : Code) {b : Code} {Q : Exit → Act → World → Prop} {ψ : Psi} {tm : Tm} {ds : xU} {h : Heap} {n : Key} {a : Act} {w : World},
    k6 p c = some b → zT c = true → St P F N ψ tm ds h n a w → zM (zAN P call p (zE P F N c) tm ds h n) →
    (∀ e a' w', yP P F N ψ (Heap.fam h) n w (zAN P call p (zE P F N c) tm ds h n) e a' w' → e = .normal ∧ jq P b (QH P p c Q) a' w') → c.wp P Q a w
  | [], c, b, Q, ψ, tm, ds, h, n, a, w, hs, hn, hst, hc, hq => by
    cases c <;> try (cases hs; done)
    rename_i b'
    injection hs with hs; subst hs
    exact zDb (hq .normal a w ⟨trivial, ψ, hst, zh.refl hst.rel, hc⟩).2
  | .l :: p, c, b, Q, ψ, tm, ds, h, n, a, w, hs, hn, hst, hc, hq => by
    cases c <;> try (cases hs; done)
    rename_i x y
    have hnr : zT x = true ∧ zT y = true := by simpa [zT] using hn
    exact wp_seq (uZ hcall hdraw p x (Q := Exit.then (y.wp P Q) Q) hs hnr.1 hst hc hq)
  | .r :: p, c, b, Q, ψ, tm, ds, h, n, a, w, hs, hn, hst, hc, hq => by
    cases c <;> try (cases hs; done)
    rename_i x y
    have hnr : zT x = true ∧ zT y = true := by simpa [zT] using hn
    have hc : zM (xX (zAN P call p (zE P F N y)) (ze P call (zE P F N x) tm ds h n)) := hc
    have hab := fun tm ds h n => wS (P := P) hcall.above p (zE P F N y) tm ds h n
    refine wp_seq (wp_mono (xz hcall hdraw x hnr.1 hst (yz hab hc)) fun e a' w' ho => ?_)
    rcases qW hc ho with ⟨rfl, tm', ds', h', n', ψ', h2, h3, h4, h5⟩ | ⟨h1, h2⟩
    · refine uZ hcall hdraw p y (Q := Q) hs hnr.2 h2 h4 fun e'' a'' w'' ho' => ?_
      exact hq e'' a'' w'' (h5 e'' a'' w'' (yP.trans h3 ho'))
    · exact absurd (hq e a' w' h2).1 h1
  | .b :: p, c, b, Q, ψ, tm, ds, h, n, a, w, hs, hn, hst, hc, hq => by
    cases c <;> try (cases hs; done)
    rename_i id x
    exact wp_block (uZ hcall hdraw p x (Q := Exit.inBlock id Q) hs hn hst hc hq)
theorem xN (hcall : ye call) : ∀ (p : List Stp) (c : CCode) {r : R}, zM (xW P call p c r) → zM r
  | [], _, _, h => h
  | .l :: p, c, r, h => by
    cases c <;> first | exact xN hcall p _ (yz (fun tm ds h n => yE hcall _ tm ds h n) h) | exact h.elim
  | .r :: p, c, r, h => by
    cases c <;> first | exact xN hcall p _ h | exact h.elim
  | .b :: p, c, r, h => by
    cases c <;> first | exact xN hcall p _ (xu _ h) | exact h.elim
theorem kC (hcall : yR P call) (hdraw : xD P F N call) {ψ₀ : Psi} {g₀ : Fam} {n₀ : Key} {w₀ : World} : ∀ (p : List Stp) (c : Code) {b : Code} {Q : Exit → Act → World → Prop} {r : R} {e : Exit} {a : Act} {w : World},
    k6 p c = some b → zT c = true → yP P F N ψ₀ g₀ n₀ w₀ r e a w → zM (xW P call p (zE P F N c) r) →
    (∀ e a w, yP P F N ψ₀ g₀ n₀ w₀ (xW P call p (zE P F N c) r) e a w → Q e a w) → QH P p c Q e a w
  | [], c, b, Q, r, e, a, w, hs, hn, ho, hc, hq => by
    cases c <;> first | exact hq e a w ho | cases hs
  | .l :: p, c, b, Q, r, e, a, w, hs, hn, ho, hc, hq => by
    cases c <;> try (cases hs; done)
    rename_i x y
    have hnr : zT x = true ∧ zT y = true := by simpa [zT] using hn
    have hc : zM (xX (ze P call (zE P F N y)) (xW P call p (zE P F N x) r)) := hc
    have hab := fun tm ds h n => yE (P := P) hcall.above (zE P F N y) tm ds h n
    refine kC hcall hdraw p x (Q := Exit.then (y.wp P Q) Q) hs hnr.1 ho (yz hab hc) fun e a w ho => ?_
    rcases qW hc ho with ⟨rfl, tm', ds', h', n', ψ', h2, h3, h4, h5⟩ | ⟨h1, h2⟩
    · exact wp_mono (xz hcall hdraw y hnr.2 h2 h4) fun e'' a'' w'' ho' => hq e'' a'' w'' (h5 e'' a'' w'' (yP.trans h3 ho'))
    · cases e <;> first | exact absurd rfl h1 | exact hq _ _ _ h2
  | .r :: p, c, b, Q, r, e, a, w, hs, hn, ho, hc, hq => by
    cases c <;> try (cases hs; done)
    rename_i x y
    have hnr : zT x = true ∧ zT y = true := by simpa [zT] using hn
    exact kC hcall hdraw p y (Q := Q) hs hnr.2 ho hc hq
  | .b :: p, c, b, Q, r, e, a, w, hs, hn, ho, hc, hq => by
    cases c <;> try (cases hs; done)
    rename_i id x
    have hc : zM (wl id (xW P call p (zE P F N x) r)) := hc
    refine kC hcall hdraw p x (Q := Exit.inBlock id Q) hs hn ho (xu id hc) fun e a w ho => ?_
    exact kD (fun e a w h => hq e a w h) ho
end
end
end Go.Ev

namespace Go.Ev
open Go.RowKit
noncomputable section
variable {P : Program}
structure jF where
  T : Nat
  ks : List Key
  θ : TH
def kU (θ : TH) : Bool := match θ with
  | q :: _ => ym q.1 1 && zBW q.2 [(0, 1)]
  | [] => false
def wU (θ : TH) : Bool := match θ with
  | _ :: _ => true
  | [] => false
def jM (θ : TH) : List (Key × Nat) → Bool
  | [] => true
  | q :: r => (match nth θ q.2 with
    | some u => ym u.1 0 && zBW u.2 [(q.2, 1)]
    | none => false) && jM θ r
def LensAre (wins : List Win) (L : List (Key × Nat)) (σ : Nat → Int) : Prop := ∀ q ∈ L, ∃ wn, findW wins q.1 = some wn ∧ σ q.2 = wn.len
theorem zDU {θ : TH} : ∀ {L : List (Key × Nat)}, jM θ L = true → ∀ q ∈ L, nth θ q.2 = some (0, [(q.2, 1)])
  | [], _, q, h => by cases h
  | x :: r, h, q, hq => by
    unfold jM at h
    rw [Bool.and_eq_true] at h
    rcases List.mem_cons.1 hq with rfl | hq
    · have h1 := h.1
      split at h1
      · rename_i u hu
        rw [Bool.and_eq_true, @zZ zN, decide_eq_true_eq] at h1
        rw [hu]
        obtain ⟨a, b⟩ := u
        simp only at h1
        rw [h1.1, @jX zN _ _ h1.2]
      · cases h1
    · exact zDU h.2 q hq
def zB8 (G : Nat) (ws : List (Key × Nat)) (Ts : List TS) (ok : jF → Bool) (K : zQ) (t : jF) (tm : Tm) (ds : xU) (h : Heap) (n : Key) : Bool := match ds with
  | [] => match nth Ts t.T with
    | some T => ok t && zG1 G ws T t.ks t.θ K tm h && Nat.ble (Nat.succ n.ix) 65535
    | none => false
  | _ => false
def qZ (G : Nat) (ws : List (Key × Nat)) (Ts : List TS) (ok : jF → Bool) (K : zQ) (fin : R → Bool) : R → List jF → Option (List jF)
  | .ok .normal tm ds h n, t :: r => match zB8 G ws Ts ok K t tm ds h n with
    | true => some r
    | false => none
  | .ok (.exit i) tm ds h n, r => match fin (.ok (.exit i) tm ds h n) with
    | true => some r
    | false => none
  | .ok .ret tm ds h n, r => match fin (.ok .ret tm ds h n) with
    | true => some r
    | false => none
  | .fork a b, r => match qZ G ws Ts ok K fin a r with
    | some r => qZ G ws Ts ok K fin b r
    | none => none
  | _, _ => none
def qI (o : Option (List jF)) : Bool := match o with
  | some _ => true
  | none => false
section
variable {G : Nat} {ws : List (Key × Nat)} {Ts : List TS} {ok : jF → Bool} {K : zQ} {fin : R → Bool}
theorem xn (hf : ∀ r, fin r = true → zM r) : ∀ {r : R} {l l' : List jF}, qZ G ws Ts ok K fin r l = some l' → zM r
  | .ok .normal tm ds h n, [], _, hc => by cases hc
  | .ok .normal tm ds h n, t :: r, l', hc => by
    unfold qZ at hc
    split at hc
    · rename_i hl
      unfold zB8 at hl
      split at hl
      · split at hl
        · rw [Bool.and_eq_true] at hl
          exact @zH zN _ _ hl.2
        · cases hl
      · cases hl
    · cases hc
  | .ok (.exit i) tm ds h n, l, l', hc => by
    unfold qZ at hc
    split at hc
    · rename_i h1; exact hf _ h1
    · cases hc
  | .ok .ret tm ds h n, l, l', hc => by
    unfold qZ at hc
    split at hc
    · rename_i h1; exact hf _ h1
    · cases hc
  | .ret .., l, l', hc => by cases hc
  | .err _, l, l', hc => by cases hc
  | .fork a b, l, l', hc => by
    unfold qZ at hc
    split at hc
    · rename_i r hr
      exact ⟨xn hf hr, xn hf hc⟩
    · cases hc
def zNC (P : Program) (F N : Nat) (ψ₀ : Psi) (g₀ : Fam) (n₀ : Key) (w₀ : World) (G : Nat) (ws : List (Key × Nat)) (Ts : List TS) (ok : jF → Bool) (K : zQ) (fin : R → Bool) (S : Sym) (e : Exit) (a : Act) (w : World) : Prop :=
  (e = .normal ∧ ∃ (tm : Tm) (h : Heap) (n : Key) (ψ : Psi) (t : jF) (T : TS), @St S P F N ψ tm [] h n a w ∧ @zh S ψ₀ g₀ n₀ w₀ ψ (Heap.fam h) n w ∧ nth Ts t.T = some T ∧ ok t = true ∧ zG1 G ws T t.ks t.θ K tm h = true) ∨
  (e ≠ .normal ∧ ∃ r, @yP S P F N ψ₀ g₀ n₀ w₀ r e a w ∧ fin r = true)
theorem jt {S : Sym} {F N : Nat} {ψ₀ : Psi} {g₀ : Fam} {n₀ : Key} {w₀ : World} {e : Exit} {a : Act} {w : World} : ∀ {r : R} {l l' : List jF}, qZ G ws Ts ok K fin r l = some l' →
    @yP S P F N ψ₀ g₀ n₀ w₀ r e a w → zNC P F N ψ₀ g₀ n₀ w₀ G ws Ts ok K fin S e a w
  | .ok .normal tm ds h n, [], _, hc, _ => by cases hc
  | .ok .normal tm ds h n, t :: r, l', hc, ⟨h1, ψ, h2, h3, h4⟩ => by
    unfold qZ at hc
    split at hc
    · rename_i hl
      unfold zB8 at hl
      split at hl
      · split at hl
        · rename_i T hT
          rw [Bool.and_eq_true, Bool.and_eq_true] at hl
          cases e <;> first | exact h1.elim | skip
          exact Or.inl ⟨rfl, tm, h, n, ψ, t, T, h2, h3, hT, hl.1.1, hl.1.2⟩
        · cases hl
      · cases hl
    · cases hc
  | .ok (.exit i) tm ds h n, l, l', hc, ho => by
    unfold qZ at hc
    split at hc
    · rename_i hf
      refine Or.inr ⟨fun e1 => ?_, _, ho, hf⟩
      subst e1; exact ho.1.elim
    · cases hc
  | .ok .ret tm ds h n, l, l', hc, ho => by
    unfold qZ at hc
    split at hc
    · rename_i hf
      refine Or.inr ⟨fun e1 => ?_, _, ho, hf⟩
      subst e1; exact ho.1.elim
    · cases hc
  | .ret .., l, l', hc, _ => by cases hc
  | .err _, l, l', hc, _ => by cases hc
  | .fork a b, l, l', hc, ho => by
    unfold qZ at hc
    split at hc
    · rename_i r hr
      rcases ho with ho | ho
      · exact jt hr ho
      · exact jt hc ho
    · cases hc
end
structure zLW (P : Program) (F N : Nat) (G : Nat) (A : Key → Option Value) (wins : List Win) (L : List (Key × Nat)) (w0 : World) (T : TS) (σ : Nat → Int) (ψ : Psi) (a : Act) (w : World) : Prop where
  bnd : yc σ 0 T.b
  fct : qK σ T.f
  rul : xL σ T.r
  len : LensAre wins L σ
  st : ∀ σ' K', (∀ j, j < T.b.length → σ' j = σ j) → K'.arg = A → @St (linSym σ' K') P F N ψ (wF T.locs) [] (mkH .nil T.objs) T.n a w
  own : ∀ k o p, Heap.fam (mkH .nil T.objs) k = some o → ψ k = some p → o.isRo = false ∧ w0.heap.size ≤ p.blk
  blw : Below w0.heap.size w0 w
  win : ∀ k wn, findW wins k = some wn → Heap.fam (mkH .nil T.objs) k = none → ψ k = some ⟨wn.B, wn.x + (σ 0).toNat * wn.esz, wn.sz, fun n => n⟩
theorem zAB {S : Sym} {ψ ψ' : Psi} {g g' : Fam} {n n' : Key} {w0 w w' : World} (h : Below w0.heap.size w0 w) (hp : @zh S ψ g n w ψ' g' n' w') (hm : ∀ k o p, g k = some o → o.isRo = false → ψ k = some p → w0.heap.size ≤ p.blk) :
    Below w0.heap.size w0 w' := by
  have h1 := @zh.os S _ _ _ _ _ _ _ _ hp
  have h2 := @zh.tape S _ _ _ _ _ _ _ _ hp
  have h3 := @zh.output S _ _ _ _ _ _ _ _ hp
  have h4 := @zh.size S _ _ _ _ _ _ _ _ hp
  have h5 := @zh.frame S _ _ _ _ _ _ _ _ hp
  refine ⟨h1.trans h.os, h2.trans h.tape, h3.trans h.output, Nat.le_trans h.size h4, fun k hk => ?_⟩
  rw [h5 k (Nat.lt_of_lt_of_le hk h.size) fun k' o p q1 q2 q3 e => ?_, h.block k hk]
  have := hm k' o p q1 q2 q3
  omega
theorem zJf {h : Heap} : ∀ {objs : List (Key × CObj)} {j : Nat} {k : Key} {o : CObj}, objs[j]? = some (k, o) → ∃ o', yF k (mkH h objs) = some o'
  | [], j, k, o, hj => by simp at hj
  | p :: r, j, k, o, hj => by
    show ∃ o', yF k (yj (some p.2) p.1 (mkH h r)) = some o'
    rw [kq]
    split
    · exact ⟨_, rfl⟩
    · rename_i e
      cases j with
      | zero => simp at hj; subst hj; exact absurd rfl e
      | succ j => exact zJf (j := j) (by simpa using hj)
theorem zLq {objs : List (Key × CObj)} {ks : List Key} {k : Key} (h : Heap.fam (mkH .nil objs) k = none) : zEb (mkRho objs ks) k = true := by
  unfold zEb
  split
  · rfl
  · rename_i b hb
    obtain ⟨j, o, h1, h2⟩ := zBj hb
    obtain ⟨o', h3⟩ := zJf (h := .nil) h1
    have h : yF k (mkH .nil objs) = none := h
    rw [h] at h3; cases h3
theorem zHF {L : List (Key × Nat)} {wins : List Win} {σs : Nat → Int} {Ks : zQ} (hK : KnownOk σs Ks) (hlen : LensAre wins L σs) {θ : TH} {T : TS} {ks : List Key} {G F N : Nat} {ψ₀ ψ : Psi} {g₀ : Fam} {n₀ : Key} {w0 w₀ : World} {tm : Tm} {h : Heap} {n : Key} {a : Act} {w : World}
    (hst : @St (linSym σs Ks) P F N ψ tm [] h n a w) (hp : @zh (linSym σs Ks) ψ₀ g₀ n₀ w₀ ψ (Heap.fam h) n w) (hG : P.globals.size ≤ G) (hA : ve Ks.arg wins) (hc : zG1 G (wsOf wins) T ks θ Ks tm h = true)
    (h0 : ∃ q, nth θ 0 = some q) (hL : jM θ L = true) (hm : ∀ k o p, g₀ k = some o → o.isRo = false → ψ₀ k = some p → w0.heap.size ≤ p.blk) (hb : Below w0.heap.size w0 w₀) :
    ∃ σ ψT, zLW P F N G Ks.arg wins L w0 T σ ψT a w ∧ ∀ q, nth θ 0 = some q → σ 0 = evQ σs q := by
  obtain ⟨σ, hσ⟩ : ∃ σ : Nat → Int, ∀ j, σ j = match nth θ j with | some q => evQ σs q | none => 0 := ⟨_, fun _ => rfl⟩
  have hth : ∀ j q, nth θ j = some q → σ j = evQ σs q := fun j q hj => by rw [hσ, hj]
  obtain ⟨q0, hq0⟩ := h0
  obtain ⟨ψT, c1, c2, c3⟩ := zF1 hst hG hA hc (evQ σs q0) (fun q hq => by rw [hq0] at hq; injection hq with hq; rw [hq]) ⟨q0, hq0⟩
  have hc' := hc
  unfold zG1 at hc'
  simp only [Bool.and_eq_true] at hc'
  obtain ⟨⟨⟨⟨⟨⟨_, _⟩, c6⟩, c7⟩, _⟩, _⟩, c10⟩ := hc'
  obtain ⟨hlenb, hbd⟩ := zE8 hK (σT := σ) (k := 0) c6 (fun j q hj => by rw [Nat.zero_add]; exact hth j q hj)
  have hout := @zh.img (linSym σs Ks) _ _ _ _ _ _ _ _ hp
  have hsz := @zh.size (linSym σs Ks) _ _ _ _ _ _ _ _ hp
  refine ⟨σ, ψT, ⟨hbd, zE5 hK (fun j q hj => hth j q hj) c7, vK (fun j q hj => hth j q hj) hK.rules c10, fun q hq => ?_, fun σ' K' hag hK' => ?_, fun k o p h1 h2 => ?_, zAB hb hp hm, fun k wn hw hno => ?_⟩, fun q hq => hth 0 q hq⟩
  · obtain ⟨wn, h1, h2⟩ := hlen q hq
    refine ⟨wn, h1, ?_⟩
    rw [hth _ _ (zDU hL q hq)]
    show (0 : Int) + (1 * σs q.2 + 0) = _
    rw [h2]; omega
  · refine c1 σ' K' (fun j q hj => ?_) hK'
    have hlt : j < T.b.length := by
      rw [hlenb]
      rw [@yH zN] at hj
      exact (List.getElem?_eq_some_iff.1 hj).1
    rw [hag j hlt]
    exact hth j q hj
  · obtain ⟨g1, k0, o0, p0, g2, g3, g4, g5⟩ := c2 k o p h1 h2
    refine ⟨g1, ?_⟩
    rw [← g5]
    rcases hout k0 o0 p0 g2 g3 g4 with ⟨k1, o1, p1, r1, r2, r3, r4⟩ | r
    · rw [← r4]; exact hm k1 o1 p1 r1 r2 r3
    · exact Nat.le_trans hb.size (Nat.le_trans (by exact Nat.le_refl _) r)
  · rw [c3.1 k wn hw (zLq hno), hth 0 q0 hq0]
def zBS (S : Sym) (wins : List Win) (w0 : World) (i : Int) (q : Key × List CV) : Prop :=
  ∃ wn arr elem fz, findW wins q.1 = some wn ∧ w0.heap[wn.B]? = some (.cells arr elem fz) ∧ arr.size = wn.sz ∧ wn.x + i.toNat * wn.esz + q.2.length ≤ wn.sz ∧
    ∀ (j : Nat) (c : CV), q.2[j]? = some c → ∃ v, arr[wn.x + i.toNat * wn.esz + j]? = some v ∧ ∀ ψ, @zG S ψ c v
def zDE (l : List (Key × List CV)) : List (Key × CObj) := l.map fun q => (q.1, .ro q.2)
def apartK (objs : List (Key × CObj)) : List (Key × List CV) → Bool
  | [] => true
  | q :: r => (match yF q.1 (mkH .nil objs) with
      | none => true
      | some _ => false) && (match yF q.1 (mkH .nil (zDE r)) with
      | none => true
      | some _ => false) && apartK objs r
theorem zLz {l : List (Key × List CV)} {j : Nat} {k : Key} {o : CObj} (h : (zDE l)[j]? = some (k, o)) : ∃ cs, (k, cs) ∈ l ∧ o = .ro cs := by
  unfold zDE at h
  rw [List.getElem?_map] at h
  cases hq : l[j]? with
  | none => rw [hq] at h; cases h
  | some q =>
    rw [hq] at h
    injection h with h
    injection h with h1 h2
    subst h1 h2
    exact ⟨q.2, List.mem_of_getElem? hq, rfl⟩
theorem zEK {objs : List (Key × CObj)} : ∀ {l : List (Key × List CV)}, apartK objs l = true → ∀ q ∈ l, yF q.1 (mkH .nil objs) = none
  | [], _, q, hq => by cases hq
  | x :: r, h, q, hq => by
    unfold apartK at h
    rw [Bool.and_eq_true, Bool.and_eq_true] at h
    rcases List.mem_cons.1 hq with rfl | hq
    · have h1 := h.1.1
      split at h1
      · assumption
      · cases h1
    · exact zEK h.2 q hq
theorem vJ {objs : List (Key × CObj)} {l : List (Key × List CV)} {k : Key} {o : CObj} (h : Heap.fam (mkH (mkH .nil objs) (zDE l)) k = some o) :
    (∃ cs, (k, cs) ∈ l ∧ o = .ro cs) ∨ Heap.fam (mkH .nil objs) k = some o := by
  rcases k5 h with ⟨j, hj⟩ | h
  · exact .inl (zLz hj)
  · exact .inr h
section
variable {F N G : Nat} {A : Key → Option Value} {wins : List Win} {L : List (Key × Nat)} {w0 : World} {T : TS} {σ : Nat → Int} {ψ : Psi} {a : Act} {w : World}
theorem zKJ (hi : zLW P F N G A wins L w0 T σ ψ a w) {σ' : Nat → Int} {K' : zQ} (hag : ∀ j, j < T.b.length → σ' j = σ j) (hA : K'.arg = A) {l : List (Key × List CV)}
    (hl : ∀ q ∈ l, zBS (linSym σ' K') wins w0 (σ 0) q) (hap : apartK T.objs l = true) :
    @St (linSym σ' K') P F N ψ (wF T.locs) [] (mkH (mkH .nil T.objs) (zDE l)) T.n a w := by
  have hst := hi.st σ' K' hag hA
  have hR : @Rel (linSym σ' K') ψ (Heap.fam (mkH .nil T.objs)) w := @St.rel (linSym σ' K') _ _ _ _ _ _ _ _ _ _ hst
  have hTot := @Rel.tot (linSym σ' K') _ _ _ hR
  have hOn := @Rel.on (linSym σ' K') _ _ _ hR
  have hInj := @Rel.inj (linSym σ' K') _ _ _ hR
  have hwin : ∀ k cs, (k, cs) ∈ l → ∃ wn arr elem fz, findW wins k = some wn ∧ ψ k = some ⟨wn.B, wn.x + (σ 0).toNat * wn.esz, wn.sz, fun n => n⟩ ∧ w.heap[wn.B]? = some (.cells arr elem fz) ∧ wn.B < w0.heap.size ∧
      arr.size = wn.sz ∧ wn.x + (σ 0).toNat * wn.esz + cs.length ≤ wn.sz ∧
      ∀ (j : Nat) (c : CV), cs[j]? = some c → ∃ v, arr[wn.x + (σ 0).toNat * wn.esz + j]? = some v ∧ ∀ ψ, @zG (linSym σ' K') ψ c v := by
    intro k cs hm
    obtain ⟨wn, arr, elem, fz, h1, h2, h3, h5, h6⟩ := hl _ hm
    have hlt : wn.B < w0.heap.size := by
      rcases Nat.lt_or_ge wn.B w0.heap.size with h | h
      · exact h
      · rw [Array.getElem?_eq_none h] at h2; cases h2
    exact ⟨wn, arr, elem, fz, h1, hi.win k wn h1 (zEK hap _ hm), by rw [hi.blw.block _ hlt]; exact h2, hlt, h3, h5, h6⟩
  refine @St.mk (linSym σ' K') P F N _ _ _ _ _ _ _ (@St.frame (linSym σ' K') _ _ _ _ _ _ _ _ _ _ hst) (@St.dfr (linSym σ' K') _ _ _ _ _ _ _ _ _ _ hst) ?_ (@St.glob (linSym σ' K') _ _ _ _ _ _ _ _ _ _ hst) (@St.fresh (linSym σ' K') _ _ _ _ _ _ _ _ _ _ hst)
  refine @Rel.mk (linSym σ' K') _ _ _ ?_ ?_ ?_
  · intro k o p hk hp
    rcases vJ hk with ⟨cs, hm, rfl⟩ | hk
    · obtain ⟨wn, arr, elem, fz, h1, h2, h3, _, h4, h6, h7⟩ := hwin k cs hm
      rw [h2] at hp
      injection hp with hp; subst hp
      refine ⟨arr, elem, fz, h3, h4, h6, fun j c hj => ?_⟩
      obtain ⟨v, hv, hr⟩ := h7 j c hj
      exact ⟨v, hv, hr ψ⟩
    · exact hOn k o p hk hp
  · intro k o hk
    rcases vJ hk with ⟨cs, hm, rfl⟩ | hk
    · obtain ⟨wn, arr, elem, fz, h1, h2, _⟩ := hwin k cs hm
      exact ⟨_, h2⟩
    · exact hTot k o hk
  · intro k₁ k₂ o₁ o₂ p₁ p₂ h1 h2 h3 h4 hr e
    rcases vJ h1 with ⟨cs1, m1, rfl⟩ | h1 <;> rcases vJ h2 with ⟨cs2, m2, rfl⟩ | h2
    · exact hr.elim (fun h => by cases h) (fun h => by cases h)
    · exfalso
      obtain ⟨w1, _, _, _, f1, g1, _, hlt, _⟩ := hwin k₁ cs1 m1
      rw [g1] at h3
      injection h3 with h3; subst h3
      have := (hi.own _ _ _ h2 h4).2
      simp only at e
      omega
    · exfalso
      obtain ⟨w1, _, _, _, f1, g1, _, hlt, _⟩ := hwin k₂ cs2 m2
      rw [g1] at h4
      injection h4 with h4; subst h4
      have := (hi.own _ _ _ h1 h3).2
      simp only at e
      omega
    · exact hInj k₁ k₂ o₁ o₂ p₁ p₂ h1 h2 h3 h4 hr e
end
def boundIs (m : Int) : List TS → Bool
  | [] => true
  | T :: r => (match T.b with
    | q :: _ => decide (q.2 ≤ m)
    | [] => false) && boundIs m r
theorem jo {m : Int} : ∀ {Ts : List TS} {t : Nat} {T : TS}, boundIs m Ts = true → nth Ts t = some T → ∃ q r, T.b = q :: r ∧ q.2 ≤ m
  | [], _, _, _, h => by cases h
  | x :: r, t, T, hb, h => by
    unfold boundIs at hb
    rw [Bool.and_eq_true] at hb
    cases t with
    | zero =>
      injection h with h; subst h
      have h1 := hb.1
      split at h1
      · rename_i q l e
        exact ⟨q, l, e, of_decide_eq_true h1⟩
      · cases h1
    | succ t => exact jo hb.2 h
section
variable {code : FuncId → CFn} {nat : Nats} {fuel : Nat} {fn : Func} {c b : Code} {p : List Stp} {rs : List CRes} {G : Nat} {wins : List Win} {L : List (Key × Nat)} {A : Key → Option Value} {Ts : List TS} {bound : Int} {w0 : World}
def zG7 (P : Program) (code : FuncId → CFn) (nat : Nats) (fuel : Nat) (p : List Stp) (cc : CCode) (rs : List CRes) (S : Sym) (r : R) : Bool :=
  allTrue (yK false (@ev S P code nat fuel) rs (@xW S P (@ev S P code nat fuel) p cc r))
def zN8 (P : Program) (code : FuncId → CFn) (nat : Nats) (fuel : Nat) (G : Nat) (ws L : List (Key × Nat)) (Ts : List TS) (p : List Stp) (cc : CCode) (rs : List CRes) (T : TS) (l : List (Key × List CV)) (S : Sym) (K : zQ) (hs : List jF) : Bool :=
  qI (qZ G ws Ts (fun t => kU t.θ && jM t.θ L) K (zG7 P code nat fuel p cc rs S) (@ze S P (@ev S P code nat fuel) (zAJ p cc) (wF T.locs) [] (mkH (mkH .nil T.objs) (zDE l)) T.n) hs)
def Passes (P : Program) (code : FuncId → CFn) (nat : Nats) (fuel : Nat) (G : Nat) (wins : List Win) (L : List (Key × Nat)) (A : Key → Option Value) (Ts : List TS) (p : List Stp) (cc : CCode) (rs : List CRes) (w0 : World) : Prop :=
  ∀ t T, nth Ts t = some T → ∀ σ, yc σ 0 T.b → qK σ T.f → xL σ T.r → LensAre wins L σ → ∃ σ' K' l hs, (∀ j, j < T.b.length → σ' j = σ j) ∧ (∀ q ∈ L, σ' q.2 = σ q.2) ∧ K'.arg = A ∧ KnownOk σ' K' ∧ (∀ q ∈ l, zBS (linSym σ' K') wins w0 (σ 0) q) ∧ apartK T.objs l = true ∧
    zN8 P code nat fuel G (wsOf wins) L Ts p cc rs T l (linSym σ' K') K' hs = true
theorem zJ9 {σ : Nat → Int} {K : zQ} (hK : KnownOk σ K) (hm : P.follows .mixedOrders = true) (hcode : CodeOk P code) (hnat : ∀ σ K, KnownOk σ K → @NatsOk (linSym σ K) P nat) {cc : CCode} : ∀ r, zG7 P code nat fuel p cc rs (linSym σ K) r = true → zM r := by
  letI S : Sym := linSym σ K
  haveI hS : SymFact P := yI hK
  have hcall : yR P (ev P code nat fuel) := qe (fun call hcall F N => zu hm hcall) hcode (hnat _ _ hK) fuel
  intro r h
  have h : allTrue (yK false (ev P code nat fuel) rs (xW P (ev P code nat fuel) p cc r)) = true := h
  exact xN hcall.above p cc (yO hcall.above false rs (xA h))
abbrev uK (P : Program) (fn : Func) (w0 : World) : Exit → Act → World → Prop := bodyPostD P fn fun e w => e = .returned (.bool true) ∧ Below w0.heap.size w0 w
theorem zMA {σ : Nat → Int} {K : zQ} (hK : KnownOk σ K) (hm : P.follows .mixedOrders = true) (hcode : CodeOk P code) (hnat : ∀ σ K, KnownOk σ K → @NatsOk (linSym σ K) P nat) {F N : Nat} (hsub : k6 p c = some b) (hn : zT c = true)
    (hrs : yW (yo P F N) fn.results.toList = some rs) {ψ₀ : Psi} {g₀ : Fam} {n₀ : Key} {w₀ : World} {r : R} {e : Exit} {a : Act} {w : World}
    (ho : @yP (linSym σ K) P F N ψ₀ g₀ n₀ w₀ r e a w) (hf : zG7 P code nat fuel p (zE P F N c) rs (linSym σ K) r = true)
    (hb : Below w0.heap.size w0 w₀) (ho0 : ∀ k o p, g₀ k = some o → o.isRo = false → ψ₀ k = some p → w0.heap.size ≤ p.blk) : QH P p c (uK P fn w0) e a w := by
  letI S : Sym := linSym σ K
  haveI hS : SymFact P := yI hK
  have hcall : yR P (ev P code nat fuel) := qe (fun call hcall F N => zu hm hcall) hcode (hnat _ _ hK) fuel
  have hdraw : xD P F N (ev P code nat fuel) := zu hm hcall
  have hf : allTrue (yK false (ev P code nat fuel) rs (xW P (ev P code nat fuel) p (zE P F N c) r)) = true := hf
  have hc := xA hf
  have hc2 := yO hcall.above false rs hc
  refine kC hcall hdraw p c hsub hn ho hc2 fun e a w ho => ?_
  refine qU false rs hc ho fun tm ds h' n' ψ' q1 q2 q3 q4 q5 => ?_
  have hl := vk hcall hrs q2 q4
  have : Leaves P fn a.tmps (fun e w => e = .returned (.bool true) ∧ Below w0.heap.size w0 w) a.defers .returning w := by
    refine xP (fun e w'' ⟨v, he, hr⟩ => ?_) _ _ _ hl
    obtain ⟨rfl, ψ'', g'', n'', hp⟩ := jK hf (q5 _ _ (zX.trans q3 hr))
    exact ⟨he, zAB hb hp ho0⟩
  rcases q1 with rfl | rfl
  · exact this
  · exact this
end
end
end Go.Ev

namespace Go.Ev
open Go.RowKit
noncomputable section
variable {P : Program}
theorem zCQ {f : FuncId} {fn : Func} {c : Code} {cc : CCode} {rs : List CRes} (hf : P.funcs[f]? = some fn) (hb : fn.body = some c) (h : compFn P f = .mk cc rs) :
    yW (yo P (yU fn c) fn.ntmps) fn.results.toList = some rs ∧ zT c = true ∧ cc = zE P (yU fn c) fn.ntmps c := by
  unfold compFn at h
  rw [@yH zN] at h
  have hf' : P.funcs.toList[f]? = some fn := by simpa using hf
  simp only [hf', hb] at h
  split at h
  · cases h
  · unfold uY at h
    cases hrs : yW (yo P (yU fn c) fn.ntmps) fn.results.toList with
    | none => simp only [hrs] at h; cases h
    | some r =>
      simp only [hrs] at h
      split at h
      · rename_i hn
        injection h with h1 h2
        subst h1 h2
        exact ⟨rfl, hn, rfl⟩
      · split at h
        · split at h <;> cases h
        · cases h
def zID (G : Nat) (wins : List Win) : Psi := fun k => match findW wins k with
  | some w => some ⟨w.B, w.x + 0 * w.esz, w.sz, fun n => n⟩
  | none => zDG G k
theorem zKk {G : Nat} {wins : List Win} {hi : Nat} (hG : P.globals.size ≤ G) (hw : zFc G hi (wsOf wins) = true) : kJ P (zID G wins) := by
  intro g hg h4
  obtain ⟨sz, e⟩ := @zBc zN P zLX _ hG g hg h4
  have hix : (Key.ofNat g).ix = g := @Key.ix_ofNat zN _ (by omega)
  have hnw : findW wins (Key.ofNat g) = none := by
    cases hr : findW wins (Key.ofNat g) with
    | none => rfl
    | some wn =>
      obtain ⟨hm, hk⟩ := wD hr
      have := (zFR hw wn hm).1
      rw [hk] at this; omega
  refine ⟨sz, ?_⟩
  unfold zID
  rw [hnw]
  exact e
theorem zHU {G : Nat} {wins : List Win} {n : Key} (hn : G ≤ n.ix) (hw : zFc G n.ix (wsOf wins) = true) : xf (zID G wins) n := by
  intro k hk
  have hnw : findW wins k = none := by
    cases hr : findW wins k with
    | none => rfl
    | some wn =>
      obtain ⟨hm, hk'⟩ := wD hr
      have := (zFR hw wn hm).2
      rw [hk'] at this; omega
  unfold zID
  rw [hnw]
  exact @uV zN _ _ hn k hk
def startOf (P : Program) (code : FuncId → CFn) (nat : Nats) (fuel : Nat) (G : Nat) (ws L : List (Key × Nat)) (Ts : List TS) (p : List Stp) (cc : CCode) (args : List CV) (n : Key) (S : Sym) (K : zQ) (hs : List jF) : Bool :=
  qI (qZ G ws Ts (fun t => wU t.θ && jM t.θ L) K (fun _ => false) (@zAN S P (@ev S P code nat fuel) p cc (xR args 0 .nil) [] .nil n) hs)
end
end Go.Ev


