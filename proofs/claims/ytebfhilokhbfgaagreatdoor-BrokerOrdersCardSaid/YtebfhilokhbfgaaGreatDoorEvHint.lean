/- A verified evaluator for the model's code: EvPick, EvCut, EvHintA, EvCut2, EvHint. -/
import Derived.Test.YtebfhilokhbfgaaGreatDoorEvTree
set_option linter.unusedSectionVars false
set_option linter.unusedVariables false
set_option linter.unusedSimpArgs false
namespace Go.Ev
noncomputable section
variable {P : Program}
def zET : List Bool → R → R
  | [], r => r
  | b :: p, r => match r with
    | .fork x y => match b with
      | false => zET p x
      | true => zET p y
    | r => r
inductive FT where
  | leaf
  | node (a b : FT)
def FT.paths : FT → List (List Bool)
  | .leaf => [[]]
  | .node a b => a.paths.map (false :: ·) ++ b.paths.map (true :: ·)
theorem FT.some : ∀ (t : FT), ∃ p, p ∈ t.paths
  | .leaf => ⟨[], by simp [FT.paths]⟩
  | .node a b => by
    obtain ⟨p, hp⟩ := FT.some a
    exact ⟨false :: p, by simp [FT.paths, hp]⟩
section
variable {G : Nat} {ws : List (Key × Nat)} {Ts : List TS} {ok : jF → Bool} {K : zQ}
end
theorem uh {o : Option (List jF)} (h : qI o = true) : ∃ x, o = some x := by
  unfold qI at h
  split at h
  · exact ⟨_, rfl⟩
  · cases h
end
end Go.Ev

namespace Go.Ev
open Go.RowKit
noncomputable section
variable {P : Program}
mutual
theorem ke {S S' : Sym} (hv : @Sym.val S = @Sym.val S') (ha : @Sym.arg S = @Sym.arg S') {ψ : Psi} : ∀ (c : CV) {v : Value}, @zG S ψ c v → @zG S' ψ c v
  | .bool _, _, h => (@zF S' _ _ _).2 ((@zF S _ _ _).1 h)
  | .nat _, _, h => (@zO S' _ _ _).2 ((@zO S _ _ _).1 h)
  | .int _ _, _, h => (@zV S' _ _ _ _).2 ((@zV S _ _ _ _).1 h)
  | .anyi _, _, h => (@z7 S' _ _ _).2 ((@z7 S _ _ _).1 h)
  | .str _, _, h => (@za S' _ _ _).2 ((@za S _ _ _).1 h)
  | .nilptr, _, h => (@yk S' _ _).2 ((@yk S _ _).1 h)
  | .ptr _ _, _, h => (@zb S' _ _ _ _).2 ((@zb S _ _ _ _).1 h)
  | .nilsl, _, h => (@zc S' _ _).2 ((@zc S _ _).1 h)
  | .sl .., _, h => (@zl S' _ _ _ _ _ _ _ _).2 ((@zl S _ _ _ _ _ _ _ _).1 h)
  | .nilmap, _, h => (@zk S' _ _).2 ((@zk S _ _).1 h)
  | .map _, _, h => (@yS S' _ _ _).2 ((@yS S _ _ _).1 h)
  | .func _ a c, _, h => by
    obtain ⟨a', c', e, h1, h2⟩ := (@yf S _ _ _ _ _).1 h
    exact (@yf S' _ _ _ _ _).2 ⟨a', c', e, ku hv ha a h1, ku hv ha c h2⟩
  | .nilfunc, _, h => (@yY S' _ _).2 ((@yY S _ _).1 h)
  | .iface _ x, _, h => by
    obtain ⟨y, e, h1⟩ := (@zq S _ _ _ _).1 h
    exact (@zq S' _ _ _ _).2 ⟨y, e, ke hv ha x h1⟩
  | .niliface, _, h => (@zr S' _ _).2 ((@zr S _ _).1 h)
  | .agg cs, _, h => by
    obtain ⟨a, e, h1⟩ := (@yL S _ _ _).1 h
    exact (@yL S' _ _ _).2 ⟨a, e, ku hv ha cs h1⟩
  | .tup cs, _, h => by
    obtain ⟨a, e, h1⟩ := (@zn S _ _ _).1 h
    exact (@zn S' _ _ _).2 ⟨a, e, ku hv ha cs h1⟩
  | .sym i, _, h => by
    have h1 := (@yX S _ _ _).1 h
    rw [hv] at h1
    exact (@yX S' _ _ _).2 h1
  | .win _ _ _ _, _, h => by
    have h1 := (@x8 S _ _ _ _ _ _).1 h
    rw [hv, ha] at h1
    exact (@x8 S' _ _ _ _ _ _).2 h1
  | .sst l, _, h => by
    obtain ⟨b, e, h1⟩ := (@y2 S _ _ _).1 h
    exact (@y2 S' _ _ _).2 ⟨b, e, ku hv ha l h1⟩
  | .big _, _, h => (@x9 S' _ _ _).2 ((@x9 S _ _ _).1 h)
  | .any, _, _ => @xy S' _ _
theorem ku {S S' : Sym} (hv : @Sym.val S = @Sym.val S') (ha : @Sym.arg S = @Sym.arg S') {ψ : Psi} : ∀ (cs : List CV) {l : List Value}, @zK S ψ cs l → @zK S' ψ cs l
  | [], _, h => (@zI S' _ _).2 ((@zI S _ _).1 h)
  | c :: cs, _, h => by
    obtain ⟨v, r, e, h1, h2⟩ := (@zP S _ _ _ _).1 h
    exact (@zP S' _ _ _ _).2 ⟨v, r, e, ke hv ha c h1, ku hv ha cs h2⟩
end
section
variable {S S' : Sym} (hv : @Sym.val S = @Sym.val S') (ha : @Sym.arg S = @Sym.arg S')
include hv ha
theorem zDZ {ψ : Psi} {ck : Nat → Nat} : ∀ {es : List CE} {l : List MapEntry}, @zw S ψ ck es l → @zw S' ψ ck es l
  | [], _, h => h
  | c :: cs, _, ⟨e, r, h0, ⟨h1, h2, h3⟩, h4⟩ => ⟨e, r, h0, ⟨ke hv ha _ h1, ke hv ha _ h2, h3⟩, zDZ h4⟩
theorem zMP {ψ : Psi} {w : World} {p : Pl} : ∀ {o : CObj}, @yy S ψ w p o → @yy S' ψ w p o
  | .cells _, ⟨a, e, f, h1, h2, h3, h4, h5⟩ => ⟨a, e, f, h1, h2, h3, h4, fun i c hc => let ⟨x, g1, g2⟩ := h5 i c hc; ⟨x, g1, ke hv ha _ g2⟩⟩
  | .ro _, ⟨a, e, f, h1, h2, h3, h5⟩ => ⟨a, e, f, h1, h2, h3, fun i c hc => let ⟨x, g1, g2⟩ := h5 i c hc; ⟨x, g1, ke hv ha _ g2⟩⟩
  | .map _ _, ⟨arr, h1, ⟨l, hp, h2⟩, h3⟩ => ⟨arr, h1, ⟨l, hp, zDZ hv ha h2⟩, h3⟩
  | .striter _ _, h => h
  | .full _ _, ⟨a, e, f, h1, h2, h3, h4, h5⟩ => ⟨a, e, f, h1, h2, h3, h4, fun i c hc => let ⟨x, g1, g2⟩ := h5 i c hc; ⟨x, g1, ke hv ha _ g2⟩⟩
  | .mapiter _ _ _ _, h => h
theorem zNO {ψ : Psi} {g : Fam} {w : World} (h : @Rel S ψ g w) : @Rel S' ψ g w :=
  @Rel.mk S' _ _ _ (fun k o p h1 h2 => zMP hv ha (@Rel.on S _ _ _ h k o p h1 h2)) (@Rel.tot S _ _ _ h) (@Rel.inj S _ _ _ h)
theorem zOu {F N : Nat} {ψ : Psi} {tm : Tm} {h : Heap} {n : Key} {a : Act} {w : World} (hs : @St S P F N ψ tm [] h n a w) : @St S' P F N ψ tm [] h n a w := by
  have hf := @St.frame S _ _ _ _ _ _ _ _ _ _ hs
  refine @St.mk S' P F N _ _ _ _ _ _ _ ?_ ?_ (zNO hv ha (@St.rel S _ _ _ _ _ _ _ _ _ _ hs)) (@St.glob S _ _ _ _ _ _ _ _ _ _ hs) (@St.fresh S _ _ _ _ _ _ _ _ _ _ hs)
  · exact @yh.mk S' _ _ _ _ _ (@yh.size S _ _ _ _ _ hf) fun t h1 h2 h3 => ke hv ha _ (@yh.tmp S _ _ _ _ _ hf t h1 h2 h3)
  · have := @St.dfr S _ _ _ _ _ _ _ _ _ _ hs
    exact this
end
inductive CT where
  | leaf
  | cmp (l : LL) (cut : Int) (a b : CT)
def zN3 (K : zQ) (q : LL × Int × Int) : zQ := ⟨K.b, q :: K.f, K.rules, K.arg⟩
def zNF : List (Int × Int) → Nat → Int × Int → List (Int × Int)
  | [], _, _ => []
  | _ :: l, 0, q => q :: l
  | p :: l, v + 1, q => p :: zNF l v q
def zOS (K : zQ) (v : Nat) (q : Int × Int) : zQ := ⟨zNF K.b v q, K.f, K.rules, K.arg⟩
def zHM (K : zQ) (l : LL) (q : Int × Int) : zQ := match l with
  | [(v, z)] => match ym z 1 with
    | true => zOS K v q
    | false => zN3 K (l, q.1, q.2)
  | _ => zN3 K (l, q.1, q.2)
def ko : CT → zQ → List zQ
  | .leaf, K => [K]
  | .cmp l cut a b, K => match rng K l with
    | some q => ko a (zHM K l (q.1, min q.2 (cut - 1))) ++ ko b (zHM K l (max q.1 cut, q.2))
    | none => [K]
theorem zGK {v : Nat} {q : Int × Int} : ∀ {l : List (Int × Int)} {v i : Nat} {x : Int × Int}, nth (zNF l v q) i = some x → (i = v ∧ x = q) ∨ nth l i = some x
  | [], _, _, _, h => .inr h
  | _ :: l, 0, 0, x, h => by injection h with h; exact .inl ⟨rfl, h.symm⟩
  | _ :: l, 0, i + 1, x, h => .inr h
  | p :: l, v + 1, 0, x, h => .inr h
  | p :: l, v + 1, i + 1, x, h => by
    rcases zGK (v := v) (l := l) (i := i) h with ⟨h1, h2⟩ | h
    · exact .inl ⟨by omega, h2⟩
    · exact .inr h
theorem zJE {σ : Nat → Int} {K : zQ} {q : LL × Int × Int} (h : KnownOk σ K) (hq : q.2.1 ≤ evL σ q.1 ∧ evL σ q.1 ≤ q.2.2) : KnownOk σ (zN3 K q) :=
  ⟨h.b, fun x hx => by
    rcases List.mem_cons.1 hx with rfl | hx
    · exact hq
    · exact h.f x hx, h.rules⟩
theorem zJD {σ : Nat → Int} {K : zQ} {l : LL} {q : Int × Int} (h : KnownOk σ K) (hq : q.1 ≤ evL σ l ∧ evL σ l ≤ q.2) : KnownOk σ (zHM K l q) := by
  unfold zHM
  split
  · rename_i v z
    split
    · rename_i hz
      rw [@zZ zN, decide_eq_true_eq] at hz
      subst hz
      have e : evL σ [(v, 1)] = σ v := by show 1 * σ v + 0 = _; omega
      rw [e] at hq
      refine ⟨fun i x hx => ?_, h.f, h.rules⟩
      rcases zGK (v := v) hx with ⟨rfl, rfl⟩ | hx
      · exact hq
      · exact h.b i x hx
    · exact zJE (q := (_, q.1, q.2)) h hq
  · exact zJE (q := (_, q.1, q.2)) h hq
theorem zGq {K : zQ} {l : LL} {q : Int × Int} : (zHM K l q).arg = K.arg := by
  unfold zHM
  split
  · split <;> rfl
  · rfl
theorem vc {σ : Nat → Int} : ∀ (t : CT) {K : zQ}, KnownOk σ K → ∃ K', K' ∈ ko t K ∧ KnownOk σ K' ∧ K'.arg = K.arg
  | .leaf, K, h => ⟨K, by simp [ko], h, rfl⟩
  | .cmp l cut a b, K, h => by
    unfold ko
    split
    · rename_i q hq
      obtain ⟨g1, g2⟩ := yq h hq
      by_cases hc : evL σ l < cut
      · obtain ⟨K', m, h1, h2⟩ := vc a (zJD (l := l) (q := (q.1, min q.2 (cut - 1))) h ⟨g1, by simp only; omega⟩)
        exact ⟨K', List.mem_append_left _ m, h1, h2.trans zGq⟩
      · obtain ⟨K', m, h1, h2⟩ := vc b (zJD (l := l) (q := (max q.1 cut, q.2)) h ⟨by simp only; omega, g2⟩)
        exact ⟨K', List.mem_append_right _ m, h1, h2.trans zGq⟩
    · exact ⟨K, by simp, h, rfl⟩
def atC : List Stp → Code → Option Code
  | [], c => some c
  | .l :: p, .seq x _ => atC p x
  | .r :: p, .seq _ y => atC p y
  | .b :: p, .block _ x => atC p x
  | _, _ => none
def zAA : List Stp → CCode → CCode
  | [], .seq a _ => a
  | .l :: p, .seq a _ => zAA p a
  | .r :: p, .seq _ b => zAA p b
  | .b :: p, .block _ x => zAA p x
  | _, _ => .bad 52
def jQ : List Stp → CCode → CCode
  | [], .seq _ b => b
  | .l :: p, .seq a _ => jQ p a
  | .r :: p, .seq _ b => jQ p b
  | .b :: p, .block _ x => jQ p x
  | _, _ => .bad 53
theorem qu {F N : Nat} : ∀ {p : List Stp} {c a b : Code}, atC p c = some (.seq a b) → zAA p (zE P F N c) = zE P F N a ∧ jQ p (zE P F N c) = zE P F N b
  | [], c, a, b, h => by
    injection h with h; subst h; exact ⟨rfl, rfl⟩
  | .l :: p, c, a, b, h => by
    cases c <;> first | exact qu (p := p) h | cases h
  | .r :: p, c, a, b, h => by
    cases c <;> first | exact qu (p := p) h | cases h
  | .b :: p, c, a, b, h => by
    cases c <;> first | exact qu (p := p) h | cases h
theorem zCB {q : List Stp} {bl : Code} : ∀ {p : List Stp} {c a b : Code}, atC p c = some (.seq a b) → k6 (p ++ .l :: q) c = some bl → k6 q a = some bl
  | [], c, a, b, h, hs => by
    injection h with h; subst h; exact hs
  | .l :: p, c, a, b, h, hs => by
    cases c <;> first | exact zCB (p := p) h hs | cases h
  | .r :: p, c, a, b, h, hs => by
    cases c <;> first | exact zCB (p := p) h hs | cases h
  | .b :: p, c, a, b, h, hs => by
    cases c <;> first | exact zCB (p := p) h hs | cases h
theorem wE : ∀ {p : List Stp} {c x : Code}, atC p c = some x → zT c = true → zT x = true
  | [], c, x, h, hn => by
    injection h with h; subst h; exact hn
  | .l :: p, c, x, h, hn => by
    cases c <;> try (cases h; done)
    rename_i y z
    have hnr : zT y = true ∧ zT z = true := by simpa [zT] using hn
    exact wE (p := p) h hnr.1
  | .r :: p, c, x, h, hn => by
    cases c <;> try (cases h; done)
    rename_i y z
    have hnr : zT y = true ∧ zT z = true := by simpa [zT] using hn
    exact wE (p := p) h hnr.2
  | .b :: p, c, x, h, hn => by
    cases c <;> first | exact wE (p := p) h hn | cases h
theorem zGJ {q : List Stp} : ∀ {p : List Stp} {c a b : Code} {Q : Exit → Act → World → Prop}, atC p c = some (.seq a b) → QH P (p ++ .l :: q) c Q = QH P q a (Exit.then (b.wp P (QH P p c Q)) (QH P p c Q))
  | [], c, a, b, Q, h => by
    injection h with h; subst h; rfl
  | .l :: p, c, a, b, Q, h => by
    cases c <;> try (cases h; done)
    rename_i y z
    exact zGJ (p := p) (Q := Exit.then (z.wp P Q) Q) h
  | .r :: p, c, a, b, Q, h => by
    cases c <;> try (cases h; done)
    exact zGJ (p := p) h
  | .b :: p, c, a, b, Q, h => by
    cases c <;> try (cases h; done)
    exact zGJ (p := p) h
section
variable [Sym] [SymFact P] {F N : Nat} {call : yA}
theorem vw (hcall : yR P call) (hdraw : xD P F N call) {ψ₀ : Psi} {g₀ : Fam} {n₀ : Key} {w₀ : World} : ∀ (p : List Stp) (c : Code) {x : Code} {Q : Exit → Act → World → Prop} {r : R} {e : Exit} {a : Act} {w : World},
    atC p c = some x → zT c = true → yP P F N ψ₀ g₀ n₀ w₀ r e a w → zM (xW P call p (zE P F N c) r) →
    (∀ e a w, yP P F N ψ₀ g₀ n₀ w₀ (xW P call p (zE P F N c) r) e a w → Q e a w) → QH P p c Q e a w
  | [], c, x, Q, r, e, a, w, hs, hn, ho, hc, hq => by
    cases c <;> exact hq e a w ho
  | .l :: p, c, b, Q, r, e, a, w, hs, hn, ho, hc, hq => by
    cases c <;> try (cases hs; done)
    rename_i x y
    have hnr : zT x = true ∧ zT y = true := by simpa [zT] using hn
    have hc : zM (xX (ze P call (zE P F N y)) (xW P call p (zE P F N x) r)) := hc
    have hab := fun tm ds h n => yE (P := P) hcall.above (zE P F N y) tm ds h n
    refine vw hcall hdraw p x (Q := Exit.then (y.wp P Q) Q) hs hnr.1 ho (yz hab hc) fun e a w ho => ?_
    rcases qW hc ho with ⟨rfl, tm', ds', h', n', ψ', h2, h3, h4, h5⟩ | ⟨h1, h2⟩
    · exact wp_mono (xz hcall hdraw y hnr.2 h2 h4) fun e'' a'' w'' ho' => hq e'' a'' w'' (h5 e'' a'' w'' (yP.trans h3 ho'))
    · cases e <;> first | exact absurd rfl h1 | exact hq _ _ _ h2
  | .r :: p, c, b, Q, r, e, a, w, hs, hn, ho, hc, hq => by
    cases c <;> try (cases hs; done)
    rename_i x y
    have hnr : zT x = true ∧ zT y = true := by simpa [zT] using hn
    exact vw hcall hdraw p y (Q := Q) hs hnr.2 ho hc hq
  | .b :: p, c, b, Q, r, e, a, w, hs, hn, ho, hc, hq => by
    cases c <;> try (cases hs; done)
    rename_i id x
    have hc : zM (wl id (xW P call p (zE P F N x) r)) := hc
    refine vw hcall hdraw p x (Q := Exit.inBlock id Q) hs hn ho (xu id hc) fun e a w ho => ?_
    exact kD (fun e a w h => hq e a w h) ho
end
def wx (Q : R → Prop) : R → Prop
  | .fork a b => wx Q a ∧ wx Q b
  | r => Q r
theorem ww {Q : R → Prop} : ∀ (t : FT) (r : R), (∀ p ∈ t.paths, wx Q (zET p r)) → wx Q r
  | .leaf, r, h => h [] (by simp [FT.paths])
  | .node a b, r, h => by
    have other : (∀ p, zET (false :: p) r = r) → wx Q r := by
      intro e
      obtain ⟨p, hp⟩ := FT.some a
      have := h (false :: p) (by simp [FT.paths, hp])
      rwa [e] at this
    cases r with
    | fork x y =>
      exact ⟨ww a x fun p hp => h (false :: p) (by simp [FT.paths, hp]), ww b y fun p hp => h (true :: p) (by simp [FT.paths, hp])⟩
    | ok e tm ds h n => exact other fun _ => rfl
    | ret v h n => exact other fun _ => rfl
    | err c => exact other fun _ => rfl
section
variable {code : FuncId → CFn} {nat : Nats} {fuel : Nat}
def zFD (P : Program) (S : Sym) (call : yA) : Nat → CCode → R → R
  | 0, _, r => r
  | j + 1, .seq x y, r => zFD P S call j y (xX (@ze S P call x) r)
  | _, _, _ => .err 332
def zCj : Nat → CCode → CCode
  | 0, c => c
  | j + 1, .seq _ y => zCj j y
  | _, _ => .bad 54
def zHH (P : Program) (code : FuncId → CFn) (nat : Nats) (fuel : Nat) (pre : List Stp) (j : Nat) (cc : CCode) (rs : List CRes) (S : Sym) (r : R) : Bool := match r with
  | .ok .normal tm [] h n => allTrue (yK false (@ev S P code nat fuel) rs (@xW S P (@ev S P code nat fuel) pre cc (@ze S P (@ev S P code nat fuel) (zCj j (jQ pre cc)) tm [] h n)))
  | _ => false
def zI0 (q : zQ → Bool) : List zQ → Bool
  | [] => true
  | K :: l => q K && zI0 q l
theorem zEo {q : zQ → Bool} : ∀ {l : List zQ}, zI0 q l = true → ∀ K ∈ l, q K = true
  | [], _, K, hK => by cases hK
  | x :: l, h, K, hK => by
    unfold zI0 at h
    rw [Bool.and_eq_true] at h
    rcases List.mem_cons.1 hK with rfl | hK
    · exact h.1
    · exact zEo h.2 K hK
def zHZ (P : Program) (code : FuncId → CFn) (nat : Nats) (fuel : Nat) (pre : List Stp) (j : Nat) (cc : CCode) (rs : List CRes) (t : CT) (s : Nat → Int) (K : zQ) (r : R) : Bool :=
  zI0 (fun K' => zHH P code nat fuel pre j cc rs (linSym s K') r) (ko t K)
def u7 (q : List Bool → Bool) : List (List Bool) → Bool
  | [] => true
  | p :: l => q p && u7 q l
theorem vY {q : List Bool → Bool} : ∀ {l : List (List Bool)}, u7 q l = true → ∀ p ∈ l, q p = true
  | [], _, p, hp => by cases hp
  | x :: l, h, p, hp => by
    unfold u7 at h
    rw [Bool.and_eq_true] at h
    rcases List.mem_cons.1 hp with rfl | hp
    · exact h.1
    · exact vY h.2 p hp
def zFz (P : Program) (code : FuncId → CFn) (nat : Nats) (fuel : Nat) (pre q : List Stp) (j : Nat) (cc : CCode) (rs : List CRes) (ft : FT) (ct : List Bool → CT) (s : Nat → Int) (K : zQ) (r : R) : Bool :=
  u7 (fun p => zHZ P code nat fuel pre j cc rs (ct p) s K (zET p (zFD P (linSym s K) (@ev (linSym s K) P code nat fuel) j (jQ pre cc) (@xW (linSym s K) P (@ev (linSym s K) P code nat fuel) q (zAA pre cc) r)))) ft.paths
def qv (P : Program) (code : FuncId → CFn) (nat : Nats) (fuel : Nat) (pre : List Stp) (j : Nat) (cc : CCode) (rs : List CRes) (s : Nat → Int) (K : zQ) (r : R) : Prop :=
  ∃ tm h n, r = .ok .normal tm [] h n ∧ ∃ t : CT, ∀ K' ∈ ko t K, allTrue (yK false (@ev (linSym s K') P code nat fuel) rs (@xW (linSym s K') P (@ev (linSym s K') P code nat fuel) pre cc
    (@ze (linSym s K') P (@ev (linSym s K') P code nat fuel) (zCj j (jQ pre cc)) tm [] h n))) = true
theorem zGm {S : Sym} {pre : List Stp} {j : Nat} {cc : CCode} {rs : List CRes} {r : R} (h : zHH P code nat fuel pre j cc rs S r = true) : ∃ tm h n, r = .ok .normal tm [] h n := by
  unfold zHH at h
  split at h
  · exact ⟨_, _, _, rfl⟩
  · cases h
theorem zEZ : ∀ (t : CT) (K : zQ), ∃ K', K' ∈ ko t K
  | .leaf, K => ⟨K, by simp [ko]⟩
  | .cmp l cut a b, K => by
    unfold ko
    split
    · obtain ⟨K', h⟩ := zEZ a (zHM K l _)
      exact ⟨K', List.mem_append_left _ h⟩
    · exact ⟨K, by simp⟩
theorem zBD {pre : List Stp} {j : Nat} {cc : CCode} {rs : List CRes} {t : CT} {s : Nat → Int} {K : zQ} {r : R} (h : zHZ P code nat fuel pre j cc rs t s K r = true) : wx (qv P code nat fuel pre j cc rs s K) r := by
  have h1 := zEo h
  obtain ⟨K0, h0⟩ := zEZ t K
  obtain ⟨tm, hh, n, rfl⟩ := zGm (h1 K0 h0)
  exact ⟨tm, hh, n, rfl, t, fun K' hK' => h1 K' hK'⟩
theorem ux {pre q : List Stp} {j : Nat} {cc : CCode} {rs : List CRes} {ft : FT} {ct : List Bool → CT} {s : Nat → Int} {K : zQ} {r : R} (h : zFz P code nat fuel pre q j cc rs ft ct s K r = true) :
    wx (qv P code nat fuel pre j cc rs s K) (zFD P (linSym s K) (@ev (linSym s K) P code nat fuel) j (jQ pre cc) (@xW (linSym s K) P (@ev (linSym s K) P code nat fuel) q (zAA pre cc) r)) :=
  ww ft _ fun p hp => zBD (vY h p hp)
section
variable {σ : Nat → Int} {K : zQ} {fn : Func} {c a b bl : Code} {pre q : List Stp} {j : Nat} {rs : List CRes} {F N : Nat} {w0 : World}
theorem ja (hK : KnownOk σ K) (hm : P.follows .mixedOrders = true) (hcode : CodeOk P code) (hnat : ∀ σ K, KnownOk σ K → @NatsOk (linSym σ K) P nat) {cc : CCode} : ∀ {r : R}, wx (qv P code nat fuel pre j cc rs σ K) r → zM r
  | .ok e tm ds h n, hl => by
    obtain ⟨tm', h', n', e1, t, h1⟩ := hl
    injection e1 with e1 e2 e3 e4 e5
    subst e5
    obtain ⟨K', hm', hK', _⟩ := vc t hK
    have h2 := h1 K' hm'
    letI S : Sym := linSym σ K'
    haveI hS : SymFact P := yI hK'
    have hcall : yR P (ev P code nat fuel) := qe (fun call hcall F N => zu hm hcall) hcode (hnat _ _ hK') fuel
    have h3 := xN hcall.above pre cc (yO hcall.above false rs (xA h2))
    exact kR h3 (yE hcall.above (zCj j (jQ pre cc)) tm' [] h' n)
  | .ret .., hl => by obtain ⟨_, _, _, e1, _⟩ := hl; cases e1
  | .err _, hl => by obtain ⟨_, _, _, e1, _⟩ := hl; cases e1
  | .fork x y, hl => ⟨ja hK hm hcode hnat hl.1, ja hK hm hcode hnat hl.2⟩
theorem zFP {S : Sym} {cc : CCode} {ψ₀ : Psi} {g₀ : Fam} {n₀ : Key} {w₀ : World} {e : Exit} {ac : Act} {w : World} : ∀ {r : R}, wx (qv P code nat fuel pre j cc rs σ K) r → @yP S P F N ψ₀ g₀ n₀ w₀ r e ac w →
    e = .normal ∧ ∃ tm h n ψ, @St S P F N ψ tm [] h n ac w ∧ @zh S ψ₀ g₀ n₀ w₀ ψ (Heap.fam h) n w ∧ qv P code nat fuel pre j cc rs σ K (.ok .normal tm [] h n)
  | .ok e' tm ds h n, hl, ⟨h1, ψ, h2, h3, _⟩ => by
    have hl : qv P code nat fuel pre j cc rs σ K (.ok e' tm ds h n) := hl
    have hl' := hl
    obtain ⟨tm', h', n', e1, _⟩ := hl'
    injection e1 with e1 e2 e3 e4 e5
    subst e1 e3
    cases e <;> first | exact h1.elim | skip
    exact ⟨rfl, tm, h, n, ψ, h2, h3, hl⟩
  | .ret .., hl, _ => by obtain ⟨_, _, _, e1, _⟩ := hl; cases e1
  | .err _, hl, _ => by obtain ⟨_, _, _, e1, _⟩ := hl; cases e1
  | .fork x y, hl, ho => by
    rcases ho with ho | ho
    · exact zFP hl.1 ho
    · exact zFP hl.2 ho
theorem jg [Sym] [SymFact P] {call : yA} (hcall : ye call) : ∀ (j : Nat) (c : CCode) {r : R}, zM (zFD P ‹Sym› call j c r) → zM r
  | 0, _, _, h => h
  | j + 1, c, r, h => by
    cases c <;> first | exact yz (fun tm ds h n => yE hcall _ tm ds h n) (jg hcall j _ h) | exact h.elim
theorem zLu [Sym] [SymFact P] {call : yA} {j : Nat} {c : CCode} {r : R} (h : zM (zFD P ‹Sym› call (j + 1) c r)) : ∃ a b, c = .seq a b := by
  cases c <;> first | exact ⟨_, _, rfl⟩ | exact (show False from h).elim
theorem zMc {F N : Nat} {y : Code} {a b : CCode} (h : zE P F N y = .seq a b) : ∃ x z, y = .seq x z := by
  cases y with
  | seq x z => exact ⟨x, z, rfl⟩
  | region id ops dr =>
    cases dr with
    | false => cases h
    | true =>
      have h : zBh P F N ops.toList = .seq a b := h
      unfold zBh at h
      simp only at h
      by_cases hd : uU P ops.toList (jU [] ops.toList) (zE7 P ops.toList (jU [] ops.toList)) = true
      · rw [if_pos hd] at h; cases h
      · rw [if_neg hd] at h; cases h
  | cond c t e =>
    unfold zE at h
    split at h <;> cases h
  | _ => cases h
theorem zDO (hK : KnownOk σ K) (hm : P.follows .mixedOrders = true) (hcode : CodeOk P code) (hnat : ∀ σ K, KnownOk σ K → @NatsOk (linSym σ K) P nat) {cc : CCode} {ft : FT} {ct : List Bool → CT} {r : R} (h : zFz P code nat fuel pre q j cc rs ft ct σ K r = true) : zM r := by
  have hl := ja hK hm hcode hnat (ux h)
  letI S : Sym := linSym σ K
  haveI hS : SymFact P := yI hK
  have hcall : yR P (ev P code nat fuel) := qe (fun call hcall F N => zu hm hcall) hcode (hnat _ _ hK) fuel
  exact xN hcall.above q (zAA pre cc) (jg hcall.above j _ hl)
theorem zD9 (hK : KnownOk σ K) (hm : P.follows .mixedOrders = true) (hcode : CodeOk P code) (hnat : ∀ σ K, KnownOk σ K → @NatsOk (linSym σ K) P nat) (hat : atC pre c = some (.seq a b)) (hn : zT c = true)
    (hrs : yW (yo P F N) fn.results.toList = some rs) {ψ₀ : Psi} {g₀ : Fam} {n₀ : Key} {w₀ : World} {r : R} {e : Exit} {ac : Act} {w : World}
    (ho : @yP (linSym σ K) P F N ψ₀ g₀ n₀ w₀ r e ac w) (hlf : wx (qv P code nat fuel pre j (zE P F N c) rs σ K) (zFD P (linSym σ K) (@ev (linSym σ K) P code nat fuel) j (zE P F N b) r))
    (hb : Below w0.heap.size w0 w₀) (ho0 : ∀ k o p, g₀ k = some o → o.isRo = false → ψ₀ k = some p → w0.heap.size ≤ p.blk) : Exit.then (b.wp P (QH P pre c (uK P fn w0))) (QH P pre c (uK P fn w0)) e ac w := by
  obtain ⟨hl, hr⟩ := qu (P := P) (F := F) (N := N) hat
  have hnab : zT a = true ∧ zT b = true := by
    have := wE hat hn
    simpa [zT] using this
  have hstep : ∀ (e : Exit) (ac : Act) (w : World), (e = .normal ∧ ∃ tm h n ψ, @St (linSym σ K) P F N ψ tm [] h n ac w ∧ @zh (linSym σ K) ψ₀ g₀ n₀ w₀ ψ (Heap.fam h) n w ∧ qv P code nat fuel pre j (zE P F N c) rs σ K (.ok .normal tm [] h n)) →
      ∀ y : Code, zCj j (jQ pre (zE P F N c)) = zE P F N y → zT y = true → Exit.then (y.wp P (QH P pre c (uK P fn w0))) (QH P pre c (uK P fn w0)) e ac w := by
    intro e ac w hh y hy hny
    obtain ⟨rfl, tm, h, n, ψ, hst, hpost, hleaf⟩ := hh
    show y.wp P (QH P pre c (uK P fn w0)) ac w
    obtain ⟨tm', h', n', e1, t, hall⟩ := hleaf
    injection e1 with e1 e2 e3 e4 e5
    subst e2 e4 e5
    obtain ⟨K', hm', hK', hA⟩ := vc t hK
    have htrue := hall K' hm'
    have hst' : @St (linSym σ K') P F N ψ tm [] h n ac w := zOu (S := linSym σ K) (S' := linSym σ K') rfl (by show K.arg = K'.arg; rw [hA]) hst
    have hb2 : Below w0.heap.size w0 w := zAB hb hpost ho0
    have ho2 : ∀ k o p, Heap.fam h k = some o → o.isRo = false → ψ k = some p → w0.heap.size ≤ p.blk := by
      intro k o p g1 g2 g3
      rcases @zh.img (linSym σ K) _ _ _ _ _ _ _ _ hpost k o p g1 g2 g3 with ⟨k0, o0, p0, r1, r2, r3, r4⟩ | r
      · rw [← r4]; exact ho0 k0 o0 p0 r1 r2 r3
      · exact Nat.le_trans hb.size r
    letI S : Sym := linSym σ K'
    haveI hS : SymFact P := yI hK'
    have hcall : yR P (ev P code nat fuel) := qe (fun call hcall F N => zu hm hcall) hcode (hnat _ _ hK') fuel
    have hdraw : xD P F N (ev P code nat fuel) := zu hm hcall
    rw [hy] at htrue
    have hc := xA htrue
    have hc2 := yO hcall.above false rs hc
    have hc3 := xN hcall.above pre _ hc2
    refine wp_mono (xz hcall hdraw y hny hst' hc3) fun e ac w ho => ?_
    refine vw hcall hdraw pre c hat hn ho hc2 fun e ac w ho => ?_
    refine qU false rs hc ho fun tm ds h' n' ψ' q1 q2 q3 q4 q5 => ?_
    have hl := vk hcall hrs q2 q4
    have : Leaves P fn ac.tmps (fun e w => e = .returned (.bool true) ∧ Below w0.heap.size w0 w) ac.defers .returning w := by
      refine xP (fun e w'' ⟨v, he, hr⟩ => ?_) _ _ _ hl
      obtain ⟨rfl, ψ'', g'', n'', hp⟩ := jK htrue (q5 _ _ (zX.trans q3 hr))
      exact ⟨he, zAB hb2 hp ho2⟩
    rcases q1 with rfl | rfl
    · exact this
    · exact this
  letI S : Sym := linSym σ K
  haveI hS : SymFact P := yI hK
  have hcall : yR P (ev P code nat fuel) := qe (fun call hcall F N => zu hm hcall) hcode (hnat _ _ hK) fuel
  have hdraw : xD P F N (ev P code nat fuel) := zu hm hcall
  have steps : ∀ (i : Nat) (y : Code) {r0 : R}, zCj i (zE P F N y) = zCj j (jQ pre (zE P F N c)) → zT y = true → wx (qv P code nat fuel pre j (zE P F N c) rs σ K) (zFD P S (ev P code nat fuel) i (zE P F N y) r0) →
      ∀ (e : Exit) (ac : Act) (w : World), yP P F N ψ₀ g₀ n₀ w₀ r0 e ac w → Exit.then (y.wp P (QH P pre c (uK P fn w0))) (QH P pre c (uK P fn w0)) e ac w := by
    intro i
    induction i with
    | zero =>
      intro y r0 hy hny hlf e ac w ho
      exact hstep e ac w (zFP hlf ho) y hy.symm hny
    | succ i ih =>
      intro y r0 hy hny hlf e ac w ho
      have hcl := ja hK hm hcode hnat hlf
      obtain ⟨a', b', hs⟩ := zLu hcl
      obtain ⟨x, z, rfl⟩ := zMc hs
      clear hs
      have hnr : zT x = true ∧ zT z = true := by simpa [zT] using hny
      have hcl1 : zM (xX (ze P (ev P code nat fuel) (zE P F N x)) r0) := jg hcall.above i (zE P F N z) hcl
      rcases qW hcl1 ho with ⟨rfl, tm', ds', h', n', ψ', h2, h3, h4, h5⟩ | ⟨h1, h2⟩
      · show (Code.seq x z).wp P _ ac w
        exact wp_seq (wp_mono (xz hcall hdraw x hnr.1 h2 h4) fun e'' a'' w'' ho' => ih z hy hnr.2 hlf e'' a'' w'' (h5 e'' a'' w'' (yP.trans h3 ho')))
      · have := ih z hy hnr.2 hlf e ac w h2
        cases e <;> first | exact absurd rfl h1 | exact this
  exact steps j b (by rw [hr]) hnab.2 hlf e ac w ho
theorem zHq (hK : KnownOk σ K) (hm : P.follows .mixedOrders = true) (hcode : CodeOk P code) (hnat : ∀ σ K, KnownOk σ K → @NatsOk (linSym σ K) P nat) (hat : atC pre c = some (.seq a b)) (hsub : k6 (pre ++ .l :: q) c = some bl) (hn : zT c = true)
    (hrs : yW (yo P F N) fn.results.toList = some rs) {ft : FT} {ct : List Bool → CT} {ψ₀ : Psi} {g₀ : Fam} {n₀ : Key} {w₀ : World} {r : R} {e : Exit} {ac : Act} {w : World}
    (ho : @yP (linSym σ K) P F N ψ₀ g₀ n₀ w₀ r e ac w) (hf : zFz P code nat fuel pre q j (zE P F N c) rs ft ct σ K r = true)
    (hb : Below w0.heap.size w0 w₀) (ho0 : ∀ k o p, g₀ k = some o → o.isRo = false → ψ₀ k = some p → w0.heap.size ≤ p.blk) : QH P (pre ++ .l :: q) c (uK P fn w0) e ac w := by
  rw [zGJ hat]
  obtain ⟨hl, hr⟩ := qu (P := P) (F := F) (N := N) hat
  have hlf := ux hf
  have hnab : zT a = true ∧ zT b = true := by
    have := wE hat hn
    simpa [zT] using this
  have hsubA := zCB hat hsub
  letI S : Sym := linSym σ K
  haveI hS : SymFact P := yI hK
  have hcall : yR P (ev P code nat fuel) := qe (fun call hcall F N => zu hm hcall) hcode (hnat _ _ hK) fuel
  have hdraw : xD P F N (ev P code nat fuel) := zu hm hcall
  rw [hl, hr] at hlf
  have hcl2 := jg hcall.above j _ (ja hK hm hcode hnat hlf)
  exact kC hcall hdraw q a hsubA hnab.1 ho hcl2 fun e ac w ho => zD9 hK hm hcode hnat hat hn hrs ho hlf hb ho0
end
end
end
end Go.Ev

namespace Go.Ev
open Go.RowKit
noncomputable section
variable {P : Program}
structure HA where
  f : List Key
  b : List Key
  c : Nat
  th : List (Nat × Int × LL)
def zNQ (k j : Key) (a : HA) : HA := match Nat.beq k.ix a.c with
  | true => ⟨a.f, j :: a.b, Nat.succ a.c, a.th⟩
  | false => a
def zO7 (e : SE) (v : CV) (a : HA) : HA := match e.l with
  | [(j, z)] => match ym z 1 with
    | true => match zFj v with
      | some (_, c, l) => ⟨a.f, a.b, a.c, (j, c - e.c, l) :: a.th⟩
      | none => a
    | false => a
  | _ => a
mutual
def hV : CV → CV → HA → HA
  | .sym e, v, a => zO7 e v a
  | .ptr k _, .ptr j _, a => zNQ k j a
  | .sl k _ _ _ _ _, .sl j _ _ _ _ _, a => zNQ k j a
  | .map k, .map j, a => zNQ k j a
  | .func _ x y, .func _ u v, a => hVs y v (hVs x u a)
  | .iface _ v, .iface _ w, a => hV v w a
  | .agg x, .agg y, a => hVs x y a
  | .tup x, .tup y, a => hVs x y a
  | .sst x, .sst y, a => hVs x y a
  | _, _, a => a
def hVs : List CV → List CV → HA → HA
  | x :: xs, y :: ys, a => hVs xs ys (hV x y a)
  | _, _, a => a
end
def hEs : List CE → List CE → HA → HA
  | x :: xs, y :: ys, a => hEs xs ys (hV x.val y.val (hV x.key y.key a))
  | _, _, a => a
def hO : CObj → CObj → HA → HA
  | .cells x, .cells y, a => hVs x y a
  | .cells x, .full _ y, a => hVs x y a
  | .map x _, .map y _, a => hEs x (zAX y) a
  | _, _, a => a
def hTm (tm : Tm) : List (Nat × CV) → HA → HA
  | [], a => a
  | p :: r, a => hTm tm r (hV p.2 (qP (Loc.ofNat p.1) tm) a)
def zPv (a : HA) : Option (Key × HA) := match a.f with
  | k :: r => some (k, ⟨r, a.b, a.c, a.th⟩)
  | [] => match a.b.reverse with
    | k :: r => some (k, ⟨r, [], a.c, a.th⟩)
    | [] => none
def zIW (h : Heap) : List (Key × CObj) → HA → List Key → List Key × HA
  | [], a, ks => (ks.reverse, a)
  | p :: r, a, ks => match zPv a with
    | none => (ks.reverse, a)
    | some (j, a) => match yF j h with
      | some o => zIW h r (hO p.2 o a) (j :: ks)
      | none => (ks.reverse, a)
def zNu (j : Nat) : List (Nat × Int × LL) → Int × LL
  | [] => (0, [(j, 1)])
  | q :: r => match Nat.beq q.1 j with
    | true => q.2
    | false => zNu j r
def hTh (th : List (Nat × Int × LL)) : List (Int × Int) → Nat → TH
  | [], _ => []
  | _ :: r, j => zNu j th :: hTh th r (Nat.succ j)
def zOs (T : TS) : Nat := match T.objs with
  | p :: _ => p.1.ix
  | [] => 0
def zA1 {α : Type} : List α → (List α → Bool) → Bool
  | [], k => k []
  | x :: l, k => zA1 l fun l' => k (x :: l')
theorem k8 {α : Type} : ∀ {l : List α} {k : List α → Bool}, zA1 l k = k l
  | [], _ => rfl
  | x :: l, k => k8 (l := l)
def zDm (t : Nat) (T : TS) (tm : Tm) (h : Heap) (k : jF → Bool) : Bool := match zIW h T.objs (hTm tm T.locs ⟨[], [], zOs T, []⟩) [] with
  | (ks, a) => zA1 ks fun ks => zA1 (hTh a.th T.b 0) fun θ => k ⟨t, ks, θ⟩
theorem zDN {t : Nat} {T : TS} {tm : Tm} {h : Heap} {k : jF → Bool} (hh : zDm t T tm h k = true) : ∃ x, k x = true := by
  unfold zDm at hh
  split at hh
  rw [k8, k8] at hh
  exact ⟨_, hh⟩
section
variable {G : Nat} {ws : List (Key × Nat)} {Ts : List TS} {ok : jF → Bool} {K : zQ} {fin : R → Bool}
def zGM (G : Nat) (ws : List (Key × Nat)) (Ts : List TS) (ok : jF → Bool) (K : zQ) (t : Nat) (tm : Tm) (ds : xU) (h : Heap) (n : Key) : Bool := match nth Ts t with
  | some T => zDm t T tm h fun x => zB8 G ws Ts ok K x tm ds h n
  | none => false
def uH (G : Nat) (ws : List (Key × Nat)) (Ts : List TS) (ok : jF → Bool) (K : zQ) (fin : R → Bool) : R → List Nat → Option (List Nat)
  | .ok .normal tm ds h n, t :: r => match zGM G ws Ts ok K t tm ds h n with
    | true => some r
    | false => none
  | .ok (.exit i) tm ds h n, r => match fin (.ok (.exit i) tm ds h n) with
    | true => some r
    | false => none
  | .ok .ret tm ds h n, r => match fin (.ok .ret tm ds h n) with
    | true => some r
    | false => none
  | .fork a b, r => match uH G ws Ts ok K fin a r with
    | some r => uH G ws Ts ok K fin b r
    | none => none
  | _, _ => none
def wg (o : Option (List Nat)) : Bool := match o with
  | some _ => true
  | none => false
theorem zAQ : ∀ {r : R} {l l' : List Nat}, uH G ws Ts ok K fin r l = some l' → ∃ hs : List jF, ∀ rest, qZ G ws Ts ok K fin r (hs ++ rest) = some rest
  | .ok .normal tm ds h n, [], _, hc => by cases hc
  | .ok .normal tm ds h n, t :: l, l', hc => by
    unfold uH at hc
    split at hc
    · rename_i hl
      unfold zGM at hl
      split at hl
      · obtain ⟨x, hx⟩ := zDN hl
        exact ⟨[x], fun rest => by show qZ G ws Ts ok K fin (.ok .normal tm ds h n) (x :: rest) = _; unfold qZ; rw [hx]⟩
      · cases hl
    · cases hc
  | .ok (.exit i) tm ds h n, l, l', hc => by
    unfold uH at hc
    split at hc
    · rename_i h1
      exact ⟨[], fun rest => by show qZ G ws Ts ok K fin (.ok (.exit i) tm ds h n) rest = _; unfold qZ; rw [h1]⟩
    · cases hc
  | .ok .ret tm ds h n, l, l', hc => by
    unfold uH at hc
    split at hc
    · rename_i h1
      exact ⟨[], fun rest => by show qZ G ws Ts ok K fin (.ok .ret tm ds h n) rest = _; unfold qZ; rw [h1]⟩
    · cases hc
  | .ret .., l, l', hc => by unfold uH at hc; cases hc
  | .err _, l, l', hc => by unfold uH at hc; cases hc
  | .fork a b, l, l', hc => by
    unfold uH at hc
    split at hc
    · rename_i r hr
      obtain ⟨h1, e1⟩ := zAQ hr
      obtain ⟨h2, e2⟩ := zAQ hc
      exact ⟨h1 ++ h2, fun rest => by rw [List.append_assoc]; unfold qZ; rw [e1 (h2 ++ rest)]; exact e2 rest⟩
    · cases hc
theorem xr {r : R} {l : List Nat} (h : wg (uH G ws Ts ok K fin r l) = true) : ∃ hs, qI (qZ G ws Ts ok K fin r hs) = true := by
  unfold wg at h
  split at h
  · rename_i x hx
    obtain ⟨hs, e⟩ := zAQ hx
    refine ⟨hs ++ [], ?_⟩
    rw [e []]; rfl
  · cases h
end
end
end Go.Ev

namespace Go.Ev
open Go.RowKit
noncomputable section
variable {P : Program}
inductive Cut where
  | plain
  | cut (ft : FT) (ct : List Bool → CT)
  | cover (ts : List Nat)
section
variable {code : FuncId → CFn} {nat : Nats} {fuel : Nat} {fn : Func} {c b xa xb : Code} {p pre q : List Stp} {j : Nat} {rs : List CRes} {G : Nat} {wins : List Win} {L : List (Key × Nat)} {A : Key → Option Value} {Ts : List TS} {bound : Int} {w0 : World}
def zKB (P : Program) (code : FuncId → CFn) (nat : Nats) (fuel : Nat) (G : Nat) (ws L : List (Key × Nat)) (Ts : List TS) (p pre q : List Stp) (j : Nat) (cc : CCode) (rs : List CRes) (cut : Cut) (s : Nat → Int) (K : zQ) (r : R) : Bool := match cut with
  | .plain => zG7 P code nat fuel p cc rs (linSym s K) r
  | .cut ft ct => zFz P code nat fuel pre q j cc rs ft ct s K r
  | .cover ts => wg (uH G ws Ts (fun t => wU t.θ && jM t.θ L) K (fun _ => false) (@xW (linSym s K) P (@ev (linSym s K) P code nat fuel) q (zAA pre cc) r) ts)
def TS.known (T : TS) (A : Key → Option Value) : zQ := ⟨T.b, T.f, T.r, A⟩
def zNk (P : Program) (code : FuncId → CFn) (nat : Nats) (fuel : Nat) (pre : List Stp) (j : Nat) (cc : CCode) (rs : List CRes) (T : TS) (ct : List Bool → CT) (ps : List (List Bool)) (s : Nat → Int) (K : zQ) : Bool :=
  u7 (fun p => zHZ P code nat fuel pre j cc rs (ct p) s K (zET p (zFD P (linSym s K) (@ev (linSym s K) P code nat fuel) j (jQ pre cc) (.ok .normal (wF T.locs) [] (mkH .nil T.objs) T.n)))) ps
def zNy (P : Program) (code : FuncId → CFn) (nat : Nats) (fuel : Nat) (pre : List Stp) (j : Nat) (cc : CCode) (rs : List CRes) (T : TS) : Prop :=
  ∃ (ft : FT) (ct : List Bool → CT), ∀ (s : Nat → Int) (A : Key → Option Value), zNk P code nat fuel pre j cc rs T ct ft.paths s (T.known A) = true
def zFJ (P : Program) (code : FuncId → CFn) (nat : Nats) (fuel : Nat) (Ts : List TS) (pre : List Stp) (j : Nat) (cc : CCode) (rs : List CRes) : Cut → Prop
  | .cover _ => ∀ t T, nth Ts t = some T → zNy P code nat fuel pre j cc rs T
  | _ => True
def zJx (P : Program) (code : FuncId → CFn) (nat : Nats) (fuel : Nat) (G : Nat) (ws L : List (Key × Nat)) (Ts : List TS) (p pre q : List Stp) (j : Nat) (cc : CCode) (rs : List CRes) (T : TS) (l : List (Key × List CV)) (cut : Cut) (s : Nat → Int) (K : zQ) (hs : List jF) : Bool :=
  qI (qZ G ws Ts (fun t => kU t.θ && jM t.θ L) K (zKB P code nat fuel G ws L Ts p pre q j cc rs cut s K) (@ze (linSym s K) P (@ev (linSym s K) P code nat fuel) (zAJ p cc) (wF T.locs) [] (mkH (mkH .nil T.objs) (zDE l)) T.n) hs)
def PassesC (P : Program) (code : FuncId → CFn) (nat : Nats) (fuel : Nat) (G : Nat) (wins : List Win) (L : List (Key × Nat)) (A : Key → Option Value) (Ts : List TS) (p pre q : List Stp) (j : Nat) (cc : CCode) (rs : List CRes) (w0 : World) : Prop :=
  ∀ t T, nth Ts t = some T → ∀ σ, yc σ 0 T.b → qK σ T.f → xL σ T.r → LensAre wins L σ → ∃ σ' K' l hs cut, (∀ j, j < T.b.length → σ' j = σ j) ∧ (∀ q ∈ L, σ' q.2 = σ q.2) ∧ K'.arg = A ∧ KnownOk σ' K' ∧ (∀ q ∈ l, zBS (linSym σ' K') wins w0 (σ 0) q) ∧ apartK T.objs l = true ∧ zFJ P code nat fuel Ts pre j cc rs cut ∧
    zJx P code nat fuel G (wsOf wins) L Ts p pre q j cc rs T l cut σ' K' hs = true
theorem zIr {σ : Nat → Int} {K : zQ} (hK : KnownOk σ K) (hm : P.follows .mixedOrders = true) (hcode : CodeOk P code) (hnat : ∀ σ K, KnownOk σ K → @NatsOk (linSym σ K) P nat) {ws : List (Key × Nat)} {cc : CCode} {cut : Cut} : ∀ r, zKB P code nat fuel G ws L Ts p pre q j cc rs cut σ K r = true → zM r := by
  intro r h
  unfold zKB at h
  split at h
  · exact zJ9 hK hm hcode hnat r h
  · exact zDO hK hm hcode hnat h
  · obtain ⟨hs, h1⟩ := xr h
    obtain ⟨o, h2⟩ := uh h1
    have hc := xn (fun _ h => by cases h) h2
    letI S : Sym := linSym σ K
    haveI hS : SymFact P := yI hK
    have hcall : yR P (ev P code nat fuel) := qe (fun call hcall F N => zu hm hcall) hcode (hnat _ _ hK) fuel
    exact xN hcall.above q (zAA pre cc) hc
theorem zLP {σ : Nat → Int} {K : zQ} (hK : KnownOk σ K) (hlen : LensAre wins L σ) (hA : ve K.arg wins) (hG : P.globals.size ≤ G) (hm : P.follows .mixedOrders = true) (hcode : CodeOk P code) (hnat : ∀ σ K, KnownOk σ K → @NatsOk (linSym σ K) P nat) {F N : Nat} (hp : p = pre ++ .l :: q) (hat : atC pre c = some (.seq xa xb)) (hsub : k6 p c = some b) (hn : zT c = true)
    (hrs : yW (yo P F N) fn.results.toList = some rs) {cut : Cut} (hends : zFJ P code nat fuel Ts pre j (zE P F N c) rs cut) {ψ₀ : Psi} {g₀ : Fam} {n₀ : Key} {w₀ : World} {r : R} {e : Exit} {a : Act} {w : World}
    (ho : @yP (linSym σ K) P F N ψ₀ g₀ n₀ w₀ r e a w) (hf : zKB P code nat fuel G (wsOf wins) L Ts p pre q j (zE P F N c) rs cut σ K r = true)
    (hb : Below w0.heap.size w0 w₀) (ho0 : ∀ k o p, g₀ k = some o → o.isRo = false → ψ₀ k = some p → w0.heap.size ≤ p.blk) : QH P p c (uK P fn w0) e a w := by
  unfold zKB at hf
  split at hf
  · exact zMA hK hm hcode hnat hsub hn hrs ho hf hb ho0
  · subst hp
    exact zHq hK hm hcode hnat hat hsub hn hrs ho hf hb ho0
  · subst hp
    have hends : ∀ t T, nth Ts t = some T → zNy P code nat fuel pre j (zE P F N c) rs T := hends
    obtain ⟨hs, h1⟩ := xr hf
    obtain ⟨o, h2⟩ := uh h1
    obtain ⟨hl, hr⟩ := qu (P := P) (F := F) (N := N) hat
    have hnab : zT xa = true ∧ zT xb = true := by
      have := wE hat hn
      simpa [zT] using this
    have hc := xn (fun _ h => by cases h) h2
    rw [hl] at hc h2
    rw [zGJ hat]
    have step : ∀ (e : Exit) (a : Act) (w : World), @yP (linSym σ K) P F N ψ₀ g₀ n₀ w₀ (@xW (linSym σ K) P (@ev (linSym σ K) P code nat fuel) q (zE P F N xa) r) e a w → Exit.then (xb.wp P (QH P pre c (uK P fn w0))) (QH P pre c (uK P fn w0)) e a w := by
      intro e a w ho
      rcases jt h2 ho with ⟨rfl, tm, h, n, ψ, t, T, g1, g2, g3, g4, g5⟩ | ⟨_, r', _, g2⟩
      · rw [Bool.and_eq_true] at g4
        obtain ⟨g4, g4L⟩ := g4
        obtain ⟨q0, θr, hθ⟩ : ∃ q0 θr, t.θ = q0 :: θr := by
          unfold wU at g4
          split at g4
          · rename_i q θr hq; exact ⟨q, θr, hq⟩
          · cases g4
        obtain ⟨σ'', ψT, hi, _⟩ := zHF hK hlen g1 g2 hG hA g5 ⟨q0, by rw [hθ]; rfl⟩ g4L ho0 hb
        obtain ⟨ft, ct, hw⟩ := hends t.T T g3
        have hw := hw σ'' K.arg
        have hK0 : KnownOk σ'' (T.known K.arg) := zIT hi.bnd hi.fct hi.rul
        have hst : @St (linSym σ'' (T.known K.arg)) P F N ψT (wF T.locs) [] (mkH .nil T.objs) T.n a w := hi.st σ'' _ (fun _ _ => rfl) rfl
        have hlf : wx (qv P code nat fuel pre j (zE P F N c) rs σ'' (T.known K.arg)) (zFD P (linSym σ'' (T.known K.arg)) (@ev (linSym σ'' (T.known K.arg)) P code nat fuel) j (zE P F N xb) (.ok .normal (wF T.locs) [] (mkH .nil T.objs) T.n)) := by
          rw [← hr]
          exact ww ft _ fun p hp => zBD (vY hw p hp)
        have hroom : T.n.room := by
          have h3 := ja hK0 hm hcode hnat hlf
          letI S : Sym := linSym σ'' (T.known K.arg)
          haveI hS : SymFact P := yI hK0
          have hcall : yR P (ev P code nat fuel) := qe (fun call hcall F N => zu hm hcall) hcode (hnat _ _ hK0) fuel
          exact jg hcall.above j _ h3
        exact zD9 (ψ₀ := ψT) (g₀ := Heap.fam (mkH .nil T.objs)) (n₀ := T.n) (w₀ := w) hK0 hm hcode hnat hat hn hrs (e := .normal) (r := .ok .normal (wF T.locs) [] (mkH .nil T.objs) T.n) ⟨trivial, ψT, hst, @zh.refl (linSym σ'' (T.known K.arg)) _ _ _ _ (@St.rel (linSym σ'' (T.known K.arg)) _ _ _ _ _ _ _ _ _ _ hst), hroom⟩ hlf hi.blw
          (fun k o p h1 _ h3 => (hi.own k o p h1 h3).2)
      · cases g2
    letI S : Sym := linSym σ K
    haveI hS : SymFact P := yI hK
    have hcall : yR P (ev P code nat fuel) := qe (fun call hcall F N => zu hm hcall) hcode (hnat _ _ hK) fuel
    exact kC hcall (zu hm hcall) q xa (zCB hat hsub) hnab.1 ho hc step
theorem zHz (hm : P.follows .mixedOrders = true) (hcode : CodeOk P code) (hnat : ∀ σ K, KnownOk σ K → @NatsOk (linSym σ K) P nat) (hG : P.globals.size ≤ G) {F N : Nat} (hp : p = pre ++ .l :: q) (hat : atC pre c = some (.seq xa xb)) (hsub : k6 p c = some b) (hn : zT c = true)
    (hrs : yW (yo P F N) fn.results.toList = some rs) (hA : ve A wins) (hbd : boundIs bound Ts = true)
    (hgood : PassesC P code nat fuel G wins L A Ts p pre q j (zE P F N c) rs w0) : ∀ (m : Nat) (t : Nat) (T : TS) (σ : Nat → Int) (ψ : Psi) (a : Act) (w : World), nth Ts t = some T → zLW P F N G A wins L w0 T σ ψ a w → (bound - σ 0).toNat ≤ m →
    jq P b (QH P p c (uK P fn w0)) a w := by
  have hnb : zT b = true := by
    have : ∀ {p : List Stp} {c : Code}, k6 p c = some b → zT c = true → zT b = true := by
      intro p
      induction p with
      | nil =>
        intro c hs hn
        cases c <;> try (cases hs; done)
        injection hs with hs; subst hs
        simpa [zT] using hn
      | cons x p ih =>
        intro c hs hn
        cases x <;> cases c <;> try (cases hs; done)
        · rename_i x y
          have hn : zT x = true ∧ zT y = true := by simpa [zT] using hn
          exact ih hs hn.1
        · rename_i x y
          have hn : zT x = true ∧ zT y = true := by simpa [zT] using hn
          exact ih hs hn.2
        · exact ih hs hn
    exact this hsub hn
  have step : ∀ (t : Nat) (T : TS) (σ : Nat → Int) (ψ : Psi) (a : Act) (w : World), nth Ts t = some T → zLW P F N G A wins L w0 T σ ψ a w →
      (∀ (t' : Nat) (T' : TS) (σ' : Nat → Int) (ψ' : Psi) (a' : Act) (w' : World), nth Ts t' = some T' → zLW P F N G A wins L w0 T' σ' ψ' a' w' → (bound - σ' 0).toNat < (bound - σ 0).toNat → jq P b (QH P p c (uK P fn w0)) a' w') →
      jq P b (QH P p c (uK P fn w0)) a w := by
    intro t T σ ψ a w hT hi hrec
    obtain ⟨σ', K', l, hs, cut, hag, hagL, hKA, hK, hl, hap, hends, hpass⟩ := hgood t T hT σ hi.bnd hi.fct hi.rul hi.len
    have hst := zKJ hi hag hKA hl hap
    obtain ⟨q1, r1, hb1, _⟩ := jo hbd hT
    have hag0 : σ' 0 = σ 0 := hag 0 (by rw [hb1]; simp)
    have hm0 : ∀ k o p, Heap.fam (mkH (mkH .nil T.objs) (zDE l)) k = some o → o.isRo = false → ψ k = some p → w0.heap.size ≤ p.blk := by
      intro k o p h1 h2 h3
      rcases vJ h1 with ⟨cs, _, rfl⟩ | h1
      · cases h2
      · exact (hi.own k o p h1 h3).2
    letI S : Sym := linSym σ' K'
    haveI hS : SymFact P := yI hK
    have hcall : yR P (ev P code nat fuel) := qe (fun call hcall F N => zu hm hcall) hcode (hnat _ _ hK) fuel
    have hdraw : xD P F N (ev P code nat fuel) := zu hm hcall
    unfold zJx at hpass
    rw [@k4 S P F N p c b hsub] at hpass
    generalize hres : ze P (ev P code nat fuel) (zE P F N b) (wF T.locs) [] (mkH (mkH .nil T.objs) (zDE l)) T.n = r at hpass
    obtain ⟨hs', hchk⟩ : ∃ x, qZ G (wsOf wins) Ts (fun t => kU t.θ && jM t.θ L) K' (zKB P code nat fuel G (wsOf wins) L Ts p pre q j (zE P F N c) rs cut σ' K') r hs = some x := by
      unfold qI at hpass
      split at hpass
      · rename_i x hx; exact ⟨x, hx⟩
      · cases hpass
    have hclean : zM r := xn (zIr hK hm hcode hnat) hchk
    have hsim := xz hcall hdraw b hnb hst (by rw [hres]; exact hclean)
    rw [hres] at hsim
    refine zAP (wp_mono hsim fun e a' w' ho => ?_)
    rcases jt hchk ho with ⟨rfl, tm, h, n, ψ', t', T', h1, h2, h3, h4, h5⟩ | ⟨hne, r', h1, h2⟩
    · rw [Bool.and_eq_true] at h4
      obtain ⟨h4, h4L⟩ := h4
      obtain ⟨q0, θr, hθ, e1, e2⟩ : ∃ q0 θr, t'.θ = q0 :: θr ∧ q0.1 = 1 ∧ q0.2 = [(0, 1)] := by
        unfold kU at h4
        split at h4
        · rename_i q θr hq
          rw [Bool.and_eq_true, @zZ zN, decide_eq_true_eq] at h4
          exact ⟨q, θr, hq, h4.1, @jX zN _ _ h4.2⟩
        · cases h4
      obtain ⟨σ'', ψT, hinv, h0⟩ := zHF hK (fun q hq => by
        obtain ⟨wn, g1, g2⟩ := hi.len q hq
        exact ⟨wn, g1, by rw [hagL q hq]; exact g2⟩) h1 h2 hG (by rw [hKA]; exact hA) h5 ⟨q0, by rw [hθ]; rfl⟩ h4L hm0 hi.blw
      rw [hKA] at hinv
      have hσ : σ'' 0 = σ 0 + 1 := by
        rw [h0 q0 (by rw [hθ]; rfl)]
        unfold evQ
        rw [e1, e2]
        show (1 : Int) + (1 * σ' 0 + 0) = _
        rw [hag0]; omega
      obtain ⟨q2, r2, hb2, hle⟩ := jo hbd h3
      have hbb := hinv.bnd
      rw [hb2] at hbb
      have := hbb.1.2
      exact hrec t'.T T' σ'' ψT a' w' h3 hinv (by omega)
    · have := zLP hK (fun q hq => by
        obtain ⟨wn, g1, g2⟩ := hi.len q hq
        exact ⟨wn, g1, by rw [hagL q hq]; exact g2⟩) (by rw [hKA]; exact hA) hG hm hcode hnat hp hat hsub hn hrs hends h1 h2 hi.blw hm0
      cases e <;> first | exact absurd rfl hne | exact this
  intro m
  induction m with
  | zero =>
    intro t T σ ψ a w hT hi hm0
    exact step t T σ ψ a w hT hi fun t' T' σ' ψ' a' w' hT' hi' hlt => by omega
  | succ m ih =>
    intro t T σ ψ a w hT hi hm0
    exact step t T σ ψ a w hT hi fun t' T' σ' ψ' a' w' hT' hi' hlt => ih t' T' σ' ψ' a' w' hT' hi' (by omega)
end
theorem zGA {code : FuncId → CFn} {nat : Nats} {fuel : Nat} {f : FuncId} {fn : Func} {c b xa xb : Code} {cc : CCode} {p pre q : List Stp} {j : Nat} {rs : List CRes} {G : Nat} {wins : List Win} {L : List (Key × Nat)} {A : Key → Option Value} {Ts : List TS} {bound : Int} {w0 : World}
    {σ : Nat → Int} {K : zQ} {args : List CV} {args' : Array Value} {n : Key} {hs : List jF} (hK : KnownOk σ K) (hKA : K.arg = A) (hlen : LensAre wins L σ)
    (hm : P.follows .mixedOrders = true) (hcode : CodeOk P code) (hnat : ∀ σ K, KnownOk σ K → @NatsOk (linSym σ K) P nat) (hf : P.funcs[f]? = some fn) (hb : fn.body = some c) (hcf : compFn P f = .mk cc rs) (hp : p = pre ++ .l :: q) (hat : atC pre c = some (.seq xa xb)) (hsub : k6 p c = some b)
    (hG : P.globals.size ≤ G) (hn : G ≤ n.ix) (hw : zFc G n.ix (wsOf wins) = true) (hA : ve A wins) (hbd : boundIs bound Ts = true)
    (hargs : @zK (linSym σ K) (zID G wins) args args'.toList) (hrun : startOf P code nat fuel G (wsOf wins) L Ts p cc args n (linSym σ K) K hs = true)
    (hgood : PassesC P code nat fuel G wins L A Ts p pre q j cc rs w0) : Calls P f args' w0 fun e w => e = .returned (.bool true) ∧ Below w0.heap.size w0 w := by
  obtain ⟨hrs, hnr, rfl⟩ := zCQ hf hb hcf
  letI S : Sym := linSym σ K
  haveI hS : SymFact P := yI hK
  have hcall : yR P (ev P code nat fuel) := qe (fun call hcall F N => zu hm hcall) hcode (hnat _ _ hK) fuel
  have hdraw : ∀ F N, xD P F N (ev P code nat fuel) := fun F N => zu hm hcall
  have hst : St P (yU fn c) fn.ntmps (zID G wins) (xR args 0 .nil) [] .nil n { tmps := args' ++ Array.replicate (fn.ntmps - args'.size) undef, defers := [] } w0 :=
    vG hcall hdraw hargs (zKk hG hw) (zFw _ _) (zHU hn hw)
  unfold startOf at hrun
  generalize hres : zAN P (ev P code nat fuel) p (zE P (yU fn c) fn.ntmps c) (xR args 0 .nil) [] .nil n = r at hrun
  obtain ⟨hs', hchk⟩ : ∃ x, qZ G (wsOf wins) Ts (fun t => wU t.θ && jM t.θ L) K (fun _ => false) r hs = some x := by
    unfold qI at hrun
    split at hrun
    · rename_i x hx; exact ⟨x, hx⟩
    · cases hrun
  have hclean : zM r := xn (fun _ h => by cases h) hchk
  refine calls_of_wp_defers hf hb (uZ hcall (hdraw _ _) p c hsub hnr hst (by rw [hres]; exact hclean) fun e a' w' ho => ?_)
  rw [hres] at ho
  rcases jt hchk ho with ⟨rfl, tm, h, n', ψ', t', T', h1, h2, h3, h4, h5⟩ | ⟨_, r', _, h2⟩
  · rw [Bool.and_eq_true] at h4
    obtain ⟨h4, h4L⟩ := h4
    obtain ⟨q0, θr, hθ⟩ : ∃ q0 θr, t'.θ = q0 :: θr := by
      unfold wU at h4
      split at h4
      · rename_i q θr hq; exact ⟨q, θr, hq⟩
      · cases h4
    obtain ⟨σ'', ψT, hinv, _⟩ := zHF hK hlen h1 h2 hG (by rw [hKA]; exact hA) h5 ⟨q0, by rw [hθ]; rfl⟩ h4L (w0 := w0) (fun k o p h1 _ _ => by
      have h1 : yF k .nil = some o := h1
      rw [wj] at h1; cases h1) (Below.refl _ _)
    rw [hKA] at hinv
    exact ⟨rfl, zHz hm hcode hnat hG hp hat hsub hnr hrs hA hbd hgood _ _ _ _ _ _ _ h3 hinv (Nat.le_refl _)⟩
  · cases h2
def LeafGoodC (P : Program) (code : FuncId → CFn) (nat : Nats) (fuel G : Nat) (ws L : List (Key × Nat)) (Ts : List TS) (p pre q : List Stp) (j : Nat) (cc : CCode) (rs : List CRes) (T : TS) (e : Lf) : Prop :=
  apartK T.objs e.l = true ∧ ∃ cut, zFJ P code nat fuel Ts pre j cc rs cut ∧ ∀ (s : Nat → Int) (A : Key → Option Value), ∃ hs, zJx P code nat fuel G ws L Ts p pre q j cc rs T e.l cut s (e.known A) hs = true
def StateGoodC (P : Program) (code : FuncId → CFn) (nat : Nats) (fuel G : Nat) (ws L : List (Key × Nat)) (Ts : List TS) (p pre q : List Stp) (j : Nat) (cc : CCode) (rs : List CRes) (ks : List (Key × Bool)) (T : TS) : Prop :=
  ∃ (tree : LTree) (ls : List Lf), leaves ks tree ⟨T.b, T.f, T.r, [], 1000⟩ = some ls ∧ (Nat.ble (Nat.succ ks.length) T.b.length && Nat.ble T.b.length 1000 && lensIn T.b.length L) = true ∧
    AllG (LeafGoodC P code nat fuel G ws L Ts p pre q j cc rs T) ls
theorem passes_allC {code : FuncId → CFn} {nat : Nats} {fuel G : Nat} {wins : List Win} {ws L : List (Key × Nat)} {A : Key → Option Value} {Ts : List TS} {p pre q : List Stp} {j : Nat} {cc : CCode} {rs : List CRes} {w0 : World} {ks : List (Key × Bool)}
    (hws : wsOf wins = ws) (hwin : ∀ σ, LensAre wins L σ → WinIs wins w0 σ ks) (h : AllS (StateGoodC P code nat fuel G ws L Ts p pre q j cc rs ks) Ts) : PassesC P code nat fuel G wins L A Ts p pre q j cc rs w0 := by
  intro t T hT σ hb hf hr hlen
  obtain ⟨tree, ls, h1, h2, h3⟩ := zC6 h hT
  rw [Bool.and_eq_true, Bool.and_eq_true] at h2
  have g1 := @zH zN _ _ h2.1.1
  have g2 := @zH zN _ _ h2.1.2
  obtain ⟨e, hm, σ', r1, r2⟩ := yQ (wins := wins) (w0 := w0) (i := σ 0) tree _ σ h1 ⟨hb, hf, hr, fun q hq => by cases hq⟩ (hwin σ hlen) rfl (by show ks.length < T.b.length; omega) g2 (Nat.le_refl _)
  obtain ⟨hap, cut, hends, hall⟩ := vM h3 e hm
  obtain ⟨hs, hpass⟩ := hall σ' A
  refine ⟨σ', e.known A, e.l, hs, cut, fun j hj => r2 j (.inl hj), fun q hq => r2 _ (.inl (zA9 h2.2 q hq)), rfl, r1.known A, fun q hq => r1.w q hq σ' _ vC, hap, hends, ?_⟩
  rw [hws]
  exact hpass
theorem calls_treeC {code : FuncId → CFn} {nat : Nats} {fuel : Nat} {f : FuncId} {fn : Func} {c b xa xb : Code} {cc : CCode} {p pre q : List Stp} {j : Nat} {rs : List CRes} {G : Nat} {wins : List Win} {ws L : List (Key × Nat)} {A : Key → Option Value} {Ts : List TS} {bound : Int} {w0 : World}
    {ks : List (Key × Bool)} {tree : LTree} {e0 : Lf} {ls : List Lf} {σ : Nat → Int} {args : List CV} {args' : Array Value} {n : Key} (hws : wsOf wins = ws)
    (hls : leaves ks tree e0 = some ls) (hchk : (Nat.ble (Nat.succ ks.length) e0.b.length && Nat.ble e0.b.length 1000 && Nat.ble 1000 e0.u && lensIn e0.b.length L) = true)
    (hall : AllG (fun e => ∀ (s : Nat → Int) (A : Key → Option Value), ∃ hs, startOf P code nat fuel G ws L Ts p cc args n (linSym s (e.known A)) (e.known A) hs = true) ls)
    (h0 : zDL wins w0 (σ 0) σ e0) (hlen : LensAre wins L σ) (hwin : ∀ σ, LensAre wins L σ → WinIs wins w0 σ ks)
    (hm : P.follows .mixedOrders = true) (hcode : CodeOk P code) (hnat : ∀ σ K, KnownOk σ K → @NatsOk (linSym σ K) P nat) (hf : P.funcs[f]? = some fn) (hb : fn.body = some c) (hcf : compFn P f = .mk cc rs) (hp : p = pre ++ .l :: q) (hat : atC pre c = some (.seq xa xb)) (hsub : k6 p c = some b)
    (hG : P.globals.size ≤ G) (hn : G ≤ n.ix) (hw : zFc G n.ix ws = true) (hA : ve A wins) (hbd : boundIs bound Ts = true)
    (hargs : ∀ σ' K', K'.arg = A → (∀ j, (j < e0.b.length ∨ (1000 ≤ j ∧ j < e0.u)) → σ' j = σ j) → @zK (linSym σ' K') (zID G wins) args args'.toList)
    (hgood : PassesC P code nat fuel G wins L A Ts p pre q j cc rs w0) : Calls P f args' w0 fun e w => e = .returned (.bool true) ∧ Below w0.heap.size w0 w := by
  simp only [Bool.and_eq_true] at hchk
  obtain ⟨⟨⟨g1, g2⟩, g3⟩, g4⟩ := hchk
  have g1 := @zH zN _ _ g1
  obtain ⟨e, hmem, σ', r1, r2⟩ := yQ (wins := wins) (w0 := w0) (i := σ 0) tree e0 σ hls h0 (hwin σ hlen) rfl (by omega) (@zH zN _ _ g2) (@zH zN _ _ g3)
  obtain ⟨hs, hrun⟩ := vM hall e hmem σ' A
  subst hws
  exact zGA (K := e.known A) (r1.known A) rfl (fun q hq => by
    obtain ⟨wn, h1, h2⟩ := hlen q hq
    exact ⟨wn, h1, by rw [r2 _ (.inl (zA9 g4 q hq))]; exact h2⟩) hm hcode hnat hf hb hcf hp hat hsub hG hn hw hA hbd (hargs σ' _ rfl r2) hrun hgood
end
end Go.Ev

namespace Go.Ev
open Go.RowKit
noncomputable section
variable {P : Program}
section
variable {code : FuncId → CFn} {nat : Nats} {fuel G : Nat} {ws L : List (Key × Nat)} {Ts : List TS} {p pre q : List Stp} {j : Nat} {cc : CCode} {rs : List CRes} {T : TS} {l : List (Key × List CV)}
def sp : List Nat → CT
  | [] => .leaf
  | v :: l => .cmp [(v, 1)] 1 (sp l) (sp l)
def fI (z : Int) (k : Int → Bool) : Bool := match z with
  | .ofNat n => k (.ofNat n)
  | .negSucc n => k (.negSucc n)
theorem zEr {z : Int} {k : Int → Bool} : fI z k = k z := by cases z <;> rfl
def fB : List (Int × Int) → (List (Int × Int) → Bool) → Bool
  | [], k => k []
  | (a, b) :: l, k => fI a fun a => fI b fun b => fB l fun l' => k ((a, b) :: l')
theorem zNp : ∀ {l : List (Int × Int)} {k : List (Int × Int) → Bool}, fB l k = k l
  | [], _ => rfl
  | (a, b) :: l, k => by unfold fB; rw [zEr, zEr, zNp]
def fLL : LL → (LL → Bool) → Bool
  | [], k => k []
  | (i, a) :: l, k => fI a fun a => fLL l fun l' => k ((i, a) :: l')
theorem zIA : ∀ {l : LL} {k : LL → Bool}, fLL l k = k l
  | [], _ => rfl
  | (i, a) :: l, k => by unfold fLL; rw [zEr, zIA]
def fF : List (LL × Int × Int) → (List (LL × Int × Int) → Bool) → Bool
  | [], k => k []
  | (m, a, b) :: l, k => fLL m fun m => fI a fun a => fI b fun b => fF l fun l' => k ((m, a, b) :: l')
theorem zNw : ∀ {l : List (LL × Int × Int)} {k : List (LL × Int × Int) → Bool}, fF l k = k l
  | [], _ => rfl
  | (m, a, b) :: l, k => by unfold fF; rw [zIA, zEr, zEr, zNw]
def fR : List SRule → (List SRule → Bool) → Bool
  | [], k => k []
  | ⟨o, ⟨i, c, m⟩, n, v⟩ :: l, k => fI c fun c => fLL m fun m => fR l fun l' => k (⟨o, ⟨i, c, m⟩, n, v⟩ :: l')
theorem zNz : ∀ {l : List SRule} {k : List SRule → Bool}, fR l k = k l
  | [], _ => rfl
  | ⟨o, ⟨i, c, m⟩, n, v⟩ :: l, k => by unfold fR; rw [zEr, zIA, zNz]
def fW : List (Key × List CV) → (List (Key × List CV) → Bool) → Bool
  | [], k => k []
  | (i, m) :: l, k => zA1 m fun m => fW l fun l' => k ((i, m) :: l')
theorem zNn : ∀ {l : List (Key × List CV)} {k : List (Key × List CV) → Bool}, fW l k = k l
  | [], _ => rfl
  | (i, m) :: l, k => by unfold fW; rw [k8, zNn]
def forceLf (e : Lf) (k : Lf → Bool) : Bool := match e with
  | ⟨b, f, r, l, u⟩ => fB b fun b => fF f fun f => fR r fun r => fW l fun l => k ⟨b, f, r, l, u⟩
theorem forceLf_eq {e : Lf} {k : Lf → Bool} : forceLf e k = k e := by
  cases e
  unfold forceLf
  simp only [zNp, zNw, zNz, zNn]
def leavesD (ks : List (Key × Bool)) (t : LTree) (e : Lf) : List Lf := match leaves ks t e with
  | some l => l
  | none => []
def nthLf (l : List Lf) (k : Nat) : Lf := match nth l k with
  | some e => e
  | none => ⟨[], [], [], [], 0⟩
def passN (P : Program) (code : FuncId → CFn) (nat : Nats) (fuel : Nat) (G : Nat) (ws L : List (Key × Nat)) (Ts : List TS) (p : List Stp) (cc : CCode) (rs : List CRes) (T : TS) (l : List (Key × List CV)) (s : Nat → Int) (K : zQ) (ts : List Nat) : Bool :=
  wg (uH G ws Ts (fun t => kU t.θ && jM t.θ L) K (zG7 P code nat fuel p cc rs (linSym s K)) (@ze (linSym s K) P (@ev (linSym s K) P code nat fuel) (zAJ p cc) (wF T.locs) [] (mkH (mkH .nil T.objs) (zDE l)) T.n) ts)
theorem passN_okC {s : Nat → Int} {K : zQ} {ts : List Nat} (h : passN P code nat fuel G ws L Ts p cc rs T l s K ts = true) : ∃ hs, zJx P code nat fuel G ws L Ts p pre q j cc rs T l .plain s K hs = true := xr h
def startN (P : Program) (code : FuncId → CFn) (nat : Nats) (fuel : Nat) (G : Nat) (ws L : List (Key × Nat)) (Ts : List TS) (p : List Stp) (cc : CCode) (args : List CV) (n : Key) (s : Nat → Int) (K : zQ) (ts : List Nat) : Bool :=
  wg (uH G ws Ts (fun t => wU t.θ && jM t.θ L) K (fun _ => false) (@zAN (linSym s K) P (@ev (linSym s K) P code nat fuel) p cc (xR args 0 .nil) [] .nil n) ts)
theorem startN_ok {args : List CV} {n : Key} {s : Nat → Int} {K : zQ} {ts : List Nat} (h : startN P code nat fuel G ws L Ts p cc args n s K ts = true) : ∃ hs, startOf P code nat fuel G ws L Ts p cc args n (linSym s K) K hs = true := xr h
end
end
end Go.Ev


