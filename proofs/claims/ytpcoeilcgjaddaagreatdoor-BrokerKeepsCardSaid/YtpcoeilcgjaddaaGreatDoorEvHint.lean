/- A verified evaluator for the model's code: EvPick, EvCut, EvHintA, EvCut2, EvHint. -/
import Derived.Test.YtpcoeilcgjaddaaGreatDoorEvTree
set_option linter.unusedSectionVars false
set_option linter.unusedVariables false
set_option linter.unusedSimpArgs false
namespace Go.Ev
noncomputable section
variable {P : Program}
def zCr : List Bool → R → R
  | [], r => r
  | b :: p, r => match r with
    | .fork x y => match b with
      | false => zCr p x
      | true => zCr p y
    | r => r
inductive FT where
  | leaf
  | node (a b : FT)
def FT.paths : FT → List (List Bool)
  | .leaf => [[]]
  | .node a b => a.paths.map (false :: ·) ++ b.paths.map (true :: ·)
theorem FT.some : ∀ (t : FT), ∃ p, p ∈ t.paths
  | .leaf => ⟨[], by simp [FT.paths]⟩
  | .node a b => by
    obtain ⟨p, hp⟩ := FT.some a
    exact ⟨false :: p, by simp [FT.paths, hp]⟩
section
variable {G : Nat} {ws : List (Key × Nat)} {Ts : List TS} {ok : jx → Bool} {K : zY}
end
theorem zAV {o : Option (List jx)} (h : kl o = true) : ∃ x, o = some x := by
  unfold kl at h
  split at h
  · exact ⟨_, rfl⟩
  · cases h
end
end Go.Ev

namespace Go.Ev
open Go.RowKit
noncomputable section
variable {P : Program}
mutual
theorem ko {S S' : Sym} (hv : @Sym.val S = @Sym.val S') (ha : @Sym.arg S = @Sym.arg S') {ψ : Psi} : ∀ (c : CV) {v : Value}, @zJ S ψ c v → @zJ S' ψ c v
  | .bool _, _, h => (@zH S' _ _ _).2 ((@zH S _ _ _).1 h)
  | .nat _, _, h => (@zU S' _ _ _).2 ((@zU S _ _ _).1 h)
  | .int _ _, _, h => (@zc S' _ _ _ _).2 ((@zc S _ _ _ _).1 h)
  | .anyi _, _, h => (@yC S' _ _ _).2 ((@yC S _ _ _).1 h)
  | .str _, _, h => (@zh S' _ _ _).2 ((@zh S _ _ _).1 h)
  | .nilptr, _, h => (@yx S' _ _).2 ((@yx S _ _).1 h)
  | .ptr _ _, _, h => (@zj S' _ _ _ _).2 ((@zj S _ _ _ _).1 h)
  | .nilsl, _, h => (@zl S' _ _).2 ((@zl S _ _).1 h)
  | .sl .., _, h => (@zw S' _ _ _ _ _ _ _ _).2 ((@zw S _ _ _ _ _ _ _ _).1 h)
  | .nilmap, _, h => (@zt S' _ _).2 ((@zt S _ _).1 h)
  | .map _, _, h => (@yY S' _ _ _).2 ((@yY S _ _ _).1 h)
  | .func _ a c, _, h => by
    obtain ⟨a', c', e, h1, h2⟩ := (@yk S _ _ _ _ _).1 h
    exact (@yk S' _ _ _ _ _).2 ⟨a', c', e, wO hv ha a h1, wO hv ha c h2⟩
  | .nilfunc, _, h => (@yi S' _ _).2 ((@yi S _ _).1 h)
  | .iface _ x, _, h => by
    obtain ⟨y, e, h1⟩ := (@z7 S _ _ _ _).1 h
    exact (@z7 S' _ _ _ _).2 ⟨y, e, ko hv ha x h1⟩
  | .niliface, _, h => (@z8 S' _ _).2 ((@z8 S _ _).1 h)
  | .agg cs, _, h => by
    obtain ⟨a, e, h1⟩ := (@yU S _ _ _).1 h
    exact (@yU S' _ _ _).2 ⟨a, e, wO hv ha cs h1⟩
  | .tup cs, _, h => by
    obtain ⟨a, e, h1⟩ := (@z6 S _ _ _).1 h
    exact (@z6 S' _ _ _).2 ⟨a, e, wO hv ha cs h1⟩
  | .sym i, _, h => by
    have h1 := (@yh S _ _ _).1 h
    rw [hv] at h1
    exact (@yh S' _ _ _).2 h1
  | .win _ _ _ _, _, h => by
    have h1 := (@qV S _ _ _ _ _ _).1 h
    rw [hv, ha] at h1
    exact (@qV S' _ _ _ _ _ _).2 h1
  | .sst l, _, h => by
    obtain ⟨b, e, h1⟩ := (@xI S _ _ _).1 h
    exact (@xI S' _ _ _).2 ⟨b, e, wO hv ha l h1⟩
  | .big _, _, h => (@qN S' _ _ _).2 ((@qN S _ _ _).1 h)
  | .any, _, _ => @qP S' _ _
theorem wO {S S' : Sym} (hv : @Sym.val S = @Sym.val S') (ha : @Sym.arg S = @Sym.arg S') {ψ : Psi} : ∀ (cs : List CV) {l : List Value}, @zS S ψ cs l → @zS S' ψ cs l
  | [], _, h => (@zL S' _ _).2 ((@zL S _ _).1 h)
  | c :: cs, _, h => by
    obtain ⟨v, r, e, h1, h2⟩ := (@zX S _ _ _ _).1 h
    exact (@zX S' _ _ _ _).2 ⟨v, r, e, ko hv ha c h1, wO hv ha cs h2⟩
end
section
variable {S S' : Sym} (hv : @Sym.val S = @Sym.val S') (ha : @Sym.arg S = @Sym.arg S')
include hv ha
theorem zEZ {ψ : Psi} {ck : Nat → Nat} : ∀ {es : List CE} {l : List MapEntry}, @yD S ψ ck es l → @yD S' ψ ck es l
  | [], _, h => h
  | c :: cs, _, ⟨e, r, h0, ⟨h1, h2, h3⟩, h4⟩ => ⟨e, r, h0, ⟨ko hv ha _ h1, ko hv ha _ h2, h3⟩, zEZ h4⟩
theorem zOu {ψ : Psi} {w : World} {p : Pl} : ∀ {o : CObj}, @xE S ψ w p o → @xE S' ψ w p o
  | .cells _, ⟨a, e, f, h1, h2, h3, h4, h5⟩ => ⟨a, e, f, h1, h2, h3, h4, fun i c hc => let ⟨x, g1, g2⟩ := h5 i c hc; ⟨x, g1, ko hv ha _ g2⟩⟩
  | .ro _, ⟨a, e, f, h1, h2, h3, h5⟩ => ⟨a, e, f, h1, h2, h3, fun i c hc => let ⟨x, g1, g2⟩ := h5 i c hc; ⟨x, g1, ko hv ha _ g2⟩⟩
  | .map _ _, ⟨arr, h1, ⟨l, hp, h2⟩, h3⟩ => ⟨arr, h1, ⟨l, hp, zEZ hv ha h2⟩, h3⟩
  | .striter _ _, h => h
  | .full _ _, ⟨a, e, f, h1, h2, h3, h4, h5⟩ => ⟨a, e, f, h1, h2, h3, h4, fun i c hc => let ⟨x, g1, g2⟩ := h5 i c hc; ⟨x, g1, ko hv ha _ g2⟩⟩
  | .mapiter _ _ _ _, h => h
theorem zP9 {ψ : Psi} {g : Fam} {w : World} (h : @Rel S ψ g w) : @Rel S' ψ g w :=
  @Rel.mk S' _ _ _ (fun k o p h1 h2 => zOu hv ha (@Rel.on S _ _ _ h k o p h1 h2)) (@Rel.tot S _ _ _ h) (@Rel.inj S _ _ _ h)
theorem zQI {F N : Nat} {ψ : Psi} {tm : Tm} {h : Heap} {n : Key} {a : Act} {w : World} (hs : @St S P F N ψ tm [] h n a w) : @St S' P F N ψ tm [] h n a w := by
  have hf := @St.frame S _ _ _ _ _ _ _ _ _ _ hs
  refine @St.mk S' P F N _ _ _ _ _ _ _ ?_ ?_ (zP9 hv ha (@St.rel S _ _ _ _ _ _ _ _ _ _ hs)) (@St.glob S _ _ _ _ _ _ _ _ _ _ hs) (@St.fresh S _ _ _ _ _ _ _ _ _ _ hs)
  · exact @yq.mk S' _ _ _ _ _ (@yq.size S _ _ _ _ _ hf) fun t h1 h2 h3 => ko hv ha _ (@yq.tmp S _ _ _ _ _ hf t h1 h2 h3)
  · have := @St.dfr S _ _ _ _ _ _ _ _ _ _ hs
    exact this
end
inductive CT where
  | leaf
  | cmp (l : LL) (cut : Int) (a b : CT)
def zPV (K : zY) (q : LL × Int × Int) : zY := ⟨K.b, q :: K.f, K.rules, K.arg⟩
def zP8 : List (Int × Int) → Nat → Int × Int → List (Int × Int)
  | [], _, _ => []
  | _ :: l, 0, q => q :: l
  | p :: l, v + 1, q => p :: zP8 l v q
def zQ2 (K : zY) (v : Nat) (q : Int × Int) : zY := ⟨zP8 K.b v q, K.f, K.rules, K.arg⟩
def zJm (K : zY) (l : LL) (q : Int × Int) : zY := match l with
  | [(v, z)] => match yy z 1 with
    | true => zQ2 K v q
    | false => zPV K (l, q.1, q.2)
  | _ => zPV K (l, q.1, q.2)
def jr : CT → zY → List zY
  | .leaf, K => [K]
  | .cmp l cut a b, K => match rng K l with
    | some q => jr a (zJm K l (q.1, min q.2 (cut - 1))) ++ jr b (zJm K l (max q.1 cut, q.2))
    | none => [K]
theorem zH9 {v : Nat} {q : Int × Int} : ∀ {l : List (Int × Int)} {v i : Nat} {x : Int × Int}, nth (zP8 l v q) i = some x → (i = v ∧ x = q) ∨ nth l i = some x
  | [], _, _, _, h => .inr h
  | _ :: l, 0, 0, x, h => by injection h with h; exact .inl ⟨rfl, h.symm⟩
  | _ :: l, 0, i + 1, x, h => .inr h
  | p :: l, v + 1, 0, x, h => .inr h
  | p :: l, v + 1, i + 1, x, h => by
    rcases zH9 (v := v) (l := l) (i := i) h with ⟨h1, h2⟩ | h
    · exact .inl ⟨by omega, h2⟩
    · exact .inr h
theorem zKM {σ : Nat → Int} {K : zY} {q : LL × Int × Int} (h : KnownOk σ K) (hq : q.2.1 ≤ evL σ q.1 ∧ evL σ q.1 ≤ q.2.2) : KnownOk σ (zPV K q) :=
  ⟨h.b, fun x hx => by
    rcases List.mem_cons.1 hx with rfl | hx
    · exact hq
    · exact h.f x hx, h.rules⟩
theorem zKO {σ : Nat → Int} {K : zY} {l : LL} {q : Int × Int} (h : KnownOk σ K) (hq : q.1 ≤ evL σ l ∧ evL σ l ≤ q.2) : KnownOk σ (zJm K l q) := by
  unfold zJm
  split
  · rename_i v z
    split
    · rename_i hz
      rw [@zk zZ, decide_eq_true_eq] at hz
      subst hz
      have e : evL σ [(v, 1)] = σ v := by show 1 * σ v + 0 = _; omega
      rw [e] at hq
      refine ⟨fun i x hx => ?_, h.f, h.rules⟩
      rcases zH9 (v := v) hx with ⟨rfl, rfl⟩ | hx
      · exact hq
      · exact h.b i x hx
    · exact zKM (q := (_, q.1, q.2)) h hq
  · exact zKM (q := (_, q.1, q.2)) h hq
theorem zHN {K : zY} {l : LL} {q : Int × Int} : (zJm K l q).arg = K.arg := by
  unfold zJm
  split
  · split <;> rfl
  · rfl
theorem uU {σ : Nat → Int} : ∀ (t : CT) {K : zY}, KnownOk σ K → ∃ K', K' ∈ jr t K ∧ KnownOk σ K' ∧ K'.arg = K.arg
  | .leaf, K, h => ⟨K, by simp [jr], h, rfl⟩
  | .cmp l cut a b, K, h => by
    unfold jr
    split
    · rename_i q hq
      obtain ⟨g1, g2⟩ := yr h hq
      by_cases hc : evL σ l < cut
      · obtain ⟨K', m, h1, h2⟩ := uU a (zKO (l := l) (q := (q.1, min q.2 (cut - 1))) h ⟨g1, by simp only; omega⟩)
        exact ⟨K', List.mem_append_left _ m, h1, h2.trans zHN⟩
      · obtain ⟨K', m, h1, h2⟩ := uU b (zKO (l := l) (q := (max q.1 cut, q.2)) h ⟨by simp only; omega, g2⟩)
        exact ⟨K', List.mem_append_right _ m, h1, h2.trans zHN⟩
    · exact ⟨K, by simp, h, rfl⟩
def atC : List Stp → Code → Option Code
  | [], c => some c
  | .l :: p, .seq x _ => atC p x
  | .r :: p, .seq _ y => atC p y
  | .b :: p, .block _ x => atC p x
  | _, _ => none
def zAY : List Stp → CCode → CCode
  | [], .seq a _ => a
  | .l :: p, .seq a _ => zAY p a
  | .r :: p, .seq _ b => zAY p b
  | .b :: p, .block _ x => zAY p x
  | _, _ => .bad 52
def qw : List Stp → CCode → CCode
  | [], .seq _ b => b
  | .l :: p, .seq a _ => qw p a
  | .r :: p, .seq _ b => qw p b
  | .b :: p, .block _ x => qw p x
  | _, _ => .bad 53
theorem jI {F N : Nat} : ∀ {p : List Stp} {c a b : Code}, atC p c = some (.seq a b) → zAY p (zG P F N c) = zG P F N a ∧ qw p (zG P F N c) = zG P F N b
  | [], c, a, b, h => by
    injection h with h; subst h; exact ⟨rfl, rfl⟩
  | .l :: p, c, a, b, h => by
    cases c <;> first | exact jI (p := p) h | cases h
  | .r :: p, c, a, b, h => by
    cases c <;> first | exact jI (p := p) h | cases h
  | .b :: p, c, a, b, h => by
    cases c <;> first | exact jI (p := p) h | cases h
theorem zC8 {q : List Stp} {bl : Code} : ∀ {p : List Stp} {c a b : Code}, atC p c = some (.seq a b) → zAd (p ++ .l :: q) c = some bl → zAd q a = some bl
  | [], c, a, b, h, hs => by
    injection h with h; subst h; exact hs
  | .l :: p, c, a, b, h, hs => by
    cases c <;> first | exact zC8 (p := p) h hs | cases h
  | .r :: p, c, a, b, h, hs => by
    cases c <;> first | exact zC8 (p := p) h hs | cases h
  | .b :: p, c, a, b, h, hs => by
    cases c <;> first | exact zC8 (p := p) h hs | cases h
theorem wR : ∀ {p : List Stp} {c x : Code}, atC p c = some x → zi c = true → zi x = true
  | [], c, x, h, hn => by
    injection h with h; subst h; exact hn
  | .l :: p, c, x, h, hn => by
    cases c <;> try (cases h; done)
    rename_i y z
    have hnr : zi y = true ∧ zi z = true := by simpa [zi] using hn
    exact wR (p := p) h hnr.1
  | .r :: p, c, x, h, hn => by
    cases c <;> try (cases h; done)
    rename_i y z
    have hnr : zi y = true ∧ zi z = true := by simpa [zi] using hn
    exact wR (p := p) h hnr.2
  | .b :: p, c, x, h, hn => by
    cases c <;> first | exact wR (p := p) h hn | cases h
theorem zHK {q : List Stp} : ∀ {p : List Stp} {c a b : Code} {Q : Exit → Act → World → Prop}, atC p c = some (.seq a b) → QH P (p ++ .l :: q) c Q = QH P q a (Exit.then (b.wp P (QH P p c Q)) (QH P p c Q))
  | [], c, a, b, Q, h => by
    injection h with h; subst h; rfl
  | .l :: p, c, a, b, Q, h => by
    cases c <;> try (cases h; done)
    rename_i y z
    exact zHK (p := p) (Q := Exit.then (z.wp P Q) Q) h
  | .r :: p, c, a, b, Q, h => by
    cases c <;> try (cases h; done)
    exact zHK (p := p) h
  | .b :: p, c, a, b, Q, h => by
    cases c <;> try (cases h; done)
    exact zHK (p := p) h
section
variable [Sym] [SymFact P] {F N : Nat} {call : yI}
theorem uL (hcall : yN P call) (hdraw : qC P F N call) {ψ₀ : Psi} {g₀ : Fam} {n₀ : Key} {w₀ : World} : ∀ (p : List Stp) (c : Code) {x : Code} {Q : Exit → Act → World → Prop} {r : R} {e : Exit} {a : Act} {w : World},
    atC p c = some x → zi c = true → ya P F N ψ₀ g₀ n₀ w₀ r e a w → zW (qM P call p (zG P F N c) r) →
    (∀ e a w, ya P F N ψ₀ g₀ n₀ w₀ (qM P call p (zG P F N c) r) e a w → Q e a w) → QH P p c Q e a w
  | [], c, x, Q, r, e, a, w, hs, hn, ho, hc, hq => by
    cases c <;> exact hq e a w ho
  | .l :: p, c, b, Q, r, e, a, w, hs, hn, ho, hc, hq => by
    cases c <;> try (cases hs; done)
    rename_i x y
    have hnr : zi x = true ∧ zi y = true := by simpa [zi] using hn
    have hc : zW (xZ (zd P call (zG P F N y)) (qM P call p (zG P F N x) r)) := hc
    have hab := fun tm ds h n => yM (P := P) hcall.above (zG P F N y) tm ds h n
    refine uL hcall hdraw p x (Q := Exit.then (y.wp P Q) Q) hs hnr.1 ho (xG hab hc) fun e a w ho => ?_
    rcases qi hc ho with ⟨rfl, tm', ds', h', n', ψ', h2, h3, h4, h5⟩ | ⟨h1, h2⟩
    · exact wp_mono (qt hcall hdraw y hnr.2 h2 h4) fun e'' a'' w'' ho' => hq e'' a'' w'' (h5 e'' a'' w'' (ya.trans h3 ho'))
    · cases e <;> first | exact absurd rfl h1 | exact hq _ _ _ h2
  | .r :: p, c, b, Q, r, e, a, w, hs, hn, ho, hc, hq => by
    cases c <;> try (cases hs; done)
    rename_i x y
    have hnr : zi x = true ∧ zi y = true := by simpa [zi] using hn
    exact uL hcall hdraw p y (Q := Q) hs hnr.2 ho hc hq
  | .b :: p, c, b, Q, r, e, a, w, hs, hn, ho, hc, hq => by
    cases c <;> try (cases hs; done)
    rename_i id x
    have hc : zW (wG id (qM P call p (zG P F N x) r)) := hc
    refine uL hcall hdraw p x (Q := Exit.inBlock id Q) hs hn ho (qE id hc) fun e a w ho => ?_
    exact kb (fun e a w h => hq e a w h) ho
end
def vQ (Q : R → Prop) : R → Prop
  | .fork a b => vQ Q a ∧ vQ Q b
  | r => Q r
theorem w6 {Q : R → Prop} : ∀ (t : FT) (r : R), (∀ p ∈ t.paths, vQ Q (zCr p r)) → vQ Q r
  | .leaf, r, h => h [] (by simp [FT.paths])
  | .node a b, r, h => by
    have other : (∀ p, zCr (false :: p) r = r) → vQ Q r := by
      intro e
      obtain ⟨p, hp⟩ := FT.some a
      have := h (false :: p) (by simp [FT.paths, hp])
      rwa [e] at this
    cases r with
    | fork x y =>
      exact ⟨w6 a x fun p hp => h (false :: p) (by simp [FT.paths, hp]), w6 b y fun p hp => h (true :: p) (by simp [FT.paths, hp])⟩
    | ok e tm ds h n => exact other fun _ => rfl
    | ret v h n => exact other fun _ => rfl
    | err c => exact other fun _ => rfl
section
variable {code : FuncId → CFn} {nat : Nats} {fuel : Nat}
def zDY (P : Program) (S : Sym) (call : yI) : Nat → CCode → R → R
  | 0, _, r => r
  | j + 1, .seq x y, r => zDY P S call j y (xZ (@zd S P call x) r)
  | _, _, _ => .err 332
def zDh : Nat → CCode → CCode
  | 0, c => c
  | j + 1, .seq _ y => zDh j y
  | _, _ => .bad 54
def zEf (P : Program) (code : FuncId → CFn) (nat : Nats) (fuel : Nat) (pre : List Stp) (j : Nat) (cc : CCode) (rs : List CRes) (S : Sym) (r : R) : Bool := match r with
  | .ok .normal tm [] h n => allTrue (yX false (@ev S P code nat fuel) rs (@qM S P (@ev S P code nat fuel) pre cc (@zd S P (@ev S P code nat fuel) (zDh j (qw pre cc)) tm [] h n)))
  | _ => false
def ul (q : zY → Bool) : List zY → Bool
  | [] => true
  | K :: l => q K && ul q l
theorem zFF {q : zY → Bool} : ∀ {l : List zY}, ul q l = true → ∀ K ∈ l, q K = true
  | [], _, K, hK => by cases hK
  | x :: l, h, K, hK => by
    unfold ul at h
    rw [Bool.and_eq_true] at h
    rcases List.mem_cons.1 hK with rfl | hK
    · exact h.1
    · exact zFF h.2 K hK
def zG6 (P : Program) (code : FuncId → CFn) (nat : Nats) (fuel : Nat) (pre : List Stp) (j : Nat) (cc : CCode) (rs : List CRes) (t : CT) (s : Nat → Int) (K : zY) (r : R) : Bool :=
  ul (fun K' => zEf P code nat fuel pre j cc rs (linSym s K') r) (jr t K)
def xe (q : List Bool → Bool) : List (List Bool) → Bool
  | [] => true
  | p :: l => q p && xe q l
theorem vd {q : List Bool → Bool} : ∀ {l : List (List Bool)}, xe q l = true → ∀ p ∈ l, q p = true
  | [], _, p, hp => by cases hp
  | x :: l, h, p, hp => by
    unfold xe at h
    rw [Bool.and_eq_true] at h
    rcases List.mem_cons.1 hp with rfl | hp
    · exact h.1
    · exact vd h.2 p hp
def zGE (P : Program) (code : FuncId → CFn) (nat : Nats) (fuel : Nat) (pre q : List Stp) (j : Nat) (cc : CCode) (rs : List CRes) (ft : FT) (ct : List Bool → CT) (s : Nat → Int) (K : zY) (r : R) : Bool :=
  xe (fun p => zG6 P code nat fuel pre j cc rs (ct p) s K (zCr p (zDY P (linSym s K) (@ev (linSym s K) P code nat fuel) j (qw pre cc) (@qM (linSym s K) P (@ev (linSym s K) P code nat fuel) q (zAY pre cc) r)))) ft.paths
def jV (P : Program) (code : FuncId → CFn) (nat : Nats) (fuel : Nat) (pre : List Stp) (j : Nat) (cc : CCode) (rs : List CRes) (s : Nat → Int) (K : zY) (r : R) : Prop :=
  ∃ tm h n, r = .ok .normal tm [] h n ∧ ∃ t : CT, ∀ K' ∈ jr t K, allTrue (yX false (@ev (linSym s K') P code nat fuel) rs (@qM (linSym s K') P (@ev (linSym s K') P code nat fuel) pre cc
    (@zd (linSym s K') P (@ev (linSym s K') P code nat fuel) (zDh j (qw pre cc)) tm [] h n))) = true
theorem zIp {S : Sym} {pre : List Stp} {j : Nat} {cc : CCode} {rs : List CRes} {r : R} (h : zEf P code nat fuel pre j cc rs S r = true) : ∃ tm h n, r = .ok .normal tm [] h n := by
  unfold zEf at h
  split at h
  · exact ⟨_, _, _, rfl⟩
  · cases h
theorem zFz : ∀ (t : CT) (K : zY), ∃ K', K' ∈ jr t K
  | .leaf, K => ⟨K, by simp [jr]⟩
  | .cmp l cut a b, K => by
    unfold jr
    split
    · obtain ⟨K', h⟩ := zFz a (zJm K l _)
      exact ⟨K', List.mem_append_left _ h⟩
    · exact ⟨K, by simp⟩
theorem zCA {pre : List Stp} {j : Nat} {cc : CCode} {rs : List CRes} {t : CT} {s : Nat → Int} {K : zY} {r : R} (h : zG6 P code nat fuel pre j cc rs t s K r = true) : vQ (jV P code nat fuel pre j cc rs s K) r := by
  have h1 := zFF h
  obtain ⟨K0, h0⟩ := zFz t K
  obtain ⟨tm, hh, n, rfl⟩ := zIp (h1 K0 h0)
  exact ⟨tm, hh, n, rfl, t, fun K' hK' => h1 K' hK'⟩
theorem zAU {pre q : List Stp} {j : Nat} {cc : CCode} {rs : List CRes} {ft : FT} {ct : List Bool → CT} {s : Nat → Int} {K : zY} {r : R} (h : zGE P code nat fuel pre q j cc rs ft ct s K r = true) :
    vQ (jV P code nat fuel pre j cc rs s K) (zDY P (linSym s K) (@ev (linSym s K) P code nat fuel) j (qw pre cc) (@qM (linSym s K) P (@ev (linSym s K) P code nat fuel) q (zAY pre cc) r)) :=
  w6 ft _ fun p hp => zCA (vd h p hp)
section
variable {σ : Nat → Int} {K : zY} {fn : Func} {c a b bl : Code} {pre q : List Stp} {j : Nat} {rs : List CRes} {F N : Nat} {w0 : World}
theorem kH (hK : KnownOk σ K) (hm : P.follows .mixedOrders = true) (hcode : CodeOk P code) (hnat : ∀ σ K, KnownOk σ K → @NatsOk (linSym σ K) P nat) {cc : CCode} : ∀ {r : R}, vQ (jV P code nat fuel pre j cc rs σ K) r → zW r
  | .ok e tm ds h n, hl => by
    obtain ⟨tm', h', n', e1, t, h1⟩ := hl
    injection e1 with e1 e2 e3 e4 e5
    subst e5
    obtain ⟨K', hm', hK', _⟩ := uU t hK
    have h2 := h1 K' hm'
    letI S : Sym := linSym σ K'
    haveI hS : SymFact P := ye hK'
    have hcall : yN P (ev P code nat fuel) := jb (fun call hcall F N => yW hm hcall) hcode (hnat _ _ hK') fuel
    have h3 := xq hcall.above pre cc (yp hcall.above false rs (xR h2))
    exact kr h3 (yM hcall.above (zDh j (qw pre cc)) tm' [] h' n)
  | .ret .., hl => by obtain ⟨_, _, _, e1, _⟩ := hl; cases e1
  | .err _, hl => by obtain ⟨_, _, _, e1, _⟩ := hl; cases e1
  | .fork x y, hl => ⟨kH hK hm hcode hnat hl.1, kH hK hm hcode hnat hl.2⟩
theorem zG7 {S : Sym} {cc : CCode} {ψ₀ : Psi} {g₀ : Fam} {n₀ : Key} {w₀ : World} {e : Exit} {ac : Act} {w : World} : ∀ {r : R}, vQ (jV P code nat fuel pre j cc rs σ K) r → @ya S P F N ψ₀ g₀ n₀ w₀ r e ac w →
    e = .normal ∧ ∃ tm h n ψ, @St S P F N ψ tm [] h n ac w ∧ @zq S ψ₀ g₀ n₀ w₀ ψ (Heap.fam h) n w ∧ jV P code nat fuel pre j cc rs σ K (.ok .normal tm [] h n)
  | .ok e' tm ds h n, hl, ⟨h1, ψ, h2, h3, _⟩ => by
    have hl : jV P code nat fuel pre j cc rs σ K (.ok e' tm ds h n) := hl
    have hl' := hl
    obtain ⟨tm', h', n', e1, _⟩ := hl'
    injection e1 with e1 e2 e3 e4 e5
    subst e1 e3
    cases e <;> first | exact h1.elim | skip
    exact ⟨rfl, tm, h, n, ψ, h2, h3, hl⟩
  | .ret .., hl, _ => by obtain ⟨_, _, _, e1, _⟩ := hl; cases e1
  | .err _, hl, _ => by obtain ⟨_, _, _, e1, _⟩ := hl; cases e1
  | .fork x y, hl, ho => by
    rcases ho with ho | ho
    · exact zG7 hl.1 ho
    · exact zG7 hl.2 ho
theorem kX [Sym] [SymFact P] {call : yI} (hcall : ym call) : ∀ (j : Nat) (c : CCode) {r : R}, zW (zDY P ‹Sym› call j c r) → zW r
  | 0, _, _, h => h
  | j + 1, c, r, h => by
    cases c <;> first | exact xG (fun tm ds h n => yM hcall _ tm ds h n) (kX hcall j _ h) | exact h.elim
theorem zNB [Sym] [SymFact P] {call : yI} {j : Nat} {c : CCode} {r : R} (h : zW (zDY P ‹Sym› call (j + 1) c r)) : ∃ a b, c = .seq a b := by
  cases c <;> first | exact ⟨_, _, rfl⟩ | exact (show False from h).elim
theorem zNX {F N : Nat} {y : Code} {a b : CCode} (h : zG P F N y = .seq a b) : ∃ x z, y = .seq x z := by
  cases y with
  | seq x z => exact ⟨x, z, rfl⟩
  | region id ops dr =>
    cases dr with
    | false => cases h
    | true =>
      have h : zBx P F N ops.toList = .seq a b := h
      unfold zBx at h
      simp only at h
      by_cases hd : zAb P ops.toList (jz [] ops.toList) (zGR P ops.toList (jz [] ops.toList)) = true
      · rw [if_pos hd] at h; cases h
      · rw [if_neg hd] at h; cases h
  | cond c t e =>
    unfold zG at h
    split at h <;> cases h
  | _ => cases h
theorem zER (hK : KnownOk σ K) (hm : P.follows .mixedOrders = true) (hcode : CodeOk P code) (hnat : ∀ σ K, KnownOk σ K → @NatsOk (linSym σ K) P nat) {cc : CCode} {ft : FT} {ct : List Bool → CT} {r : R} (h : zGE P code nat fuel pre q j cc rs ft ct σ K r = true) : zW r := by
  have hl := kH hK hm hcode hnat (zAU h)
  letI S : Sym := linSym σ K
  haveI hS : SymFact P := ye hK
  have hcall : yN P (ev P code nat fuel) := jb (fun call hcall F N => yW hm hcall) hcode (hnat _ _ hK) fuel
  exact xq hcall.above q (zAY pre cc) (kX hcall.above j _ hl)
theorem zGa (hK : KnownOk σ K) (hm : P.follows .mixedOrders = true) (hcode : CodeOk P code) (hnat : ∀ σ K, KnownOk σ K → @NatsOk (linSym σ K) P nat) (hat : atC pre c = some (.seq a b)) (hn : zi c = true)
    (hrs : yo (xD P F N) fn.results.toList = some rs) {ψ₀ : Psi} {g₀ : Fam} {n₀ : Key} {w₀ : World} {r : R} {e : Exit} {ac : Act} {w : World}
    (ho : @ya (linSym σ K) P F N ψ₀ g₀ n₀ w₀ r e ac w) (hlf : vQ (jV P code nat fuel pre j (zG P F N c) rs σ K) (zDY P (linSym σ K) (@ev (linSym σ K) P code nat fuel) j (zG P F N b) r))
    (hb : Below w0.heap.size w0 w₀) (ho0 : ∀ k o p, g₀ k = some o → o.isRo = false → ψ₀ k = some p → w0.heap.size ≤ p.blk) : Exit.then (b.wp P (QH P pre c (zAg P fn w0))) (QH P pre c (zAg P fn w0)) e ac w := by
  obtain ⟨hl, hr⟩ := jI (P := P) (F := F) (N := N) hat
  have hnab : zi a = true ∧ zi b = true := by
    have := wR hat hn
    simpa [zi] using this
  have hstep : ∀ (e : Exit) (ac : Act) (w : World), (e = .normal ∧ ∃ tm h n ψ, @St (linSym σ K) P F N ψ tm [] h n ac w ∧ @zq (linSym σ K) ψ₀ g₀ n₀ w₀ ψ (Heap.fam h) n w ∧ jV P code nat fuel pre j (zG P F N c) rs σ K (.ok .normal tm [] h n)) →
      ∀ y : Code, zDh j (qw pre (zG P F N c)) = zG P F N y → zi y = true → Exit.then (y.wp P (QH P pre c (zAg P fn w0))) (QH P pre c (zAg P fn w0)) e ac w := by
    intro e ac w hh y hy hny
    obtain ⟨rfl, tm, h, n, ψ, hst, hpost, hleaf⟩ := hh
    show y.wp P (QH P pre c (zAg P fn w0)) ac w
    obtain ⟨tm', h', n', e1, t, hall⟩ := hleaf
    injection e1 with e1 e2 e3 e4 e5
    subst e2 e4 e5
    obtain ⟨K', hm', hK', hA⟩ := uU t hK
    have htrue := hall K' hm'
    have hst' : @St (linSym σ K') P F N ψ tm [] h n ac w := zQI (S := linSym σ K) (S' := linSym σ K') rfl (by show K.arg = K'.arg; rw [hA]) hst
    have hb2 : Below w0.heap.size w0 w := zBj hb hpost ho0
    have ho2 : ∀ k o p, Heap.fam h k = some o → o.isRo = false → ψ k = some p → w0.heap.size ≤ p.blk := by
      intro k o p g1 g2 g3
      rcases @zq.img (linSym σ K) _ _ _ _ _ _ _ _ hpost k o p g1 g2 g3 with ⟨k0, o0, p0, r1, r2, r3, r4⟩ | r
      · rw [← r4]; exact ho0 k0 o0 p0 r1 r2 r3
      · exact Nat.le_trans hb.size r
    letI S : Sym := linSym σ K'
    haveI hS : SymFact P := ye hK'
    have hcall : yN P (ev P code nat fuel) := jb (fun call hcall F N => yW hm hcall) hcode (hnat _ _ hK') fuel
    have hdraw : qC P F N (ev P code nat fuel) := yW hm hcall
    rw [hy] at htrue
    have hc := xR htrue
    have hc2 := yp hcall.above false rs hc
    have hc3 := xq hcall.above pre _ hc2
    refine wp_mono (qt hcall hdraw y hny hst' hc3) fun e ac w ho => ?_
    refine uL hcall hdraw pre c hat hn ho hc2 fun e ac w ho => ?_
    refine jQ false rs hc ho fun tm ds h' n' ψ' q1 q2 q3 q4 q5 => ?_
    have hl := zBz hcall hrs q2 q4
    have : Leaves P fn ac.tmps (fun e w => e = .returned (.bool true) ∧ Below w0.heap.size w0 w) ac.defers .returning w := by
      refine qH (fun e w'' ⟨v, he, hr⟩ => ?_) _ _ _ hl
      obtain ⟨rfl, ψ'', g'', n'', hp⟩ := jg htrue (q5 _ _ (zf.trans q3 hr))
      exact ⟨he, zBj hb2 hp ho2⟩
    rcases q1 with rfl | rfl
    · exact this
    · exact this
  letI S : Sym := linSym σ K
  haveI hS : SymFact P := ye hK
  have hcall : yN P (ev P code nat fuel) := jb (fun call hcall F N => yW hm hcall) hcode (hnat _ _ hK) fuel
  have hdraw : qC P F N (ev P code nat fuel) := yW hm hcall
  have steps : ∀ (i : Nat) (y : Code) {r0 : R}, zDh i (zG P F N y) = zDh j (qw pre (zG P F N c)) → zi y = true → vQ (jV P code nat fuel pre j (zG P F N c) rs σ K) (zDY P S (ev P code nat fuel) i (zG P F N y) r0) →
      ∀ (e : Exit) (ac : Act) (w : World), ya P F N ψ₀ g₀ n₀ w₀ r0 e ac w → Exit.then (y.wp P (QH P pre c (zAg P fn w0))) (QH P pre c (zAg P fn w0)) e ac w := by
    intro i
    induction i with
    | zero =>
      intro y r0 hy hny hlf e ac w ho
      exact hstep e ac w (zG7 hlf ho) y hy.symm hny
    | succ i ih =>
      intro y r0 hy hny hlf e ac w ho
      have hcl := kH hK hm hcode hnat hlf
      obtain ⟨a', b', hs⟩ := zNB hcl
      obtain ⟨x, z, rfl⟩ := zNX hs
      clear hs
      have hnr : zi x = true ∧ zi z = true := by simpa [zi] using hny
      have hcl1 : zW (xZ (zd P (ev P code nat fuel) (zG P F N x)) r0) := kX hcall.above i (zG P F N z) hcl
      rcases qi hcl1 ho with ⟨rfl, tm', ds', h', n', ψ', h2, h3, h4, h5⟩ | ⟨h1, h2⟩
      · show (Code.seq x z).wp P _ ac w
        exact wp_seq (wp_mono (qt hcall hdraw x hnr.1 h2 h4) fun e'' a'' w'' ho' => ih z hy hnr.2 hlf e'' a'' w'' (h5 e'' a'' w'' (ya.trans h3 ho')))
      · have := ih z hy hnr.2 hlf e ac w h2
        cases e <;> first | exact absurd rfl h1 | exact this
  exact steps j b (by rw [hr]) hnab.2 hlf e ac w ho
theorem zId (hK : KnownOk σ K) (hm : P.follows .mixedOrders = true) (hcode : CodeOk P code) (hnat : ∀ σ K, KnownOk σ K → @NatsOk (linSym σ K) P nat) (hat : atC pre c = some (.seq a b)) (hsub : zAd (pre ++ .l :: q) c = some bl) (hn : zi c = true)
    (hrs : yo (xD P F N) fn.results.toList = some rs) {ft : FT} {ct : List Bool → CT} {ψ₀ : Psi} {g₀ : Fam} {n₀ : Key} {w₀ : World} {r : R} {e : Exit} {ac : Act} {w : World}
    (ho : @ya (linSym σ K) P F N ψ₀ g₀ n₀ w₀ r e ac w) (hf : zGE P code nat fuel pre q j (zG P F N c) rs ft ct σ K r = true)
    (hb : Below w0.heap.size w0 w₀) (ho0 : ∀ k o p, g₀ k = some o → o.isRo = false → ψ₀ k = some p → w0.heap.size ≤ p.blk) : QH P (pre ++ .l :: q) c (zAg P fn w0) e ac w := by
  rw [zHK hat]
  obtain ⟨hl, hr⟩ := jI (P := P) (F := F) (N := N) hat
  have hlf := zAU hf
  have hnab : zi a = true ∧ zi b = true := by
    have := wR hat hn
    simpa [zi] using this
  have hsubA := zC8 hat hsub
  letI S : Sym := linSym σ K
  haveI hS : SymFact P := ye hK
  have hcall : yN P (ev P code nat fuel) := jb (fun call hcall F N => yW hm hcall) hcode (hnat _ _ hK) fuel
  have hdraw : qC P F N (ev P code nat fuel) := yW hm hcall
  rw [hl, hr] at hlf
  have hcl2 := kX hcall.above j _ (kH hK hm hcode hnat hlf)
  exact wj hcall hdraw q a hsubA hnab.1 ho hcl2 fun e ac w ho => zGa hK hm hcode hnat hat hn hrs ho hlf hb ho0
end
end
end
end Go.Ev

namespace Go.Ev
open Go.RowKit
noncomputable section
variable {P : Program}
structure HA where
  f : List Key
  b : List Key
  c : Nat
  th : List (Nat × Int × LL)
def zQb (k j : Key) (a : HA) : HA := match Nat.beq k.ix a.c with
  | true => ⟨a.f, j :: a.b, Nat.succ a.c, a.th⟩
  | false => a
def zQv (z : Int) : LL → LL
  | [] => []
  | p :: r => (p.1, p.2 / z) :: zQv z r
def zQT (e : SE) (v : CV) (a : HA) : HA := match e.l with
  | [(j, z)] => match yy z 1 with
    | true => match zCK v with
      | some (_, c, l) => ⟨a.f, a.b, a.c, (j, c - e.c, l) :: a.th⟩
      | none => a
    | false => match zCK v with
      | some (_, c, l) => ⟨a.f, a.b, a.c, (j, (c - e.c) / z, zQv z l) :: a.th⟩
      | none => a
  | _ => a
def hV (c : CV) : CV → HA → HA := CV.rec (motive_1 := fun _ => CV → HA → HA) (motive_2 := fun _ => List CV → HA → HA)
  (fun x0 d a => a)
  (fun x0 d a => a)
  (fun x0 x1 d a => a)
  (fun x0 d a => a)
  (fun x0 d a => a)
  (fun d a => a)
  (fun x0 x1 d a => (CV.rec (motive_1 := fun _ => HA → HA) (motive_2 := fun _ => Unit) (fun _ => (fun a => a)) (fun _ => (fun a => a)) (fun _ _ => (fun a => a)) (fun _ => (fun a => a)) (fun _ => (fun a => a)) (fun a => a) (fun y0 y1 => (fun a => zQb x0 y0 a)) (fun a => a) (fun _ _ _ _ _ _ => (fun a => a)) (fun a => a) (fun _ => (fun a => a)) (fun _ _ _ _ _ => (fun a => a)) (fun a => a) (fun _ _ _ => (fun a => a)) (fun a => a) (fun _ _ => (fun a => a)) (fun _ _ => (fun a => a)) (fun _ => (fun a => a)) (fun _ _ _ _ => (fun a => a)) (fun _ _ => (fun a => a)) (fun _ => (fun a => a)) (fun a => a) () (fun _ _ _ _ => ()) d) a)
  (fun d a => a)
  (fun x0 x1 x2 x3 x4 x5 d a => (CV.rec (motive_1 := fun _ => HA → HA) (motive_2 := fun _ => Unit) (fun _ => (fun a => a)) (fun _ => (fun a => a)) (fun _ _ => (fun a => a)) (fun _ => (fun a => a)) (fun _ => (fun a => a)) (fun a => a) (fun _ _ => (fun a => a)) (fun a => a) (fun y0 y1 y2 y3 y4 y5 => (fun a => zQb x0 y0 a)) (fun a => a) (fun _ => (fun a => a)) (fun _ _ _ _ _ => (fun a => a)) (fun a => a) (fun _ _ _ => (fun a => a)) (fun a => a) (fun _ _ => (fun a => a)) (fun _ _ => (fun a => a)) (fun _ => (fun a => a)) (fun _ _ _ _ => (fun a => a)) (fun _ _ => (fun a => a)) (fun _ => (fun a => a)) (fun a => a) () (fun _ _ _ _ => ()) d) a)
  (fun d a => a)
  (fun x0 d a => (CV.rec (motive_1 := fun _ => HA → HA) (motive_2 := fun _ => Unit) (fun _ => (fun a => a)) (fun _ => (fun a => a)) (fun _ _ => (fun a => a)) (fun _ => (fun a => a)) (fun _ => (fun a => a)) (fun a => a) (fun _ _ => (fun a => a)) (fun a => a) (fun _ _ _ _ _ _ => (fun a => a)) (fun a => a) (fun y0 => (fun a => zQb x0 y0 a)) (fun _ _ _ _ _ => (fun a => a)) (fun a => a) (fun _ _ _ => (fun a => a)) (fun a => a) (fun _ _ => (fun a => a)) (fun _ _ => (fun a => a)) (fun _ => (fun a => a)) (fun _ _ _ _ => (fun a => a)) (fun _ _ => (fun a => a)) (fun _ => (fun a => a)) (fun a => a) () (fun _ _ _ _ => ()) d) a)
  (fun x0 x1 x2 ha hc d a => (CV.rec (motive_1 := fun _ => HA → HA) (motive_2 := fun _ => Unit) (fun _ => (fun a => a)) (fun _ => (fun a => a)) (fun _ _ => (fun a => a)) (fun _ => (fun a => a)) (fun _ => (fun a => a)) (fun a => a) (fun _ _ => (fun a => a)) (fun a => a) (fun _ _ _ _ _ _ => (fun a => a)) (fun a => a) (fun _ => (fun a => a)) (fun y0 y1 y2 _ _ => (fun a => hc y2 (ha y1 a))) (fun a => a) (fun _ _ _ => (fun a => a)) (fun a => a) (fun _ _ => (fun a => a)) (fun _ _ => (fun a => a)) (fun _ => (fun a => a)) (fun _ _ _ _ => (fun a => a)) (fun _ _ => (fun a => a)) (fun _ => (fun a => a)) (fun a => a) () (fun _ _ _ _ => ()) d) a)
  (fun d a => a)
  (fun x0 x1 hv d a => (CV.rec (motive_1 := fun _ => HA → HA) (motive_2 := fun _ => Unit) (fun _ => (fun a => a)) (fun _ => (fun a => a)) (fun _ _ => (fun a => a)) (fun _ => (fun a => a)) (fun _ => (fun a => a)) (fun a => a) (fun _ _ => (fun a => a)) (fun a => a) (fun _ _ _ _ _ _ => (fun a => a)) (fun a => a) (fun _ => (fun a => a)) (fun _ _ _ _ _ => (fun a => a)) (fun a => a) (fun y0 y1 _ => (fun a => hv y1 a)) (fun a => a) (fun _ _ => (fun a => a)) (fun _ _ => (fun a => a)) (fun _ => (fun a => a)) (fun _ _ _ _ => (fun a => a)) (fun _ _ => (fun a => a)) (fun _ => (fun a => a)) (fun a => a) () (fun _ _ _ _ => ()) d) a)
  (fun d a => a)
  (fun x0 hl d a => (CV.rec (motive_1 := fun _ => HA → HA) (motive_2 := fun _ => Unit) (fun _ => (fun a => a)) (fun _ => (fun a => a)) (fun _ _ => (fun a => a)) (fun _ => (fun a => a)) (fun _ => (fun a => a)) (fun a => a) (fun _ _ => (fun a => a)) (fun a => a) (fun _ _ _ _ _ _ => (fun a => a)) (fun a => a) (fun _ => (fun a => a)) (fun _ _ _ _ _ => (fun a => a)) (fun a => a) (fun _ _ _ => (fun a => a)) (fun a => a) (fun y0 _ => (fun a => hl y0 a)) (fun _ _ => (fun a => a)) (fun _ => (fun a => a)) (fun _ _ _ _ => (fun a => a)) (fun _ _ => (fun a => a)) (fun _ => (fun a => a)) (fun a => a) () (fun _ _ _ _ => ()) d) a)
  (fun x0 hl d a => (CV.rec (motive_1 := fun _ => HA → HA) (motive_2 := fun _ => Unit) (fun _ => (fun a => a)) (fun _ => (fun a => a)) (fun _ _ => (fun a => a)) (fun _ => (fun a => a)) (fun _ => (fun a => a)) (fun a => a) (fun _ _ => (fun a => a)) (fun a => a) (fun _ _ _ _ _ _ => (fun a => a)) (fun a => a) (fun _ => (fun a => a)) (fun _ _ _ _ _ => (fun a => a)) (fun a => a) (fun _ _ _ => (fun a => a)) (fun a => a) (fun _ _ => (fun a => a)) (fun y0 _ => (fun a => hl y0 a)) (fun _ => (fun a => a)) (fun _ _ _ _ => (fun a => a)) (fun _ _ => (fun a => a)) (fun _ => (fun a => a)) (fun a => a) () (fun _ _ _ _ => ()) d) a)
  (fun x0 d a => zQT x0 d a)
  (fun x0 x1 x2 x3 d a => a)
  (fun x0 hl d a => (CV.rec (motive_1 := fun _ => HA → HA) (motive_2 := fun _ => Unit) (fun _ => (fun a => a)) (fun _ => (fun a => a)) (fun _ _ => (fun a => a)) (fun _ => (fun a => a)) (fun _ => (fun a => a)) (fun a => a) (fun _ _ => (fun a => a)) (fun a => a) (fun _ _ _ _ _ _ => (fun a => a)) (fun a => a) (fun _ => (fun a => a)) (fun _ _ _ _ _ => (fun a => a)) (fun a => a) (fun _ _ _ => (fun a => a)) (fun a => a) (fun _ _ => (fun a => a)) (fun _ _ => (fun a => a)) (fun _ => (fun a => a)) (fun _ _ _ _ => (fun a => a)) (fun y0 _ => (fun a => hl y0 a)) (fun _ => (fun a => a)) (fun a => a) () (fun _ _ _ _ => ()) d) a)
  (fun x0 d a => a)
  (fun d a => a)
  (fun _ a => a)
  (fun _ _ h g m a => List.rec (motive := fun _ => HA) a (fun b r _ => g r (h b a)) m) c
def hVs (l m : List CV) (a : HA) : HA := hV (.agg l) (.agg m) a
def hEs : List CE → List CE → HA → HA
  | x :: xs, y :: ys, a => hEs xs ys (hV x.val y.val (hV x.key y.key a))
  | _, _, a => a
def hO : CObj → CObj → HA → HA
  | .cells x, .cells y, a => hVs x y a
  | .cells x, .full _ y, a => hVs x y a
  | .map x _, .map y _, a => hEs x (zBS y) a
  | _, _, a => a
def hTm (tm : Tm) : List (Nat × CV) → HA → HA
  | [], a => a
  | p :: r, a => hTm tm r (hV p.2 (qK (Loc.ofNat p.1) tm) a)
def zRm (a : HA) : Option (Key × HA) := match a.f with
  | k :: r => some (k, ⟨r, a.b, a.c, a.th⟩)
  | [] => match a.b.reverse with
    | k :: r => some (k, ⟨r, [], a.c, a.th⟩)
    | [] => none
def zKV (h : Heap) : List (Key × CObj) → HA → List Key → List Key × HA
  | [], a, ks => (ks.reverse, a)
  | p :: r, a, ks => match zRm a with
    | none => (ks.reverse, a)
    | some (j, a) => match yK j h with
      | some o => zKV h r (hO p.2 o a) (j :: ks)
      | none => (ks.reverse, a)
def zPx (j : Nat) : List (Nat × Int × LL) → Int × LL
  | [] => (0, [(j, 1)])
  | q :: r => match Nat.beq q.1 j with
    | true => q.2
    | false => zPx j r
def hTh (th : List (Nat × Int × LL)) : List (Int × Int) → Nat → TH
  | [], _ => []
  | _ :: r, j => zPx j th :: hTh th r (Nat.succ j)
def zQu (T : TS) : Nat := match T.objs with
  | p :: _ => p.1.ix
  | [] => 0
def zBE {α : Type} : List α → (List α → Bool) → Bool
  | [], k => k []
  | x :: l, k => zBE l fun l' => k (x :: l')
theorem wX {α : Type} : ∀ {l : List α} {k : List α → Bool}, zBE l k = k l
  | [], _ => rfl
  | x :: l, k => wX (l := l)
def zDy (t : Nat) (T : TS) (tm : Tm) (h : Heap) (k : jx → Bool) : Bool := match zKV h T.objs (hTm tm T.locs ⟨[], [], zQu T, []⟩) [] with
  | (ks, a) => zBE ks fun ks => zBE (hTh a.th T.b 0) fun θ => k ⟨t, ks, θ⟩
theorem zEH {t : Nat} {T : TS} {tm : Tm} {h : Heap} {k : jx → Bool} (hh : zDy t T tm h k = true) : ∃ x, x.T = t ∧ k x = true := by
  unfold zDy at hh
  split at hh
  rw [wX, wX] at hh
  exact ⟨_, rfl, hh⟩
def zCM (a b : Bool) : Bool := Bool.rec (motive := fun _ => Bool) false b a
theorem ue {a b : Bool} : zCM a b = (a && b) := by cases a <;> rfl
def zPX (a b : Bool) : Bool := Bool.rec (motive := fun _ => Bool) (Bool.rec (motive := fun _ => Bool) true false b) b a
theorem zO6 {a b : Bool} : zPX a b = (a == b) := by cases a <;> cases b <;> rfl
def zP0 (ρ : Heap) (θ : TH) (c : CV) : CV → Bool := CV.rec (motive_1 := fun _ => CV → Bool) (motive_2 := fun _ => List CV → Bool)
  (fun x0 d => (CV.rec (motive_1 := fun _ => Bool) (motive_2 := fun _ => Unit) (fun y0 => zPX x0 y0) (fun _ => false) (fun _ _ => false) (fun _ => false) (fun _ => false) false (fun _ _ => false) false (fun _ _ _ _ _ _ => false) false (fun _ => false) (fun _ _ _ _ _ => false) false (fun _ _ _ => false) false (fun _ _ => false) (fun _ _ => false) (fun _ => false) (fun _ _ _ _ => false) (fun _ _ => false) (fun _ => false) false () (fun _ _ _ _ => ()) d))
  (fun x0 d => (CV.rec (motive_1 := fun _ => Bool) (motive_2 := fun _ => Unit) (fun _ => false) (fun y0 => Nat.beq x0 y0) (fun _ _ => false) (fun _ => false) (fun _ => false) false (fun _ _ => false) false (fun _ _ _ _ _ _ => false) false (fun _ => false) (fun _ _ _ _ _ => false) false (fun _ _ _ => false) false (fun _ _ => false) (fun _ _ => false) (fun _ => false) (fun _ _ _ _ => false) (fun _ _ => false) (fun _ => false) false () (fun _ _ _ _ => ()) d))
  (fun x0 x1 d => (CV.rec (motive_1 := fun _ => Bool) (motive_2 := fun _ => Unit) (fun _ => false) (fun _ => false) (fun y0 y1 => (zCM (kEq x0 y0) (yy x1 y1))) (fun _ => false) (fun _ => false) false (fun _ _ => false) false (fun _ _ _ _ _ _ => false) false (fun _ => false) (fun _ _ _ _ _ => false) false (fun _ _ _ => false) false (fun _ _ => false) (fun _ _ => false) (fun _ => false) (fun _ _ _ _ => false) (fun _ _ => false) (fun _ => false) false () (fun _ _ _ _ => ()) d))
  (fun x0 d => zHb x0 d)
  (fun x0 d => (CV.rec (motive_1 := fun _ => Bool) (motive_2 := fun _ => Unit) (fun _ => false) (fun _ => false) (fun _ _ => false) (fun _ => false) (fun y0 => xw x0 y0) false (fun _ _ => false) false (fun _ _ _ _ _ _ => false) false (fun _ => false) (fun _ _ _ _ _ => false) false (fun _ _ _ => false) false (fun _ _ => false) (fun _ _ => false) (fun _ => false) (fun _ _ _ _ => false) (fun _ _ => false) (fun _ => false) false () (fun _ _ _ _ => ()) d))
  (fun d => (CV.rec (motive_1 := fun _ => Bool) (motive_2 := fun _ => Unit) (fun _ => false) (fun _ => false) (fun _ _ => false) (fun _ => false) (fun _ => false) true (fun _ _ => false) false (fun _ _ _ _ _ _ => false) false (fun _ => false) (fun _ _ _ _ _ => false) false (fun _ _ _ => false) false (fun _ _ => false) (fun _ _ => false) (fun _ => false) (fun _ _ _ _ => false) (fun _ _ => false) (fun _ => false) false () (fun _ _ _ _ => ()) d))
  (fun x0 x1 d => (CV.rec (motive_1 := fun _ => Bool) (motive_2 := fun _ => Unit) (fun _ => false) (fun _ => false) (fun _ _ => false) (fun _ => false) (fun _ => false) false (fun y0 y1 => (zCM (vK ρ x0 y0) (Nat.beq x1 y1))) false (fun _ _ _ _ _ _ => false) false (fun _ => false) (fun _ _ _ _ _ => false) false (fun _ _ _ => false) false (fun _ _ => false) (fun _ _ => false) (fun _ => false) (fun _ _ _ _ => false) (fun _ _ => false) (fun _ => false) false () (fun _ _ _ _ => ()) d))
  (fun d => (CV.rec (motive_1 := fun _ => Bool) (motive_2 := fun _ => Unit) (fun _ => false) (fun _ => false) (fun _ _ => false) (fun _ => false) (fun _ => false) false (fun _ _ => false) true (fun _ _ _ _ _ _ => false) false (fun _ => false) (fun _ _ _ _ _ => false) false (fun _ _ _ => false) false (fun _ _ => false) (fun _ _ => false) (fun _ => false) (fun _ _ _ _ => false) (fun _ _ => false) (fun _ => false) false () (fun _ _ _ _ => ()) d))
  (fun x0 x1 x2 x3 x4 x5 d => (CV.rec (motive_1 := fun _ => Bool) (motive_2 := fun _ => Unit) (fun _ => false) (fun _ => false) (fun _ _ => false) (fun _ => false) (fun _ => false) false (fun _ _ => false) false (fun y0 y1 y2 y3 y4 y5 => vK ρ x0 y0 && Nat.beq x1 y1 && Nat.beq x2 y2 && Nat.beq x4 y4 && x5 == y5 && (Nat.beq x3 y3 || (!x5 && Nat.ble x3 y3))) false (fun _ => false) (fun _ _ _ _ _ => false) false (fun _ _ _ => false) false (fun _ _ => false) (fun _ _ => false) (fun _ => false) (fun _ _ _ _ => false) (fun _ _ => false) (fun _ => false) false () (fun _ _ _ _ => ()) d))
  (fun d => (CV.rec (motive_1 := fun _ => Bool) (motive_2 := fun _ => Unit) (fun _ => false) (fun _ => false) (fun _ _ => false) (fun _ => false) (fun _ => false) false (fun _ _ => false) false (fun _ _ _ _ _ _ => false) true (fun _ => false) (fun _ _ _ _ _ => false) false (fun _ _ _ => false) false (fun _ _ => false) (fun _ _ => false) (fun _ => false) (fun _ _ _ _ => false) (fun _ _ => false) (fun _ => false) false () (fun _ _ _ _ => ()) d))
  (fun x0 d => (CV.rec (motive_1 := fun _ => Bool) (motive_2 := fun _ => Unit) (fun _ => false) (fun _ => false) (fun _ _ => false) (fun _ => false) (fun _ => false) false (fun _ _ => false) false (fun _ _ _ _ _ _ => false) false (fun y0 => vK ρ x0 y0) (fun _ _ _ _ _ => false) false (fun _ _ _ => false) false (fun _ _ => false) (fun _ _ => false) (fun _ => false) (fun _ _ _ _ => false) (fun _ _ => false) (fun _ => false) false () (fun _ _ _ _ => ()) d))
  (fun x0 x1 x2 ha hc d => (CV.rec (motive_1 := fun _ => Bool) (motive_2 := fun _ => Unit) (fun _ => false) (fun _ => false) (fun _ _ => false) (fun _ => false) (fun _ => false) false (fun _ _ => false) false (fun _ _ _ _ _ _ => false) false (fun _ => false) (fun y0 y1 y2 _ _ => decide (x0 = y0) && ha y1 && hc y2) false (fun _ _ _ => false) false (fun _ _ => false) (fun _ _ => false) (fun _ => false) (fun _ _ _ _ => false) (fun _ _ => false) (fun _ => false) false () (fun _ _ _ _ => ()) d))
  (fun d => (CV.rec (motive_1 := fun _ => Bool) (motive_2 := fun _ => Unit) (fun _ => false) (fun _ => false) (fun _ _ => false) (fun _ => false) (fun _ => false) false (fun _ _ => false) false (fun _ _ _ _ _ _ => false) false (fun _ => false) (fun _ _ _ _ _ => false) true (fun _ _ _ => false) false (fun _ _ => false) (fun _ _ => false) (fun _ => false) (fun _ _ _ _ => false) (fun _ _ => false) (fun _ => false) false () (fun _ _ _ _ => ()) d))
  (fun x0 x1 hv d => (CV.rec (motive_1 := fun _ => Bool) (motive_2 := fun _ => Unit) (fun _ => false) (fun _ => false) (fun _ _ => false) (fun _ => false) (fun _ => false) false (fun _ _ => false) false (fun _ _ _ _ _ _ => false) false (fun _ => false) (fun _ _ _ _ _ => false) false (fun y0 y1 _ => (zCM (Nat.beq x0 y0) (hv y1))) false (fun _ _ => false) (fun _ _ => false) (fun _ => false) (fun _ _ _ _ => false) (fun _ _ => false) (fun _ => false) false () (fun _ _ _ _ => ()) d))
  (fun d => (CV.rec (motive_1 := fun _ => Bool) (motive_2 := fun _ => Unit) (fun _ => false) (fun _ => false) (fun _ _ => false) (fun _ => false) (fun _ => false) false (fun _ _ => false) false (fun _ _ _ _ _ _ => false) false (fun _ => false) (fun _ _ _ _ _ => false) false (fun _ _ _ => false) true (fun _ _ => false) (fun _ _ => false) (fun _ => false) (fun _ _ _ _ => false) (fun _ _ => false) (fun _ => false) false () (fun _ _ _ _ => ()) d))
  (fun x0 hl d => (CV.rec (motive_1 := fun _ => Bool) (motive_2 := fun _ => Unit) (fun _ => false) (fun _ => false) (fun _ _ => false) (fun _ => false) (fun _ => false) false (fun _ _ => false) false (fun _ _ _ _ _ _ => false) false (fun _ => false) (fun _ _ _ _ _ => false) false (fun _ _ _ => false) false (fun y0 _ => hl y0) (fun _ _ => false) (fun _ => false) (fun _ _ _ _ => false) (fun _ _ => false) (fun _ => false) false () (fun _ _ _ _ => ()) d))
  (fun x0 hl d => (CV.rec (motive_1 := fun _ => Bool) (motive_2 := fun _ => Unit) (fun _ => false) (fun _ => false) (fun _ _ => false) (fun _ => false) (fun _ => false) false (fun _ _ => false) false (fun _ _ _ _ _ _ => false) false (fun _ => false) (fun _ _ _ _ _ => false) false (fun _ _ _ => false) false (fun _ _ => false) (fun y0 _ => hl y0) (fun _ => false) (fun _ _ _ _ => false) (fun _ _ => false) (fun _ => false) false () (fun _ _ _ _ => ()) d))
  (fun x0 d => zIU θ x0 d)
  (fun x0 x1 x2 x3 d => false)
  (fun x0 hl d => (CV.rec (motive_1 := fun _ => Bool) (motive_2 := fun _ => Unit) (fun _ => false) (fun _ => false) (fun _ _ => false) (fun _ => false) (fun _ => false) false (fun _ _ => false) false (fun _ _ _ _ _ _ => false) false (fun _ => false) (fun _ _ _ _ _ => false) false (fun _ _ _ => false) false (fun _ _ => false) (fun _ _ => false) (fun _ => false) (fun _ _ _ _ => false) (fun y0 _ => hl y0) (fun _ => false) false () (fun _ _ _ _ => ()) d))
  (fun x0 d => false)
  (fun d => true)
  (fun m => List.rec (motive := fun _ => Bool) true (fun _ _ _ => false) m)
  (fun _ _ h g m => List.rec (motive := fun _ => Bool) false (fun b r _ => zCM (h b) (g r)) m) c
def zPt (ρ : Heap) (θ : TH) (l m : List CV) : Bool := zP0 ρ θ (.agg l) (.agg m)
section
variable {ρ : Heap} {θ : TH}
mutual
theorem zGF : ∀ (c d : CV), zP0 ρ θ c d = yQ ρ θ c d
  | .bool x0, d => by
    cases d with
    | bool y0 => unfold yQ; exact zO6
    | _ => unfold yQ; rfl
  | .nat x0, d => by cases d <;> (unfold yQ; rfl)
  | .int x0 x1, d => by
    cases d with
    | int y0 y1 => unfold yQ; exact ue
    | _ => unfold yQ; rfl
  | .anyi x0, d => by unfold yQ; rfl
  | .str x0, d => by cases d <;> (unfold yQ; rfl)
  | .nilptr, d => by cases d <;> (unfold yQ; rfl)
  | .ptr x0 x1, d => by
    cases d with
    | ptr y0 y1 => unfold yQ; exact ue
    | _ => unfold yQ; rfl
  | .nilsl, d => by cases d <;> (unfold yQ; rfl)
  | .sl x0 x1 x2 x3 x4 x5, d => by cases d <;> (unfold yQ; rfl)
  | .nilmap, d => by cases d <;> (unfold yQ; rfl)
  | .map x0, d => by cases d <;> (unfold yQ; rfl)
  | .func x0 x1 x2, d => by
    cases d with
    | func y0 y1 y2 => unfold yQ; rw [← kU x1 y1, ← kU x2 y2]; rfl
    | _ => unfold yQ; rfl
  | .nilfunc, d => by cases d <;> (unfold yQ; rfl)
  | .iface x0 x1, d => by
    cases d with
    | iface y0 y1 => unfold yQ; rw [← zGF x1 y1, ← ue]; rfl
    | _ => unfold yQ; rfl
  | .niliface, d => by cases d <;> (unfold yQ; rfl)
  | .agg x0, d => by
    cases d with
    | agg y0 => unfold yQ; exact kU x0 y0
    | _ => unfold yQ; rfl
  | .tup x0, d => by
    cases d with
    | tup y0 => unfold yQ; exact kU x0 y0
    | _ => unfold yQ; rfl
  | .sym x0, d => by unfold yQ; rfl
  | .win x0 x1 x2 x3, d => by cases d <;> (unfold yQ; rfl)
  | .sst x0, d => by
    cases d with
    | sst y0 => unfold yQ; exact kU x0 y0
    | _ => unfold yQ; rfl
  | .big x0, d => by cases d <;> (unfold yQ; rfl)
  | .any, d => by unfold yQ; rfl
theorem kU : ∀ (l m : List CV), zPt ρ θ l m = k6 ρ θ l m
  | [], m => by cases m <;> (unfold k6; rfl)
  | c :: l, m => by
    cases m with
    | nil => unfold k6; rfl
    | cons d m => unfold k6; rw [← zGF c d, ← kU l m, ← ue]; rfl
end
end
def zKH (ρ : Heap) (θ : TH) (l : List CV) : List CV → Bool :=
  List.rec (motive := fun _ => List CV → Bool) (fun _ => true) (fun a _ g m => List.rec (motive := fun _ => Bool) false (fun b r _ => zCM (zP0 ρ θ a b) (g r)) m) l
theorem zEk {ρ : Heap} {θ : TH} : ∀ {l m : List CV}, zKH ρ θ l m = wI ρ θ l m
  | [], m => by unfold wI; rfl
  | c :: l, [] => by unfold wI; rfl
  | c :: l, d :: m => by unfold wI; rw [← zGF c d, ← zEk (l := l) (m := m), ← ue]; rfl
def zPF (ρ : Heap) (θ : TH) (o o' : CObj) : Bool := match o, o' with
  | .cells a, .cells b => zKH ρ θ a b
  | o, o' => zBO ρ θ o o'
theorem zND {ρ : Heap} {θ : TH} {o o' : CObj} : zPF ρ θ o o' = zBO ρ θ o o' := by
  cases o <;> cases o' <;> first | rfl | exact zEk
def vl (ρ inv : Heap) (θ : TH) (h : Heap) (lo hi : Nat) : List (Key × CObj) → List Key → Bool
  | [], [] => true
  | p :: r, j :: js => zCM (vK ρ p.1 j) <| zCM (vK inv j p.1) <| zCM (Nat.ble lo p.1.ix) <| zCM (Nat.ble (Nat.succ p.1.ix) hi) <| zCM (match yK j h with
      | some o => zPF ρ θ p.2 o
      | none => false) (vl ρ inv θ h lo hi r js)
  | _, _ => false
theorem vo {ρ inv : Heap} {θ : TH} {h : Heap} {lo hi : Nat} : ∀ {l : List (Key × CObj)} {ks : List Key}, vl ρ inv θ h lo hi l ks = jX ρ inv θ h lo hi l ks
  | [], [] => rfl
  | [], _ :: _ => rfl
  | _ :: _, [] => rfl
  | p :: r, j :: js => by
    unfold vl jX
    rw [vo (l := r) (ks := js)]
    cases yK j h <;> simp only [ue, zND, Bool.and_assoc]
def zM8 (G : Nat) (ws : List (Key × Nat)) (T : TS) (ks : List Key) (θ : TH) (K : zY) (tm : Tm) (h : Heap) : Bool :=
  vl (mkRho T.objs ks) (jC T.objs ks) θ h G T.n.ix T.objs ks && zIy (mkRho T.objs ks) θ ws tm T.locs && zOp K T.b θ && zMM K θ T.f && zEC G T.n.ix ws && Nat.ble G T.n.ix && vj θ K.rules T.r
theorem zNF {G : Nat} {ws : List (Key × Nat)} {T : TS} {ks : List Key} {θ : TH} {K : zY} {tm : Tm} {h : Heap} : zM8 G ws T ks θ K tm h = zHi G ws T ks θ K tm h := by
  unfold zM8 zHi
  rw [vo]
def zQ (c : CV) : (CV → Bool) → Bool := CV.rec (motive_1 := fun _ => (CV → Bool) → Bool) (motive_2 := fun _ => (List CV → Bool) → Bool)
  (fun x0 k => k (.bool x0))
  (fun x0 k => zN x0 fun x0 => k (.nat x0))
  (fun x0 x1 k => zI x1 fun x1 => k (.int x0 x1))
  (fun x0 k => k (.anyi x0))
  (fun x0 k => k (.str x0))
  (fun k => k .nilptr)
  (fun x0 x1 k => zK x0 fun x0 => zN x1 fun x1 => k (.ptr x0 x1))
  (fun k => k .nilsl)
  (fun x0 x1 x2 x3 x4 x5 k => zK x0 fun x0 => zN x1 fun x1 => zN x2 fun x2 => zN x3 fun x3 => zN x4 fun x4 => k (.sl x0 x1 x2 x3 x4 x5))
  (fun k => k .nilmap)
  (fun x0 k => zK x0 fun x0 => k (.map x0))
  (fun x0 x1 x2 ha hc k => ha fun x1 => hc fun x2 => k (.func x0 x1 x2))
  (fun k => k .nilfunc)
  (fun x0 x1 hv k => hv fun x1 => k (.iface x0 x1))
  (fun k => k .niliface)
  (fun x0 hl k => hl fun x0 => k (.agg x0))
  (fun x0 hl k => hl fun x0 => k (.tup x0))
  (fun x0 k => zSE x0 fun x0 => k (.sym x0))
  (fun x0 x1 x2 x3 k => zSE x2 fun x2 => zSE x3 fun x3 => k (.win x0 x1 x2 x3))
  (fun x0 hl k => hl fun x0 => k (.sst x0))
  (fun x0 k => k (.big x0))
  (fun k => k .any)
  (fun k => k [])
  (fun _ _ h g k => h fun v => g fun l => k (v :: l)) c
def zQs (l : List CV) : (List CV → Bool) → Bool := CV.rec_1 (motive_1 := fun _ => (CV → Bool) → Bool) (motive_2 := fun _ => (List CV → Bool) → Bool)
  (fun x0 k => k (.bool x0))
  (fun x0 k => zN x0 fun x0 => k (.nat x0))
  (fun x0 x1 k => zI x1 fun x1 => k (.int x0 x1))
  (fun x0 k => k (.anyi x0))
  (fun x0 k => k (.str x0))
  (fun k => k .nilptr)
  (fun x0 x1 k => zK x0 fun x0 => zN x1 fun x1 => k (.ptr x0 x1))
  (fun k => k .nilsl)
  (fun x0 x1 x2 x3 x4 x5 k => zK x0 fun x0 => zN x1 fun x1 => zN x2 fun x2 => zN x3 fun x3 => zN x4 fun x4 => k (.sl x0 x1 x2 x3 x4 x5))
  (fun k => k .nilmap)
  (fun x0 k => zK x0 fun x0 => k (.map x0))
  (fun x0 x1 x2 ha hc k => ha fun x1 => hc fun x2 => k (.func x0 x1 x2))
  (fun k => k .nilfunc)
  (fun x0 x1 hv k => hv fun x1 => k (.iface x0 x1))
  (fun k => k .niliface)
  (fun x0 hl k => hl fun x0 => k (.agg x0))
  (fun x0 hl k => hl fun x0 => k (.tup x0))
  (fun x0 k => zSE x0 fun x0 => k (.sym x0))
  (fun x0 x1 x2 x3 k => zSE x2 fun x2 => zSE x3 fun x3 => k (.win x0 x1 x2 x3))
  (fun x0 hl k => hl fun x0 => k (.sst x0))
  (fun x0 k => k (.big x0))
  (fun k => k .any)
  (fun k => k [])
  (fun _ _ h g k => h fun v => g fun l => k (v :: l)) l
mutual
theorem zPC : ∀ (c : CV) (k : CV → Bool), zQ c k = k c
  | .bool x0, k => rfl
  | .nat x0, k => jA (k := fun x0 => k (.nat x0))
  | .int x0 x1, k => zCd (k := fun x1 => k (.int x0 x1))
  | .anyi x0, k => rfl
  | .str x0, k => rfl
  | .nilptr, k => rfl
  | .ptr x0 x1, k => by show (zK x0 fun x0 => zN x1 fun x1 => k (.ptr x0 x1)) = _; rw [up, jA]
  | .nilsl, k => rfl
  | .sl x0 x1 x2 x3 x4 x5, k => by show (zK x0 fun x0 => zN x1 fun x1 => zN x2 fun x2 => zN x3 fun x3 => zN x4 fun x4 => k (.sl x0 x1 x2 x3 x4 x5)) = _; rw [up, jA, jA, jA, jA]
  | .nilmap, k => rfl
  | .map x0, k => up (k := fun x0 => k (.map x0))
  | .func x0 x1 x2, k => by show (zQs x1 fun x1 => zQs x2 fun x2 => k (.func x0 x1 x2)) = _; rw [zAh x1, zAh x2]
  | .nilfunc, k => rfl
  | .iface x0 x1, k => zPC x1 fun x1 => k (.iface x0 x1)
  | .niliface, k => rfl
  | .agg x0, k => zAh x0 fun x0 => k (.agg x0)
  | .tup x0, k => zAh x0 fun x0 => k (.tup x0)
  | .sym x0, k => zBI (k := fun x0 => k (.sym x0))
  | .win x0 x1 x2 x3, k => by show (zSE x2 fun x2 => zSE x3 fun x3 => k (.win x0 x1 x2 x3)) = _; rw [zBI, zBI]
  | .sst x0, k => zAh x0 fun x0 => k (.sst x0)
  | .big x0, k => rfl
  | .any, k => rfl
theorem zAh : ∀ (l : List CV) (k : List CV → Bool), zQs l k = k l
  | [], k => rfl
  | c :: l, k => by show (zQ c fun v => zQs l fun l => k (v :: l)) = _; rw [zPC c, zAh l]
end
def zOQ (o : CObj) (k : CObj → Bool) : Bool := match o with
  | .cells l => zQs l fun l => k (.cells l)
  | o => zO o k
theorem zPW {o : CObj} {k : CObj → Bool} : zOQ o k = k o := by
  cases o with
  | cells l => exact zAh l fun l => k (.cells l)
  | ro a => exact zFV (o := .ro a)
  | map a b => exact zFV (o := .map a b)
  | striter a b => exact zFV (o := .striter a b)
  | mapiter a b c d => exact zFV (o := .mapiter a b c d)
  | full a b => exact zFV (o := .full a b)
def zNV : List (Key × CObj) → (List (Key × CObj) → Bool) → Bool
  | [], k => k []
  | (j, o) :: l, k => zK j fun j => zOQ o fun o => zNV l fun l => k ((j, o) :: l)
theorem zKP : ∀ {l : List (Key × CObj)} {k : List (Key × CObj) → Bool}, zNV l k = k l
  | [], _ => rfl
  | (j, o) :: l, k => by unfold zNV; rw [up, zPW, zKP]
def zQD (T : TS) (k : TS → Bool) : Bool := match T with
  | ⟨l, o, n, b, f, r⟩ => zLc l fun l => zNV o fun o => zK n fun n => zB b fun b => zF f fun f => k ⟨l, o, n, b, f, r⟩
theorem zPa {T : TS} {k : TS → Bool} : zQD T k = k T := by
  obtain ⟨l, o, n, b, f, r⟩ := T
  show (zLc l fun l => zNV o fun o => zK n fun n => zB b fun b => zF f fun f => k ⟨l, o, n, b, f, r⟩) = _
  rw [zJC, zKP, up, zM2, zOm]
section
variable {G : Nat} {ws : List (Key × Nat)} {Ts : List TS} {ok : jx → Bool} {K : zY} {fin : R → Bool}
def zDF (G : Nat) (ws : List (Key × Nat)) (Ts : List TS) (ok : jx → Bool) (K : zY) (t : Nat) (tm : Tm) (ds : xT) (h : Heap) (n : Key) : Bool := match ds with
  | [] => match nth Ts t with
    | some T => zQD T fun T => zDy t T tm h fun x => ok x && zM8 G ws T x.ks x.θ K tm h && Nat.ble (Nat.succ n.ix) 65535
    | none => false
  | _ => false
theorem zEO {G : Nat} {ws : List (Key × Nat)} {Ts : List TS} {ok : jx → Bool} {K : zY} {t : Nat} {tm : Tm} {ds : xT} {h : Heap} {n : Key} (hl : zDF G ws Ts ok K t tm ds h n = true) : ∃ x, zAK G ws Ts ok K x tm ds h n = true := by
  unfold zDF at hl
  split at hl
  · split at hl
    · rename_i T hT
      rw [zPa] at hl
      simp only [zNF] at hl
      obtain ⟨x, hx, hk⟩ := zEH hl
      refine ⟨x, ?_⟩
      unfold zAK
      rw [hx, hT]
      show zTS T _ = true
      rw [zJt]
      exact hk
    · cases hl
  · cases hl
def zBY (G : Nat) (ws : List (Key × Nat)) (Ts : List TS) (ok : jx → Bool) (K : zY) (fin : R → Bool) : R → List Nat → Option (List Nat)
  | .ok .normal tm ds h n, t :: r => match zDF G ws Ts ok K t tm ds h n with
    | true => some r
    | false => none
  | .ok (.exit i) tm ds h n, r => match fin (.ok (.exit i) tm ds h n) with
    | true => some r
    | false => none
  | .ok .ret tm ds h n, r => match fin (.ok .ret tm ds h n) with
    | true => some r
    | false => none
  | .fork a b, r => match zBY G ws Ts ok K fin a r with
    | some r => zBY G ws Ts ok K fin b r
    | none => none
  | _, _ => none
def zBd (o : Option (List Nat)) : Bool := match o with
  | some _ => true
  | none => false
theorem zB0 : ∀ {r : R} {l l' : List Nat}, zBY G ws Ts ok K fin r l = some l' → ∃ hs : List jx, ∀ rest, jf G ws Ts ok K fin r (hs ++ rest) = some rest
  | .ok .normal tm ds h n, [], _, hc => by cases hc
  | .ok .normal tm ds h n, t :: l, l', hc => by
    unfold zBY at hc
    split at hc
    · rename_i hl
      obtain ⟨x, hx⟩ := zEO hl
      exact ⟨[x], fun rest => by show jf G ws Ts ok K fin (.ok .normal tm ds h n) (x :: rest) = _; unfold jf; rw [hx]⟩
    · cases hc
  | .ok (.exit i) tm ds h n, l, l', hc => by
    unfold zBY at hc
    split at hc
    · rename_i h1
      exact ⟨[], fun rest => by show jf G ws Ts ok K fin (.ok (.exit i) tm ds h n) rest = _; unfold jf; rw [h1]⟩
    · cases hc
  | .ok .ret tm ds h n, l, l', hc => by
    unfold zBY at hc
    split at hc
    · rename_i h1
      exact ⟨[], fun rest => by show jf G ws Ts ok K fin (.ok .ret tm ds h n) rest = _; unfold jf; rw [h1]⟩
    · cases hc
  | .ret .., l, l', hc => by unfold zBY at hc; cases hc
  | .err _, l, l', hc => by unfold zBY at hc; cases hc
  | .fork a b, l, l', hc => by
    unfold zBY at hc
    split at hc
    · rename_i r hr
      obtain ⟨h1, e1⟩ := zB0 hr
      obtain ⟨h2, e2⟩ := zB0 hc
      exact ⟨h1 ++ h2, fun rest => by rw [List.append_assoc]; unfold jf; rw [e1 (h2 ++ rest)]; exact e2 rest⟩
    · cases hc
theorem kD {r : R} {l : List Nat} (h : zBd (zBY G ws Ts ok K fin r l) = true) : ∃ hs, kl (jf G ws Ts ok K fin r hs) = true := by
  unfold zBd at h
  split at h
  · rename_i x hx
    obtain ⟨hs, e⟩ := zB0 hx
    refine ⟨hs ++ [], ?_⟩
    rw [e []]; rfl
  · cases h
end
end
end Go.Ev

namespace Go.Ev
open Go.RowKit
noncomputable section
variable {P : Program}
inductive Cut where
  | plain
  | cut (ft : FT) (ct : List Bool → CT)
  | cover (ts : List Nat)
section
variable {code : FuncId → CFn} {nat : Nats} {fuel : Nat} {fn : Func} {c b xa xb : Code} {p pre q : List Stp} {j : Nat} {rs : List CRes} {G : Nat} {wins : List Win} {L : List (Key × Nat)} {A : Key → Option Value} {Ts : List TS} {bound : Int} {w0 : World}
def zLu (P : Program) (code : FuncId → CFn) (nat : Nats) (fuel : Nat) (G : Nat) (ws L : List (Key × Nat)) (Ts : List TS) (p pre q : List Stp) (j : Nat) (cc : CCode) (rs : List CRes) (cut : Cut) (s : Nat → Int) (K : zY) (r : R) : Bool := match cut with
  | .plain => zIm P code nat fuel p cc rs (linSym s K) r
  | .cut ft ct => zGE P code nat fuel pre q j cc rs ft ct s K r
  | .cover ts => zBd (zBY G ws Ts (fun t => zBV t.θ && jt t.θ L) K (fun _ => false) (@qM (linSym s K) P (@ev (linSym s K) P code nat fuel) q (zAY pre cc) r) ts)
def TS.known (T : TS) (A : Key → Option Value) : zY := ⟨T.b, T.f, T.r, A⟩
def endWays (P : Program) (code : FuncId → CFn) (nat : Nats) (fuel : Nat) (pre : List Stp) (j : Nat) (cc : CCode) (rs : List CRes) (T : TS) (ct : List Bool → CT) (ps : List (List Bool)) (s : Nat → Int) (K : zY) : Bool :=
  xe (fun p => zG6 P code nat fuel pre j cc rs (ct p) s K (zCr p (zDY P (linSym s K) (@ev (linSym s K) P code nat fuel) j (qw pre cc) (.ok .normal (vI T.locs) [] (mkH .nil T.objs) T.n)))) ps
def EndOk (P : Program) (code : FuncId → CFn) (nat : Nats) (fuel : Nat) (pre : List Stp) (j : Nat) (cc : CCode) (rs : List CRes) (T : TS) : Prop :=
  ∃ (ft : FT) (ct : List Bool → CT), ∀ (s : Nat → Int) (A : Key → Option Value), endWays P code nat fuel pre j cc rs T ct ft.paths s (T.known A) = true
def zGh (P : Program) (code : FuncId → CFn) (nat : Nats) (fuel : Nat) (Ts : List TS) (pre : List Stp) (j : Nat) (cc : CCode) (rs : List CRes) : Cut → Prop
  | .cover _ => ∀ t T, nth Ts t = some T → EndOk P code nat fuel pre j cc rs T
  | _ => True
def passC (P : Program) (code : FuncId → CFn) (nat : Nats) (fuel : Nat) (G : Nat) (ws L : List (Key × Nat)) (Ts : List TS) (p pre q : List Stp) (j : Nat) (cc : CCode) (rs : List CRes) (T : TS) (l : List (Key × List CV)) (cut : Cut) (s : Nat → Int) (K : zY) (hs : List jx) : Bool :=
  kl (jf G ws Ts (fun t => zA1 t.θ && jt t.θ L) K (zLu P code nat fuel G ws L Ts p pre q j cc rs cut s K) (@zd (linSym s K) P (@ev (linSym s K) P code nat fuel) (zDv p cc) (vI T.locs) [] (mkH (mkH .nil T.objs) (zED l)) T.n) hs)
def PassesC (P : Program) (code : FuncId → CFn) (nat : Nats) (fuel : Nat) (G : Nat) (wins : List Win) (L : List (Key × Nat)) (A : Key → Option Value) (Ts : List TS) (p pre q : List Stp) (j : Nat) (cc : CCode) (rs : List CRes) (w0 : World) : Prop :=
  ∀ t T, nth Ts t = some T → ∀ σ, yt σ 0 T.b → qr σ T.f → xn σ T.r → LensAre wins L σ → ∃ σ' K' l hs cut, (∀ j, j < T.b.length → σ' j = σ j) ∧ (∀ q ∈ L, σ' q.2 = σ q.2) ∧ K'.arg = A ∧ KnownOk σ' K' ∧ (∀ q ∈ l, zCB (linSym σ' K') wins w0 (σ 0) q) ∧ apartK T.objs l = true ∧ zGh P code nat fuel Ts pre j cc rs cut ∧
    passC P code nat fuel G (wsOf wins) L Ts p pre q j cc rs T l cut σ' K' hs = true
theorem zIR {σ : Nat → Int} {K : zY} (hK : KnownOk σ K) (hm : P.follows .mixedOrders = true) (hcode : CodeOk P code) (hnat : ∀ σ K, KnownOk σ K → @NatsOk (linSym σ K) P nat) {ws : List (Key × Nat)} {cc : CCode} {cut : Cut} : ∀ r, zLu P code nat fuel G ws L Ts p pre q j cc rs cut σ K r = true → zW r := by
  intro r h
  unfold zLu at h
  split at h
  · exact zL4 hK hm hcode hnat r h
  · exact zER hK hm hcode hnat h
  · obtain ⟨hs, h1⟩ := kD h
    obtain ⟨o, h2⟩ := zAV h1
    have hc := jF (fun _ h => by cases h) h2
    letI S : Sym := linSym σ K
    haveI hS : SymFact P := ye hK
    have hcall : yN P (ev P code nat fuel) := jb (fun call hcall F N => yW hm hcall) hcode (hnat _ _ hK) fuel
    exact xq hcall.above q (zAY pre cc) hc
theorem zMi {σ : Nat → Int} {K : zY} (hK : KnownOk σ K) (hlen : LensAre wins L σ) (hA : uR K.arg wins) (hG : P.globals.size ≤ G) (hm : P.follows .mixedOrders = true) (hcode : CodeOk P code) (hnat : ∀ σ K, KnownOk σ K → @NatsOk (linSym σ K) P nat) {F N : Nat} (hp : p = pre ++ .l :: q) (hat : atC pre c = some (.seq xa xb)) (hsub : zAd p c = some b) (hn : zi c = true)
    (hrs : yo (xD P F N) fn.results.toList = some rs) {cut : Cut} (hends : zGh P code nat fuel Ts pre j (zG P F N c) rs cut) {ψ₀ : Psi} {g₀ : Fam} {n₀ : Key} {w₀ : World} {r : R} {e : Exit} {a : Act} {w : World}
    (ho : @ya (linSym σ K) P F N ψ₀ g₀ n₀ w₀ r e a w) (hf : zLu P code nat fuel G (wsOf wins) L Ts p pre q j (zG P F N c) rs cut σ K r = true)
    (hb : Below w0.heap.size w0 w₀) (ho0 : ∀ k o p, g₀ k = some o → o.isRo = false → ψ₀ k = some p → w0.heap.size ≤ p.blk) : QH P p c (zAg P fn w0) e a w := by
  unfold zLu at hf
  split at hf
  · exact zPf hK hm hcode hnat hsub hn hrs ho hf hb ho0
  · subst hp
    exact zId hK hm hcode hnat hat hsub hn hrs ho hf hb ho0
  · subst hp
    have hends : ∀ t T, nth Ts t = some T → EndOk P code nat fuel pre j (zG P F N c) rs T := hends
    obtain ⟨hs, h1⟩ := kD hf
    obtain ⟨o, h2⟩ := zAV h1
    obtain ⟨hl, hr⟩ := jI (P := P) (F := F) (N := N) hat
    have hnab : zi xa = true ∧ zi xb = true := by
      have := wR hat hn
      simpa [zi] using this
    have hc := jF (fun _ h => by cases h) h2
    rw [hl] at hc h2
    rw [zHK hat]
    have step : ∀ (e : Exit) (a : Act) (w : World), @ya (linSym σ K) P F N ψ₀ g₀ n₀ w₀ (@qM (linSym σ K) P (@ev (linSym σ K) P code nat fuel) q (zG P F N xa) r) e a w → Exit.then (xb.wp P (QH P pre c (zAg P fn w0))) (QH P pre c (zAg P fn w0)) e a w := by
      intro e a w ho
      rcases uH h2 ho with ⟨rfl, tm, h, n, ψ, t, T, g1, g2, g3, g4, g5⟩ | ⟨_, r', _, g2⟩
      · rw [Bool.and_eq_true] at g4
        obtain ⟨g4, g4L⟩ := g4
        obtain ⟨q0, θr, hθ⟩ : ∃ q0 θr, t.θ = q0 :: θr := by
          unfold zBV at g4
          split at g4
          · rename_i q θr hq; exact ⟨q, θr, hq⟩
          · cases g4
        obtain ⟨σ'', ψT, hi, _⟩ := zIO hK hlen g1 g2 hG hA g5 ⟨q0, by rw [hθ]; rfl⟩ g4L ho0 hb
        obtain ⟨ft, ct, hw⟩ := hends t.T T g3
        have hw := hw σ'' K.arg
        have hK0 : KnownOk σ'' (T.known K.arg) := zK4 hi.bnd hi.fct hi.rul
        have hst : @St (linSym σ'' (T.known K.arg)) P F N ψT (vI T.locs) [] (mkH .nil T.objs) T.n a w := hi.st σ'' _ (fun _ _ => rfl) rfl
        have hlf : vQ (jV P code nat fuel pre j (zG P F N c) rs σ'' (T.known K.arg)) (zDY P (linSym σ'' (T.known K.arg)) (@ev (linSym σ'' (T.known K.arg)) P code nat fuel) j (zG P F N xb) (.ok .normal (vI T.locs) [] (mkH .nil T.objs) T.n)) := by
          rw [← hr]
          exact w6 ft _ fun p hp => zCA (vd hw p hp)
        have hroom : T.n.room := by
          have h3 := kH hK0 hm hcode hnat hlf
          letI S : Sym := linSym σ'' (T.known K.arg)
          haveI hS : SymFact P := ye hK0
          have hcall : yN P (ev P code nat fuel) := jb (fun call hcall F N => yW hm hcall) hcode (hnat _ _ hK0) fuel
          exact kX hcall.above j _ h3
        exact zGa (ψ₀ := ψT) (g₀ := Heap.fam (mkH .nil T.objs)) (n₀ := T.n) (w₀ := w) hK0 hm hcode hnat hat hn hrs (e := .normal) (r := .ok .normal (vI T.locs) [] (mkH .nil T.objs) T.n) ⟨trivial, ψT, hst, @zq.refl (linSym σ'' (T.known K.arg)) _ _ _ _ (@St.rel (linSym σ'' (T.known K.arg)) _ _ _ _ _ _ _ _ _ _ hst), hroom⟩ hlf hi.blw
          (fun k o p h1 _ h3 => (hi.own k o p h1 h3).2)
      · cases g2
    letI S : Sym := linSym σ K
    haveI hS : SymFact P := ye hK
    have hcall : yN P (ev P code nat fuel) := jb (fun call hcall F N => yW hm hcall) hcode (hnat _ _ hK) fuel
    exact wj hcall (yW hm hcall) q xa (zC8 hat hsub) hnab.1 ho hc step
theorem zCs {f : List Bool → Bool} : ∀ {x y : List (List Bool)}, xe f x = true → xe f y = true → xe f (x ++ y) = true
  | [], y, _, h => h
  | a :: x, y, h, h' => by
    unfold xe at h
    rw [Bool.and_eq_true] at h
    show (f a && xe f (x ++ y)) = true
    rw [h.1, zCs h.2 h']; rfl
theorem zBr {f : List Bool → Bool} : ∀ {cs : List (List (List Bool))}, (∀ c ∈ cs, xe f c = true) → xe f cs.flatten = true
  | [], _ => rfl
  | c :: cs, h => by
    rw [List.flatten_cons]
    exact zCs (h c (by simp)) (zBr fun x hx => h x (by simp [hx]))
def zPZ (Q : List (List Bool) → Prop) : List (List (List Bool)) → Prop
  | [] => True
  | c :: l => Q c ∧ zPZ Q l
theorem zIB {Q : List (List Bool) → Prop} : ∀ {l : List (List (List Bool))}, zPZ Q l → ∀ c ∈ l, Q c
  | [], _, c, hc => by cases hc
  | x :: l, h, c, hc => by
    rcases List.mem_cons.1 hc with rfl | hc
    · exact h.1
    · exact zIB h.2 c hc
theorem end_ways {cc : CCode} {T : TS} {ft : FT} {ct : List Bool → CT} {cs : List (List (List Bool))} (hfl : cs.flatten = ft.paths)
    (h : zPZ (fun c => ∀ (s : Nat → Int) (A : Key → Option Value), endWays P code nat fuel pre j cc rs T ct c s (T.known A) = true) cs) : EndOk P code nat fuel pre j cc rs T :=
  ⟨ft, ct, fun s A => by
    show xe _ ft.paths = true
    rw [← hfl]
    exact zBr fun c hc => zIB h c hc s A⟩
def endMid (P : Program) (code : FuncId → CFn) (nat : Nats) (fuel : Nat) (pre : List Stp) (j : Nat) (cc : CCode) (rs : List CRes) (T : TS) (ct : List Bool → CT) (p : List Bool) (a n : Nat) (s : Nat → Int) (K : zY) : Bool :=
  ul (fun K' => zEf P code nat fuel pre j cc rs (linSym s K') (zCr p (zDY P (linSym s K) (@ev (linSym s K) P code nat fuel) j (qw pre cc) (.ok .normal (vI T.locs) [] (mkH .nil T.objs) T.n)))) (((jr (ct p) K).drop a).take n)
def endFrom (P : Program) (code : FuncId → CFn) (nat : Nats) (fuel : Nat) (pre : List Stp) (j : Nat) (cc : CCode) (rs : List CRes) (T : TS) (ct : List Bool → CT) (p : List Bool) (a : Nat) (s : Nat → Int) (K : zY) : Bool :=
  ul (fun K' => zEf P code nat fuel pre j cc rs (linSym s K') (zCr p (zDY P (linSym s K) (@ev (linSym s K) P code nat fuel) j (qw pre cc) (.ok .normal (vI T.locs) [] (mkH .nil T.objs) T.n)))) ((jr (ct p) K).drop a)
theorem zCw {q : zY → Bool} : ∀ {n : Nat} {l : List zY}, ul q (l.take n) = true → ul q (l.drop n) = true → ul q l = true
  | 0, _, _, h => h
  | _ + 1, [], _, _ => rfl
  | n + 1, x :: l, h, h' => by
    rw [List.take_succ_cons] at h
    unfold ul at h ⊢
    rw [Bool.and_eq_true] at h
    rw [h.1, zCw (n := n) h.2 h']; rfl
theorem end_step {cc : CCode} {T : TS} {ct : List Bool → CT} {p : List Bool} {a n b : Nat} (hb : a + n = b) (h1 : ∀ (s : Nat → Int) (A : Key → Option Value), endMid P code nat fuel pre j cc rs T ct p a n s (T.known A) = true)
    (h2 : ∀ (s : Nat → Int) (A : Key → Option Value), endFrom P code nat fuel pre j cc rs T ct p b s (T.known A) = true) : ∀ (s : Nat → Int) (A : Key → Option Value), endFrom P code nat fuel pre j cc rs T ct p a s (T.known A) = true := fun s A => by
  have g1 := h1 s A
  have g2 := h2 s A
  subst hb
  unfold endMid at g1
  unfold endFrom at g2 ⊢
  rw [← List.drop_drop] at g2
  exact zCw g1 g2
theorem end_one {cc : CCode} {T : TS} {ct : List Bool → CT} {p : List Bool} (h : ∀ (s : Nat → Int) (A : Key → Option Value), endFrom P code nat fuel pre j cc rs T ct p 0 s (T.known A) = true) :
    ∀ (s : Nat → Int) (A : Key → Option Value), endWays P code nat fuel pre j cc rs T ct [p] s (T.known A) = true := fun s A => by
  have g := h s A
  unfold endFrom at g
  rw [List.drop_zero] at g
  unfold endWays xe xe zG6
  rw [g]; rfl
theorem zJv (hm : P.follows .mixedOrders = true) (hcode : CodeOk P code) (hnat : ∀ σ K, KnownOk σ K → @NatsOk (linSym σ K) P nat) (hG : P.globals.size ≤ G) {F N : Nat} (hp : p = pre ++ .l :: q) (hat : atC pre c = some (.seq xa xb)) (hsub : zAd p c = some b) (hn : zi c = true)
    (hrs : yo (xD P F N) fn.results.toList = some rs) (hA : uR A wins) (hbd : boundIs bound Ts = true)
    (hgood : PassesC P code nat fuel G wins L A Ts p pre q j (zG P F N c) rs w0) : ∀ (m : Nat) (t : Nat) (T : TS) (σ : Nat → Int) (ψ : Psi) (a : Act) (w : World), nth Ts t = some T → zOr P F N G A wins L w0 T σ ψ a w → (bound - σ 0).toNat ≤ m →
    uF P b (QH P p c (zAg P fn w0)) a w := by
  have hnb : zi b = true := by
    have : ∀ {p : List Stp} {c : Code}, zAd p c = some b → zi c = true → zi b = true := by
      intro p
      induction p with
      | nil =>
        intro c hs hn
        cases c <;> try (cases hs; done)
        injection hs with hs; subst hs
        simpa [zi] using hn
      | cons x p ih =>
        intro c hs hn
        cases x <;> cases c <;> try (cases hs; done)
        · rename_i x y
          have hn : zi x = true ∧ zi y = true := by simpa [zi] using hn
          exact ih hs hn.1
        · rename_i x y
          have hn : zi x = true ∧ zi y = true := by simpa [zi] using hn
          exact ih hs hn.2
        · exact ih hs hn
    exact this hsub hn
  have step : ∀ (t : Nat) (T : TS) (σ : Nat → Int) (ψ : Psi) (a : Act) (w : World), nth Ts t = some T → zOr P F N G A wins L w0 T σ ψ a w →
      (∀ (t' : Nat) (T' : TS) (σ' : Nat → Int) (ψ' : Psi) (a' : Act) (w' : World), nth Ts t' = some T' → zOr P F N G A wins L w0 T' σ' ψ' a' w' → (bound - σ' 0).toNat < (bound - σ 0).toNat → uF P b (QH P p c (zAg P fn w0)) a' w') →
      uF P b (QH P p c (zAg P fn w0)) a w := by
    intro t T σ ψ a w hT hi hrec
    obtain ⟨σ', K', l, hs, cut, hag, hagL, hKA, hK, hl, hap, hends, hpass⟩ := hgood t T hT σ hi.bnd hi.fct hi.rul hi.len
    have hst := zNA hi hag hKA hl hap
    obtain ⟨q1, r1, hb1, _⟩ := ux hbd hT
    have hag0 : σ' 0 = σ 0 := hag 0 (by rw [hb1]; simp)
    have hm0 : ∀ k o p, Heap.fam (mkH (mkH .nil T.objs) (zED l)) k = some o → o.isRo = false → ψ k = some p → w0.heap.size ≤ p.blk := by
      intro k o p h1 h2 h3
      rcases vf h1 with ⟨cs, _, rfl⟩ | h1
      · cases h2
      · exact (hi.own k o p h1 h3).2
    letI S : Sym := linSym σ' K'
    haveI hS : SymFact P := ye hK
    have hcall : yN P (ev P code nat fuel) := jb (fun call hcall F N => yW hm hcall) hcode (hnat _ _ hK) fuel
    have hdraw : qC P F N (ev P code nat fuel) := yW hm hcall
    unfold passC at hpass
    rw [@uh S P F N p c b hsub] at hpass
    generalize hres : zd P (ev P code nat fuel) (zG P F N b) (vI T.locs) [] (mkH (mkH .nil T.objs) (zED l)) T.n = r at hpass
    obtain ⟨hs', hchk⟩ : ∃ x, jf G (wsOf wins) Ts (fun t => zA1 t.θ && jt t.θ L) K' (zLu P code nat fuel G (wsOf wins) L Ts p pre q j (zG P F N c) rs cut σ' K') r hs = some x := by
      unfold kl at hpass
      split at hpass
      · rename_i x hx; exact ⟨x, hx⟩
      · cases hpass
    have hclean : zW r := jF (zIR hK hm hcode hnat) hchk
    have hsim := qt hcall hdraw b hnb hst (by rw [hres]; exact hclean)
    rw [hres] at hsim
    refine zFg (wp_mono hsim fun e a' w' ho => ?_)
    rcases uH hchk ho with ⟨rfl, tm, h, n, ψ', t', T', h1, h2, h3, h4, h5⟩ | ⟨hne, r', h1, h2⟩
    · rw [Bool.and_eq_true] at h4
      obtain ⟨h4, h4L⟩ := h4
      obtain ⟨q0, θr, hθ, e1, e2⟩ : ∃ q0 θr, t'.θ = q0 :: θr ∧ q0.1 = 1 ∧ q0.2 = [(0, 1)] := by
        unfold zA1 at h4
        split at h4
        · rename_i q θr hq
          rw [Bool.and_eq_true, @zk zZ, decide_eq_true_eq] at h4
          exact ⟨q, θr, hq, h4.1, @w8 zZ _ _ h4.2⟩
        · cases h4
      obtain ⟨σ'', ψT, hinv, h0⟩ := zIO hK (fun q hq => by
        obtain ⟨wn, g1, g2⟩ := hi.len q hq
        exact ⟨wn, g1, by rw [hagL q hq]; exact g2⟩) h1 h2 hG (by rw [hKA]; exact hA) h5 ⟨q0, by rw [hθ]; rfl⟩ h4L hm0 hi.blw
      rw [hKA] at hinv
      have hσ : σ'' 0 = σ 0 + 1 := by
        rw [h0 q0 (by rw [hθ]; rfl)]
        unfold evQ
        rw [e1, e2]
        show (1 : Int) + (1 * σ' 0 + 0) = _
        rw [hag0]; omega
      obtain ⟨q2, r2, hb2, hle⟩ := ux hbd h3
      have hbb := hinv.bnd
      rw [hb2] at hbb
      have := hbb.1.2
      exact hrec t'.T T' σ'' ψT a' w' h3 hinv (by omega)
    · have := zMi hK (fun q hq => by
        obtain ⟨wn, g1, g2⟩ := hi.len q hq
        exact ⟨wn, g1, by rw [hagL q hq]; exact g2⟩) (by rw [hKA]; exact hA) hG hm hcode hnat hp hat hsub hn hrs hends h1 h2 hi.blw hm0
      cases e <;> first | exact absurd rfl hne | exact this
  intro m
  induction m with
  | zero =>
    intro t T σ ψ a w hT hi hm0
    exact step t T σ ψ a w hT hi fun t' T' σ' ψ' a' w' hT' hi' hlt => by omega
  | succ m ih =>
    intro t T σ ψ a w hT hi hm0
    exact step t T σ ψ a w hT hi fun t' T' σ' ψ' a' w' hT' hi' hlt => ih t' T' σ' ψ' a' w' hT' hi' (by omega)
end
theorem zHX {code : FuncId → CFn} {nat : Nats} {fuel : Nat} {f : FuncId} {fn : Func} {c b xa xb : Code} {cc : CCode} {p pre q : List Stp} {j : Nat} {rs : List CRes} {G : Nat} {wins : List Win} {L : List (Key × Nat)} {A : Key → Option Value} {Ts : List TS} {bound : Int} {w0 : World}
    {σ : Nat → Int} {K : zY} {args : List CV} {args' : Array Value} {n : Key} {hs : List jx} (hK : KnownOk σ K) (hKA : K.arg = A) (hlen : LensAre wins L σ)
    (hm : P.follows .mixedOrders = true) (hcode : CodeOk P code) (hnat : ∀ σ K, KnownOk σ K → @NatsOk (linSym σ K) P nat) (hf : P.funcs[f]? = some fn) (hb : fn.body = some c) (hcf : compFn P f = .mk cc rs) (hp : p = pre ++ .l :: q) (hat : atC pre c = some (.seq xa xb)) (hsub : zAd p c = some b)
    (hG : P.globals.size ≤ G) (hn : G ≤ n.ix) (hw : zEC G n.ix (wsOf wins) = true) (hA : uR A wins) (hbd : boundIs bound Ts = true)
    (hargs : @zS (linSym σ K) (zIY G wins) args args'.toList) (hrun : startOf P code nat fuel G (wsOf wins) L Ts p cc args n (linSym σ K) K hs = true)
    (hgood : PassesC P code nat fuel G wins L A Ts p pre q j cc rs w0) : Calls P f args' w0 fun e w => e = .returned (.bool true) ∧ Below w0.heap.size w0 w := by
  obtain ⟨hrs, hnr, rfl⟩ := zIX hf hb hcf
  letI S : Sym := linSym σ K
  haveI hS : SymFact P := ye hK
  have hcall : yN P (ev P code nat fuel) := jb (fun call hcall F N => yW hm hcall) hcode (hnat _ _ hK) fuel
  have hdraw : ∀ F N, qC P F N (ev P code nat fuel) := fun F N => yW hm hcall
  have hst : St P (yw fn c) fn.ntmps (zIY G wins) (xy args 0 .nil) [] .nil n { tmps := args' ++ Array.replicate (fn.ntmps - args'.size) undef, defers := [] } w0 :=
    zA0 hcall hdraw hargs (zLR hG hw) (zGS _ _) (zJH hn hw)
  unfold startOf at hrun
  generalize hres : zET P (ev P code nat fuel) p (zG P (yw fn c) fn.ntmps c) (xy args 0 .nil) [] .nil n = r at hrun
  obtain ⟨hs', hchk⟩ : ∃ x, jf G (wsOf wins) Ts (fun t => zBV t.θ && jt t.θ L) K (fun _ => false) r hs = some x := by
    unfold kl at hrun
    split at hrun
    · rename_i x hx; exact ⟨x, hx⟩
    · cases hrun
  have hclean : zW r := jF (fun _ h => by cases h) hchk
  refine calls_of_wp_defers hf hb (zCZ hcall (hdraw _ _) p c hsub hnr hst (by rw [hres]; exact hclean) fun e a' w' ho => ?_)
  rw [hres] at ho
  rcases uH hchk ho with ⟨rfl, tm, h, n', ψ', t', T', h1, h2, h3, h4, h5⟩ | ⟨_, r', _, h2⟩
  · rw [Bool.and_eq_true] at h4
    obtain ⟨h4, h4L⟩ := h4
    obtain ⟨q0, θr, hθ⟩ : ∃ q0 θr, t'.θ = q0 :: θr := by
      unfold zBV at h4
      split at h4
      · rename_i q θr hq; exact ⟨q, θr, hq⟩
      · cases h4
    obtain ⟨σ'', ψT, hinv, _⟩ := zIO hK hlen h1 h2 hG (by rw [hKA]; exact hA) h5 ⟨q0, by rw [hθ]; rfl⟩ h4L (w0 := w0) (fun k o p h1 _ _ => by
      have h1 : yK k .nil = some o := h1
      rw [wx] at h1; cases h1) (Below.refl _ _)
    rw [hKA] at hinv
    exact ⟨rfl, zJv hm hcode hnat hG hp hat hsub hnr hrs hA hbd hgood _ _ _ _ _ _ _ h3 hinv (Nat.le_refl _)⟩
  · cases h2
def LeafGoodC (P : Program) (code : FuncId → CFn) (nat : Nats) (fuel G : Nat) (ws L : List (Key × Nat)) (Ts : List TS) (p pre q : List Stp) (j : Nat) (cc : CCode) (rs : List CRes) (T : TS) (e : Lf) : Prop :=
  apartK T.objs e.l = true ∧ ∃ cut, zGh P code nat fuel Ts pre j cc rs cut ∧ ∀ (s : Nat → Int) (A : Key → Option Value), ∃ hs, passC P code nat fuel G ws L Ts p pre q j cc rs T e.l cut s (e.known A) hs = true
def StateGoodC (P : Program) (code : FuncId → CFn) (nat : Nats) (fuel G : Nat) (ws L : List (Key × Nat)) (Ts : List TS) (p pre q : List Stp) (j : Nat) (cc : CCode) (rs : List CRes) (ks : List (Key × Bool)) (T : TS) : Prop :=
  ∃ (tree : LTree) (ls : List Lf), leaves ks tree ⟨T.b, T.f, T.r, [], 1000⟩ = some ls ∧ (Nat.ble (Nat.succ ks.length) T.b.length && Nat.ble T.b.length 1000 && zD7 T.b.length L) = true ∧
    AllG (LeafGoodC P code nat fuel G ws L Ts p pre q j cc rs T) ls
theorem passes_allC {code : FuncId → CFn} {nat : Nats} {fuel G : Nat} {wins : List Win} {ws L : List (Key × Nat)} {A : Key → Option Value} {Ts : List TS} {p pre q : List Stp} {j : Nat} {cc : CCode} {rs : List CRes} {w0 : World} {ks : List (Key × Bool)}
    (hws : wsOf wins = ws) (hwin : ∀ σ, LensAre wins L σ → WinIs wins w0 σ ks) (h : AllS (StateGoodC P code nat fuel G ws L Ts p pre q j cc rs ks) Ts) : PassesC P code nat fuel G wins L A Ts p pre q j cc rs w0 := by
  intro t T hT σ hb hf hr hlen
  obtain ⟨tree, ls, h1, h2, h3⟩ := allS_nth h hT
  rw [Bool.and_eq_true, Bool.and_eq_true] at h2
  have g1 := @zM zZ _ _ h2.1.1
  have g2 := @zM zZ _ _ h2.1.2
  obtain ⟨e, hm, σ', r1, r2⟩ := yg (wins := wins) (w0 := w0) (i := σ 0) tree _ σ h1 ⟨hb, hf, hr, fun q hq => by cases hq⟩ (hwin σ hlen) rfl (by show ks.length < T.b.length; omega) g2 (Nat.le_refl _)
  obtain ⟨hap, cut, hends, hall⟩ := zBv h3 e hm
  obtain ⟨hs, hpass⟩ := hall σ' A
  refine ⟨σ', e.known A, e.l, hs, cut, fun j hj => r2 j (.inl hj), fun q hq => r2 _ (.inl (zB2 h2.2 q hq)), rfl, r1.known A, fun q hq => r1.w q hq σ' _ vk, hap, hends, ?_⟩
  rw [hws]
  exact hpass
theorem calls_treeC {code : FuncId → CFn} {nat : Nats} {fuel : Nat} {f : FuncId} {fn : Func} {c b xa xb : Code} {cc : CCode} {p pre q : List Stp} {j : Nat} {rs : List CRes} {G : Nat} {wins : List Win} {ws L : List (Key × Nat)} {A : Key → Option Value} {Ts : List TS} {bound : Int} {w0 : World}
    {ks : List (Key × Bool)} {tree : LTree} {e0 : Lf} {ls : List Lf} {σ : Nat → Int} {args : List CV} {args' : Array Value} {n : Key} (hws : wsOf wins = ws)
    (hls : leaves ks tree e0 = some ls) (hchk : (Nat.ble (Nat.succ ks.length) e0.b.length && Nat.ble e0.b.length 1000 && Nat.ble 1000 e0.u && zD7 e0.b.length L) = true)
    (hall : AllG (fun e => ∀ (s : Nat → Int) (A : Key → Option Value), ∃ hs, startOf P code nat fuel G ws L Ts p cc args n (linSym s (e.known A)) (e.known A) hs = true) ls)
    (h0 : zEL wins w0 (σ 0) σ e0) (hlen : LensAre wins L σ) (hwin : ∀ σ, LensAre wins L σ → WinIs wins w0 σ ks)
    (hm : P.follows .mixedOrders = true) (hcode : CodeOk P code) (hnat : ∀ σ K, KnownOk σ K → @NatsOk (linSym σ K) P nat) (hf : P.funcs[f]? = some fn) (hb : fn.body = some c) (hcf : compFn P f = .mk cc rs) (hp : p = pre ++ .l :: q) (hat : atC pre c = some (.seq xa xb)) (hsub : zAd p c = some b)
    (hG : P.globals.size ≤ G) (hn : G ≤ n.ix) (hw : zEC G n.ix ws = true) (hA : uR A wins) (hbd : boundIs bound Ts = true)
    (hargs : ∀ σ' K', K'.arg = A → (∀ j, (j < e0.b.length ∨ (1000 ≤ j ∧ j < e0.u)) → σ' j = σ j) → @zS (linSym σ' K') (zIY G wins) args args'.toList)
    (hgood : PassesC P code nat fuel G wins L A Ts p pre q j cc rs w0) : Calls P f args' w0 fun e w => e = .returned (.bool true) ∧ Below w0.heap.size w0 w := by
  simp only [Bool.and_eq_true] at hchk
  obtain ⟨⟨⟨g1, g2⟩, g3⟩, g4⟩ := hchk
  have g1 := @zM zZ _ _ g1
  obtain ⟨e, hmem, σ', r1, r2⟩ := yg (wins := wins) (w0 := w0) (i := σ 0) tree e0 σ hls h0 (hwin σ hlen) rfl (by omega) (@zM zZ _ _ g2) (@zM zZ _ _ g3)
  obtain ⟨hs, hrun⟩ := zBv hall e hmem σ' A
  subst hws
  exact zHX (K := e.known A) (r1.known A) rfl (fun q hq => by
    obtain ⟨wn, h1, h2⟩ := hlen q hq
    exact ⟨wn, h1, by rw [r2 _ (.inl (zB2 g4 q hq))]; exact h2⟩) hm hcode hnat hf hb hcf hp hat hsub hG hn hw hA hbd (hargs σ' _ rfl r2) hrun hgood
end
end Go.Ev

namespace Go.Ev
open Go.RowKit
noncomputable section
variable {P : Program}
section
variable {code : FuncId → CFn} {nat : Nats} {fuel G : Nat} {ws L : List (Key × Nat)} {Ts : List TS} {p pre q : List Stp} {j : Nat} {cc : CCode} {rs : List CRes} {T : TS} {l : List (Key × List CV)}
def fo : Nat → FT → FT
  | 0, x => x
  | m + 1, x => .node (fo m x) x
def wy : Nat → Nat → List Bool
  | 0, _ => []
  | m + 1, v => match Nat.beq v (Nat.succ m) with
    | true => [true]
    | false => false :: wy m v
def sp : List Nat → CT
  | [] => .leaf
  | v :: l => .cmp [(v, 1)] 1 (sp l) (sp l)
def zQO : List Bool → List Bool → Bool
  | [], [] => true
  | a :: x, b :: y => (a == b) && zQO x y
  | _, _ => false
def ctOf : List (List Bool × CT) → List Bool → CT
  | [], _ => .leaf
  | x :: l, p => match zQO x.1 p with
    | true => x.2
    | false => ctOf l p
def fI (z : Int) (k : Int → Bool) : Bool := match z with
  | .ofNat n => k (.ofNat n)
  | .negSucc n => k (.negSucc n)
theorem zFO {z : Int} {k : Int → Bool} : fI z k = k z := by cases z <;> rfl
def fB : List (Int × Int) → (List (Int × Int) → Bool) → Bool
  | [], k => k []
  | (a, b) :: l, k => fI a fun a => fI b fun b => fB l fun l' => k ((a, b) :: l')
theorem zPE : ∀ {l : List (Int × Int)} {k : List (Int × Int) → Bool}, fB l k = k l
  | [], _ => rfl
  | (a, b) :: l, k => by unfold fB; rw [zFO, zFO, zPE]
def fLL : LL → (LL → Bool) → Bool
  | [], k => k []
  | (i, a) :: l, k => fI a fun a => fLL l fun l' => k ((i, a) :: l')
theorem zJr : ∀ {l : LL} {k : LL → Bool}, fLL l k = k l
  | [], _ => rfl
  | (i, a) :: l, k => by unfold fLL; rw [zFO, zJr]
def fF : List (LL × Int × Int) → (List (LL × Int × Int) → Bool) → Bool
  | [], k => k []
  | (m, a, b) :: l, k => fLL m fun m => fI a fun a => fI b fun b => fF l fun l' => k ((m, a, b) :: l')
theorem zPr : ∀ {l : List (LL × Int × Int)} {k : List (LL × Int × Int) → Bool}, fF l k = k l
  | [], _ => rfl
  | (m, a, b) :: l, k => by unfold fF; rw [zJr, zFO, zFO, zPr]
def fR : List SRule → (List SRule → Bool) → Bool
  | [], k => k []
  | ⟨o, ⟨i, c, m⟩, n, v⟩ :: l, k => fI c fun c => fLL m fun m => fR l fun l' => k (⟨o, ⟨i, c, m⟩, n, v⟩ :: l')
theorem zPA : ∀ {l : List SRule} {k : List SRule → Bool}, fR l k = k l
  | [], _ => rfl
  | ⟨o, ⟨i, c, m⟩, n, v⟩ :: l, k => by unfold fR; rw [zFO, zJr, zPA]
def fW : List (Key × List CV) → (List (Key × List CV) → Bool) → Bool
  | [], k => k []
  | (i, m) :: l, k => zBE m fun m => fW l fun l' => k ((i, m) :: l')
theorem zPs : ∀ {l : List (Key × List CV)} {k : List (Key × List CV) → Bool}, fW l k = k l
  | [], _ => rfl
  | (i, m) :: l, k => by unfold fW; rw [wX, zPs]
def forceLf (e : Lf) (k : Lf → Bool) : Bool := match e with
  | ⟨b, f, r, l, u⟩ => fB b fun b => fF f fun f => fR r fun r => fW l fun l => k ⟨b, f, r, l, u⟩
theorem forceLf_eq {e : Lf} {k : Lf → Bool} : forceLf e k = k e := by
  cases e
  unfold forceLf
  simp only [zPE, zPr, zPA, zPs]
def leavesD (ks : List (Key × Bool)) (t : LTree) (e : Lf) : List Lf := match leaves ks t e with
  | some l => l
  | none => []
def nthLf (l : List Lf) (k : Nat) : Lf := match nth l k with
  | some e => e
  | none => ⟨[], [], [], [], 0⟩
def passN (P : Program) (code : FuncId → CFn) (nat : Nats) (fuel : Nat) (G : Nat) (ws L : List (Key × Nat)) (Ts : List TS) (p : List Stp) (cc : CCode) (rs : List CRes) (T : TS) (l : List (Key × List CV)) (s : Nat → Int) (K : zY) (ts : List Nat) : Bool :=
  zBd (zBY G ws Ts (fun t => zA1 t.θ && jt t.θ L) K (zIm P code nat fuel p cc rs (linSym s K)) (@zd (linSym s K) P (@ev (linSym s K) P code nat fuel) (zDv p cc) (vI T.locs) [] (mkH (mkH .nil T.objs) (zED l)) T.n) ts)
theorem passN_okC {s : Nat → Int} {K : zY} {ts : List Nat} (h : passN P code nat fuel G ws L Ts p cc rs T l s K ts = true) : ∃ hs, passC P code nat fuel G ws L Ts p pre q j cc rs T l .plain s K hs = true := kD h
def startN (P : Program) (code : FuncId → CFn) (nat : Nats) (fuel : Nat) (G : Nat) (ws L : List (Key × Nat)) (Ts : List TS) (p : List Stp) (cc : CCode) (args : List CV) (n : Key) (s : Nat → Int) (K : zY) (ts : List Nat) : Bool :=
  zBd (zBY G ws Ts (fun t => zBV t.θ && jt t.θ L) K (fun _ => false) (@zET (linSym s K) P (@ev (linSym s K) P code nat fuel) p cc (xy args 0 .nil) [] .nil n) ts)
theorem startN_ok {args : List CV} {n : Key} {s : Nat → Int} {K : zY} {ts : List Nat} (h : startN P code nat fuel G ws L Ts p cc args n s K ts = true) : ∃ hs, startOf P code nat fuel G ws L Ts p cc args n (linSym s K) K hs = true := kD h
end
end
end Go.Ev


