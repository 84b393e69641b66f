/- A verified evaluator for the model's code: EvPick, EvCut, EvHintA, EvCut2, EvHint. -/
import Derived.Test.YtglaococfplhpaaGreatDoorEvTree
set_option linter.unusedSectionVars false
set_option linter.unusedVariables false
set_option linter.unusedSimpArgs false
namespace Go.Ev
noncomputable section
variable {P : Program}
def pickR : List Bool → R → R
  | [], r => r
  | b :: p, r => match r with
    | .fork x y => match b with
      | false => pickR p x
      | true => pickR p y
    | r => r
inductive FT where
  | leaf
  | node (a b : FT)
def FT.paths : FT → List (List Bool)
  | .leaf => [[]]
  | .node a b => a.paths.map (false :: ·) ++ b.paths.map (true :: ·)
theorem FT.some : ∀ (t : FT), ∃ p, p ∈ t.paths
  | .leaf => ⟨[], by simp [FT.paths]⟩
  | .node a b => by
    obtain ⟨p, hp⟩ := FT.some a
    exact ⟨false :: p, by simp [FT.paths, hp]⟩
theorem allTrue_pick : ∀ (t : FT) (r : R), (∀ p ∈ t.paths, allTrue (pickR p r) = true) → allTrue r = true
  | .leaf, r, h => h [] (by simp [FT.paths])
  | .node a b, r, h => by
    have other : (∀ p, pickR (false :: p) r = r) → allTrue r = true := by
      intro e
      obtain ⟨p, hp⟩ := FT.some a
      have := h (false :: p) (by simp [FT.paths, hp])
      rwa [e] at this
    cases r with
    | fork x y =>
      have h1 := allTrue_pick a x fun p hp => h (false :: p) (by simp [FT.paths, hp])
      have h2 := allTrue_pick b y fun p hp => h (true :: p) (by simp [FT.paths, hp])
      show Bool.rec (motive := fun _ => Bool) false (allTrue y) (allTrue x) = true
      rw [h1, h2]
    | ok e tm ds h n => exact other fun _ => rfl
    | ret v h n => exact other fun _ => rfl
    | err c => exact other fun _ => rfl
def AllP (Q : List Bool → Prop) : List (List Bool) → Prop
  | [] => True
  | p :: l => Q p ∧ AllP Q l
theorem allP_mem {Q : List Bool → Prop} : ∀ {l : List (List Bool)}, AllP Q l → ∀ p ∈ l, Q p
  | [], _, p, hp => by cases hp
  | x :: l, h, p, hp => by
    rcases List.mem_cons.1 hp with rfl | hp
    · exact h.1
    · exact allP_mem h.2 p hp
section
variable {G : Nat} {ws : List (Key × Nat)} {Ts : List TS} {ok : TH → Bool} {K : Known}
theorem chkR_rest {f g : R → Bool} : ∀ {r : R} {hs o1 o2 : List Hint}, chkR G ws Ts ok K f r hs = some o1 → chkR G ws Ts ok K g r hs = some o2 → o1 = o2
  | .ok .normal tm ds h n, [], o1, o2, h1, _ => by cases h1
  | .ok .normal tm ds h n, t :: hs, o1, o2, h1, h2 => by
    unfold chkR at h1 h2
    split at h1
    · rename_i e
      rw [e] at h2
      injection h1 with h1; injection h2 with h2
      rw [← h1, ← h2]
    · cases h1
  | .ok (.exit i) tm ds h n, hs, o1, o2, h1, h2 => by
    unfold chkR at h1 h2
    split at h1
    · split at h2
      · injection h1 with h1; injection h2 with h2
        rw [← h1, ← h2]
      · cases h2
    · cases h1
  | .ok .ret tm ds h n, hs, o1, o2, h1, h2 => by
    unfold chkR at h1 h2
    split at h1
    · split at h2
      · injection h1 with h1; injection h2 with h2
        rw [← h1, ← h2]
      · cases h2
    · cases h1
  | .fork a b, hs, o1, o2, h1, h2 => by
    unfold chkR at h1 h2
    split at h1
    · rename_i q1 e1
      split at h2
      · rename_i q2 e2
        have := chkR_rest e1 e2
        subst this
        exact chkR_rest h1 h2
      · cases h2
    · cases h1
  | .ret _ _ _, hs, o1, o2, h1, _ => by unfold chkR at h1; cases h1
  | .err _, hs, o1, o2, h1, _ => by unfold chkR at h1; cases h1
theorem chkR_pick {t : FT} {fins : List Bool → R → Bool} {fin : R → Bool} (hf : ∀ r, (∀ p ∈ t.paths, fins p r = true) → fin r = true) : ∀ {r : R} {hs : List Hint}, (∀ p ∈ t.paths, ∃ o, chkR G ws Ts ok K (fins p) r hs = some o) →
    ∃ o, chkR G ws Ts ok K fin r hs = some o
  | .ok .normal tm ds h n, [], hp => by
    obtain ⟨p, hm⟩ := FT.some t
    obtain ⟨o, h1⟩ := hp p hm
    cases h1
  | .ok .normal tm ds h n, x :: hs, hp => by
    obtain ⟨p, hm⟩ := FT.some t
    obtain ⟨o, h1⟩ := hp p hm
    unfold chkR at h1 ⊢
    exact ⟨o, h1⟩
  | .ok (.exit i) tm ds h n, hs, hp => by
    have : fin (.ok (.exit i) tm ds h n) = true := hf _ fun p hm => by
      obtain ⟨o, h1⟩ := hp p hm
      unfold chkR at h1
      split at h1
      · assumption
      · cases h1
    exact ⟨hs, by unfold chkR; rw [this]⟩
  | .ok .ret tm ds h n, hs, hp => by
    have : fin (.ok .ret tm ds h n) = true := hf _ fun p hm => by
      obtain ⟨o, h1⟩ := hp p hm
      unfold chkR at h1
      split at h1
      · assumption
      · cases h1
    exact ⟨hs, by unfold chkR; rw [this]⟩
  | .fork a b, hs, hp => by
    have ha : ∀ p ∈ t.paths, ∃ o, chkR G ws Ts ok K (fins p) a hs = some o := fun p hm => by
      obtain ⟨o, h1⟩ := hp p hm
      unfold chkR at h1
      split at h1
      · exact ⟨_, by assumption⟩
      · cases h1
    obtain ⟨o, ho⟩ := chkR_pick hf ha
    have hb : ∀ p ∈ t.paths, ∃ o', chkR G ws Ts ok K (fins p) b o = some o' := fun p hm => by
      obtain ⟨o', h1⟩ := hp p hm
      unfold chkR at h1
      split at h1
      · rename_i q e
        have := chkR_rest e ho
        subst this
        exact ⟨_, h1⟩
      · cases h1
    obtain ⟨o', ho'⟩ := chkR_pick hf hb
    exact ⟨o', by unfold chkR; rw [ho]; exact ho'⟩
  | .ret _ _ _, hs, hp => by
    obtain ⟨p, hm⟩ := FT.some t
    obtain ⟨o, h1⟩ := hp p hm
    unfold chkR at h1; cases h1
  | .err _, hs, hp => by
    obtain ⟨p, hm⟩ := FT.some t
    obtain ⟨o, h1⟩ := hp p hm
    unfold chkR at h1; cases h1
end
def passPick (P : Program) (code : FuncId → CFn) (nat : Nats) (fuel : Nat) (G : Nat) (ws L : List (Key × Nat)) (Ts : List TS) (p : List Stp) (cc : CCode) (rs : List CRes) (T : TS) (l : List (Key × List CV)) (path : List Bool) (S : Sym) (K : Known)
    (hs : List Hint) : Bool :=
  isSomeH (chkR G ws Ts (fun θ => oneMore θ && lensTh θ L) K (fun r => allTrue (pickR path (afterFn false (@ev S P code nat fuel) rs (@postC S P (@ev S P code nat fuel) p cc r))))
    (@evCode S P (@ev S P code nat fuel) (bodyC p cc) (mkTm T.locs) [] (mkH (mkH .nil T.objs) (roOf l)) T.n) hs)
theorem isSomeH_some {o : Option (List Hint)} (h : isSomeH o = true) : ∃ x, o = some x := by
  unfold isSomeH at h
  split at h
  · exact ⟨_, rfl⟩
  · cases h
theorem pass_picks {code : FuncId → CFn} {nat : Nats} {fuel G : Nat} {ws L : List (Key × Nat)} {Ts : List TS} {p : List Stp} {cc : CCode} {rs : List CRes} {T : TS} {l : List (Key × List CV)} {S : Sym} {K : Known} {hs : List Hint} (t : FT)
    (h : AllP (fun path => passPick P code nat fuel G ws L Ts p cc rs T l path S K hs = true) t.paths) : passOf P code nat fuel G ws L Ts p cc rs T l S K hs = true := by
  have h := allP_mem h
  obtain ⟨o, ho⟩ := chkR_pick (t := t) (fins := fun path r => allTrue (pickR path (afterFn false (@ev S P code nat fuel) rs (@postC S P (@ev S P code nat fuel) p cc r)))) (fin := finOf P code nat fuel p cc rs S)
    (fun r hr => allTrue_pick t _ hr) (fun path hm => isSomeH_some (h path hm))
  unfold passOf
  rw [ho]
  rfl
end
end Go.Ev

namespace Go.Ev
open Go.RowKit
noncomputable section
variable {P : Program}
mutual
theorem vrel_as {S S' : Sym} (hv : @Sym.val S = @Sym.val S') (ha : @Sym.arg S = @Sym.arg S') {ψ : Psi} : ∀ (c : CV) {v : Value}, @VRel S ψ c v → @VRel S' ψ c v
  | .bool _, _, h => (@vrel_bool S' _ _ _).2 ((@vrel_bool S _ _ _).1 h)
  | .nat _, _, h => (@vrel_nat S' _ _ _).2 ((@vrel_nat S _ _ _).1 h)
  | .int _ _, _, h => (@vrel_int S' _ _ _ _).2 ((@vrel_int S _ _ _ _).1 h)
  | .anyi _, _, h => (@vrel_anyi S' _ _ _).2 ((@vrel_anyi S _ _ _).1 h)
  | .str _, _, h => (@vrel_str S' _ _ _).2 ((@vrel_str S _ _ _).1 h)
  | .nilptr, _, h => (@vrel_nilptr S' _ _).2 ((@vrel_nilptr S _ _).1 h)
  | .ptr _ _, _, h => (@vrel_ptr S' _ _ _ _).2 ((@vrel_ptr S _ _ _ _).1 h)
  | .nilsl, _, h => (@vrel_nilsl S' _ _).2 ((@vrel_nilsl S _ _).1 h)
  | .sl .., _, h => (@vrel_sl S' _ _ _ _ _ _ _ _).2 ((@vrel_sl S _ _ _ _ _ _ _ _).1 h)
  | .nilmap, _, h => (@vrel_nilmap S' _ _).2 ((@vrel_nilmap S _ _).1 h)
  | .map _, _, h => (@vrel_map S' _ _ _).2 ((@vrel_map S _ _ _).1 h)
  | .func _ a c, _, h => by
    obtain ⟨a', c', e, h1, h2⟩ := (@vrel_func S _ _ _ _ _).1 h
    exact (@vrel_func S' _ _ _ _ _).2 ⟨a', c', e, vrels_as hv ha a h1, vrels_as hv ha c h2⟩
  | .nilfunc, _, h => (@vrel_nilfunc S' _ _).2 ((@vrel_nilfunc S _ _).1 h)
  | .iface _ x, _, h => by
    obtain ⟨y, e, h1⟩ := (@vrel_iface S _ _ _ _).1 h
    exact (@vrel_iface S' _ _ _ _).2 ⟨y, e, vrel_as hv ha x h1⟩
  | .niliface, _, h => (@vrel_niliface S' _ _).2 ((@vrel_niliface S _ _).1 h)
  | .agg cs, _, h => by
    obtain ⟨a, e, h1⟩ := (@vrel_agg S _ _ _).1 h
    exact (@vrel_agg S' _ _ _).2 ⟨a, e, vrels_as hv ha cs h1⟩
  | .tup cs, _, h => by
    obtain ⟨a, e, h1⟩ := (@vrel_tup S _ _ _).1 h
    exact (@vrel_tup S' _ _ _).2 ⟨a, e, vrels_as hv ha cs h1⟩
  | .sym i, _, h => by
    have h1 := (@vrel_sym S _ _ _).1 h
    rw [hv] at h1
    exact (@vrel_sym S' _ _ _).2 h1
  | .win _ _ _ _, _, h => by
    have h1 := (@vrel_win S _ _ _ _ _ _).1 h
    rw [hv, ha] at h1
    exact (@vrel_win S' _ _ _ _ _ _).2 h1
  | .sst l, _, h => by
    obtain ⟨b, e, h1⟩ := (@vrel_sst S _ _ _).1 h
    exact (@vrel_sst S' _ _ _).2 ⟨b, e, vrels_as hv ha l h1⟩
  | .big _, _, h => (@vrel_big S' _ _ _).2 ((@vrel_big S _ _ _).1 h)
  | .any, _, _ => @vrel_any S' _ _
theorem vrels_as {S S' : Sym} (hv : @Sym.val S = @Sym.val S') (ha : @Sym.arg S = @Sym.arg S') {ψ : Psi} : ∀ (cs : List CV) {l : List Value}, @VRels S ψ cs l → @VRels S' ψ cs l
  | [], _, h => (@vrels_nil S' _ _).2 ((@vrels_nil S _ _).1 h)
  | c :: cs, _, h => by
    obtain ⟨v, r, e, h1, h2⟩ := (@vrels_cons S _ _ _ _).1 h
    exact (@vrels_cons S' _ _ _ _).2 ⟨v, r, e, vrel_as hv ha c h1, vrels_as hv ha cs h2⟩
end
section
variable {S S' : Sym} (hv : @Sym.val S = @Sym.val S') (ha : @Sym.arg S = @Sym.arg S')
include hv ha
theorem cerels_as {ψ : Psi} {ck : Nat → Nat} : ∀ {es : List CE} {l : List MapEntry}, @CERels S ψ ck es l → @CERels S' ψ ck es l
  | [], _, h => h
  | c :: cs, _, ⟨e, r, h0, ⟨h1, h2, h3⟩, h4⟩ => ⟨e, r, h0, ⟨vrel_as hv ha _ h1, vrel_as hv ha _ h2, h3⟩, cerels_as h4⟩
theorem orel_as {ψ : Psi} {w : World} {p : Pl} : ∀ {o : CObj}, @ORel S ψ w p o → @ORel S' ψ w p o
  | .cells _, ⟨a, e, f, h1, h2, h3, h4, h5⟩ => ⟨a, e, f, h1, h2, h3, h4, fun i c hc => let ⟨x, g1, g2⟩ := h5 i c hc; ⟨x, g1, vrel_as hv ha _ g2⟩⟩
  | .ro _, ⟨a, e, f, h1, h2, h3, h5⟩ => ⟨a, e, f, h1, h2, h3, fun i c hc => let ⟨x, g1, g2⟩ := h5 i c hc; ⟨x, g1, vrel_as hv ha _ g2⟩⟩
  | .map _ _, ⟨arr, h1, ⟨l, hp, h2⟩, h3⟩ => ⟨arr, h1, ⟨l, hp, cerels_as hv ha h2⟩, h3⟩
  | .striter _ _, h => h
  | .full _ _, ⟨a, e, f, h1, h2, h3, h4, h5⟩ => ⟨a, e, f, h1, h2, h3, h4, fun i c hc => let ⟨x, g1, g2⟩ := h5 i c hc; ⟨x, g1, vrel_as hv ha _ g2⟩⟩
  | .mapiter _ _ _ _, h => h
theorem rel_as {ψ : Psi} {g : Fam} {w : World} (h : @Rel S ψ g w) : @Rel S' ψ g w :=
  @Rel.mk S' _ _ _ (fun k o p h1 h2 => orel_as hv ha (@Rel.on S _ _ _ h k o p h1 h2)) (@Rel.tot S _ _ _ h) (@Rel.inj S _ _ _ h)
theorem st_as {F N : Nat} {ψ : Psi} {tm : Tm} {h : Heap} {n : Key} {a : Act} {w : World} (hs : @St S P F N ψ tm [] h n a w) : @St S' P F N ψ tm [] h n a w := by
  have hf := @St.frame S _ _ _ _ _ _ _ _ _ _ hs
  refine @St.mk S' P F N _ _ _ _ _ _ _ ?_ ?_ (rel_as hv ha (@St.rel S _ _ _ _ _ _ _ _ _ _ hs)) (@St.glob S _ _ _ _ _ _ _ _ _ _ hs) (@St.fresh S _ _ _ _ _ _ _ _ _ _ hs)
  · exact @FrameRel.mk S' _ _ _ _ _ (@FrameRel.size S _ _ _ _ _ hf) fun t h1 h2 h3 => vrel_as hv ha _ (@FrameRel.tmp S _ _ _ _ _ hf t h1 h2 h3)
  · have := @St.dfr S _ _ _ _ _ _ _ _ _ _ hs
    exact this
end
inductive CT where
  | leaf
  | cmp (l : LL) (cut : Int) (a b : CT)
def addK (K : Known) (q : LL × Int × Int) : Known := ⟨K.b, q :: K.f, K.rules, K.arg⟩
def setB : List (Int × Int) → Nat → Int × Int → List (Int × Int)
  | [], _, _ => []
  | _ :: l, 0, q => q :: l
  | p :: l, v + 1, q => p :: setB l v q
def addB (K : Known) (v : Nat) (q : Int × Int) : Known := ⟨setB K.b v q, K.f, K.rules, K.arg⟩
def addC (K : Known) (l : LL) (q : Int × Int) : Known := match l with
  | [(v, z)] => match intEq z 1 with
    | true => addB K v q
    | false => addK K (l, q.1, q.2)
  | _ => addK K (l, q.1, q.2)
def casesK : CT → Known → List Known
  | .leaf, K => [K]
  | .cmp l cut a b, K => match rng K l with
    | some q => casesK a (addC K l (q.1, min q.2 (cut - 1))) ++ casesK b (addC K l (max q.1 cut, q.2))
    | none => [K]
theorem setB_nth {v : Nat} {q : Int × Int} : ∀ {l : List (Int × Int)} {v i : Nat} {x : Int × Int}, nth (setB l v q) i = some x → (i = v ∧ x = q) ∨ nth l i = some x
  | [], _, _, _, h => .inr h
  | _ :: l, 0, 0, x, h => by injection h with h; exact .inl ⟨rfl, h.symm⟩
  | _ :: l, 0, i + 1, x, h => .inr h
  | p :: l, v + 1, 0, x, h => .inr h
  | p :: l, v + 1, i + 1, x, h => by
    rcases setB_nth (v := v) (l := l) (i := i) h with ⟨h1, h2⟩ | h
    · exact .inl ⟨by omega, h2⟩
    · exact .inr h
theorem addK_ok {σ : Nat → Int} {K : Known} {q : LL × Int × Int} (h : KnownOk σ K) (hq : q.2.1 ≤ evL σ q.1 ∧ evL σ q.1 ≤ q.2.2) : KnownOk σ (addK K q) :=
  ⟨h.b, fun x hx => by
    rcases List.mem_cons.1 hx with rfl | hx
    · exact hq
    · exact h.f x hx, h.rules⟩
theorem addC_ok {σ : Nat → Int} {K : Known} {l : LL} {q : Int × Int} (h : KnownOk σ K) (hq : q.1 ≤ evL σ l ∧ evL σ l ≤ q.2) : KnownOk σ (addC K l q) := by
  unfold addC
  split
  · rename_i v z
    split
    · rename_i hz
      rw [@intEq_iff noSym, decide_eq_true_eq] at hz
      subst hz
      have e : evL σ [(v, 1)] = σ v := by show 1 * σ v + 0 = _; omega
      rw [e] at hq
      refine ⟨fun i x hx => ?_, h.f, h.rules⟩
      rcases setB_nth (v := v) hx with ⟨rfl, rfl⟩ | hx
      · exact hq
      · exact h.b i x hx
    · exact addK_ok (q := (_, q.1, q.2)) h hq
  · exact addK_ok (q := (_, q.1, q.2)) h hq
theorem addC_arg {K : Known} {l : LL} {q : Int × Int} : (addC K l q).arg = K.arg := by
  unfold addC
  split
  · split <;> rfl
  · rfl
theorem casesK_ok {σ : Nat → Int} : ∀ (t : CT) {K : Known}, KnownOk σ K → ∃ K', K' ∈ casesK t K ∧ KnownOk σ K' ∧ K'.arg = K.arg
  | .leaf, K, h => ⟨K, by simp [casesK], h, rfl⟩
  | .cmp l cut a b, K, h => by
    unfold casesK
    split
    · rename_i q hq
      obtain ⟨g1, g2⟩ := rng_spec h hq
      by_cases hc : evL σ l < cut
      · obtain ⟨K', m, h1, h2⟩ := casesK_ok a (addC_ok (l := l) (q := (q.1, min q.2 (cut - 1))) h ⟨g1, by simp only; omega⟩)
        exact ⟨K', List.mem_append_left _ m, h1, h2.trans addC_arg⟩
      · obtain ⟨K', m, h1, h2⟩ := casesK_ok b (addC_ok (l := l) (q := (max q.1 cut, q.2)) h ⟨by simp only; omega, g2⟩)
        exact ⟨K', List.mem_append_right _ m, h1, h2.trans addC_arg⟩
    · exact ⟨K, by simp, h, rfl⟩
def atC : List Stp → Code → Option Code
  | [], c => some c
  | .l :: p, .seq x _ => atC p x
  | .r :: p, .seq _ y => atC p y
  | .b :: p, .block _ x => atC p x
  | _, _ => none
def leftP : List Stp → CCode → CCode
  | [], .seq a _ => a
  | .l :: p, .seq a _ => leftP p a
  | .r :: p, .seq _ b => leftP p b
  | .b :: p, .block _ x => leftP p x
  | _, _ => .bad 52
def rightP : List Stp → CCode → CCode
  | [], .seq _ b => b
  | .l :: p, .seq a _ => rightP p a
  | .r :: p, .seq _ b => rightP p b
  | .b :: p, .block _ x => rightP p x
  | _, _ => .bad 53
theorem leftP_comp {F N : Nat} : ∀ {p : List Stp} {c a b : Code}, atC p c = some (.seq a b) → leftP p (compCode P F N c) = compCode P F N a ∧ rightP p (compCode P F N c) = compCode P F N b
  | [], c, a, b, h => by
    injection h with h; subst h; exact ⟨rfl, rfl⟩
  | .l :: p, c, a, b, h => by
    cases c <;> first | exact leftP_comp (p := p) h | cases h
  | .r :: p, c, a, b, h => by
    cases c <;> first | exact leftP_comp (p := p) h | cases h
  | .b :: p, c, a, b, h => by
    cases c <;> first | exact leftP_comp (p := p) h | cases h
theorem sub_at {q : List Stp} {bl : Code} : ∀ {p : List Stp} {c a b : Code}, atC p c = some (.seq a b) → subC (p ++ .l :: q) c = some bl → subC q a = some bl
  | [], c, a, b, h, hs => by
    injection h with h; subst h; exact hs
  | .l :: p, c, a, b, h, hs => by
    cases c <;> first | exact sub_at (p := p) h hs | cases h
  | .r :: p, c, a, b, h, hs => by
    cases c <;> first | exact sub_at (p := p) h hs | cases h
  | .b :: p, c, a, b, h, hs => by
    cases c <;> first | exact sub_at (p := p) h hs | cases h
theorem noRec_at : ∀ {p : List Stp} {c x : Code}, atC p c = some x → noRec c = true → noRec x = true
  | [], c, x, h, hn => by
    injection h with h; subst h; exact hn
  | .l :: p, c, x, h, hn => by
    cases c <;> try (cases h; done)
    rename_i y z
    have hnr : noRec y = true ∧ noRec z = true := by simpa [noRec] using hn
    exact noRec_at (p := p) h hnr.1
  | .r :: p, c, x, h, hn => by
    cases c <;> try (cases h; done)
    rename_i y z
    have hnr : noRec y = true ∧ noRec z = true := by simpa [noRec] using hn
    exact noRec_at (p := p) h hnr.2
  | .b :: p, c, x, h, hn => by
    cases c <;> first | exact noRec_at (p := p) h hn | cases h
theorem QH_at {q : List Stp} : ∀ {p : List Stp} {c a b : Code} {Q : Exit → Act → World → Prop}, atC p c = some (.seq a b) → QH P (p ++ .l :: q) c Q = QH P q a (Exit.then (b.wp P (QH P p c Q)) (QH P p c Q))
  | [], c, a, b, Q, h => by
    injection h with h; subst h; rfl
  | .l :: p, c, a, b, Q, h => by
    cases c <;> try (cases h; done)
    rename_i y z
    exact QH_at (p := p) (Q := Exit.then (z.wp P Q) Q) h
  | .r :: p, c, a, b, Q, h => by
    cases c <;> try (cases h; done)
    exact QH_at (p := p) h
  | .b :: p, c, a, b, Q, h => by
    cases c <;> try (cases h; done)
    exact QH_at (p := p) h
section
variable [Sym] [SymFact P] {F N : Nat} {call : CallF}
theorem post_simA (hcall : CallOk P call) (hdraw : DrawSim P F N call) {ψ₀ : Psi} {g₀ : Fam} {n₀ : Key} {w₀ : World} : ∀ (p : List Stp) (c : Code) {x : Code} {Q : Exit → Act → World → Prop} {r : R} {e : Exit} {a : Act} {w : World},
    atC p c = some x → noRec c = true → OutOk P F N ψ₀ g₀ n₀ w₀ r e a w → Clean (postC P call p (compCode P F N c) r) →
    (∀ e a w, OutOk P F N ψ₀ g₀ n₀ w₀ (postC P call p (compCode P F N c) r) e a w → Q e a w) → QH P p c Q e a w
  | [], c, x, Q, r, e, a, w, hs, hn, ho, hc, hq => by
    cases c <;> exact hq e a w ho
  | .l :: p, c, b, Q, r, e, a, w, hs, hn, ho, hc, hq => by
    cases c <;> try (cases hs; done)
    rename_i x y
    have hnr : noRec x = true ∧ noRec y = true := by simpa [noRec] using hn
    have hc : Clean (thenK (evCode P call (compCode P F N y)) (postC P call p (compCode P F N x) r)) := hc
    have hab := fun tm ds h n => above_code (P := P) hcall.above (compCode P F N y) tm ds h n
    refine post_simA hcall hdraw p x (Q := Exit.then (y.wp P Q) Q) hs hnr.1 ho (clean_thenK hab hc) fun e a w ho => ?_
    rcases thenK_out hc ho with ⟨rfl, tm', ds', h', n', ψ', h2, h3, h4, h5⟩ | ⟨h1, h2⟩
    · exact wp_mono (code_sim hcall hdraw y hnr.2 h2 h4) fun e'' a'' w'' ho' => hq e'' a'' w'' (h5 e'' a'' w'' (OutOk.trans h3 ho'))
    · cases e <;> first | exact absurd rfl h1 | exact hq _ _ _ h2
  | .r :: p, c, b, Q, r, e, a, w, hs, hn, ho, hc, hq => by
    cases c <;> try (cases hs; done)
    rename_i x y
    have hnr : noRec x = true ∧ noRec y = true := by simpa [noRec] using hn
    exact post_simA hcall hdraw p y (Q := Q) hs hnr.2 ho hc hq
  | .b :: p, c, b, Q, r, e, a, w, hs, hn, ho, hc, hq => by
    cases c <;> try (cases hs; done)
    rename_i id x
    have hc : Clean (blockK id (postC P call p (compCode P F N x) r)) := hc
    refine post_simA hcall hdraw p x (Q := Exit.inBlock id Q) hs hn ho (clean_blockK id hc) fun e a w ho => ?_
    exact blockK_out (fun e a w h => hq e a w h) ho
end
def Leafs (Q : R → Prop) : R → Prop
  | .fork a b => Leafs Q a ∧ Leafs Q b
  | r => Q r
theorem leafs_pick {Q : R → Prop} : ∀ (t : FT) (r : R), (∀ p ∈ t.paths, Leafs Q (pickR p r)) → Leafs Q r
  | .leaf, r, h => h [] (by simp [FT.paths])
  | .node a b, r, h => by
    have other : (∀ p, pickR (false :: p) r = r) → Leafs Q r := by
      intro e
      obtain ⟨p, hp⟩ := FT.some a
      have := h (false :: p) (by simp [FT.paths, hp])
      rwa [e] at this
    cases r with
    | fork x y =>
      exact ⟨leafs_pick a x fun p hp => h (false :: p) (by simp [FT.paths, hp]), leafs_pick b y fun p hp => h (true :: p) (by simp [FT.paths, hp])⟩
    | ok e tm ds h n => exact other fun _ => rfl
    | ret v h n => exact other fun _ => rfl
    | err c => exact other fun _ => rfl
section
variable {code : FuncId → CFn} {nat : Nats} {fuel : Nat}
def runJ (P : Program) (S : Sym) (call : CallF) : Nat → CCode → R → R
  | 0, _, r => r
  | j + 1, .seq x y, r => runJ P S call j y (thenK (@evCode S P call x) r)
  | _, _, _ => .err 332
def restJ : Nat → CCode → CCode
  | 0, c => c
  | j + 1, .seq _ y => restJ j y
  | _, _ => .bad 54
def cutRun (P : Program) (code : FuncId → CFn) (nat : Nats) (fuel : Nat) (pre : List Stp) (j : Nat) (cc : CCode) (rs : List CRes) (S : Sym) (r : R) : Bool := match r with
  | .ok .normal tm [] h n => allTrue (afterFn false (@ev S P code nat fuel) rs (@postC S P (@ev S P code nat fuel) pre cc (@evCode S P (@ev S P code nat fuel) (restJ j (rightP pre cc)) tm [] h n)))
  | _ => false
def allKn (q : Known → Bool) : List Known → Bool
  | [] => true
  | K :: l => q K && allKn q l
theorem allKn_mem {q : Known → Bool} : ∀ {l : List Known}, allKn q l = true → ∀ K ∈ l, q K = true
  | [], _, K, hK => by cases hK
  | x :: l, h, K, hK => by
    unfold allKn at h
    rw [Bool.and_eq_true] at h
    rcases List.mem_cons.1 hK with rfl | hK
    · exact h.1
    · exact allKn_mem h.2 K hK
def cutWay (P : Program) (code : FuncId → CFn) (nat : Nats) (fuel : Nat) (pre : List Stp) (j : Nat) (cc : CCode) (rs : List CRes) (t : CT) (s : Nat → Int) (K : Known) (r : R) : Bool :=
  allKn (fun K' => cutRun P code nat fuel pre j cc rs (linSym s K') r) (casesK t K)
def allWays (q : List Bool → Bool) : List (List Bool) → Bool
  | [] => true
  | p :: l => q p && allWays q l
theorem allWays_mem {q : List Bool → Bool} : ∀ {l : List (List Bool)}, allWays q l = true → ∀ p ∈ l, q p = true
  | [], _, p, hp => by cases hp
  | x :: l, h, p, hp => by
    unfold allWays at h
    rw [Bool.and_eq_true] at h
    rcases List.mem_cons.1 hp with rfl | hp
    · exact h.1
    · exact allWays_mem h.2 p hp
def finCut (P : Program) (code : FuncId → CFn) (nat : Nats) (fuel : Nat) (pre q : List Stp) (j : Nat) (cc : CCode) (rs : List CRes) (ft : FT) (ct : List Bool → CT) (s : Nat → Int) (K : Known) (r : R) : Bool :=
  allWays (fun p => cutWay P code nat fuel pre j cc rs (ct p) s K (pickR p (runJ P (linSym s K) (@ev (linSym s K) P code nat fuel) j (rightP pre cc) (@postC (linSym s K) P (@ev (linSym s K) P code nat fuel) q (leftP pre cc) r)))) ft.paths
def CutLeaf (P : Program) (code : FuncId → CFn) (nat : Nats) (fuel : Nat) (pre : List Stp) (j : Nat) (cc : CCode) (rs : List CRes) (s : Nat → Int) (K : Known) (r : R) : Prop :=
  ∃ tm h n, r = .ok .normal tm [] h n ∧ ∃ t : CT, ∀ K' ∈ casesK t K, allTrue (afterFn false (@ev (linSym s K') P code nat fuel) rs (@postC (linSym s K') P (@ev (linSym s K') P code nat fuel) pre cc
    (@evCode (linSym s K') P (@ev (linSym s K') P code nat fuel) (restJ j (rightP pre cc)) tm [] h n))) = true
theorem cutRun_some {S : Sym} {pre : List Stp} {j : Nat} {cc : CCode} {rs : List CRes} {r : R} (h : cutRun P code nat fuel pre j cc rs S r = true) : ∃ tm h n, r = .ok .normal tm [] h n := by
  unfold cutRun at h
  split at h
  · exact ⟨_, _, _, rfl⟩
  · cases h
theorem casesK_ne : ∀ (t : CT) (K : Known), ∃ K', K' ∈ casesK t K
  | .leaf, K => ⟨K, by simp [casesK]⟩
  | .cmp l cut a b, K => by
    unfold casesK
    split
    · obtain ⟨K', h⟩ := casesK_ne a (addC K l _)
      exact ⟨K', List.mem_append_left _ h⟩
    · exact ⟨K, by simp⟩
theorem cutWay_leaf {pre : List Stp} {j : Nat} {cc : CCode} {rs : List CRes} {t : CT} {s : Nat → Int} {K : Known} {r : R} (h : cutWay P code nat fuel pre j cc rs t s K r = true) : Leafs (CutLeaf P code nat fuel pre j cc rs s K) r := by
  have h1 := allKn_mem h
  obtain ⟨K0, h0⟩ := casesK_ne t K
  obtain ⟨tm, hh, n, rfl⟩ := cutRun_some (h1 K0 h0)
  exact ⟨tm, hh, n, rfl, t, fun K' hK' => h1 K' hK'⟩
theorem finCut_leafs {pre q : List Stp} {j : Nat} {cc : CCode} {rs : List CRes} {ft : FT} {ct : List Bool → CT} {s : Nat → Int} {K : Known} {r : R} (h : finCut P code nat fuel pre q j cc rs ft ct s K r = true) :
    Leafs (CutLeaf P code nat fuel pre j cc rs s K) (runJ P (linSym s K) (@ev (linSym s K) P code nat fuel) j (rightP pre cc) (@postC (linSym s K) P (@ev (linSym s K) P code nat fuel) q (leftP pre cc) r)) :=
  leafs_pick ft _ fun p hp => cutWay_leaf (allWays_mem h p hp)
section
variable {σ : Nat → Int} {K : Known} {fn : Func} {c a b bl : Code} {pre q : List Stp} {j : Nat} {rs : List CRes} {F N : Nat} {w0 : World}
theorem cut_clean (hK : KnownOk σ K) (hm : P.follows .mixedOrders = true) (hcode : CodeOk P code) (hnat : ∀ [Sym] [SymFact P], NatsOk P nat) {cc : CCode} : ∀ {r : R}, Leafs (CutLeaf P code nat fuel pre j cc rs σ K) r → Clean r
  | .ok e tm ds h n, hl => by
    obtain ⟨tm', h', n', e1, t, h1⟩ := hl
    injection e1 with e1 e2 e3 e4 e5
    subst e5
    obtain ⟨K', hm', hK', _⟩ := casesK_ok t hK
    have h2 := h1 K' hm'
    letI S : Sym := linSym σ K'
    haveI hS : SymFact P := linSym_ok hK'
    have hcall : CallOk P (ev P code nat fuel) := ev_ok (fun call hcall F N => draw_sim hm hcall) hcode hnat fuel
    have h3 := post_clean hcall.above pre cc (clean_afterFn hcall.above false rs (allTrue_clean h2))
    exact room_of h3 (above_code hcall.above (restJ j (rightP pre cc)) tm' [] h' n)
  | .ret .., hl => by obtain ⟨_, _, _, e1, _⟩ := hl; cases e1
  | .err _, hl => by obtain ⟨_, _, _, e1, _⟩ := hl; cases e1
  | .fork x y, hl => ⟨cut_clean hK hm hcode hnat hl.1, cut_clean hK hm hcode hnat hl.2⟩
theorem cut_out {S : Sym} {cc : CCode} {ψ₀ : Psi} {g₀ : Fam} {n₀ : Key} {w₀ : World} {e : Exit} {ac : Act} {w : World} : ∀ {r : R}, Leafs (CutLeaf P code nat fuel pre j cc rs σ K) r → @OutOk S P F N ψ₀ g₀ n₀ w₀ r e ac w →
    e = .normal ∧ ∃ tm h n ψ, @St S P F N ψ tm [] h n ac w ∧ @Post S ψ₀ g₀ n₀ w₀ ψ (Heap.fam h) n w ∧ CutLeaf P code nat fuel pre j cc rs σ K (.ok .normal tm [] h n)
  | .ok e' tm ds h n, hl, ⟨h1, ψ, h2, h3, _⟩ => by
    have hl : CutLeaf P code nat fuel pre j cc rs σ K (.ok e' tm ds h n) := hl
    have hl' := hl
    obtain ⟨tm', h', n', e1, _⟩ := hl'
    injection e1 with e1 e2 e3 e4 e5
    subst e1 e3
    cases e <;> first | exact h1.elim | skip
    exact ⟨rfl, tm, h, n, ψ, h2, h3, hl⟩
  | .ret .., hl, _ => by obtain ⟨_, _, _, e1, _⟩ := hl; cases e1
  | .err _, hl, _ => by obtain ⟨_, _, _, e1, _⟩ := hl; cases e1
  | .fork x y, hl, ho => by
    rcases ho with ho | ho
    · exact cut_out hl.1 ho
    · exact cut_out hl.2 ho
theorem runJ_clean [Sym] [SymFact P] {call : CallF} (hcall : CallAbove call) : ∀ (j : Nat) (c : CCode) {r : R}, Clean (runJ P ‹Sym› call j c r) → Clean r
  | 0, _, _, h => h
  | j + 1, c, r, h => by
    cases c <;> first | exact clean_thenK (fun tm ds h n => above_code hcall _ tm ds h n) (runJ_clean hcall j _ h) | exact h.elim
theorem runJ_seq [Sym] [SymFact P] {call : CallF} {j : Nat} {c : CCode} {r : R} (h : Clean (runJ P ‹Sym› call (j + 1) c r)) : ∃ a b, c = .seq a b := by
  cases c <;> first | exact ⟨_, _, rfl⟩ | exact (show False from h).elim
theorem comp_seq {F N : Nat} {y : Code} {a b : CCode} (h : compCode P F N y = .seq a b) : ∃ x z, y = .seq x z := by
  cases y with
  | seq x z => exact ⟨x, z, rfl⟩
  | region id ops dr =>
    cases dr with
    | false => cases h
    | true =>
      have h : compDR P F N ops.toList = .seq a b := h
      unfold compDR at h
      simp only at h
      by_cases hd : drawOk P ops.toList (ancs [] ops.toList) (orderOf P ops.toList (ancs [] ops.toList)) = true
      · rw [if_pos hd] at h; cases h
      · rw [if_neg hd] at h; cases h
  | cond c t e =>
    unfold compCode at h
    split at h <;> cases h
  | _ => cases h
theorem cut_fin_clean (hK : KnownOk σ K) (hm : P.follows .mixedOrders = true) (hcode : CodeOk P code) (hnat : ∀ [Sym] [SymFact P], NatsOk P nat) {cc : CCode} {ft : FT} {ct : List Bool → CT} {r : R} (h : finCut P code nat fuel pre q j cc rs ft ct σ K r = true) : Clean r := by
  have hl := cut_clean hK hm hcode hnat (finCut_leafs h)
  letI S : Sym := linSym σ K
  haveI hS : SymFact P := linSym_ok hK
  have hcall : CallOk P (ev P code nat fuel) := ev_ok (fun call hcall F N => draw_sim hm hcall) hcode hnat fuel
  exact post_clean hcall.above q (leftP pre cc) (runJ_clean hcall.above j _ hl)
theorem cut_steps (hK : KnownOk σ K) (hm : P.follows .mixedOrders = true) (hcode : CodeOk P code) (hnat : ∀ [Sym] [SymFact P], NatsOk P nat) (hat : atC pre c = some (.seq a b)) (hn : noRec c = true)
    (hrs : optMap (compRes P F N) fn.results.toList = some rs) {ψ₀ : Psi} {g₀ : Fam} {n₀ : Key} {w₀ : World} {r : R} {e : Exit} {ac : Act} {w : World}
    (ho : @OutOk (linSym σ K) P F N ψ₀ g₀ n₀ w₀ r e ac w) (hlf : Leafs (CutLeaf P code nat fuel pre j (compCode P F N c) rs σ K) (runJ P (linSym σ K) (@ev (linSym σ K) P code nat fuel) j (compCode P F N b) r))
    (hb : Below w0.heap.size w0 w₀) (ho0 : ∀ k o p, g₀ k = some o → o.isRo = false → ψ₀ k = some p → w0.heap.size ≤ p.blk) : Exit.then (b.wp P (QH P pre c (EndQ P fn w0))) (QH P pre c (EndQ P fn w0)) e ac w := by
  obtain ⟨hl, hr⟩ := leftP_comp (P := P) (F := F) (N := N) hat
  have hnab : noRec a = true ∧ noRec b = true := by
    have := noRec_at hat hn
    simpa [noRec] using this
  have hstep : ∀ (e : Exit) (ac : Act) (w : World), (e = .normal ∧ ∃ tm h n ψ, @St (linSym σ K) P F N ψ tm [] h n ac w ∧ @Post (linSym σ K) ψ₀ g₀ n₀ w₀ ψ (Heap.fam h) n w ∧ CutLeaf P code nat fuel pre j (compCode P F N c) rs σ K (.ok .normal tm [] h n)) →
      ∀ y : Code, restJ j (rightP pre (compCode P F N c)) = compCode P F N y → noRec y = true → Exit.then (y.wp P (QH P pre c (EndQ P fn w0))) (QH P pre c (EndQ P fn w0)) e ac w := by
    intro e ac w hh y hy hny
    obtain ⟨rfl, tm, h, n, ψ, hst, hpost, hleaf⟩ := hh
    show y.wp P (QH P pre c (EndQ P fn w0)) ac w
    obtain ⟨tm', h', n', e1, t, hall⟩ := hleaf
    injection e1 with e1 e2 e3 e4 e5
    subst e2 e4 e5
    obtain ⟨K', hm', hK', hA⟩ := casesK_ok t hK
    have htrue := hall K' hm'
    have hst' : @St (linSym σ K') P F N ψ tm [] h n ac w := st_as (S := linSym σ K) (S' := linSym σ K') rfl (by show K.arg = K'.arg; rw [hA]) hst
    have hb2 : Below w0.heap.size w0 w := blw_post hb hpost ho0
    have ho2 : ∀ k o p, Heap.fam h k = some o → o.isRo = false → ψ k = some p → w0.heap.size ≤ p.blk := by
      intro k o p g1 g2 g3
      rcases @Post.img (linSym σ K) _ _ _ _ _ _ _ _ hpost k o p g1 g2 g3 with ⟨k0, o0, p0, r1, r2, r3, r4⟩ | r
      · rw [← r4]; exact ho0 k0 o0 p0 r1 r2 r3
      · exact Nat.le_trans hb.size r
    letI S : Sym := linSym σ K'
    haveI hS : SymFact P := linSym_ok hK'
    have hcall : CallOk P (ev P code nat fuel) := ev_ok (fun call hcall F N => draw_sim hm hcall) hcode hnat fuel
    have hdraw : DrawSim P F N (ev P code nat fuel) := draw_sim hm hcall
    rw [hy] at htrue
    have hc := allTrue_clean htrue
    have hc2 := clean_afterFn hcall.above false rs hc
    have hc3 := post_clean hcall.above pre _ hc2
    refine wp_mono (code_sim hcall hdraw y hny hst' hc3) fun e ac w ho => ?_
    refine post_simA hcall hdraw pre c hat hn ho hc2 fun e ac w ho => ?_
    refine after_out false rs hc ho fun tm ds h' n' ψ' q1 q2 q3 q4 q5 => ?_
    have hl := leave_sim hcall hrs q2 q4
    have : Leaves P fn ac.tmps (fun e w => e = .returned (.bool true) ∧ Below w0.heap.size w0 w) ac.defers .returning w := by
      refine leaves_mono' (fun e w'' ⟨v, he, hr⟩ => ?_) _ _ _ hl
      obtain ⟨rfl, ψ'', g'', n'', hp⟩ := allTrue_out htrue (q5 _ _ (RetOut.trans q3 hr))
      exact ⟨he, blw_post hb2 hp ho2⟩
    rcases q1 with rfl | rfl
    · exact this
    · exact this
  letI S : Sym := linSym σ K
  haveI hS : SymFact P := linSym_ok hK
  have hcall : CallOk P (ev P code nat fuel) := ev_ok (fun call hcall F N => draw_sim hm hcall) hcode hnat fuel
  have hdraw : DrawSim P F N (ev P code nat fuel) := draw_sim hm hcall
  have steps : ∀ (i : Nat) (y : Code) {r0 : R}, restJ i (compCode P F N y) = restJ j (rightP pre (compCode P F N c)) → noRec y = true → Leafs (CutLeaf P code nat fuel pre j (compCode P F N c) rs σ K) (runJ P S (ev P code nat fuel) i (compCode P F N y) r0) →
      ∀ (e : Exit) (ac : Act) (w : World), OutOk P F N ψ₀ g₀ n₀ w₀ r0 e ac w → Exit.then (y.wp P (QH P pre c (EndQ P fn w0))) (QH P pre c (EndQ P fn w0)) e ac w := by
    intro i
    induction i with
    | zero =>
      intro y r0 hy hny hlf e ac w ho
      exact hstep e ac w (cut_out hlf ho) y hy.symm hny
    | succ i ih =>
      intro y r0 hy hny hlf e ac w ho
      have hcl := cut_clean hK hm hcode hnat hlf
      obtain ⟨a', b', hs⟩ := runJ_seq hcl
      obtain ⟨x, z, rfl⟩ := comp_seq hs
      clear hs
      have hnr : noRec x = true ∧ noRec z = true := by simpa [noRec] using hny
      have hcl1 : Clean (thenK (evCode P (ev P code nat fuel) (compCode P F N x)) r0) := runJ_clean hcall.above i (compCode P F N z) hcl
      rcases thenK_out hcl1 ho with ⟨rfl, tm', ds', h', n', ψ', h2, h3, h4, h5⟩ | ⟨h1, h2⟩
      · show (Code.seq x z).wp P _ ac w
        exact wp_seq (wp_mono (code_sim hcall hdraw x hnr.1 h2 h4) fun e'' a'' w'' ho' => ih z hy hnr.2 hlf e'' a'' w'' (h5 e'' a'' w'' (OutOk.trans h3 ho')))
      · have := ih z hy hnr.2 hlf e ac w h2
        cases e <;> first | exact absurd rfl h1 | exact this
  exact steps j b (by rw [hr]) hnab.2 hlf e ac w ho
theorem cut_fin_sim (hK : KnownOk σ K) (hm : P.follows .mixedOrders = true) (hcode : CodeOk P code) (hnat : ∀ [Sym] [SymFact P], NatsOk P nat) (hat : atC pre c = some (.seq a b)) (hsub : subC (pre ++ .l :: q) c = some bl) (hn : noRec c = true)
    (hrs : optMap (compRes P F N) fn.results.toList = some rs) {ft : FT} {ct : List Bool → CT} {ψ₀ : Psi} {g₀ : Fam} {n₀ : Key} {w₀ : World} {r : R} {e : Exit} {ac : Act} {w : World}
    (ho : @OutOk (linSym σ K) P F N ψ₀ g₀ n₀ w₀ r e ac w) (hf : finCut P code nat fuel pre q j (compCode P F N c) rs ft ct σ K r = true)
    (hb : Below w0.heap.size w0 w₀) (ho0 : ∀ k o p, g₀ k = some o → o.isRo = false → ψ₀ k = some p → w0.heap.size ≤ p.blk) : QH P (pre ++ .l :: q) c (EndQ P fn w0) e ac w := by
  rw [QH_at hat]
  obtain ⟨hl, hr⟩ := leftP_comp (P := P) (F := F) (N := N) hat
  have hlf := finCut_leafs hf
  have hnab : noRec a = true ∧ noRec b = true := by
    have := noRec_at hat hn
    simpa [noRec] using this
  have hsubA := sub_at hat hsub
  letI S : Sym := linSym σ K
  haveI hS : SymFact P := linSym_ok hK
  have hcall : CallOk P (ev P code nat fuel) := ev_ok (fun call hcall F N => draw_sim hm hcall) hcode hnat fuel
  have hdraw : DrawSim P F N (ev P code nat fuel) := draw_sim hm hcall
  rw [hl, hr] at hlf
  have hcl2 := runJ_clean hcall.above j _ (cut_clean hK hm hcode hnat hlf)
  exact post_sim hcall hdraw q a hsubA hnab.1 ho hcl2 fun e ac w ho => cut_steps hK hm hcode hnat hat hn hrs ho hlf hb ho0
end
end
end
end Go.Ev

namespace Go.Ev
open Go.RowKit
noncomputable section
variable {P : Program}
structure HA where
  f : List Key
  b : List Key
  c : Nat
  th : List (Nat × Int × LL)
def hKey (k j : Key) (a : HA) : HA := match Nat.beq k.ix a.c with
  | true => ⟨a.f, j :: a.b, Nat.succ a.c, a.th⟩
  | false => a
def hSym (e : SE) (v : CV) (a : HA) : HA := match e.l with
  | [(j, z)] => match intEq z 1 with
    | true => match form v with
      | some (_, c, l) => ⟨a.f, a.b, a.c, (j, c - e.c, l) :: a.th⟩
      | none => a
    | false => a
  | _ => a
mutual
def hV : CV → CV → HA → HA
  | .sym e, v, a => hSym e v a
  | .ptr k _, .ptr j _, a => hKey k j a
  | .sl k _ _ _ _ _, .sl j _ _ _ _ _, a => hKey k j a
  | .map k, .map j, a => hKey k j a
  | .func _ x y, .func _ u v, a => hVs y v (hVs x u a)
  | .iface _ v, .iface _ w, a => hV v w a
  | .agg x, .agg y, a => hVs x y a
  | .tup x, .tup y, a => hVs x y a
  | .sst x, .sst y, a => hVs x y a
  | _, _, a => a
def hVs : List CV → List CV → HA → HA
  | x :: xs, y :: ys, a => hVs xs ys (hV x y a)
  | _, _, a => a
end
def hEs : List CE → List CE → HA → HA
  | x :: xs, y :: ys, a => hEs xs ys (hV x.val y.val (hV x.key y.key a))
  | _, _, a => a
def hO : CObj → CObj → HA → HA
  | .cells x, .cells y, a => hVs x y a
  | .cells x, .full _ y, a => hVs x y a
  | .map x _, .map y _, a => hEs x (canE y) a
  | _, _, a => a
def hTm (tm : Tm) : List (Nat × CV) → HA → HA
  | [], a => a
  | p :: r, a => hTm tm r (hV p.2 (getL (Loc.ofNat p.1) tm) a)
def hPop (a : HA) : Option (Key × HA) := match a.f with
  | k :: r => some (k, ⟨r, a.b, a.c, a.th⟩)
  | [] => match a.b.reverse with
    | k :: r => some (k, ⟨r, [], a.c, a.th⟩)
    | [] => none
def hObjs (h : Heap) : List (Key × CObj) → HA → List Key → List Key × HA
  | [], a, ks => (ks.reverse, a)
  | p :: r, a, ks => match hPop a with
    | none => (ks.reverse, a)
    | some (j, a) => match getH j h with
      | some o => hObjs h r (hO p.2 o a) (j :: ks)
      | none => (ks.reverse, a)
def hLook (j : Nat) : List (Nat × Int × LL) → Int × LL
  | [] => (0, [(j, 1)])
  | q :: r => match Nat.beq q.1 j with
    | true => q.2
    | false => hLook j r
def hTh (th : List (Nat × Int × LL)) : List (Int × Int) → Nat → TH
  | [], _ => []
  | _ :: r, j => hLook j th :: hTh th r (Nat.succ j)
def hBase (T : TS) : Nat := match T.objs with
  | p :: _ => p.1.ix
  | [] => 0
def forceL {α : Type} : List α → (List α → Bool) → Bool
  | [], k => k []
  | x :: l, k => forceL l fun l' => k (x :: l')
theorem forceL_eq {α : Type} : ∀ {l : List α} {k : List α → Bool}, forceL l k = k l
  | [], _ => rfl
  | x :: l, k => forceL_eq (l := l)
def withHint (t : Nat) (T : TS) (tm : Tm) (h : Heap) (k : Hint → Bool) : Bool := match hObjs h T.objs (hTm tm T.locs ⟨[], [], hBase T, []⟩) [] with
  | (ks, a) => forceL ks fun ks => forceL (hTh a.th T.b 0) fun θ => k ⟨t, ks, θ⟩
theorem withHint_some {t : Nat} {T : TS} {tm : Tm} {h : Heap} {k : Hint → Bool} (hh : withHint t T tm h k = true) : ∃ x, k x = true := by
  unfold withHint at hh
  split at hh
  rw [forceL_eq, forceL_eq] at hh
  exact ⟨_, hh⟩
section
variable {G : Nat} {ws : List (Key × Nat)} {Ts : List TS} {ok : TH → Bool} {K : Known} {fin : R → Bool}
def chkLeafN (G : Nat) (ws : List (Key × Nat)) (Ts : List TS) (ok : TH → Bool) (K : Known) (t : Nat) (tm : Tm) (ds : Defs) (h : Heap) (n : Key) : Bool := match nth Ts t with
  | some T => withHint t T tm h fun x => chkLeaf G ws Ts ok K x tm ds h n
  | none => false
def chkN (G : Nat) (ws : List (Key × Nat)) (Ts : List TS) (ok : TH → Bool) (K : Known) (fin : R → Bool) : R → List Nat → Option (List Nat)
  | .ok .normal tm ds h n, t :: r => match chkLeafN G ws Ts ok K t tm ds h n with
    | true => some r
    | false => none
  | .ok (.exit i) tm ds h n, r => match fin (.ok (.exit i) tm ds h n) with
    | true => some r
    | false => none
  | .ok .ret tm ds h n, r => match fin (.ok .ret tm ds h n) with
    | true => some r
    | false => none
  | .fork a b, r => match chkN G ws Ts ok K fin a r with
    | some r => chkN G ws Ts ok K fin b r
    | none => none
  | _, _ => none
def isSomeN (o : Option (List Nat)) : Bool := match o with
  | some _ => true
  | none => false
theorem chkN_chkR : ∀ {r : R} {l l' : List Nat}, chkN G ws Ts ok K fin r l = some l' → ∃ hs : List Hint, ∀ rest, chkR G ws Ts ok K fin r (hs ++ rest) = some rest
  | .ok .normal tm ds h n, [], _, hc => by cases hc
  | .ok .normal tm ds h n, t :: l, l', hc => by
    unfold chkN at hc
    split at hc
    · rename_i hl
      unfold chkLeafN at hl
      split at hl
      · obtain ⟨x, hx⟩ := withHint_some hl
        exact ⟨[x], fun rest => by show chkR G ws Ts ok K fin (.ok .normal tm ds h n) (x :: rest) = _; unfold chkR; rw [hx]⟩
      · cases hl
    · cases hc
  | .ok (.exit i) tm ds h n, l, l', hc => by
    unfold chkN at hc
    split at hc
    · rename_i h1
      exact ⟨[], fun rest => by show chkR G ws Ts ok K fin (.ok (.exit i) tm ds h n) rest = _; unfold chkR; rw [h1]⟩
    · cases hc
  | .ok .ret tm ds h n, l, l', hc => by
    unfold chkN at hc
    split at hc
    · rename_i h1
      exact ⟨[], fun rest => by show chkR G ws Ts ok K fin (.ok .ret tm ds h n) rest = _; unfold chkR; rw [h1]⟩
    · cases hc
  | .ret .., l, l', hc => by unfold chkN at hc; cases hc
  | .err _, l, l', hc => by unfold chkN at hc; cases hc
  | .fork a b, l, l', hc => by
    unfold chkN at hc
    split at hc
    · rename_i r hr
      obtain ⟨h1, e1⟩ := chkN_chkR hr
      obtain ⟨h2, e2⟩ := chkN_chkR hc
      exact ⟨h1 ++ h2, fun rest => by rw [List.append_assoc]; unfold chkR; rw [e1 (h2 ++ rest)]; exact e2 rest⟩
    · cases hc
theorem isSomeN_some {r : R} {l : List Nat} (h : isSomeN (chkN G ws Ts ok K fin r l) = true) : ∃ hs, isSomeH (chkR G ws Ts ok K fin r hs) = true := by
  unfold isSomeN at h
  split at h
  · rename_i x hx
    obtain ⟨hs, e⟩ := chkN_chkR hx
    refine ⟨hs ++ [], ?_⟩
    rw [e []]; rfl
  · cases h
end
end
end Go.Ev

namespace Go.Ev
open Go.RowKit
noncomputable section
variable {P : Program}
inductive Cut where
  | plain
  | cut (ft : FT) (ct : List Bool → CT)
  | cover (ts : List Nat)
section
variable {code : FuncId → CFn} {nat : Nats} {fuel : Nat} {fn : Func} {c b xa xb : Code} {p pre q : List Stp} {j : Nat} {rs : List CRes} {G : Nat} {wins : List Win} {L : List (Key × Nat)} {A : Key → Option Value} {Ts : List TS} {bound : Int} {w0 : World}
def finC (P : Program) (code : FuncId → CFn) (nat : Nats) (fuel : Nat) (G : Nat) (ws L : List (Key × Nat)) (Ts : List TS) (p pre q : List Stp) (j : Nat) (cc : CCode) (rs : List CRes) (cut : Cut) (s : Nat → Int) (K : Known) (r : R) : Bool := match cut with
  | .plain => finOf P code nat fuel p cc rs (linSym s K) r
  | .cut ft ct => finCut P code nat fuel pre q j cc rs ft ct s K r
  | .cover ts => isSomeN (chkN G ws Ts (fun θ => someTh θ && lensTh θ L) K (fun _ => false) (@postC (linSym s K) P (@ev (linSym s K) P code nat fuel) q (leftP pre cc) r) ts)
def TS.known (T : TS) (A : Key → Option Value) : Known := ⟨T.b, T.f, T.r, A⟩
def endWays (P : Program) (code : FuncId → CFn) (nat : Nats) (fuel : Nat) (pre : List Stp) (j : Nat) (cc : CCode) (rs : List CRes) (T : TS) (ct : List Bool → CT) (ps : List (List Bool)) (s : Nat → Int) (K : Known) : Bool :=
  allWays (fun p => cutWay P code nat fuel pre j cc rs (ct p) s K (pickR p (runJ P (linSym s K) (@ev (linSym s K) P code nat fuel) j (rightP pre cc) (.ok .normal (mkTm T.locs) [] (mkH .nil T.objs) T.n)))) ps
def EndOk (P : Program) (code : FuncId → CFn) (nat : Nats) (fuel : Nat) (pre : List Stp) (j : Nat) (cc : CCode) (rs : List CRes) (T : TS) : Prop :=
  ∃ (ft : FT) (ct : List Bool → CT), ∀ (s : Nat → Int) (A : Key → Option Value), endWays P code nat fuel pre j cc rs T ct ft.paths s (T.known A) = true
def CutEnds (P : Program) (code : FuncId → CFn) (nat : Nats) (fuel : Nat) (Ts : List TS) (pre : List Stp) (j : Nat) (cc : CCode) (rs : List CRes) : Cut → Prop
  | .cover _ => ∀ t T, nth Ts t = some T → EndOk P code nat fuel pre j cc rs T
  | _ => True
def passC (P : Program) (code : FuncId → CFn) (nat : Nats) (fuel : Nat) (G : Nat) (ws L : List (Key × Nat)) (Ts : List TS) (p pre q : List Stp) (j : Nat) (cc : CCode) (rs : List CRes) (T : TS) (l : List (Key × List CV)) (cut : Cut) (s : Nat → Int) (K : Known) (hs : List Hint) : Bool :=
  isSomeH (chkR G ws Ts (fun θ => oneMore θ && lensTh θ L) K (finC P code nat fuel G ws L Ts p pre q j cc rs cut s K) (@evCode (linSym s K) P (@ev (linSym s K) P code nat fuel) (bodyC p cc) (mkTm T.locs) [] (mkH (mkH .nil T.objs) (roOf l)) T.n) hs)
def PassesC (P : Program) (code : FuncId → CFn) (nat : Nats) (fuel : Nat) (G : Nat) (wins : List Win) (L : List (Key × Nat)) (A : Key → Option Value) (Ts : List TS) (p pre q : List Stp) (j : Nat) (cc : CCode) (rs : List CRes) (w0 : World) : Prop :=
  ∀ t T, nth Ts t = some T → ∀ σ, BoundsOk σ 0 T.b → FactsOk σ T.f → RulesOk σ T.r → LensAre wins L σ → ∃ σ' K' l hs cut, (∀ j, j < T.b.length → σ' j = σ j) ∧ (∀ q ∈ L, σ' q.2 = σ q.2) ∧ K'.arg = A ∧ KnownOk σ' K' ∧ (∀ q ∈ l, WinOk (linSym σ' K') wins w0 (σ 0) q) ∧ apartK T.objs l = true ∧ CutEnds P code nat fuel Ts pre j cc rs cut ∧
    passC P code nat fuel G (wsOf wins) L Ts p pre q j cc rs T l cut σ' K' hs = true
theorem finC_clean {σ : Nat → Int} {K : Known} (hK : KnownOk σ K) (hm : P.follows .mixedOrders = true) (hcode : CodeOk P code) (hnat : ∀ [Sym] [SymFact P], NatsOk P nat) {ws : List (Key × Nat)} {cc : CCode} {cut : Cut} : ∀ r, finC P code nat fuel G ws L Ts p pre q j cc rs cut σ K r = true → Clean r := by
  intro r h
  unfold finC at h
  split at h
  · exact fin_clean hK hm hcode hnat r h
  · exact cut_fin_clean hK hm hcode hnat h
  · obtain ⟨hs, h1⟩ := isSomeN_some h
    obtain ⟨o, h2⟩ := isSomeH_some h1
    have hc := chkR_clean (fun _ h => by cases h) h2
    letI S : Sym := linSym σ K
    haveI hS : SymFact P := linSym_ok hK
    have hcall : CallOk P (ev P code nat fuel) := ev_ok (fun call hcall F N => draw_sim hm hcall) hcode hnat fuel
    exact post_clean hcall.above q (leftP pre cc) hc
theorem finC_sim {σ : Nat → Int} {K : Known} (hK : KnownOk σ K) (hlen : LensAre wins L σ) (hA : ArgsAre K.arg wins) (hG : P.globals.size ≤ G) (hm : P.follows .mixedOrders = true) (hcode : CodeOk P code) (hnat : ∀ [Sym] [SymFact P], NatsOk P nat) {F N : Nat} (hp : p = pre ++ .l :: q) (hat : atC pre c = some (.seq xa xb)) (hsub : subC p c = some b) (hn : noRec c = true)
    (hrs : optMap (compRes P F N) fn.results.toList = some rs) {cut : Cut} (hends : CutEnds P code nat fuel Ts pre j (compCode P F N c) rs cut) {ψ₀ : Psi} {g₀ : Fam} {n₀ : Key} {w₀ : World} {r : R} {e : Exit} {a : Act} {w : World}
    (ho : @OutOk (linSym σ K) P F N ψ₀ g₀ n₀ w₀ r e a w) (hf : finC P code nat fuel G (wsOf wins) L Ts p pre q j (compCode P F N c) rs cut σ K r = true)
    (hb : Below w0.heap.size w0 w₀) (ho0 : ∀ k o p, g₀ k = some o → o.isRo = false → ψ₀ k = some p → w0.heap.size ≤ p.blk) : QH P p c (EndQ P fn w0) e a w := by
  unfold finC at hf
  split at hf
  · exact fin_sim hK hm hcode hnat hsub hn hrs ho hf hb ho0
  · subst hp
    exact cut_fin_sim hK hm hcode hnat hat hsub hn hrs ho hf hb ho0
  · subst hp
    have hends : ∀ t T, nth Ts t = some T → EndOk P code nat fuel pre j (compCode P F N c) rs T := hends
    obtain ⟨hs, h1⟩ := isSomeN_some hf
    obtain ⟨o, h2⟩ := isSomeH_some h1
    obtain ⟨hl, hr⟩ := leftP_comp (P := P) (F := F) (N := N) hat
    have hnab : noRec xa = true ∧ noRec xb = true := by
      have := noRec_at hat hn
      simpa [noRec] using this
    have hc := chkR_clean (fun _ h => by cases h) h2
    rw [hl] at hc h2
    rw [QH_at hat]
    have step : ∀ (e : Exit) (a : Act) (w : World), @OutOk (linSym σ K) P F N ψ₀ g₀ n₀ w₀ (@postC (linSym σ K) P (@ev (linSym σ K) P code nat fuel) q (compCode P F N xa) r) e a w → Exit.then (xb.wp P (QH P pre c (EndQ P fn w0))) (QH P pre c (EndQ P fn w0)) e a w := by
      intro e a w ho
      rcases chkR_out h2 ho with ⟨rfl, tm, h, n, ψ, t, T, g1, g2, g3, g4, g5⟩ | ⟨_, r', _, g2⟩
      · rw [Bool.and_eq_true] at g4
        obtain ⟨g4, g4L⟩ := g4
        obtain ⟨q0, θr, hθ⟩ : ∃ q0 θr, t.θ = q0 :: θr := by
          unfold someTh at g4
          split at g4
          · rename_i q θr hq; exact ⟨q, θr, hq⟩
          · cases g4
        obtain ⟨σ'', ψT, hi, _⟩ := inv_of hK hlen g1 g2 hG hA g5 ⟨q0, by rw [hθ]; rfl⟩ g4L ho0 hb
        obtain ⟨ft, ct, hw⟩ := hends t.T T g3
        have hw := hw σ'' K.arg
        have hK0 : KnownOk σ'' (T.known K.arg) := knownOk hi.bnd hi.fct hi.rul
        have hst : @St (linSym σ'' (T.known K.arg)) P F N ψT (mkTm T.locs) [] (mkH .nil T.objs) T.n a w := hi.st σ'' _ (fun _ _ => rfl) rfl
        have hlf : Leafs (CutLeaf P code nat fuel pre j (compCode P F N c) rs σ'' (T.known K.arg)) (runJ P (linSym σ'' (T.known K.arg)) (@ev (linSym σ'' (T.known K.arg)) P code nat fuel) j (compCode P F N xb) (.ok .normal (mkTm T.locs) [] (mkH .nil T.objs) T.n)) := by
          rw [← hr]
          exact leafs_pick ft _ fun p hp => cutWay_leaf (allWays_mem hw p hp)
        have hroom : T.n.room := by
          have h3 := cut_clean hK0 hm hcode hnat hlf
          letI S : Sym := linSym σ'' (T.known K.arg)
          haveI hS : SymFact P := linSym_ok hK0
          have hcall : CallOk P (ev P code nat fuel) := ev_ok (fun call hcall F N => draw_sim hm hcall) hcode hnat fuel
          exact runJ_clean hcall.above j _ h3
        exact cut_steps (ψ₀ := ψT) (g₀ := Heap.fam (mkH .nil T.objs)) (n₀ := T.n) (w₀ := w) hK0 hm hcode hnat hat hn hrs (e := .normal) (r := .ok .normal (mkTm T.locs) [] (mkH .nil T.objs) T.n) ⟨trivial, ψT, hst, @Post.refl (linSym σ'' (T.known K.arg)) _ _ _ _ (@St.rel (linSym σ'' (T.known K.arg)) _ _ _ _ _ _ _ _ _ _ hst), hroom⟩ hlf hi.blw
          (fun k o p h1 _ h3 => (hi.own k o p h1 h3).2)
      · cases g2
    letI S : Sym := linSym σ K
    haveI hS : SymFact P := linSym_ok hK
    have hcall : CallOk P (ev P code nat fuel) := ev_ok (fun call hcall F N => draw_sim hm hcall) hcode hnat fuel
    exact post_sim hcall (draw_sim hm hcall) q xa (sub_at hat hsub) hnab.1 ho hc step
theorem allWays_app {f : List Bool → Bool} : ∀ {x y : List (List Bool)}, allWays f x = true → allWays f y = true → allWays f (x ++ y) = true
  | [], y, _, h => h
  | a :: x, y, h, h' => by
    unfold allWays at h
    rw [Bool.and_eq_true] at h
    show (f a && allWays f (x ++ y)) = true
    rw [h.1, allWays_app h.2 h']; rfl
theorem allWays_flat {f : List Bool → Bool} : ∀ {cs : List (List (List Bool))}, (∀ c ∈ cs, allWays f c = true) → allWays f cs.flatten = true
  | [], _ => rfl
  | c :: cs, h => by
    rw [List.flatten_cons]
    exact allWays_app (h c (by simp)) (allWays_flat fun x hx => h x (by simp [hx]))
def AllC (Q : List (List Bool) → Prop) : List (List (List Bool)) → Prop
  | [] => True
  | c :: l => Q c ∧ AllC Q l
theorem allC_mem {Q : List (List Bool) → Prop} : ∀ {l : List (List (List Bool))}, AllC Q l → ∀ c ∈ l, Q c
  | [], _, c, hc => by cases hc
  | x :: l, h, c, hc => by
    rcases List.mem_cons.1 hc with rfl | hc
    · exact h.1
    · exact allC_mem h.2 c hc
theorem end_ways {cc : CCode} {T : TS} {ft : FT} {ct : List Bool → CT} {cs : List (List (List Bool))} (hfl : cs.flatten = ft.paths)
    (h : AllC (fun c => ∀ (s : Nat → Int) (A : Key → Option Value), endWays P code nat fuel pre j cc rs T ct c s (T.known A) = true) cs) : EndOk P code nat fuel pre j cc rs T :=
  ⟨ft, ct, fun s A => by
    show allWays _ ft.paths = true
    rw [← hfl]
    exact allWays_flat fun c hc => allC_mem h c hc s A⟩
theorem loop_goodC (hm : P.follows .mixedOrders = true) (hcode : CodeOk P code) (hnat : ∀ [Sym] [SymFact P], NatsOk P nat) (hG : P.globals.size ≤ G) {F N : Nat} (hp : p = pre ++ .l :: q) (hat : atC pre c = some (.seq xa xb)) (hsub : subC p c = some b) (hn : noRec c = true)
    (hrs : optMap (compRes P F N) fn.results.toList = some rs) (hA : ArgsAre A wins) (hB : ∀ x ∈ wins, ∀ y ∈ wins, x.B = y.B → x.key = y.key) (hbd : boundIs bound Ts = true)
    (hgood : PassesC P code nat fuel G wins L A Ts p pre q j (compCode P F N c) rs w0) : ∀ (m : Nat) (t : Nat) (T : TS) (σ : Nat → Int) (ψ : Psi) (a : Act) (w : World), nth Ts t = some T → LInv P F N G A wins L w0 T σ ψ a w → (bound - σ 0).toNat ≤ m →
    LoopAt P b (QH P p c (EndQ P fn w0)) a w := by
  have hnb : noRec b = true := by
    have : ∀ {p : List Stp} {c : Code}, subC p c = some b → noRec c = true → noRec b = true := by
      intro p
      induction p with
      | nil =>
        intro c hs hn
        cases c <;> try (cases hs; done)
        injection hs with hs; subst hs
        simpa [noRec] using hn
      | cons x p ih =>
        intro c hs hn
        cases x <;> cases c <;> try (cases hs; done)
        · rename_i x y
          have hn : noRec x = true ∧ noRec y = true := by simpa [noRec] using hn
          exact ih hs hn.1
        · rename_i x y
          have hn : noRec x = true ∧ noRec y = true := by simpa [noRec] using hn
          exact ih hs hn.2
        · exact ih hs hn
    exact this hsub hn
  have step : ∀ (t : Nat) (T : TS) (σ : Nat → Int) (ψ : Psi) (a : Act) (w : World), nth Ts t = some T → LInv P F N G A wins L w0 T σ ψ a w →
      (∀ (t' : Nat) (T' : TS) (σ' : Nat → Int) (ψ' : Psi) (a' : Act) (w' : World), nth Ts t' = some T' → LInv P F N G A wins L w0 T' σ' ψ' a' w' → (bound - σ' 0).toNat < (bound - σ 0).toNat → LoopAt P b (QH P p c (EndQ P fn w0)) a' w') →
      LoopAt P b (QH P p c (EndQ P fn w0)) a w := by
    intro t T σ ψ a w hT hi hrec
    obtain ⟨σ', K', l, hs, cut, hag, hagL, hKA, hK, hl, hap, hends, hpass⟩ := hgood t T hT σ hi.bnd hi.fct hi.rul hi.len
    have hst := inv_wins hi hB hag hKA hl hap
    obtain ⟨q1, r1, hb1, _⟩ := boundIs_ok hbd hT
    have hag0 : σ' 0 = σ 0 := hag 0 (by rw [hb1]; simp)
    have hm0 : ∀ k o p, Heap.fam (mkH (mkH .nil T.objs) (roOf l)) k = some o → o.isRo = false → ψ k = some p → w0.heap.size ≤ p.blk := by
      intro k o p h1 h2 h3
      rcases fam_wins h1 with ⟨cs, _, rfl⟩ | h1
      · cases h2
      · exact (hi.own k o p h1 h3).2
    letI S : Sym := linSym σ' K'
    haveI hS : SymFact P := linSym_ok hK
    have hcall : CallOk P (ev P code nat fuel) := ev_ok (fun call hcall F N => draw_sim hm hcall) hcode hnat fuel
    have hdraw : DrawSim P F N (ev P code nat fuel) := draw_sim hm hcall
    unfold passC at hpass
    rw [@body_comp S P F N p c b hsub] at hpass
    generalize hres : evCode P (ev P code nat fuel) (compCode P F N b) (mkTm T.locs) [] (mkH (mkH .nil T.objs) (roOf l)) T.n = r at hpass
    obtain ⟨hs', hchk⟩ : ∃ x, chkR G (wsOf wins) Ts (fun θ => oneMore θ && lensTh θ L) K' (finC P code nat fuel G (wsOf wins) L Ts p pre q j (compCode P F N c) rs cut σ' K') r hs = some x := by
      unfold isSomeH at hpass
      split at hpass
      · rename_i x hx; exact ⟨x, hx⟩
      · cases hpass
    have hclean : Clean r := chkR_clean (finC_clean hK hm hcode hnat) hchk
    have hsim := code_sim hcall hdraw b hnb hst (by rw [hres]; exact hclean)
    rw [hres] at hsim
    refine loopAt_of (wp_mono hsim fun e a' w' ho => ?_)
    rcases chkR_out hchk ho with ⟨rfl, tm, h, n, ψ', t', T', h1, h2, h3, h4, h5⟩ | ⟨hne, r', h1, h2⟩
    · rw [Bool.and_eq_true] at h4
      obtain ⟨h4, h4L⟩ := h4
      obtain ⟨q0, θr, hθ, e1, e2⟩ : ∃ q0 θr, t'.θ = q0 :: θr ∧ q0.1 = 1 ∧ q0.2 = [(0, 1)] := by
        unfold oneMore at h4
        split at h4
        · rename_i q θr hq
          rw [Bool.and_eq_true, @intEq_iff noSym, decide_eq_true_eq] at h4
          exact ⟨q, θr, hq, h4.1, @llEq_eq noSym _ _ h4.2⟩
        · cases h4
      obtain ⟨σ'', ψT, hinv, h0⟩ := inv_of hK (fun q hq => by
        obtain ⟨wn, g1, g2⟩ := hi.len q hq
        exact ⟨wn, g1, by rw [hagL q hq]; exact g2⟩) h1 h2 hG (by rw [hKA]; exact hA) h5 ⟨q0, by rw [hθ]; rfl⟩ h4L hm0 hi.blw
      rw [hKA] at hinv
      have hσ : σ'' 0 = σ 0 + 1 := by
        rw [h0 q0 (by rw [hθ]; rfl)]
        unfold evQ
        rw [e1, e2]
        show (1 : Int) + (1 * σ' 0 + 0) = _
        rw [hag0]; omega
      obtain ⟨q2, r2, hb2, hle⟩ := boundIs_ok hbd h3
      have hbb := hinv.bnd
      rw [hb2] at hbb
      have := hbb.1.2
      exact hrec t'.T T' σ'' ψT a' w' h3 hinv (by omega)
    · have := finC_sim hK (fun q hq => by
        obtain ⟨wn, g1, g2⟩ := hi.len q hq
        exact ⟨wn, g1, by rw [hagL q hq]; exact g2⟩) (by rw [hKA]; exact hA) hG hm hcode hnat hp hat hsub hn hrs hends h1 h2 hi.blw hm0
      cases e <;> first | exact absurd rfl hne | exact this
  intro m
  induction m with
  | zero =>
    intro t T σ ψ a w hT hi hm0
    exact step t T σ ψ a w hT hi fun t' T' σ' ψ' a' w' hT' hi' hlt => by omega
  | succ m ih =>
    intro t T σ ψ a w hT hi hm0
    exact step t T σ ψ a w hT hi fun t' T' σ' ψ' a' w' hT' hi' hlt => ih t' T' σ' ψ' a' w' hT' hi' (by omega)
end
theorem loop_callsC {code : FuncId → CFn} {nat : Nats} {fuel : Nat} {f : FuncId} {fn : Func} {c b xa xb : Code} {cc : CCode} {p pre q : List Stp} {j : Nat} {rs : List CRes} {G : Nat} {wins : List Win} {L : List (Key × Nat)} {A : Key → Option Value} {Ts : List TS} {bound : Int} {w0 : World}
    {σ : Nat → Int} {K : Known} {args : List CV} {args' : Array Value} {n : Key} {hs : List Hint} (hK : KnownOk σ K) (hKA : K.arg = A) (hlen : LensAre wins L σ)
    (hm : P.follows .mixedOrders = true) (hcode : CodeOk P code) (hnat : ∀ [Sym] [SymFact P], NatsOk P nat) (hf : P.funcs[f]? = some fn) (hb : fn.body = some c) (hcf : compFn P f = .mk cc rs) (hp : p = pre ++ .l :: q) (hat : atC pre c = some (.seq xa xb)) (hsub : subC p c = some b)
    (hG : P.globals.size ≤ G) (hn : G ≤ n.ix) (hw : winB G n.ix (wsOf wins) = true) (hA : ArgsAre A wins) (hB : ∀ x ∈ wins, ∀ y ∈ wins, x.B = y.B → x.key = y.key) (hbd : boundIs bound Ts = true)
    (hargs : @VRels (linSym σ K) (psiW G wins) args args'.toList) (hrun : startOf P code nat fuel G (wsOf wins) L Ts p cc args n (linSym σ K) K hs = true)
    (hgood : PassesC P code nat fuel G wins L A Ts p pre q j cc rs w0) : Calls P f args' w0 fun e w => e = .returned (.bool true) ∧ Below w0.heap.size w0 w := by
  obtain ⟨hrs, hnr, rfl⟩ := compFn_inv hf hb hcf
  letI S : Sym := linSym σ K
  haveI hS : SymFact P := linSym_ok hK
  have hcall : CallOk P (ev P code nat fuel) := ev_ok (fun call hcall F N => draw_sim hm hcall) hcode hnat fuel
  have hdraw : ∀ F N, DrawSim P F N (ev P code nat fuel) := fun F N => draw_sim hm hcall
  have hst : St P (frameBits fn c) fn.ntmps (psiW G wins) (argsT args 0 .nil) [] .nil n { tmps := args' ++ Array.replicate (fn.ntmps - args'.size) undef, defers := [] } w0 :=
    entry_st hcall hdraw hargs (psiW_glob hG hw) (rel_nil _ _) (psiW_fresh hn hw)
  unfold startOf at hrun
  generalize hres : preC P (ev P code nat fuel) p (compCode P (frameBits fn c) fn.ntmps c) (argsT args 0 .nil) [] .nil n = r at hrun
  obtain ⟨hs', hchk⟩ : ∃ x, chkR G (wsOf wins) Ts (fun θ => someTh θ && lensTh θ L) K (fun _ => false) r hs = some x := by
    unfold isSomeH at hrun
    split at hrun
    · rename_i x hx; exact ⟨x, hx⟩
    · cases hrun
  have hclean : Clean r := chkR_clean (fun _ h => by cases h) hchk
  refine calls_of_wp_defers hf hb (pre_sim hcall (hdraw _ _) p c hsub hnr hst (by rw [hres]; exact hclean) fun e a' w' ho => ?_)
  rw [hres] at ho
  rcases chkR_out hchk ho with ⟨rfl, tm, h, n', ψ', t', T', h1, h2, h3, h4, h5⟩ | ⟨_, r', _, h2⟩
  · rw [Bool.and_eq_true] at h4
    obtain ⟨h4, h4L⟩ := h4
    obtain ⟨q0, θr, hθ⟩ : ∃ q0 θr, t'.θ = q0 :: θr := by
      unfold someTh at h4
      split at h4
      · rename_i q θr hq; exact ⟨q, θr, hq⟩
      · cases h4
    obtain ⟨σ'', ψT, hinv, _⟩ := inv_of hK hlen h1 h2 hG (by rw [hKA]; exact hA) h5 ⟨q0, by rw [hθ]; rfl⟩ h4L (w0 := w0) (fun k o p h1 _ _ => by
      have h1 : getH k .nil = some o := h1
      rw [gH_nil] at h1; cases h1) (Below.refl _ _)
    rw [hKA] at hinv
    exact ⟨rfl, loop_goodC hm hcode hnat hG hp hat hsub hnr hrs hA hB hbd hgood _ _ _ _ _ _ _ h3 hinv (Nat.le_refl _)⟩
  · cases h2
def LeafGoodC (P : Program) (code : FuncId → CFn) (nat : Nats) (fuel G : Nat) (ws L : List (Key × Nat)) (Ts : List TS) (p pre q : List Stp) (j : Nat) (cc : CCode) (rs : List CRes) (T : TS) (e : Lf) : Prop :=
  apartK T.objs e.l = true ∧ ∃ cut, CutEnds P code nat fuel Ts pre j cc rs cut ∧ ∀ (s : Nat → Int) (A : Key → Option Value), ∃ hs, passC P code nat fuel G ws L Ts p pre q j cc rs T e.l cut s (e.known A) hs = true
def StateGoodC (P : Program) (code : FuncId → CFn) (nat : Nats) (fuel G : Nat) (ws L : List (Key × Nat)) (Ts : List TS) (p pre q : List Stp) (j : Nat) (cc : CCode) (rs : List CRes) (ks : List (Key × Bool)) (T : TS) : Prop :=
  ∃ (tree : LTree) (ls : List Lf), leaves ks tree ⟨T.b, T.f, T.r, [], 1000⟩ = some ls ∧ (Nat.ble (Nat.succ ks.length) T.b.length && Nat.ble T.b.length 1000 && lensIn T.b.length L) = true ∧
    AllG (LeafGoodC P code nat fuel G ws L Ts p pre q j cc rs T) ls
theorem passes_allC {code : FuncId → CFn} {nat : Nats} {fuel G : Nat} {wins : List Win} {ws L : List (Key × Nat)} {A : Key → Option Value} {Ts : List TS} {p pre q : List Stp} {j : Nat} {cc : CCode} {rs : List CRes} {w0 : World} {ks : List (Key × Bool)}
    (hws : wsOf wins = ws) (hwin : ∀ σ, LensAre wins L σ → WinIs wins w0 σ ks) (h : AllS (StateGoodC P code nat fuel G ws L Ts p pre q j cc rs ks) Ts) : PassesC P code nat fuel G wins L A Ts p pre q j cc rs w0 := by
  intro t T hT σ hb hf hr hlen
  obtain ⟨tree, ls, h1, h2, h3⟩ := allS_nth h hT
  rw [Bool.and_eq_true, Bool.and_eq_true] at h2
  have g1 := @ble_yes noSym _ _ h2.1.1
  have g2 := @ble_yes noSym _ _ h2.1.2
  obtain ⟨e, hm, σ', r1, r2⟩ := leaves_ok (wins := wins) (w0 := w0) (i := σ 0) tree _ σ h1 ⟨hb, hf, hr, fun q hq => by cases hq⟩ (hwin σ hlen) rfl (by show ks.length < T.b.length; omega) g2 (Nat.le_refl _)
  obtain ⟨hap, cut, hends, hall⟩ := allG_mem h3 e hm
  obtain ⟨hs, hpass⟩ := hall σ' A
  refine ⟨σ', e.known A, e.l, hs, cut, fun j hj => r2 j (.inl hj), fun q hq => r2 _ (.inl (lensIn_ok h2.2 q hq)), rfl, r1.known A, fun q hq => r1.w q hq σ' _ sameOn_refl, hap, hends, ?_⟩
  rw [hws]
  exact hpass
theorem calls_treeC {code : FuncId → CFn} {nat : Nats} {fuel : Nat} {f : FuncId} {fn : Func} {c b xa xb : Code} {cc : CCode} {p pre q : List Stp} {j : Nat} {rs : List CRes} {G : Nat} {wins : List Win} {ws L : List (Key × Nat)} {A : Key → Option Value} {Ts : List TS} {bound : Int} {w0 : World}
    {ks : List (Key × Bool)} {tree : LTree} {e0 : Lf} {ls : List Lf} {σ : Nat → Int} {args : List CV} {args' : Array Value} {n : Key} (hws : wsOf wins = ws)
    (hls : leaves ks tree e0 = some ls) (hchk : (Nat.ble (Nat.succ ks.length) e0.b.length && Nat.ble e0.b.length 1000 && Nat.ble 1000 e0.u && lensIn e0.b.length L) = true)
    (hall : AllG (fun e => ∀ (s : Nat → Int) (A : Key → Option Value), ∃ hs, startOf P code nat fuel G ws L Ts p cc args n (linSym s (e.known A)) (e.known A) hs = true) ls)
    (h0 : LfOk wins w0 (σ 0) σ e0) (hlen : LensAre wins L σ) (hwin : ∀ σ, LensAre wins L σ → WinIs wins w0 σ ks)
    (hm : P.follows .mixedOrders = true) (hcode : CodeOk P code) (hnat : ∀ [Sym] [SymFact P], NatsOk P nat) (hf : P.funcs[f]? = some fn) (hb : fn.body = some c) (hcf : compFn P f = .mk cc rs) (hp : p = pre ++ .l :: q) (hat : atC pre c = some (.seq xa xb)) (hsub : subC p c = some b)
    (hG : P.globals.size ≤ G) (hn : G ≤ n.ix) (hw : winB G n.ix ws = true) (hA : ArgsAre A wins) (hB : ∀ x ∈ wins, ∀ y ∈ wins, x.B = y.B → x.key = y.key) (hbd : boundIs bound Ts = true)
    (hargs : ∀ σ' K', K'.arg = A → (∀ j, (j < e0.b.length ∨ (1000 ≤ j ∧ j < e0.u)) → σ' j = σ j) → @VRels (linSym σ' K') (psiW G wins) args args'.toList)
    (hgood : PassesC P code nat fuel G wins L A Ts p pre q j cc rs w0) : Calls P f args' w0 fun e w => e = .returned (.bool true) ∧ Below w0.heap.size w0 w := by
  simp only [Bool.and_eq_true] at hchk
  obtain ⟨⟨⟨g1, g2⟩, g3⟩, g4⟩ := hchk
  have g1 := @ble_yes noSym _ _ g1
  obtain ⟨e, hmem, σ', r1, r2⟩ := leaves_ok (wins := wins) (w0 := w0) (i := σ 0) tree e0 σ hls h0 (hwin σ hlen) rfl (by omega) (@ble_yes noSym _ _ g2) (@ble_yes noSym _ _ g3)
  obtain ⟨hs, hrun⟩ := allG_mem hall e hmem σ' A
  subst hws
  exact loop_callsC (K := e.known A) (r1.known A) rfl (fun q hq => by
    obtain ⟨wn, h1, h2⟩ := hlen q hq
    exact ⟨wn, h1, by rw [r2 _ (.inl (lensIn_ok g4 q hq))]; exact h2⟩) hm hcode hnat hf hb hcf hp hat hsub hG hn hw hA hB hbd (hargs σ' _ rfl r2) hrun hgood
end
end Go.Ev

namespace Go.Ev
open Go.RowKit
noncomputable section
variable {P : Program}
section
variable {code : FuncId → CFn} {nat : Nats} {fuel G : Nat} {ws L : List (Key × Nat)} {Ts : List TS} {p pre q : List Stp} {j : Nat} {cc : CCode} {rs : List CRes} {T : TS} {l : List (Key × List CV)}
def fo : Nat → FT → FT
  | 0, x => x
  | m + 1, x => .node (fo m x) x
def wy : Nat → Nat → List Bool
  | 0, _ => []
  | m + 1, v => match Nat.beq v (Nat.succ m) with
    | true => [true]
    | false => false :: wy m v
def sp : List Nat → CT
  | [] => .leaf
  | v :: l => .cmp [(v, 1)] 1 (sp l) (sp l)
def eqBs : List Bool → List Bool → Bool
  | [], [] => true
  | a :: x, b :: y => (a == b) && eqBs x y
  | _, _ => false
def ctOf : List (List Bool × CT) → List Bool → CT
  | [], _ => .leaf
  | x :: l, p => match eqBs x.1 p with
    | true => x.2
    | false => ctOf l p
def fI (z : Int) (k : Int → Bool) : Bool := match z with
  | .ofNat n => k (.ofNat n)
  | .negSucc n => k (.negSucc n)
theorem fI_eq {z : Int} {k : Int → Bool} : fI z k = k z := by cases z <;> rfl
def fB : List (Int × Int) → (List (Int × Int) → Bool) → Bool
  | [], k => k []
  | (a, b) :: l, k => fI a fun a => fI b fun b => fB l fun l' => k ((a, b) :: l')
theorem fB_eq : ∀ {l : List (Int × Int)} {k : List (Int × Int) → Bool}, fB l k = k l
  | [], _ => rfl
  | (a, b) :: l, k => by unfold fB; rw [fI_eq, fI_eq, fB_eq]
def fLL : LL → (LL → Bool) → Bool
  | [], k => k []
  | (i, a) :: l, k => fI a fun a => fLL l fun l' => k ((i, a) :: l')
theorem fLL_eq : ∀ {l : LL} {k : LL → Bool}, fLL l k = k l
  | [], _ => rfl
  | (i, a) :: l, k => by unfold fLL; rw [fI_eq, fLL_eq]
def fF : List (LL × Int × Int) → (List (LL × Int × Int) → Bool) → Bool
  | [], k => k []
  | (m, a, b) :: l, k => fLL m fun m => fI a fun a => fI b fun b => fF l fun l' => k ((m, a, b) :: l')
theorem fF_eq : ∀ {l : List (LL × Int × Int)} {k : List (LL × Int × Int) → Bool}, fF l k = k l
  | [], _ => rfl
  | (m, a, b) :: l, k => by unfold fF; rw [fLL_eq, fI_eq, fI_eq, fF_eq]
def fR : List SRule → (List SRule → Bool) → Bool
  | [], k => k []
  | ⟨o, ⟨i, c, m⟩, n, v⟩ :: l, k => fI c fun c => fLL m fun m => fR l fun l' => k (⟨o, ⟨i, c, m⟩, n, v⟩ :: l')
theorem fR_eq : ∀ {l : List SRule} {k : List SRule → Bool}, fR l k = k l
  | [], _ => rfl
  | ⟨o, ⟨i, c, m⟩, n, v⟩ :: l, k => by unfold fR; rw [fI_eq, fLL_eq, fR_eq]
def fW : List (Key × List CV) → (List (Key × List CV) → Bool) → Bool
  | [], k => k []
  | (i, m) :: l, k => forceL m fun m => fW l fun l' => k ((i, m) :: l')
theorem fW_eq : ∀ {l : List (Key × List CV)} {k : List (Key × List CV) → Bool}, fW l k = k l
  | [], _ => rfl
  | (i, m) :: l, k => by unfold fW; rw [forceL_eq, fW_eq]
def forceLf (e : Lf) (k : Lf → Bool) : Bool := match e with
  | ⟨b, f, r, l, u⟩ => fB b fun b => fF f fun f => fR r fun r => fW l fun l => k ⟨b, f, r, l, u⟩
theorem forceLf_eq {e : Lf} {k : Lf → Bool} : forceLf e k = k e := by
  cases e
  unfold forceLf
  simp only [fB_eq, fF_eq, fR_eq, fW_eq]
def leavesD (ks : List (Key × Bool)) (t : LTree) (e : Lf) : List Lf := match leaves ks t e with
  | some l => l
  | none => []
def nthLf (l : List Lf) (k : Nat) : Lf := match nth l k with
  | some e => e
  | none => ⟨[], [], [], [], 0⟩
def passN (P : Program) (code : FuncId → CFn) (nat : Nats) (fuel : Nat) (G : Nat) (ws L : List (Key × Nat)) (Ts : List TS) (p : List Stp) (cc : CCode) (rs : List CRes) (T : TS) (l : List (Key × List CV)) (s : Nat → Int) (K : Known) (ts : List Nat) : Bool :=
  isSomeN (chkN G ws Ts (fun θ => oneMore θ && lensTh θ L) K (finOf P code nat fuel p cc rs (linSym s K)) (@evCode (linSym s K) P (@ev (linSym s K) P code nat fuel) (bodyC p cc) (mkTm T.locs) [] (mkH (mkH .nil T.objs) (roOf l)) T.n) ts)
theorem passN_ok {s : Nat → Int} {K : Known} {ts : List Nat} (h : passN P code nat fuel G ws L Ts p cc rs T l s K ts = true) : ∃ hs, passOf P code nat fuel G ws L Ts p cc rs T l (linSym s K) K hs = true := isSomeN_some h
theorem passN_okC {s : Nat → Int} {K : Known} {ts : List Nat} (h : passN P code nat fuel G ws L Ts p cc rs T l s K ts = true) : ∃ hs, passC P code nat fuel G ws L Ts p pre q j cc rs T l .plain s K hs = true := isSomeN_some h
def startN (P : Program) (code : FuncId → CFn) (nat : Nats) (fuel : Nat) (G : Nat) (ws L : List (Key × Nat)) (Ts : List TS) (p : List Stp) (cc : CCode) (args : List CV) (n : Key) (s : Nat → Int) (K : Known) (ts : List Nat) : Bool :=
  isSomeN (chkN G ws Ts (fun θ => someTh θ && lensTh θ L) K (fun _ => false) (@preC (linSym s K) P (@ev (linSym s K) P code nat fuel) p cc (argsT args 0 .nil) [] .nil n) ts)
theorem startN_ok {args : List CV} {n : Key} {s : Nat → Int} {K : Known} {ts : List Nat} (h : startN P code nat fuel G ws L Ts p cc args n s K ts = true) : ∃ hs, startOf P code nat fuel G ws L Ts p cc args n (linSym s K) K hs = true := isSomeN_some h
end
end
end Go.Ev

