/- A verified evaluator for the model's code: EvPick, EvCut, EvHintA, EvCut2, EvHint. -/
import Derived.Test.YtaimebepiomgcaaGreatDoorEvTree
set_option linter.unusedSectionVars false
set_option linter.unusedVariables false
set_option linter.unusedSimpArgs false
namespace Go.Ev
noncomputable section
variable {P : Program}
inductive FT where
  | leaf
  | node (a b : FT)
def FT.paths : FT → List (List Bool)
  | .leaf => [[]]
  | .node a b => a.paths.map (false :: ·) ++ b.paths.map (true :: ·)
theorem FT.some : ∀ (t : FT), ∃ p, p ∈ t.paths
  | .leaf => ⟨[], by simp [FT.paths]⟩
  | .node a b => by
    obtain ⟨p, hp⟩ := FT.some a
    exact ⟨false :: p, by simp [FT.paths, hp]⟩
section
variable {G : Nat} {ws : List (Key × Nat)} {Ts : List TS} {ok : jd → Bool} {K : ze}
end
theorem zAS {o : Option (List jd)} (h : ke o = true) : ∃ x, o = some x := by
  unfold ke at h
  split at h
  · exact ⟨_, rfl⟩
  · cases h
end
end Go.Ev

namespace Go.Ev
open Go.RowKit
noncomputable section
variable {P : Program}
section
variable {S S' : Sym} (hv : @Sym.val S = @Sym.val S') (ha : @Sym.arg S = @Sym.arg S')
include hv ha
end
inductive CT where
  | leaf
  | cmp (l : LL) (cut : Int) (a b : CT)
def atC : List Stp → Code → Option Code
  | [], c => some c
  | .l :: p, .seq x _ => atC p x
  | .r :: p, .seq _ y => atC p y
  | .b :: p, .block _ x => atC p x
  | _, _ => none
def zH7 : List Stp → CCode → CCode
  | [], .seq a _ => a
  | .l :: p, .seq a _ => zH7 p a
  | .r :: p, .seq _ b => zH7 p b
  | .b :: p, .block _ x => zH7 p x
  | _, _ => .bad 52
def zDB : List Stp → CCode → CCode
  | [], .seq _ b => b
  | .l :: p, .seq a _ => zDB p a
  | .r :: p, .seq _ b => zDB p b
  | .b :: p, .block _ x => zDB p x
  | _, _ => .bad 53
theorem vE {F N : Nat} : ∀ {p : List Stp} {c a b : Code}, atC p c = some (.seq a b) → zH7 p (zR P F N c) = zR P F N a ∧ zDB p (zR P F N c) = zR P F N b
  | [], c, a, b, h => by
    injection h with h; subst h; exact ⟨rfl, rfl⟩
  | .l :: p, c, a, b, h => by
    cases c <;> first | exact vE (p := p) h | cases h
  | .r :: p, c, a, b, h => by
    cases c <;> first | exact vE (p := p) h | cases h
  | .b :: p, c, a, b, h => by
    cases c <;> first | exact vE (p := p) h | cases h
theorem zGJ {q : List Stp} {bl : Code} : ∀ {p : List Stp} {c a b : Code}, atC p c = some (.seq a b) → wk (p ++ .l :: q) c = some bl → wk q a = some bl
  | [], c, a, b, h, hs => by
    injection h with h; subst h; exact hs
  | .l :: p, c, a, b, h, hs => by
    cases c <;> first | exact zGJ (p := p) h hs | cases h
  | .r :: p, c, a, b, h, hs => by
    cases c <;> first | exact zGJ (p := p) h hs | cases h
  | .b :: p, c, a, b, h, hs => by
    cases c <;> first | exact zGJ (p := p) h hs | cases h
theorem zAv : ∀ {p : List Stp} {c x : Code}, atC p c = some x → yC c = true → yC x = true
  | [], c, x, h, hn => by
    injection h with h; subst h; exact hn
  | .l :: p, c, x, h, hn => by
    cases c <;> try (cases h; done)
    rename_i y z
    have hnr : yC y = true ∧ yC z = true := by simpa [yC] using hn
    exact zAv (p := p) h hnr.1
  | .r :: p, c, x, h, hn => by
    cases c <;> try (cases h; done)
    rename_i y z
    have hnr : yC y = true ∧ yC z = true := by simpa [yC] using hn
    exact zAv (p := p) h hnr.2
  | .b :: p, c, x, h, hn => by
    cases c <;> first | exact zAv (p := p) h hn | cases h
theorem zKN {q : List Stp} : ∀ {p : List Stp} {c a b : Code} {Q : Exit → Act → World → Prop}, atC p c = some (.seq a b) → QH P (p ++ .l :: q) c Q = QH P q a (Exit.then (b.wp P (QH P p c Q)) (QH P p c Q))
  | [], c, a, b, Q, h => by
    injection h with h; subst h; rfl
  | .l :: p, c, a, b, Q, h => by
    cases c <;> try (cases h; done)
    rename_i y z
    exact zKN (p := p) (Q := Exit.then (z.wp P Q) Q) h
  | .r :: p, c, a, b, Q, h => by
    cases c <;> try (cases h; done)
    exact zKN (p := p) h
  | .b :: p, c, a, b, Q, h => by
    cases c <;> try (cases h; done)
    exact zKN (p := p) h
section
variable [Sym] [SymFact P] {F N : Nat} {call : yS}
end
section
variable {code : FuncId → CFn} {nat : Nats} {fuel : Nat}
section
variable {σ : Nat → Int} {K : ze} {fn : Func} {c a b bl : Code} {pre q : List Stp} {j : Nat} {rs : List CRes} {F N : Nat} {w0 : World}
end
end
end
end Go.Ev

namespace Go.Ev
open Go.RowKit
noncomputable section
variable {P : Program}
structure HA where
  f : List Key
  b : List Key
  c : Nat
  th : List (Nat × Int × LL)
def zPS (k j : Key) (a : HA) : HA := match Nat.beq k.ix a.c with
  | true => ⟨a.f, j :: a.b, Nat.succ a.c, a.th⟩
  | false => a
def zQo (z : Int) : LL → LL
  | [] => []
  | p :: r => (p.1, p.2 / z) :: zQo z r
def zRb (e : SE) (v : CV) (a : HA) : HA := match e.l with
  | [(j, z)] => match yt z 1 with
    | true => match zCq v with
      | some (_, c, l) => ⟨a.f, a.b, a.c, (j, c - e.c, l) :: a.th⟩
      | none => a
    | false => match zCq v with
      | some (_, c, l) => ⟨a.f, a.b, a.c, (j, (c - e.c) / z, zQo z l) :: a.th⟩
      | none => a
  | _ => a
def zQd (s : List Nat) : List (List Nat) → Nat → Nat
  | [], n => n
  | x :: r, n => match xg x s with
    | true => n
    | false => zQd s r (Nat.succ n)
def zQX (i : Nat) (t : List (List Nat)) (d : CV) (a : HA) : HA := match d with
  | .str s => ⟨a.f, a.b, a.c, (i, (.ofNat (zQd s t 0)), []) :: a.th⟩
  | .few j _ => ⟨a.f, a.b, a.c, (i, 0, [(j, 1)]) :: a.th⟩
  | _ => a
def hV (c : CV) : CV → HA → HA := CV.rec (motive_1 := fun _ => CV → HA → HA) (motive_2 := fun _ => List CV → HA → HA)
  (fun x0 d a => a)
  (fun x0 d a => a)
  (fun x0 x1 d a => a)
  (fun x0 d a => a)
  (fun x0 d a => a)
  (fun d a => a)
  (fun x0 x1 d a => (CV.rec (motive_1 := fun _ => HA → HA) (motive_2 := fun _ => Unit) (fun _ => (fun a => a)) (fun _ => (fun a => a)) (fun _ _ => (fun a => a)) (fun _ => (fun a => a)) (fun _ => (fun a => a)) (fun a => a) (fun y0 y1 => (fun a => zPS x0 y0 a)) (fun a => a) (fun _ _ _ _ _ _ => (fun a => a)) (fun a => a) (fun _ => (fun a => a)) (fun _ _ _ _ _ => (fun a => a)) (fun a => a) (fun _ _ _ => (fun a => a)) (fun a => a) (fun _ _ => (fun a => a)) (fun _ _ => (fun a => a)) (fun _ => (fun a => a)) (fun _ _ _ _ => (fun a => a)) (fun _ _ => (fun a => a)) (fun _ => (fun a => a)) (fun _ _ => (fun a => a)) (fun _ _ _ _ => (fun a => a)) (fun a => a) () (fun _ _ _ _ => ()) d) a)
  (fun d a => a)
  (fun x0 x1 x2 x3 x4 x5 d a => (CV.rec (motive_1 := fun _ => HA → HA) (motive_2 := fun _ => Unit) (fun _ => (fun a => a)) (fun _ => (fun a => a)) (fun _ _ => (fun a => a)) (fun _ => (fun a => a)) (fun _ => (fun a => a)) (fun a => a) (fun _ _ => (fun a => a)) (fun a => a) (fun y0 y1 y2 y3 y4 y5 => (fun a => zPS x0 y0 a)) (fun a => a) (fun _ => (fun a => a)) (fun _ _ _ _ _ => (fun a => a)) (fun a => a) (fun _ _ _ => (fun a => a)) (fun a => a) (fun _ _ => (fun a => a)) (fun _ _ => (fun a => a)) (fun _ => (fun a => a)) (fun _ _ _ _ => (fun a => a)) (fun _ _ => (fun a => a)) (fun _ => (fun a => a)) (fun _ _ => (fun a => a)) (fun _ _ _ _ => (fun a => a)) (fun a => a) () (fun _ _ _ _ => ()) d) a)
  (fun d a => a)
  (fun x0 d a => (CV.rec (motive_1 := fun _ => HA → HA) (motive_2 := fun _ => Unit) (fun _ => (fun a => a)) (fun _ => (fun a => a)) (fun _ _ => (fun a => a)) (fun _ => (fun a => a)) (fun _ => (fun a => a)) (fun a => a) (fun _ _ => (fun a => a)) (fun a => a) (fun _ _ _ _ _ _ => (fun a => a)) (fun a => a) (fun y0 => (fun a => zPS x0 y0 a)) (fun _ _ _ _ _ => (fun a => a)) (fun a => a) (fun _ _ _ => (fun a => a)) (fun a => a) (fun _ _ => (fun a => a)) (fun _ _ => (fun a => a)) (fun _ => (fun a => a)) (fun _ _ _ _ => (fun a => a)) (fun _ _ => (fun a => a)) (fun _ => (fun a => a)) (fun _ _ => (fun a => a)) (fun _ _ _ _ => (fun a => a)) (fun a => a) () (fun _ _ _ _ => ()) d) a)
  (fun x0 x1 x2 ha hc d a => (CV.rec (motive_1 := fun _ => HA → HA) (motive_2 := fun _ => Unit) (fun _ => (fun a => a)) (fun _ => (fun a => a)) (fun _ _ => (fun a => a)) (fun _ => (fun a => a)) (fun _ => (fun a => a)) (fun a => a) (fun _ _ => (fun a => a)) (fun a => a) (fun _ _ _ _ _ _ => (fun a => a)) (fun a => a) (fun _ => (fun a => a)) (fun y0 y1 y2 _ _ => (fun a => hc y2 (ha y1 a))) (fun a => a) (fun _ _ _ => (fun a => a)) (fun a => a) (fun _ _ => (fun a => a)) (fun _ _ => (fun a => a)) (fun _ => (fun a => a)) (fun _ _ _ _ => (fun a => a)) (fun _ _ => (fun a => a)) (fun _ => (fun a => a)) (fun _ _ => (fun a => a)) (fun _ _ _ _ => (fun a => a)) (fun a => a) () (fun _ _ _ _ => ()) d) a)
  (fun d a => a)
  (fun x0 x1 hv d a => (CV.rec (motive_1 := fun _ => HA → HA) (motive_2 := fun _ => Unit) (fun _ => (fun a => a)) (fun _ => (fun a => a)) (fun _ _ => (fun a => a)) (fun _ => (fun a => a)) (fun _ => (fun a => a)) (fun a => a) (fun _ _ => (fun a => a)) (fun a => a) (fun _ _ _ _ _ _ => (fun a => a)) (fun a => a) (fun _ => (fun a => a)) (fun _ _ _ _ _ => (fun a => a)) (fun a => a) (fun y0 y1 _ => (fun a => hv y1 a)) (fun a => a) (fun _ _ => (fun a => a)) (fun _ _ => (fun a => a)) (fun _ => (fun a => a)) (fun _ _ _ _ => (fun a => a)) (fun _ _ => (fun a => a)) (fun _ => (fun a => a)) (fun _ _ => (fun a => a)) (fun _ _ _ _ => (fun a => a)) (fun a => a) () (fun _ _ _ _ => ()) d) a)
  (fun d a => a)
  (fun x0 hl d a => (CV.rec (motive_1 := fun _ => HA → HA) (motive_2 := fun _ => Unit) (fun _ => (fun a => a)) (fun _ => (fun a => a)) (fun _ _ => (fun a => a)) (fun _ => (fun a => a)) (fun _ => (fun a => a)) (fun a => a) (fun _ _ => (fun a => a)) (fun a => a) (fun _ _ _ _ _ _ => (fun a => a)) (fun a => a) (fun _ => (fun a => a)) (fun _ _ _ _ _ => (fun a => a)) (fun a => a) (fun _ _ _ => (fun a => a)) (fun a => a) (fun y0 _ => (fun a => hl y0 a)) (fun _ _ => (fun a => a)) (fun _ => (fun a => a)) (fun _ _ _ _ => (fun a => a)) (fun _ _ => (fun a => a)) (fun _ => (fun a => a)) (fun _ _ => (fun a => a)) (fun _ _ _ _ => (fun a => a)) (fun a => a) () (fun _ _ _ _ => ()) d) a)
  (fun x0 hl d a => (CV.rec (motive_1 := fun _ => HA → HA) (motive_2 := fun _ => Unit) (fun _ => (fun a => a)) (fun _ => (fun a => a)) (fun _ _ => (fun a => a)) (fun _ => (fun a => a)) (fun _ => (fun a => a)) (fun a => a) (fun _ _ => (fun a => a)) (fun a => a) (fun _ _ _ _ _ _ => (fun a => a)) (fun a => a) (fun _ => (fun a => a)) (fun _ _ _ _ _ => (fun a => a)) (fun a => a) (fun _ _ _ => (fun a => a)) (fun a => a) (fun _ _ => (fun a => a)) (fun y0 _ => (fun a => hl y0 a)) (fun _ => (fun a => a)) (fun _ _ _ _ => (fun a => a)) (fun _ _ => (fun a => a)) (fun _ => (fun a => a)) (fun _ _ => (fun a => a)) (fun _ _ _ _ => (fun a => a)) (fun a => a) () (fun _ _ _ _ => ()) d) a)
  (fun x0 d a => zRb x0 d a)
  (fun x0 x1 x2 x3 d a => a)
  (fun x0 hl d a => (CV.rec (motive_1 := fun _ => HA → HA) (motive_2 := fun _ => Unit) (fun _ => (fun a => a)) (fun _ => (fun a => a)) (fun _ _ => (fun a => a)) (fun _ => (fun a => a)) (fun _ => (fun a => a)) (fun a => a) (fun _ _ => (fun a => a)) (fun a => a) (fun _ _ _ _ _ _ => (fun a => a)) (fun a => a) (fun _ => (fun a => a)) (fun _ _ _ _ _ => (fun a => a)) (fun a => a) (fun _ _ _ => (fun a => a)) (fun a => a) (fun _ _ => (fun a => a)) (fun _ _ => (fun a => a)) (fun _ => (fun a => a)) (fun _ _ _ _ => (fun a => a)) (fun y0 _ => (fun a => hl y0 a)) (fun _ => (fun a => a)) (fun _ _ => (fun a => a)) (fun _ _ _ _ => (fun a => a)) (fun a => a) () (fun _ _ _ _ => ()) d) a)
  (fun x0 d a => a)
  (fun x0 x1 d a => zQX x0 x1 d a)
  (fun x0 x1 x2 x3 d a => a)
  (fun d a => a)
  (fun _ a => a)
  (fun _ _ h g m a => List.rec (motive := fun _ => HA) a (fun b r _ => g r (h b a)) m) c
def hVs (l m : List CV) (a : HA) : HA := hV (.agg l) (.agg m) a
def hEs : List CE → List CE → HA → HA
  | x :: xs, y :: ys, a => hEs xs ys (hV x.val y.val (hV x.key y.key a))
  | _, _, a => a
def hZ : List (CV × CV) → List (CV × CV) → HA → HA
  | x :: xs, y :: ys, a => hZ xs ys (hV x.2 y.2 a)
  | x :: xs, [], a => hZ xs [] (hV x.2 (.str []) a)
  | _, _, a => a
def hO : CObj → CObj → HA → HA
  | .cells x, .cells y, a => hVs x y a
  | .cells x, .full _ y, a => hVs x y a
  | .map x _, .map y _, a => hEs x (zBB y) a
  | .mapz x, .mapz y, a => hZ x y a
  | .mapz x, .map _ _, a => hZ x [] a
  | _, _, a => a
def hTm (tm : Tm) : List (Nat × CV) → HA → HA
  | [], a => a
  | p :: r, a => hTm tm r (hV p.2 (qO (Loc.ofNat p.1) tm) a)
def zQT (a : HA) : Option (Key × HA) := match a.f with
  | k :: r => some (k, ⟨r, a.b, a.c, a.th⟩)
  | [] => match a.b.reverse with
    | k :: r => some (k, ⟨r, [], a.c, a.th⟩)
    | [] => none
def zKj (h : zD) : List (Key × CObj) → HA → List Key → List Key × HA
  | [], a, ks => (ks.reverse, a)
  | p :: r, a, ks => match zQT a with
    | none => (ks.reverse, a)
    | some (j, a) => match yK j h with
      | some o => zKj h r (hO p.2 o a) (j :: ks)
      | none => (ks.reverse, a)
def zPa (j : Nat) : List (Nat × Int × LL) → Int × LL
  | [] => (0, [(j, 1)])
  | q :: r => match Nat.beq q.1 j with
    | true => q.2
    | false => zPa j r
def hTh (th : List (Nat × Int × LL)) : List (Int × Int) → Nat → TH
  | [], _ => []
  | _ :: r, j => zPa j th :: hTh th r (Nat.succ j)
def zQw (T : TS) : Nat := match T.objs with
  | p :: _ => p.1.ix
  | [] => 0
def zBl {α : Type} : List α → (List α → Bool) → Bool
  | [], k => k []
  | x :: l, k => zBl l fun l' => k (x :: l')
theorem wd {α : Type} : ∀ {l : List α} {k : List α → Bool}, zBl l k = k l
  | [], _ => rfl
  | x :: l, k => wd (l := l)
def zA5 (t : Nat) (T : TS) (tm : Tm) (h : zD) (k : jd → Bool) : Bool := match zKj h T.objs (hTm tm T.locs ⟨[], [], zQw T, []⟩) [] with
  | (ks, a) => zBl ks fun ks => zBl (hTh a.th T.b 0) fun θ => k ⟨t, ks, θ⟩
theorem zEw {t : Nat} {T : TS} {tm : Tm} {h : zD} {k : jd → Bool} (hh : zA5 t T tm h k = true) : ∃ x, x.T = t ∧ k x = true := by
  unfold zA5 at hh
  split at hh
  rw [wd, wd] at hh
  exact ⟨_, rfl, hh⟩
def zCr (a b : Bool) : Bool := Bool.rec (motive := fun _ => Bool) false b a
theorem uO {a b : Bool} : zCr a b = (a && b) := by cases a <;> rfl
def zP0 (a b : Bool) : Bool := Bool.rec (motive := fun _ => Bool) (Bool.rec (motive := fun _ => Bool) true false b) b a
theorem zOo {a b : Bool} : zP0 a b = (a == b) := by cases a <;> cases b <;> rfl
def zP4 (ρ : zD) (θ : TH) (c : CV) : CV → Bool := CV.rec (motive_1 := fun _ => CV → Bool) (motive_2 := fun _ => List CV → Bool)
  (fun x0 d => (CV.rec (motive_1 := fun _ => Bool) (motive_2 := fun _ => Unit) (fun y0 => zP0 x0 y0) (fun _ => false) (fun _ _ => false) (fun _ => false) (fun _ => false) false (fun _ _ => false) false (fun _ _ _ _ _ _ => false) false (fun _ => false) (fun _ _ _ _ _ => false) false (fun _ _ _ => false) false (fun _ _ => false) (fun _ _ => false) (fun _ => false) (fun _ _ _ _ => false) (fun _ _ => false) (fun _ => false) (fun _ _ => false) (fun _ _ _ _ => false) false () (fun _ _ _ _ => ()) d))
  (fun x0 d => (CV.rec (motive_1 := fun _ => Bool) (motive_2 := fun _ => Unit) (fun _ => false) (fun y0 => Nat.beq x0 y0) (fun _ _ => false) (fun _ => false) (fun _ => false) false (fun _ _ => false) false (fun _ _ _ _ _ _ => false) false (fun _ => false) (fun _ _ _ _ _ => false) false (fun _ _ _ => false) false (fun _ _ => false) (fun _ _ => false) (fun _ => false) (fun _ _ _ _ => false) (fun _ _ => false) (fun _ => false) (fun _ _ => false) (fun _ _ _ _ => false) false () (fun _ _ _ _ => ()) d))
  (fun x0 x1 d => (CV.rec (motive_1 := fun _ => Bool) (motive_2 := fun _ => Unit) (fun _ => false) (fun _ => false) (fun y0 y1 => (zCr (kEq x0 y0) (yt x1 y1))) (fun _ => false) (fun _ => false) false (fun _ _ => false) false (fun _ _ _ _ _ _ => false) false (fun _ => false) (fun _ _ _ _ _ => false) false (fun _ _ _ => false) false (fun _ _ => false) (fun _ _ => false) (fun _ => false) (fun _ _ _ _ => false) (fun _ _ => false) (fun _ => false) (fun _ _ => false) (fun _ _ _ _ => false) false () (fun _ _ _ _ => ()) d))
  (fun x0 d => zFZ x0 d)
  (fun x0 d => (CV.rec (motive_1 := fun _ => Bool) (motive_2 := fun _ => Unit) (fun _ => false) (fun _ => false) (fun _ _ => false) (fun _ => false) (fun y0 => xg x0 y0) false (fun _ _ => false) false (fun _ _ _ _ _ _ => false) false (fun _ => false) (fun _ _ _ _ _ => false) false (fun _ _ _ => false) false (fun _ _ => false) (fun _ _ => false) (fun _ => false) (fun _ _ _ _ => false) (fun _ _ => false) (fun _ => false) (fun _ _ => false) (fun _ _ _ _ => false) false () (fun _ _ _ _ => ()) d))
  (fun d => (CV.rec (motive_1 := fun _ => Bool) (motive_2 := fun _ => Unit) (fun _ => false) (fun _ => false) (fun _ _ => false) (fun _ => false) (fun _ => false) true (fun _ _ => false) false (fun _ _ _ _ _ _ => false) false (fun _ => false) (fun _ _ _ _ _ => false) false (fun _ _ _ => false) false (fun _ _ => false) (fun _ _ => false) (fun _ => false) (fun _ _ _ _ => false) (fun _ _ => false) (fun _ => false) (fun _ _ => false) (fun _ _ _ _ => false) false () (fun _ _ _ _ => ()) d))
  (fun x0 x1 d => (CV.rec (motive_1 := fun _ => Bool) (motive_2 := fun _ => Unit) (fun _ => false) (fun _ => false) (fun _ _ => false) (fun _ => false) (fun _ => false) false (fun y0 y1 => (zCr (vG ρ x0 y0) (Nat.beq x1 y1))) false (fun _ _ _ _ _ _ => false) false (fun _ => false) (fun _ _ _ _ _ => false) false (fun _ _ _ => false) false (fun _ _ => false) (fun _ _ => false) (fun _ => false) (fun _ _ _ _ => false) (fun _ _ => false) (fun _ => false) (fun _ _ => false) (fun _ _ _ _ => false) false () (fun _ _ _ _ => ()) d))
  (fun d => (CV.rec (motive_1 := fun _ => Bool) (motive_2 := fun _ => Unit) (fun _ => false) (fun _ => false) (fun _ _ => false) (fun _ => false) (fun _ => false) false (fun _ _ => false) true (fun _ _ _ _ _ _ => false) false (fun _ => false) (fun _ _ _ _ _ => false) false (fun _ _ _ => false) false (fun _ _ => false) (fun _ _ => false) (fun _ => false) (fun _ _ _ _ => false) (fun _ _ => false) (fun _ => false) (fun _ _ => false) (fun _ _ _ _ => false) false () (fun _ _ _ _ => ()) d))
  (fun x0 x1 x2 x3 x4 x5 d => (CV.rec (motive_1 := fun _ => Bool) (motive_2 := fun _ => Unit) (fun _ => false) (fun _ => false) (fun _ _ => false) (fun _ => false) (fun _ => false) false (fun _ _ => false) false (fun y0 y1 y2 y3 y4 y5 => vG ρ x0 y0 && Nat.beq x1 y1 && Nat.beq x2 y2 && Nat.beq x4 y4 && x5 == y5 && (Nat.beq x3 y3 || (!x5 && Nat.ble x3 y3))) false (fun _ => false) (fun _ _ _ _ _ => false) false (fun _ _ _ => false) false (fun _ _ => false) (fun _ _ => false) (fun _ => false) (fun _ _ _ _ => false) (fun _ _ => false) (fun _ => false) (fun _ _ => false) (fun _ _ _ _ => false) false () (fun _ _ _ _ => ()) d))
  (fun d => (CV.rec (motive_1 := fun _ => Bool) (motive_2 := fun _ => Unit) (fun _ => false) (fun _ => false) (fun _ _ => false) (fun _ => false) (fun _ => false) false (fun _ _ => false) false (fun _ _ _ _ _ _ => false) true (fun _ => false) (fun _ _ _ _ _ => false) false (fun _ _ _ => false) false (fun _ _ => false) (fun _ _ => false) (fun _ => false) (fun _ _ _ _ => false) (fun _ _ => false) (fun _ => false) (fun _ _ => false) (fun _ _ _ _ => false) false () (fun _ _ _ _ => ()) d))
  (fun x0 d => (CV.rec (motive_1 := fun _ => Bool) (motive_2 := fun _ => Unit) (fun _ => false) (fun _ => false) (fun _ _ => false) (fun _ => false) (fun _ => false) false (fun _ _ => false) false (fun _ _ _ _ _ _ => false) false (fun y0 => vG ρ x0 y0) (fun _ _ _ _ _ => false) false (fun _ _ _ => false) false (fun _ _ => false) (fun _ _ => false) (fun _ => false) (fun _ _ _ _ => false) (fun _ _ => false) (fun _ => false) (fun _ _ => false) (fun _ _ _ _ => false) false () (fun _ _ _ _ => ()) d))
  (fun x0 x1 x2 ha hc d => (CV.rec (motive_1 := fun _ => Bool) (motive_2 := fun _ => Unit) (fun _ => false) (fun _ => false) (fun _ _ => false) (fun _ => false) (fun _ => false) false (fun _ _ => false) false (fun _ _ _ _ _ _ => false) false (fun _ => false) (fun y0 y1 y2 _ _ => decide (x0 = y0) && ha y1 && hc y2) false (fun _ _ _ => false) false (fun _ _ => false) (fun _ _ => false) (fun _ => false) (fun _ _ _ _ => false) (fun _ _ => false) (fun _ => false) (fun _ _ => false) (fun _ _ _ _ => false) false () (fun _ _ _ _ => ()) d))
  (fun d => (CV.rec (motive_1 := fun _ => Bool) (motive_2 := fun _ => Unit) (fun _ => false) (fun _ => false) (fun _ _ => false) (fun _ => false) (fun _ => false) false (fun _ _ => false) false (fun _ _ _ _ _ _ => false) false (fun _ => false) (fun _ _ _ _ _ => false) true (fun _ _ _ => false) false (fun _ _ => false) (fun _ _ => false) (fun _ => false) (fun _ _ _ _ => false) (fun _ _ => false) (fun _ => false) (fun _ _ => false) (fun _ _ _ _ => false) false () (fun _ _ _ _ => ()) d))
  (fun x0 x1 hv d => (CV.rec (motive_1 := fun _ => Bool) (motive_2 := fun _ => Unit) (fun _ => false) (fun _ => false) (fun _ _ => false) (fun _ => false) (fun _ => false) false (fun _ _ => false) false (fun _ _ _ _ _ _ => false) false (fun _ => false) (fun _ _ _ _ _ => false) false (fun y0 y1 _ => (zCr (Nat.beq x0 y0) (hv y1))) false (fun _ _ => false) (fun _ _ => false) (fun _ => false) (fun _ _ _ _ => false) (fun _ _ => false) (fun _ => false) (fun _ _ => false) (fun _ _ _ _ => false) false () (fun _ _ _ _ => ()) d))
  (fun d => (CV.rec (motive_1 := fun _ => Bool) (motive_2 := fun _ => Unit) (fun _ => false) (fun _ => false) (fun _ _ => false) (fun _ => false) (fun _ => false) false (fun _ _ => false) false (fun _ _ _ _ _ _ => false) false (fun _ => false) (fun _ _ _ _ _ => false) false (fun _ _ _ => false) true (fun _ _ => false) (fun _ _ => false) (fun _ => false) (fun _ _ _ _ => false) (fun _ _ => false) (fun _ => false) (fun _ _ => false) (fun _ _ _ _ => false) false () (fun _ _ _ _ => ()) d))
  (fun x0 hl d => (CV.rec (motive_1 := fun _ => Bool) (motive_2 := fun _ => Unit) (fun _ => false) (fun _ => false) (fun _ _ => false) (fun _ => false) (fun _ => false) false (fun _ _ => false) false (fun _ _ _ _ _ _ => false) false (fun _ => false) (fun _ _ _ _ _ => false) false (fun _ _ _ => false) false (fun y0 _ => hl y0) (fun _ _ => false) (fun _ => false) (fun _ _ _ _ => false) (fun _ _ => false) (fun _ => false) (fun _ _ => false) (fun _ _ _ _ => false) false () (fun _ _ _ _ => ()) d))
  (fun x0 hl d => (CV.rec (motive_1 := fun _ => Bool) (motive_2 := fun _ => Unit) (fun _ => false) (fun _ => false) (fun _ _ => false) (fun _ => false) (fun _ => false) false (fun _ _ => false) false (fun _ _ _ _ _ _ => false) false (fun _ => false) (fun _ _ _ _ _ => false) false (fun _ _ _ => false) false (fun _ _ => false) (fun y0 _ => hl y0) (fun _ => false) (fun _ _ _ _ => false) (fun _ _ => false) (fun _ => false) (fun _ _ => false) (fun _ _ _ _ => false) false () (fun _ _ _ _ => ()) d))
  (fun x0 d => zJq θ x0 d)
  (fun x0 x1 x2 x3 d => false)
  (fun x0 hl d => (CV.rec (motive_1 := fun _ => Bool) (motive_2 := fun _ => Unit) (fun _ => false) (fun _ => false) (fun _ _ => false) (fun _ => false) (fun _ => false) false (fun _ _ => false) false (fun _ _ _ _ _ _ => false) false (fun _ => false) (fun _ _ _ _ _ => false) false (fun _ _ _ => false) false (fun _ _ => false) (fun _ _ => false) (fun _ => false) (fun _ _ _ _ => false) (fun y0 _ => hl y0) (fun _ => false) (fun _ _ => false) (fun _ _ _ _ => false) false () (fun _ _ _ _ => ()) d))
  (fun x0 d => false)
  (fun x0 x1 d => yI ρ θ (.few x0 x1) d)
  (fun x0 x1 x2 x3 d => false)
  (fun d => true)
  (fun m => List.rec (motive := fun _ => Bool) true (fun _ _ _ => false) m)
  (fun _ _ h g m => List.rec (motive := fun _ => Bool) false (fun b r _ => zCr (h b) (g r)) m) c
def zPf (ρ : zD) (θ : TH) (l m : List CV) : Bool := zP4 ρ θ (.agg l) (.agg m)
section
variable {ρ : zD} {θ : TH}
mutual
theorem zGD : ∀ (c d : CV), zP4 ρ θ c d = yI ρ θ c d
  | .bool x0, d => by
    cases d with
    | bool y0 => unfold yI; exact zOo
    | _ => unfold yI; rfl
  | .nat x0, d => by cases d <;> (unfold yI; rfl)
  | .int x0 x1, d => by
    cases d with
    | int y0 y1 => unfold yI; exact uO
    | _ => unfold yI; rfl
  | .anyi x0, d => by unfold yI; rfl
  | .str x0, d => by cases d <;> (unfold yI; rfl)
  | .nilptr, d => by cases d <;> (unfold yI; rfl)
  | .ptr x0 x1, d => by
    cases d with
    | ptr y0 y1 => unfold yI; exact uO
    | _ => unfold yI; rfl
  | .nilsl, d => by cases d <;> (unfold yI; rfl)
  | .sl x0 x1 x2 x3 x4 x5, d => by cases d <;> (unfold yI; rfl)
  | .nilmap, d => by cases d <;> (unfold yI; rfl)
  | .map x0, d => by cases d <;> (unfold yI; rfl)
  | .func x0 x1 x2, d => by
    cases d with
    | func y0 y1 y2 => unfold yI; rw [← kG x1 y1, ← kG x2 y2]; rfl
    | _ => unfold yI; rfl
  | .nilfunc, d => by cases d <;> (unfold yI; rfl)
  | .iface x0 x1, d => by
    cases d with
    | iface y0 y1 => unfold yI; rw [← zGD x1 y1, ← uO]; rfl
    | _ => unfold yI; rfl
  | .niliface, d => by cases d <;> (unfold yI; rfl)
  | .agg x0, d => by
    cases d with
    | agg y0 => unfold yI; exact kG x0 y0
    | _ => unfold yI; rfl
  | .tup x0, d => by
    cases d with
    | tup y0 => unfold yI; exact kG x0 y0
    | _ => unfold yI; rfl
  | .sym x0, d => by unfold yI; rfl
  | .win x0 x1 x2 x3, d => by cases d <;> (unfold yI; rfl)
  | .sst x0, d => by
    cases d with
    | sst y0 => unfold yI; exact kG x0 y0
    | _ => unfold yI; rfl
  | .big x0, d => by cases d <;> (unfold yI; rfl)
  | .few x0 x1, d => by rfl
  | .elt x0 x1 x2 x3, d => by cases d <;> (unfold yI; rfl)
  | .any, d => by unfold yI; rfl
theorem kG : ∀ (l m : List CV), zPf ρ θ l m = k6 ρ θ l m
  | [], m => by cases m <;> (unfold k6; rfl)
  | c :: l, m => by
    cases m with
    | nil => unfold k6; rfl
    | cons d m => unfold k6; rw [← zGD c d, ← kG l m, ← uO]; rfl
end
end
def zKe (ρ : zD) (θ : TH) (l : List CV) : List CV → Bool :=
  List.rec (motive := fun _ => List CV → Bool) (fun _ => true) (fun a _ g m => List.rec (motive := fun _ => Bool) false (fun b r _ => zCr (zP4 ρ θ a b) (g r)) m) l
theorem zDE {ρ : zD} {θ : TH} : ∀ {l m : List CV}, zKe ρ θ l m = k7 ρ θ l m
  | [], m => by unfold k7; rfl
  | c :: l, [] => by unfold k7; rfl
  | c :: l, d :: m => by unfold k7; rw [← zGD c d, ← zDE (l := l) (m := m), ← uO]; rfl
def zPz (ρ : zD) (θ : TH) (o o' : CObj) : Bool := match o, o' with
  | .cells a, .cells b => zKe ρ θ a b
  | o, o' => zBH ρ θ o o'
theorem zNJ {ρ : zD} {θ : TH} {o o' : CObj} : zPz ρ θ o o' = zBH ρ θ o o' := by
  cases o <;> cases o' <;> first | rfl | exact zDE
def vW (ρ inv : zD) (θ : TH) (h : zD) (lo hi : Nat) : List (Key × CObj) → List Key → Bool
  | [], [] => true
  | p :: r, j :: js => zCr (vG ρ p.1 j) <| zCr (vG inv j p.1) <| zCr (Nat.ble lo p.1.ix) <| zCr (Nat.ble (Nat.succ p.1.ix) hi) <| zCr (match yK j h with
      | some o => zPz ρ θ p.2 o
      | none => false) (vW ρ inv θ h lo hi r js)
  | _, _ => false
theorem vo {ρ inv : zD} {θ : TH} {h : zD} {lo hi : Nat} : ∀ {l : List (Key × CObj)} {ks : List Key}, vW ρ inv θ h lo hi l ks = jV ρ inv θ h lo hi l ks
  | [], [] => rfl
  | [], _ :: _ => rfl
  | _ :: _, [] => rfl
  | p :: r, j :: js => by
    unfold vW jV
    rw [vo (l := r) (ks := js)]
    cases yK j h <;> simp only [uO, zNJ, Bool.and_assoc]
def zKM (G : Nat) (ws : List (Key × Nat)) (T : TS) (ks : List Key) (θ : TH) (K : ze) (tm : Tm) (h : zD) : Bool :=
  vW (yO T.objs ks) (jC T.objs ks) θ h G T.n.ix T.objs ks && zIp (yO T.objs ks) θ ws tm T.locs && zN7 K T.b θ && zNp K θ T.f && zEr G T.n.ix ws && Nat.ble G T.n.ix && vq θ K.rules T.r
theorem zNl {G : Nat} {ws : List (Key × Nat)} {T : TS} {ks : List Key} {θ : TH} {K : ze} {tm : Tm} {h : zD} : zKM G ws T ks θ K tm h = zHE G ws T ks θ K tm h := by
  unfold zKM zHE
  rw [vo]
def zQ (c : CV) : (CV → Bool) → Bool := CV.rec (motive_1 := fun _ => (CV → Bool) → Bool) (motive_2 := fun _ => (List CV → Bool) → Bool)
  (fun x0 k => k (.bool x0))
  (fun x0 k => zN x0 fun x0 => k (.nat x0))
  (fun x0 x1 k => zI x1 fun x1 => k (.int x0 x1))
  (fun x0 k => k (.anyi x0))
  (fun x0 k => k (.str x0))
  (fun k => k .nilptr)
  (fun x0 x1 k => zK x0 fun x0 => zN x1 fun x1 => k (.ptr x0 x1))
  (fun k => k .nilsl)
  (fun x0 x1 x2 x3 x4 x5 k => zK x0 fun x0 => zN x1 fun x1 => zN x2 fun x2 => zN x3 fun x3 => zN x4 fun x4 => k (.sl x0 x1 x2 x3 x4 x5))
  (fun k => k .nilmap)
  (fun x0 k => zK x0 fun x0 => k (.map x0))
  (fun x0 x1 x2 ha hc k => ha fun x1 => hc fun x2 => k (.func x0 x1 x2))
  (fun k => k .nilfunc)
  (fun x0 x1 hv k => hv fun x1 => k (.iface x0 x1))
  (fun k => k .niliface)
  (fun x0 hl k => hl fun x0 => k (.agg x0))
  (fun x0 hl k => hl fun x0 => k (.tup x0))
  (fun x0 k => zSE x0 fun x0 => k (.sym x0))
  (fun x0 x1 x2 x3 k => zSE x2 fun x2 => zSE x3 fun x3 => k (.win x0 x1 x2 x3))
  (fun x0 hl k => hl fun x0 => k (.sst x0))
  (fun x0 k => k (.big x0))
  (fun x0 x1 k => zN x0 fun x0 => k (.few x0 x1))
  (fun x0 x1 x2 x3 k => k (.elt x0 x1 x2 x3))
  (fun k => k .any)
  (fun k => k [])
  (fun _ _ h g k => h fun v => g fun l => k (v :: l)) c
def zQs (l : List CV) : (List CV → Bool) → Bool := CV.rec_1 (motive_1 := fun _ => (CV → Bool) → Bool) (motive_2 := fun _ => (List CV → Bool) → Bool)
  (fun x0 k => k (.bool x0))
  (fun x0 k => zN x0 fun x0 => k (.nat x0))
  (fun x0 x1 k => zI x1 fun x1 => k (.int x0 x1))
  (fun x0 k => k (.anyi x0))
  (fun x0 k => k (.str x0))
  (fun k => k .nilptr)
  (fun x0 x1 k => zK x0 fun x0 => zN x1 fun x1 => k (.ptr x0 x1))
  (fun k => k .nilsl)
  (fun x0 x1 x2 x3 x4 x5 k => zK x0 fun x0 => zN x1 fun x1 => zN x2 fun x2 => zN x3 fun x3 => zN x4 fun x4 => k (.sl x0 x1 x2 x3 x4 x5))
  (fun k => k .nilmap)
  (fun x0 k => zK x0 fun x0 => k (.map x0))
  (fun x0 x1 x2 ha hc k => ha fun x1 => hc fun x2 => k (.func x0 x1 x2))
  (fun k => k .nilfunc)
  (fun x0 x1 hv k => hv fun x1 => k (.iface x0 x1))
  (fun k => k .niliface)
  (fun x0 hl k => hl fun x0 => k (.agg x0))
  (fun x0 hl k => hl fun x0 => k (.tup x0))
  (fun x0 k => zSE x0 fun x0 => k (.sym x0))
  (fun x0 x1 x2 x3 k => zSE x2 fun x2 => zSE x3 fun x3 => k (.win x0 x1 x2 x3))
  (fun x0 hl k => hl fun x0 => k (.sst x0))
  (fun x0 k => k (.big x0))
  (fun x0 x1 k => zN x0 fun x0 => k (.few x0 x1))
  (fun x0 x1 x2 x3 k => k (.elt x0 x1 x2 x3))
  (fun k => k .any)
  (fun k => k [])
  (fun _ _ h g k => h fun v => g fun l => k (v :: l)) l
mutual
theorem zPi : ∀ (c : CV) (k : CV → Bool), zQ c k = k c
  | .bool x0, k => rfl
  | .nat x0, k => qi (k := fun x0 => k (.nat x0))
  | .int x0 x1, k => zCf (k := fun x1 => k (.int x0 x1))
  | .anyi x0, k => rfl
  | .str x0, k => rfl
  | .nilptr, k => rfl
  | .ptr x0 x1, k => by show (zK x0 fun x0 => zN x1 fun x1 => k (.ptr x0 x1)) = _; rw [uc, qi]
  | .nilsl, k => rfl
  | .sl x0 x1 x2 x3 x4 x5, k => by show (zK x0 fun x0 => zN x1 fun x1 => zN x2 fun x2 => zN x3 fun x3 => zN x4 fun x4 => k (.sl x0 x1 x2 x3 x4 x5)) = _; rw [uc, qi, qi, qi, qi]
  | .nilmap, k => rfl
  | .map x0, k => uc (k := fun x0 => k (.map x0))
  | .func x0 x1 x2, k => by show (zQs x1 fun x1 => zQs x2 fun x2 => k (.func x0 x1 x2)) = _; rw [zAc x1, zAc x2]
  | .nilfunc, k => rfl
  | .iface x0 x1, k => zPi x1 fun x1 => k (.iface x0 x1)
  | .niliface, k => rfl
  | .agg x0, k => zAc x0 fun x0 => k (.agg x0)
  | .tup x0, k => zAc x0 fun x0 => k (.tup x0)
  | .sym x0, k => zBE (k := fun x0 => k (.sym x0))
  | .win x0 x1 x2 x3, k => by show (zSE x2 fun x2 => zSE x3 fun x3 => k (.win x0 x1 x2 x3)) = _; rw [zBE, zBE]
  | .sst x0, k => zAc x0 fun x0 => k (.sst x0)
  | .big x0, k => rfl
  | .few x0 x1, k => qi (k := fun x0 => k (.few x0 x1))
  | .elt x0 x1 x2 x3, k => rfl
  | .any, k => rfl
theorem zAc : ∀ (l : List CV) (k : List CV → Bool), zQs l k = k l
  | [], k => rfl
  | c :: l, k => by show (zQ c fun v => zQs l fun l => k (v :: l)) = _; rw [zPi c, zAc l]
end
def zOQ (o : CObj) (k : CObj → Bool) : Bool := match o with
  | .cells l => zQs l fun l => k (.cells l)
  | o => zO o k
theorem zPW {o : CObj} {k : CObj → Bool} : zOQ o k = k o := by
  cases o with
  | cells l => exact zAc l fun l => k (.cells l)
  | ro a => exact zCO (o := .ro a)
  | map a b => exact zCO (o := .map a b)
  | striter a b => exact zCO (o := .striter a b)
  | mapiter a b c d => exact zCO (o := .mapiter a b c d)
  | full a b => exact zCO (o := .full a b)
  | mapz a => exact zCO (o := .mapz a)
def zMb : List (Key × CObj) → (List (Key × CObj) → Bool) → Bool
  | [], k => k []
  | (j, o) :: l, k => zK j fun j => zOQ o fun o => zMb l fun l => k ((j, o) :: l)
theorem zKx : ∀ {l : List (Key × CObj)} {k : List (Key × CObj) → Bool}, zMb l k = k l
  | [], _ => rfl
  | (j, o) :: l, k => by unfold zMb; rw [uc, zPW, zKx]
def zMQ (T : TS) (k : TS → Bool) : Bool := match T with
  | ⟨l, o, n, b, f, r⟩ => zLc l fun l => zMb o fun o => zK n fun n => zB b fun b => zF f fun f => k ⟨l, o, n, b, f, r⟩
theorem zAY {T : TS} {k : TS → Bool} : zMQ T k = k T := by
  obtain ⟨l, o, n, b, f, r⟩ := T
  show (zLc l fun l => zMb o fun o => zK n fun n => zB b fun b => zF f fun f => k ⟨l, o, n, b, f, r⟩) = _
  rw [zI7, zKx, uc, zNO, zMn]
section
variable {G : Nat} {ws : List (Key × Nat)} {Ts : List TS} {ok : jd → Bool} {K : ze} {fin : R → Bool}
def wJ (G : Nat) (ws : List (Key × Nat)) (Ts : List TS) (ok : jd → Bool) (K : ze) (t : Nat) (tm : Tm) (ds : xM) (h : zD) (n : Key) : Bool := match ds with
  | [] => match nth Ts t with
    | some T => zMQ T fun T => zA5 t T tm h fun x => ok x && zKM G ws T x.ks x.θ K tm h && Nat.ble (Nat.succ n.ix) 65535
    | none => false
  | _ => false
theorem zEt {G : Nat} {ws : List (Key × Nat)} {Ts : List TS} {ok : jd → Bool} {K : ze} {t : Nat} {tm : Tm} {ds : xM} {h : zD} {n : Key} (hl : wJ G ws Ts ok K t tm ds h n = true) : ∃ x, zA7 G ws Ts ok K x tm ds h n = true := by
  unfold wJ at hl
  split at hl
  · split at hl
    · rename_i T hT
      rw [zAY] at hl
      simp only [zNl] at hl
      obtain ⟨x, hx, hk⟩ := zEw hl
      refine ⟨x, ?_⟩
      unfold zA7
      rw [hx, hT]
      show zTS T _ = true
      rw [zJC]
      exact hk
    · cases hl
  · cases hl
def uX (G : Nat) (ws : List (Key × Nat)) (Ts : List TS) (ok : jd → Bool) (K : ze) (fin : R → Bool) : R → List Nat → Option (List Nat)
  | .ok .normal tm ds h n, t :: r => match wJ G ws Ts ok K t tm ds h n with
    | true => some r
    | false => none
  | .ok (.exit i) tm ds h n, r => match fin (.ok (.exit i) tm ds h n) with
    | true => some r
    | false => none
  | .ok .ret tm ds h n, r => match fin (.ok .ret tm ds h n) with
    | true => some r
    | false => none
  | .fork a b, r => match uX G ws Ts ok K fin a r with
    | some r => uX G ws Ts ok K fin b r
    | none => none
  | _, _ => none
def kc (o : Option (List Nat)) : Bool := match o with
  | some _ => true
  | none => false
theorem zBz : ∀ {r : R} {l l' : List Nat}, uX G ws Ts ok K fin r l = some l' → ∃ hs : List jd, ∀ rest, ji G ws Ts ok K fin r (hs ++ rest) = some rest
  | .ok .normal tm ds h n, [], _, hc => by cases hc
  | .ok .normal tm ds h n, t :: l, l', hc => by
    unfold uX at hc
    split at hc
    · rename_i hl
      obtain ⟨x, hx⟩ := zEt hl
      exact ⟨[x], fun rest => by show ji G ws Ts ok K fin (.ok .normal tm ds h n) (x :: rest) = _; unfold ji; rw [hx]⟩
    · cases hc
  | .ok (.exit i) tm ds h n, l, l', hc => by
    unfold uX at hc
    split at hc
    · rename_i h1
      exact ⟨[], fun rest => by show ji G ws Ts ok K fin (.ok (.exit i) tm ds h n) rest = _; unfold ji; rw [h1]⟩
    · cases hc
  | .ok .ret tm ds h n, l, l', hc => by
    unfold uX at hc
    split at hc
    · rename_i h1
      exact ⟨[], fun rest => by show ji G ws Ts ok K fin (.ok .ret tm ds h n) rest = _; unfold ji; rw [h1]⟩
    · cases hc
  | .ret .., l, l', hc => by unfold uX at hc; cases hc
  | .err _, l, l', hc => by unfold uX at hc; cases hc
  | .fork a b, l, l', hc => by
    unfold uX at hc
    split at hc
    · rename_i r hr
      obtain ⟨h1, e1⟩ := zBz hr
      obtain ⟨h2, e2⟩ := zBz hc
      exact ⟨h1 ++ h2, fun rest => by rw [List.append_assoc]; unfold ji; rw [e1 (h2 ++ rest)]; exact e2 rest⟩
    · cases hc
theorem jz {r : R} {l : List Nat} (h : kc (uX G ws Ts ok K fin r l) = true) : ∃ hs, ke (ji G ws Ts ok K fin r hs) = true := by
  unfold kc at h
  split at h
  · rename_i x hx
    obtain ⟨hs, e⟩ := zBz hx
    refine ⟨hs ++ [], ?_⟩
    rw [e []]; rfl
  · cases h
end
end
end Go.Ev

namespace Go.Ev
open Go.RowKit
noncomputable section
variable {P : Program}
inductive Cut where
  | plain
  | cut (ft : FT) (ct : List Bool → CT)
  | cover (ts : List Nat)
section
variable {code : FuncId → CFn} {nat : Nats} {fuel : Nat} {fn : Func} {c b xa xb : Code} {p pre q : List Stp} {j : Nat} {rs : List CRes} {G : Nat} {wins : List Win} {L : List (Key × Nat)} {A : Key → Option Value} {Ts : List TS} {bound : Int} {w0 : World}
def TS.known (T : TS) (A : Key → Option Value) : ze := ⟨T.b, T.f, T.r, A⟩
end
end
end Go.Ev

namespace Go.Ev
open Go.RowKit
noncomputable section
variable {P : Program}
section
variable {code : FuncId → CFn} {nat : Nats} {fuel G : Nat} {ws L : List (Key × Nat)} {Ts : List TS} {p pre q : List Stp} {j : Nat} {cc : CCode} {rs : List CRes} {T : TS} {l : List (Key × List CV)}
def sp : List Nat → CT
  | [] => .leaf
  | v :: l => .cmp [(v, 1)] 1 (sp l) (sp l)
def fI (z : Int) (k : Int → Bool) : Bool := match z with
  | .ofNat n => k (.ofNat n)
  | .negSucc n => k (.negSucc n)
theorem zEL {z : Int} {k : Int → Bool} : fI z k = k z := by cases z <;> rfl
def fB : List (Int × Int) → (List (Int × Int) → Bool) → Bool
  | [], k => k []
  | (a, b) :: l, k => fI a fun a => fI b fun b => fB l fun l' => k ((a, b) :: l')
theorem zPb : ∀ {l : List (Int × Int)} {k : List (Int × Int) → Bool}, fB l k = k l
  | [], _ => rfl
  | (a, b) :: l, k => by unfold fB; rw [zEL, zEL, zPb]
def fLL : LL → (LL → Bool) → Bool
  | [], k => k []
  | (i, a) :: l, k => fI a fun a => fLL l fun l' => k ((i, a) :: l')
theorem zI5 : ∀ {l : LL} {k : LL → Bool}, fLL l k = k l
  | [], _ => rfl
  | (i, a) :: l, k => by unfold fLL; rw [zEL, zI5]
def fF : List (LL × Int × Int) → (List (LL × Int × Int) → Bool) → Bool
  | [], k => k []
  | (m, a, b) :: l, k => fLL m fun m => fI a fun a => fI b fun b => fF l fun l' => k ((m, a, b) :: l')
theorem zPq : ∀ {l : List (LL × Int × Int)} {k : List (LL × Int × Int) → Bool}, fF l k = k l
  | [], _ => rfl
  | (m, a, b) :: l, k => by unfold fF; rw [zI5, zEL, zEL, zPq]
def fR : List yy → (List yy → Bool) → Bool
  | [], k => k []
  | ⟨o, ⟨i, c, m⟩, n, v⟩ :: l, k => fI c fun c => fLL m fun m => fR l fun l' => k (⟨o, ⟨i, c, m⟩, n, v⟩ :: l')
theorem zPp : ∀ {l : List yy} {k : List yy → Bool}, fR l k = k l
  | [], _ => rfl
  | ⟨o, ⟨i, c, m⟩, n, v⟩ :: l, k => by unfold fR; rw [zEL, zI5, zPp]
def fW : List (Key × List CV) → (List (Key × List CV) → Bool) → Bool
  | [], k => k []
  | (i, m) :: l, k => zBl m fun m => fW l fun l' => k ((i, m) :: l')
theorem zPu : ∀ {l : List (Key × List CV)} {k : List (Key × List CV) → Bool}, fW l k = k l
  | [], _ => rfl
  | (i, m) :: l, k => by unfold fW; rw [wd, zPu]
def forceLf (e : Lf) (k : Lf → Bool) : Bool := match e with
  | ⟨b, f, r, l, u⟩ => fB b fun b => fF f fun f => fR r fun r => fW l fun l => k ⟨b, f, r, l, u⟩
theorem forceLf_eq {e : Lf} {k : Lf → Bool} : forceLf e k = k e := by
  cases e
  unfold forceLf
  simp only [zPb, zPq, zPp, zPu]
def leavesD (ks : List (Key × Bool)) (t : LTree) (e : Lf) : List Lf := match leaves ks t e with
  | some l => l
  | none => []
def nthLf (l : List Lf) (k : Nat) : Lf := match nth l k with
  | some e => e
  | none => ⟨[], [], [], [], 0⟩
def startN (P : Program) (code : FuncId → CFn) (nat : Nats) (fuel : Nat) (G : Nat) (ws L : List (Key × Nat)) (Ts : List TS) (p : List Stp) (cc : CCode) (args : List CV) (n : Key) (s : Nat → Int) (K : ze) (ts : List Nat) : Bool :=
  kc (uX G ws Ts (fun t => zBF t.θ && qy t.θ L) K (fun _ => false) (@zCu (linSym s K) P (@ev (linSym s K) P code nat fuel) p cc (qE args 0 .nil) [] .nil n) ts)
theorem startN_ok {args : List CV} {n : Key} {s : Nat → Int} {K : ze} {ts : List Nat} (h : startN P code nat fuel G ws L Ts p cc args n s K ts = true) : ∃ hs, startOf P code nat fuel G ws L Ts p cc args n (linSym s K) K hs = true := jz h
end
end
end Go.Ev


