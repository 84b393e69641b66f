/- A verified evaluator for the model's code: EvU, EvV, EvW, EvX, EvY, EvZ, EvZa, EvZb, EvZc, EvZd. -/
import Derived.Test.YtpcoeilcgjaddaaGreatDoorEv4
import Derived.Laws.Externs
import Derived.KernelRfl
import Derived.Lib.Bytealg
import Derived.Recover
import Derived.Orders
import Derived.Scope
set_option linter.unusedSectionVars false
set_option linter.unusedVariables false
set_option linter.unusedSimpArgs false
namespace Go.Ev
variable [Sym]
open Go.MapKept
noncomputable section
variable {P : Program} {ψ : Psi} {es : List CV} {tm : Tm} {h : Heap} {n : Key} {ρ : Operand → Value} {E : Env} {ty : TypeId} {w : World}
variable [SymFact P]
theorem zPe {c : Call} {l : List Operand} (h : c.args.toList = l) : c.args.map ρ = (l.map ρ).toArray := by
  rw [uw h]; simp
theorem zH5 (c : Call) (b : Builtin) (hc : c.callee = .builtin b) (ha : zo P ψ es tm E ρ c.args.toList) :
    zC P ψ h n ρ (.call c) ty w (yA P (xc P E b c.argTypes.toList c.args.toList) es tm h n) := by
  have hrun := fun w => zBJ (P := P) (ρ := ρ) (ty := ty) hc w
  generalize hts : c.argTypes.toList = ts
  generalize has : c.args.toList = as at ha
  have hts' := uw hts
  have has' := zPe (ρ := ρ) has
  rw [has', hts'] at hrun
  cases b <;> try exact zA _
  case append =>
    match ts, as with
    | t :: u :: r, [s, x] => exact zJf (fun w => by rw [hrun w]; rfl) ha
    | _ :: _ :: _, [] => exact zA _
    | _ :: _ :: _, [_] => exact zA _
    | _ :: _ :: _, _ :: _ :: _ :: _ => exact zA _
    | [], _ => exact zA _
    | [_], _ => exact zA _
  case copy =>
    match ts, as with
    | t :: r, [s, x] => exact zM3 (fun w => by rw [hrun w]; rfl) ha
    | _ :: _, [] => exact zA _
    | _ :: _, [_] => exact zA _
    | _ :: _, _ :: _ :: _ :: _ => exact zA _
    | [], _ => exact zA _
  case len =>
    match ts, as with
    | t :: r, [x] => exact zOz (fun w => by rw [hrun w]; rfl) ha
    | _ :: _, [] => exact zA _
    | _ :: _, _ :: _ :: _ => exact zA _
    | [], _ => exact zA _
  case cap =>
    match ts, as with
    | t :: r, [x] => exact zOt (fun w => by rw [hrun w]; rfl) ha
    | _ :: _, [] => exact zA _
    | _ :: _, _ :: _ :: _ => exact zA _
    | [], _ => exact zA _
  case delete =>
    match ts, as with
    | t :: r, [m, k] => exact zJl (fun w => by rw [hrun w]; rfl) ha
    | _ :: _, [] => exact zA _
    | _ :: _, [_] => exact zA _
    | _ :: _, _ :: _ :: _ :: _ => exact zA _
    | [], _ => exact zA _
  case clear =>
    match ts, as with
    | t :: r, [x] => exact zLn (fun w => by rw [hrun w]; rfl) ha
    | _ :: _, [] => exact zA _
    | _ :: _, _ :: _ :: _ => exact zA _
    | [], _ => exact zA _
  case min =>
    match as with
    | x :: r => exact zEo false (fun w => by rw [hrun w]; rfl) ha
    | [] => exact zA _
  case max =>
    match as with
    | x :: r => exact zEo true (fun w => by rw [hrun w]; rfl) ha
    | [] => exact zA _
  case recover =>
    match as with
    | [] => exact ⟨by unfold zCy; simp [hc], by rw [hrun w]; rfl⟩
    | _ :: _ => exact zA _
def zLl (ψ : Psi) : vH → Place → Prop
  | .val c, x => ∃ v, x = .val v ∧ zJ ψ c v
  | .var b off, x => ∃ p, ψ b = some p ∧ x = .var ⟨p.blk, p.off + off, none⟩
theorem zHC {b : Key} {off : Nat} {p : Pl} (hp : ψ b = some p) : zLl ψ (.var b off) (.var ⟨p.blk, p.off + off, none⟩) := ⟨p, hp, rfl⟩
theorem zD9 {c : CV} {v : Value} (hv : zJ ψ c v) : zLl ψ (.val c) (.val v) := ⟨v, rfl, hv⟩
theorem zFo (hrel : qA ψ (Heap.fam h) w) {t : TypeId} {b : Key} {off : Nat} {c : CV} {p : Pl} (hp : ψ b = some p) (hc : zKf P h t b off = some c) :
    ∃ v, (loadVar t ⟨p.blk, p.off + off, none⟩).run P w = .ok v w ∧ zJ ψ c v := by
  unfold zKf at hc
  split at hc
  · rename_i a s vs ha hs hv
    have hcells : zBT ψ w p vs := by
      unfold uW at hv
      split at hv
      · rename_i q hq; injection hv with hv; subst hv; exact yR.toRo (hrel b _ p hq hp)
      · rename_i q hq; injection hv with hv; subst hv; exact hrel b _ p hq hp
      · cases hv
    unfold zK3 at hc
    cases a with
    | true =>
      simp only at hc
      cases hl : uj vs off s with
      | none => rw [hl] at hc; cases hc
      | some l =>
        rw [hl] at hc
        injection hc with hc; subst hc
        obtain ⟨xs, hrun, hxs⟩ := xN (P := P) hcells hl
        exact ⟨.agg xs.toArray, by simp [loadVar, qj ha, yT hs, hrun], yU.2 ⟨_, rfl, by simpa using hxs⟩⟩
    | false =>
      simp only [k8] at hc
      obtain ⟨y, hrun, hy⟩ := zBL (P := P) hcells hc
      exact ⟨y, by simp only [loadVar, Sem.run_bind, qj ha, Result.andThen_ok, Bool.false_eq_true, if_false, hrun], hy⟩
  · cases hc
theorem zAS (hrel : qA ψ (Heap.fam h) w) {t : TypeId} {x : vH} {y : Place} {c : CV} (hx : zLl ψ x y) (hc : x.get P h t = some c) : ∃ v, (y.get t).run P w = .ok v w ∧ zJ ψ c v := by
  cases x with
  | val d =>
    obtain ⟨v, rfl, hv⟩ := hx
    injection hc with hc; subst hc
    exact ⟨v, rfl, hv⟩
  | var b off =>
    obtain ⟨p, hp, rfl⟩ := hx
    exact zFo hrel hp hc
theorem zJo {s : FieldStep} {f : Field} (hs : zGk P s = some f) : ∃ fs, P.underlying s.struct = some (.struct fs) ∧ fs[s.index]? = some f ∧ ∃ k, xV P f.type = some (k + 1) := by
  unfold zGk und at hs
  split at hs
  · rename_i fs ht
    rw [yV] at hs
    split at hs
    · rename_i g hg
      split at hs
      · rename_i k hk
        injection hs with hs; subst hs
        exact ⟨fs, ht, by simpa using hg, k, hk⟩
      · cases hs
    · cases hs
  · cases hs
theorem kM (hrel : qA ψ (Heap.fam h) w) : ∀ (l : List FieldStep) {t xt : TypeId} {x x' : vH} {y : Place}, zLl ψ x y → kz P h l t x = some (xt, x') →
    ∃ y', (follow l t y).run P w = .ok (xt, y') w ∧ zLl ψ x' y'
  | [], t, xt, x, x', y, hx, hf => by
    injection hf with hf; injection hf with h1 h2; subst h1 h2
    exact ⟨y, rfl, hx⟩
  | s :: rest, t, xt, x, x', y, hx, hf => by
    unfold kz at hf
    cases hs : zGk P s with
    | none => rw [hs] at hf; cases hf
    | some f =>
      simp only [hs] at hf
      obtain ⟨fs, h1, h2, k, h3⟩ := zJo hs
      split at hf
      · rename_i hd
        split at hf
        · rename_i b off hg
          obtain ⟨v, hv, hr⟩ := zAS hrel hx hg
          rw [zj] at hr
          obtain ⟨p, hp, rfl⟩ := hr
          obtain ⟨y', g1, g2⟩ := kM hrel rest (zHC hp) hf
          refine ⟨y', ?_, g2⟩
          rw [← g1]
          simp [follow, run_underlying h1, h2, hd, hv, asAddr, fieldPlace, yT h3, xL, Nat.add_assoc]
        · cases hf
      · rename_i hd
        split at hf
        · rename_i b off
          obtain ⟨p, hp, rfl⟩ := hx
          obtain ⟨y', g1, g2⟩ := kM hrel rest (zHC hp) hf
          refine ⟨y', ?_, g2⟩
          rw [← g1]
          simp [follow, run_underlying h1, h2, hd, fieldPlace, yT h3, xL, Nat.add_assoc]
        · rename_i cs
          obtain ⟨v, rfl, hv⟩ := hx
          rw [yU] at hv
          obtain ⟨vs, rfl, hv⟩ := hv
          split at hf
          · rename_i a s' ha hs'
            split at hf
            · rename_i c hc
              have hp := zDa (P := P) (off := f.offset) ha hs' hv w
              have : ∃ u, (part f.type vs f.offset).run P w = .ok u w ∧ zJ ψ c u := by
                unfold zK3 at hc
                cases a with
                | true =>
                  simp only at hc
                  cases hl : uj cs f.offset s' with
                  | none => rw [hl] at hc; cases hc
                  | some l => rw [hl] at hc; injection hc with hc; subst hc; exact hp.2 rfl l hl
                | false => exact hp.1 rfl c hc
              obtain ⟨u, hu, hur⟩ := this
              obtain ⟨y', g1, g2⟩ := kM hrel rest (zD9 hur) hf
              refine ⟨y', ?_, g2⟩
              rw [← g1]
              simp [follow, run_underlying h1, h2, hd, hu]
            · cases hf
          · cases hf
        · cases hf
theorem zA9 (hrel : qA ψ (Heap.fam h) w) {xt : TypeId} {x : vH} {y : Place} {pr : Bool} {c : CV} (wr : Option String) (hx : zLl ψ x y) (hc : uY P h xt x pr = some c) :
    ∃ v, (receiverAt xt y pr wr).run P w = .ok v w ∧ zJ ψ c v := by
  unfold uY und at hc
  split at hc
  · rename_i e ht
    obtain ⟨v, hv, hr⟩ := zAS hrel hx hc
    exact ⟨v, by simp [receiverAt, run_underlying ht, hv], hr⟩
  · rename_i e ht
    split at hc
    · rename_i b off hg
      obtain ⟨v, hv, hr⟩ := zAS hrel hx hg
      rw [zj] at hr
      obtain ⟨p, hp, rfl⟩ := hr
      obtain ⟨u, hu, hur⟩ := zFo hrel hp hc
      refine ⟨u, ?_, hur⟩
      cases wr with
      | none => simp [receiverAt, run_underlying ht, hv, asAddr, hu]
      | some nm =>
        have hck : (Builtin.ssaWrapNilChk_ #[xt] xt #[.pointer (some ⟨p.blk, p.off + off, none⟩), strVal "", strVal nm]).run P w = .ok (.pointer (some ⟨p.blk, p.off + off, none⟩)) w := rfl
        simp only [receiverAt, Sem.run_bind, run_underlying ht, Result.andThen_ok, hv, hck, asAddr, Sem.run_pure, hu]
    · cases hc
  · rename_i D hD b off ht
    injection hc with hc; subst hc
    obtain ⟨p, hp, rfl⟩ := hx
    refine ⟨_, ?_, zj.2 ⟨p, hp, rfl⟩⟩
    unfold receiverAt
    simp only [Sem.run_bind, run_underlying ht, Result.andThen_ok]
    cases D <;> first | rfl | exact absurd rfl (hD _)
  · cases hc
  · rename_i D hD ht
    obtain ⟨v, hv, hr⟩ := zAS hrel hx hc
    refine ⟨v, ?_, hr⟩
    unfold receiverAt
    simp only [Sem.run_bind, run_underlying ht, Result.andThen_ok]
    cases D <;> first | exact hv | exact absurd rfl (hD _) | (exact absurd (Eq.refl _) (hD _))
  · cases hc
end
end Go.Ev

namespace Go.Ev
variable [Sym]
open Go.MapKept
noncomputable section
variable {P : Program} {ψ : Psi} {es : List CV} {tm : Tm} {h : Heap} {n : Key} {ρ : Operand → Value} {E : Env} {ty : TypeId} {w : World}
variable [SymFact P]
theorem zHr (name : String) : ∀ (l : List Method), vB name l = l.find? (fun m => m.name == name)
  | [] => rfl
  | m :: r => by
    unfold vB
    rw [List.find?_cons, zHr name r]
    by_cases e : (m.name == name) = true
    · rw [if_pos e, e]
    · rw [if_neg e]
      have : (m.name == name) = false := by simpa using e
      rw [this]
theorem zDN (hrel : qA ψ (Heap.fam h) w) (name : String) : ∀ (d fuel : Nat) {t : TypeId} {v : CV} {x : Value} {f : FuncId} {r : CV}, d ≤ fuel → zJ ψ v x → zCW P h d t v name = some (f, r) →
    ∃ y, (method fuel t x name).run P w = .ok (f, y) w ∧ zJ ψ r y
  | 0, _, _, _, _, _, _, _, _, hm => by cases hm
  | d + 1, 0, _, _, _, _, _, hle, _, _ => by omega
  | d + 1, fuel + 1, t, v, x, f, r, hle, hv, hm => by
    unfold zCW at hm
    cases hrow : zGl P t name with
    | none => rw [hrow] at hm; cases hm
    | some m =>
      simp only [hrow] at hm
      unfold zGl at hrow
      cases hi : P.info? t with
      | none => rw [hi] at hrow; cases hrow
      | some ti =>
        rw [hi] at hrow
        simp only [Option.bind_some, zHr] at hrow
        have hrow : ti.methods.find? (fun m => m.name == name) = some m := by rw [← Array.find?_toList]; exact hrow
        cases hf : kz P h m.path.toList t (.val v) with
        | none => rw [hf] at hm; cases hm
        | some q =>
          obtain ⟨xt, x'⟩ := q
          simp only [hf] at hm
          obtain ⟨y', g1, g2⟩ := kM hrel _ (zD9 hv) hf
          split at hm
          · rename_i hfn
            split at hm
            · rename_i t' v' hg
              obtain ⟨u, hu, hur⟩ := zAS hrel g2 hg
              rw [z7] at hur
              obtain ⟨u', rfl, hur⟩ := hur
              obtain ⟨y, k1, k2⟩ := zDN hrel name d fuel (by omega) hur hm
              refine ⟨y, ?_, k2⟩
              rw [← k1]
              simp [method, typeInfo, hi, hrow, g1, hfn, hu]
            · cases hm
          · rename_i f' pr hfn
            split at hm
            · rename_i r' hrc
              injection hm with hm; injection hm with e1 e2; subst e1 e2
              obtain ⟨y, k1, k2⟩ := zA9 hrel (if m.path.isEmpty then some ((name.splitOn ".").getLastD name) else none) g2 hrc
              refine ⟨y, ?_, k2⟩
              unfold method
              simp only [Sem.run_bind, qT hi, Result.andThen_ok, hrow, g1, hfn, k1, Sem.run_pure]
            · cases hm
section
variable {o : Op}
def zBq (P : Program) (ψ : Psi) (h : Heap) (n : Key) (w : World) (run : Result Next) : OR → Prop
  | .call f args => qA ψ (Heap.fam h) w → ∃ args', run = (callFunc f args').run P w ∧ zS ψ args args'.toList
  | .err _ => True
  | _ => False
theorem zCq {r : OR} {run : Result Next} (hrun : (execOp ρ (xS o ty)).run P w = run) (hc : zBq P ψ h n w run r) : zC P ψ h n ρ o ty w r := by
  cases r <;> first | exact hc.elim | exact trivial | skip
  case call f args =>
    intro hrel
    obtain ⟨args', h1, h2⟩ := hc hrel
    exact ⟨args', by rw [← h1]; exact hrun, h2⟩
theorem uN {recv : CV} {x : Value} {args : List CV} {as : Array Value} (name : String) (hx : zJ ψ recv x) (has : zS ψ args as.toList) :
    zBq P ψ h n w ((callMethod x name as).run P w) (zFt P h recv name args) := by
  refine xP (C := zBq P ψ h n w ((callMethod x name as).run P w)) _ _ _ _ trivial (fun _ => trivial) fun t v hv => ?_
  rw [hv, z7] at hx
  obtain ⟨y, rfl, hy⟩ := hx
  split
  · rename_i f r hm
    intro hrel
    obtain ⟨u, h1, h2⟩ := zDN (P := P) hrel name 8 (P.types.size + Made.depth) (by unfold Made.depth; omega) hy hm
    refine ⟨#[u] ++ as, ?_, ?_⟩
    · simp [callMethod, h1]
    · have : (#[u] ++ as).toList = u :: as.toList := by simp
      rw [this]
      exact zT.2 ⟨h2, has⟩
  · exact trivial
theorem zL0 {f : CV} {fv : Value} {args : List CV} {as : Array Value} (hf : zJ ψ f fv) (has : zS ψ args as.toList) :
    zBq P ψ h n w ((do let d ← Deferred.ofValue fv as; invoke d.target d.args : Sem Next).run P w) (zM1 P h f args) := by
  refine k5 (C := zBq P ψ h n w _) _ _ _ trivial fun fn first captured hv => ?_
  rw [hv, yk] at hf
  obtain ⟨a', c', rfl, h1, h2⟩ := hf
  have hfa : zS ψ (zB9 first args) (a' ++ as).toList := by rw [kx, Array.toList_append]; exact h1.append has
  split
  · rename_i g
    intro _
    refine ⟨a' ++ as ++ c', by simp [Deferred.ofValue, invoke], ?_⟩
    rw [kx, kx, Array.append_assoc, Array.toList_append, Array.toList_append]
    exact h1.append (has.append h2)
  · rename_i name
    split
    · rename_i recv rest hl
      rw [hl] at hfa
      obtain ⟨r, rs, e, hr, hrs⟩ := zX.1 hfa
      have e0 : (a' ++ as)[0]? = some r := by rw [← Array.getElem?_toList, e]; rfl
      have e1 : ((a' ++ as).extract 1 (a' ++ as).size).toList = rs := by
        rw [Array.toList_extract, e, List.extract_eq_take_drop]
        have : (a' ++ as).size = rs.length + 1 := by rw [← Array.length_toList, e]; rfl
        rw [this]; simp
      have := uN (P := P) (h := h) (n := n) (w := w) name hr (as := (a' ++ as).extract 1 (a' ++ as).size) (by rw [e1]; exact hrs)
      have hrun : (do let d ← Deferred.ofValue (.func (.method name) a' c') as; invoke d.target d.args : Sem Next).run P w = (callMethod r name ((a' ++ as).extract 1 (a' ++ as).size)).run P w := by
        simp only [Deferred.ofValue, Sem.run_bind, Sem.run_pure, Result.andThen_ok, invoke, e0]
      rw [hrun]; exact this
    · exact trivial
  · rename_i t name
    split
    · rename_i recv rest hl
      rw [hl] at hfa
      obtain ⟨r, rs, e, hr, hrs⟩ := zX.1 hfa
      have e0 : (a' ++ as)[0]? = some r := by rw [← Array.getElem?_toList, e]; rfl
      have e1 : ((a' ++ as).extract 1 (a' ++ as).size).toList = rs := by
        rw [Array.toList_extract, e, List.extract_eq_take_drop]
        have : (a' ++ as).size = rs.length + 1 := by rw [← Array.length_toList, e]; rfl
        rw [this]; simp
      unfold und
      split
      · rename_i ms ht
        have := uN (P := P) (h := h) (n := n) (w := w) name hr (as := (a' ++ as).extract 1 (a' ++ as).size) (by rw [e1]; exact hrs)
        have hrun : (do let d ← Deferred.ofValue (.func (.methodOf t name) a' c') as; invoke d.target d.args : Sem Next).run P w = (callMethod r name ((a' ++ as).extract 1 (a' ++ as).size)).run P w := by
          simp only [Deferred.ofValue, Sem.run_bind, Sem.run_pure, Result.andThen_ok, invoke, e0, run_underlying ht]
        rw [hrun]; exact this
      · rename_i D hD ht
        have := uN (P := P) (h := h) (n := n) (w := w) name (recv := .iface t recv) (x := .iface t r) (z7.2 ⟨r, rfl, hr⟩) (as := (a' ++ as).extract 1 (a' ++ as).size) (by rw [e1]; exact hrs)
        have hrun : (do let d ← Deferred.ofValue (.func (.methodOf t name) a' c') as; invoke d.target d.args : Sem Next).run P w = (callMethod (.iface t r) name ((a' ++ as).extract 1 (a' ++ as).size)).run P w := by
          simp only [Deferred.ofValue, Sem.run_bind, Sem.run_pure, Result.andThen_ok, invoke, e0, run_underlying ht]
        rw [hrun]; exact this
      · exact trivial
    · exact trivial
  · rename_i t path g pr
    split
    · rename_i recv rest hl
      rw [hl] at hfa
      obtain ⟨r, rs, e, hr, hrs⟩ := zX.1 hfa
      have e0 : (a' ++ as)[0]? = some r := by rw [← Array.getElem?_toList, e]; rfl
      have e1 : ((a' ++ as).extract 1 (a' ++ as).size).toList = rs := by
        rw [Array.toList_extract, e, List.extract_eq_take_drop]
        have : (a' ++ as).size = rs.length + 1 := by rw [← Array.length_toList, e]; rfl
        rw [this]; simp
      split
      · rename_i xt x hfo
        split
        · rename_i rc hrc
          intro hrel
          obtain ⟨y', g1, g2⟩ := kM hrel _ (zD9 hr) hfo
          obtain ⟨u, k1, k2⟩ := zA9 hrel none g2 hrc
          refine ⟨#[u] ++ (a' ++ as).extract 1 (a' ++ as).size, ?_, ?_⟩
          · simp only [Deferred.ofValue, Sem.run_bind, Sem.run_pure, Result.andThen_ok, invoke, e0, receiverVia, g1, k1]
          · have : (#[u] ++ (a' ++ as).extract 1 (a' ++ as).size).toList = u :: rs := by rw [Array.toList_append, e1]; rfl
            rw [this]
            exact zT.2 ⟨k2, hrs⟩
        · exact trivial
      · exact trivial
    · exact trivial
  · exact trivial
structure zKr (ρ : Operand → Value) : Prop where
  const : ∀ v, ρ (.const v) = v
  func : ∀ f, ρ (.func f) = .func (.func f) #[] #[]
theorem zLJ (c : Call) (ha : zo P ψ es tm E ρ c.operands.toList) : zC P ψ h n ρ (.defer c) ty w (yA P (za P E (.defer c)) es tm h n) := by
  rw [za]
  split
  · rename_i f hcal
    split
    · rename_i f' args hf hargs
      refine k5 (C := zC P ψ h n ρ (.defer c) ty w) _ _ _ (zA _) fun fn first captured hv => ?_
      have hfr := ha f (by simp [Call.operands, hcal]) f' hf
      have has := ji _ (ha.sub fun y hy => by simp [Call.operands]; exact .inr (by simpa using hy)) hargs
      rw [hv, yk] at hfr
      obtain ⟨a', c', hfr, h1, h2⟩ := hfr
      split
      · rename_i g
        refine ⟨{ target := .fn (.func g) c', args := a' ++ c.args.map ρ }, .func g, c', a' ++ c.args.map ρ ++ c', ?_, rfl, fun w => rfl, ?_⟩
        · simp [execOp, resolve, hcal, hfr, Deferred.ofValue]
        · rw [kx, kx, Array.append_assoc, Array.toList_append, Array.toList_append, Array.toList_map]
          exact h1.append (has.append h2)
      · exact zA _
    · exact zA _
  · exact zA _
end
end
end Go.Ev

namespace Go.Ev
variable [Sym]
open Go.MapKept
noncomputable section
variable {P : Program} {ψ : Psi} {es : List CV} {tm : Tm} {h : Heap} {n : Key} {ρ : Operand → Value} {E : Env} {ty : TypeId} {w : World}
variable [SymFact P]
theorem zCQ {fn : Func} {nm : String} {e : Array Value → Sem Value} (ho : fn.origin = "") (hn : fn.name = nm)
    (h1 : Extern.allNextRows.lookup nm = none) (h2 : Extern.allGenericRows.lookup nm = none) (h3 : Extern.allTypedRows.lookup nm = none) (h4 : Extern.allRows.lookup nm = some e)
    (h5 : Extern.allNextRows.lookup "" = none) : Extern.findNext fn = none ∧ Extern.find fn = some e := by
  constructor
  · unfold Extern.findNext
    simp only [hn, ho, h1, h5]; rfl
  · unfold Extern.find
    simp only [hn, h2, h3, h4]; rfl
theorem zAX : Extern.allNextRows.lookup "" = none := by kernel_rfl
def zJ4 (fn : Func) : Ext → Option (Array Value → Sem Value)
  | .count => some Extern.BytealgCount.count
  | .indexByte => some Extern.BytealgIndexByte.indexByte
  | .cmp => some Extern.BytealgCompare.compare
  | .mapsClone => some Extern.MapsClone.clone
  | .overlaps => some (Extern.SlicesOverlaps.overlaps fn.params fn.resultTypes)
  | _ => none
theorem zDA {fn : Func} {e : Ext} (he : zBi P fn = some e) : ∃ en, zJ4 fn e = some en ∧ (fn.name == "runtime.NumGoroutine") = false ∧ Extern.findNext fn = none ∧ Extern.find fn = some en := by
  unfold zBi at he
  split at he
  · rename_i ho
    have ho : fn.origin = "" := by simpa using ho
    split at he
    · rename_i hn
      have hn : fn.name = zFk "bytealg.CountString" := by simpa using hn
      injection he with he; subst he
      obtain ⟨h1, h2⟩ := zCQ (e := Extern.BytealgCount.count) ho hn (by kernel_rfl) (by kernel_rfl) (by kernel_rfl) (by kernel_rfl) zAX
      exact ⟨_, rfl, by rw [hn]; decide, h1, h2⟩
    · split at he
      · rename_i hn
        have hn : fn.name = zFk "bytealg.IndexByteString" := by simpa using hn
        injection he with he; subst he
        obtain ⟨h1, h2⟩ := zCQ (e := Extern.BytealgIndexByte.indexByte) ho hn (by kernel_rfl) (by kernel_rfl) (by kernel_rfl) (by kernel_rfl) zAX
        exact ⟨_, rfl, by rw [hn]; decide, h1, h2⟩
      · split at he
        · rename_i hn
          have hn : fn.name = zFk "bytealg.abigen_runtime_cmpstring" := by simpa using hn
          injection he with he; subst he
          obtain ⟨h1, h2⟩ := zCQ (e := Extern.BytealgCompare.compare) ho hn (by kernel_rfl) (by kernel_rfl) (by kernel_rfl) (by kernel_rfl) zAX
          exact ⟨_, rfl, by rw [hn]; decide, h1, h2⟩
        · split at he
          · rename_i hn
            have hn : fn.name = "maps.clone" := by simpa using hn
            injection he with he; subst he
            obtain ⟨h1, h2⟩ := zCQ (e := Extern.MapsClone.clone) ho hn (by kernel_rfl) (by kernel_rfl) (by kernel_rfl) (by kernel_rfl) zAX
            exact ⟨_, rfl, by rw [hn]; decide, h1, h2⟩
          · cases he
  · split at he
    · rename_i ho
      injection he with he; subst he
      rw [Bool.and_eq_true] at ho
      obtain ⟨ho, hok⟩ := ho
      have ho : fn.origin = "slices.overlaps" := by simpa using ho
      unfold zAa zIa at hok
      simp only [Bool.and_eq_true, Option.isNone_iff_eq_none] at hok
      obtain ⟨⟨gn, ⟨⟨g1, g2⟩, g3⟩, g4⟩, _⟩ := hok
      refine ⟨_, rfl, ?_, ?_, ?_⟩
      · simpa using gn
      · unfold Extern.findNext
        have h1 : Extern.allNextRows.lookup "slices.overlaps" = none := by kernel_rfl
        simp only [ho, g1, h1]; rfl
      · unfold Extern.find
        have h1 : Extern.allGenericRows.lookup "slices.overlaps" = none := by kernel_rfl
        have h2 : Extern.allTypedRows.lookup "slices.overlaps" = some Extern.SlicesOverlaps.overlaps := by kernel_rfl
        simp only [ho, g2, g3, g4, h1, h2]; rfl
    · cases he
theorem zAm {w : World} {params res : Array TypeId} {tS e : TypeId} (hp : params[0]? = some tS) (ht : P.underlying tS = some (.slice e)) {size : Nat} (hz : ∀ w, (Go.sizeOf e).run P w = .ok size w)
    (a b : Addr) (la ca lb cb : Nat) (hne : a.block ≠ b.block) (tA tB : TypeId) (kA kB : Nat)
    (hsa : w.shape? a.block = some (tA, kA)) (hsb : w.shape? b.block = some (tB, kB)) (hkB : kB ≠ 0)
    (hfa : w.frozen? a = false) (hfe : w.frozen? { block := a.block, off := kA } = false) :
    (Extern.SlicesOverlaps.overlaps params res #[.slice (some a) la ca, .slice (some b) lb cb]).run P w = .ok (.bool false) w := by
  have hnb : (a.block != b.block) = true := by simpa using hne
  have hnb' : (a.block == b.block) = false := by simpa using hne
  change Sem.run P (α := Value) (do
    let some t := params[0]? | stuck "slices.overlaps: no parameter types"
    let .slice elem ← underlying t | stuck "slices.overlaps: slice type expected"
    let size ← sizeOf elem
    match (some a : Option Addr), (some b : Option Addr) with
    | some a, some b =>
      if la = 0 ∨ lb = 0 ∨ size = 0 then pure (Value.bool false)
      else if a.block != b.block && (← frozen a) && (← frozen b) then unsupported .addressObserved
      else do
        if a.block != b.block then do
          noView a; noView b
          if ← mayBeOne a b then return Value.bool ((← choose (.extern "sameAddr.stringBytes" 2)) == 1)
        pure (Value.bool (a.block == b.block && a.off < b.off + lb * size && b.off < a.off + la * size))
    | _, _ => pure (Value.bool false)) w = _
  by_cases h0 : la = 0 ∨ lb = 0 ∨ size = 0
  · simp [hp, run_underlying ht, hz, h0]
  · cases kB with
    | zero => exact absurd rfl hkB
    | succ kB =>
      simp [hp, run_underlying ht, hz, h0, hnb, hnb', frozen, noView, viewAt, mayBeOne, stringish, shape, Sem.run, hsa, hsb, hfa, hfe]
def x7 (P : Program) (ψ : Psi) (h : Heap) (n : Key) (w : World) (en : Array Value → Sem Value) (args : Array Value) : OR → Prop
  | .val v => ∃ x, (en args).run P w = .ok x w ∧ zJ ψ v x
  | .eff v h' n' => Rel ψ (Heap.fam h) w → (∀ k, n.ix ≤ k.ix → k.ix < n'.ix → ψ k = none) → n'.room →
      ∃ w' x ψ', (en args).run P w = .ok x w' ∧ zq ψ (Heap.fam h) n w ψ' (Heap.fam h') n' w' ∧ zJ ψ' v x
  | .err _ => True
  | _ => False
theorem zCH {c : CV} {b : Nat} {v : Value} (hb : kv c = some b) (hv : zJ ψ c v) : v = .int .u8 (Int.ofNat b) ∧ b ≤ 255 := by
  unfold kv at hb
  split at hb
  · split at hb
    · rename_i hle
      injection hb with hb; subst hb
      exact ⟨zc.1 hv, zM hle⟩
    · cases hb
  · cases hb
theorem zNT (c : UInt8) (l : List UInt8) : zGr c.toNat (l.map UInt8.toNat) = Lib.countByte l c := by
  unfold Lib.countByte
  induction l with
  | nil => rfl
  | cons x l ih =>
    show Bool.rec (motive := fun _ => Nat) (zGr c.toNat (l.map UInt8.toNat)) (Nat.succ (zGr c.toNat (l.map UInt8.toNat))) (Nat.beq x.toNat c.toNat) = _
    rw [ih, List.count_cons]
    by_cases e : x = c
    · subst e; simp
    · rw [kS (fun h => e (UInt8.toNat_inj.1 h))]; simp [e]
theorem zHm (c : UInt8) : ∀ (l : List UInt8) (i : Nat), (match zBG c.toNat (l.map UInt8.toNat) i with
      | some j => (j : Int)
      | none => -1) = (if Lib.indexByte l c = -1 then -1 else (i : Int) + Lib.indexByte l c) ∧ -1 ≤ Lib.indexByte l c
  | [], i => by simp [zBG, Lib.indexByte]
  | x :: l, i => by
    obtain ⟨h1, h2⟩ := zHm c l (i + 1)
    rw [List.map_cons]
    unfold zBG Lib.indexByte
    by_cases e : x = c
    · subst e; simp
    · rw [kS (fun h => e (UInt8.toNat_inj.1 h))]
      have e' : (x == c) = false := by simpa using e
      simp only [e']
      rw [h1]
      simp
      constructor
      · split <;> (try split) <;> omega
      · split <;> omega
theorem zDq : ∀ (a b : List UInt8), Lib.compareBytes a b = if a = b then 0 else if Op.bytesLess a b then -1 else 1
  | [], [] => by simp [Lib.compareBytes]
  | [], _ :: _ => by simp [Lib.compareBytes, Op.bytesLess]
  | _ :: _, [] => by simp [Lib.compareBytes, Op.bytesLess]
  | x :: a, y :: b => by
    unfold Lib.compareBytes Op.bytesLess
    rw [zDq a b]
    by_cases h1 : x < y
    · have : x ≠ y := fun e => by subst e; exact absurd h1 (UInt8.lt_irrefl x)
      simp [h1, this]
    · by_cases h2 : y < x
      · have : x ≠ y := fun e => by subst e; exact absurd h2 (UInt8.lt_irrefl x)
        simp [h1, h2, this]
      · have : x = y := by
          apply UInt8.toNat_inj.1
          rw [UInt8.lt_iff_toNat_lt] at h1 h2
          omega
        subst this
        simp [h1]
theorem zJ5 {fn : Func} {e : Ext} {en : Array Value → Sem Value} (hex : zBi P fn = some e) (he : zJ4 fn e = some en) {args : List CV} {as : Array Value} (has : zS ψ args as.toList) :
    x7 P ψ h n w en as (zAu e args h n) := by
  unfold zAu
  split
  · -- count
    rename_i a b
    injection he with he; subst he
    obtain ⟨x, r, e1, hx, hr⟩ := zX.1 has
    obtain ⟨y, r', e2, hy, hr'⟩ := zX.1 hr
    rw [zL] at hr'
    subst e2 hr'
    have := uw e1
    subst this
    refine zx (C := x7 P ψ h n w _ _) _ _ _ trivial fun s hs => ?_
    rw [hs, zh] at hx
    obtain ⟨bs, rfl, rfl⟩ := hx
    refine wY (C := x7 P ψ h n w _ _) _ _ _ trivial fun c hc => ?_
    obtain ⟨rfl, hle⟩ := zCH hc hy
    refine ⟨_, Lib.run_countString bs _ w, ?_⟩
    have : ((Int.ofNat c).toNat.toUInt8).toNat = c := by simp; omega
    have h2 := zNT ((Int.ofNat c).toNat.toUInt8) bs.data.toList
    rw [this] at h2
    rw [← h2]
    exact xH _
  · -- index
    rename_i a b
    injection he with he; subst he
    obtain ⟨x, r, e1, hx, hr⟩ := zX.1 has
    obtain ⟨y, r', e2, hy, hr'⟩ := zX.1 hr
    rw [zL] at hr'
    subst e2 hr'
    have := uw e1
    subst this
    refine zx (C := x7 P ψ h n w _ _) _ _ _ trivial fun s hs => ?_
    rw [hs, zh] at hx
    obtain ⟨bs, rfl, rfl⟩ := hx
    refine wY (C := x7 P ψ h n w _ _) _ _ _ trivial fun c hc => ?_
    obtain ⟨rfl, hle⟩ := zCH hc hy
    have hrun := Lib.run_indexByteString (P := P) bs (Int.ofNat c) w
    have : ((Int.ofNat c).toNat.toUInt8).toNat = c := by simp; omega
    obtain ⟨h2, h3⟩ := zHm ((Int.ofNat c).toNat.toUInt8) bs.data.toList 0
    rw [this] at h2
    have h4 : (match zBG c (zm bs) 0 with
      | some j => (j : Int)
      | none => -1) = Lib.indexByte bs.data.toList (Int.ofNat c).toNat.toUInt8 := by
      refine h2.trans ?_
      split <;> omega
    rw [← h4] at hrun
    split
    · rename_i i hi
      simp only [hi] at hrun
      exact ⟨_, hrun, xH _⟩
    · rename_i hi
      simp only [hi] at hrun
      exact ⟨_, hrun, zc.2 rfl⟩
  · -- compare
    rename_i a b
    injection he with he; subst he
    obtain ⟨x, r, e1, hx, hr⟩ := zX.1 has
    obtain ⟨y, r', e2, hy, hr'⟩ := zX.1 hr
    rw [zL] at hr'
    subst e2 hr'
    have := uw e1
    subst this
    refine zx (C := x7 P ψ h n w _ _) _ _ _ trivial fun s hs => ?_
    rw [hs, zh] at hx
    obtain ⟨bs, rfl, rfl⟩ := hx
    refine zx (C := x7 P ψ h n w _ _) _ _ _ trivial fun s hs => ?_
    rw [hs, zh] at hy
    obtain ⟨cs, rfl, rfl⟩ := hy
    have hrun := Lib.run_compareString (P := P) bs cs w
    rw [zDq] at hrun
    rw [qf, qf, x6, je, ByteArray.toList_eq, ByteArray.toList_eq]
    by_cases e : bs.data.toList = cs.data.toList
    · rw [if_pos e] at hrun
      rw [if_pos (by simpa using e)]
      exact ⟨_, hrun, zU.2 rfl⟩
    · rw [if_neg e] at hrun
      rw [if_neg (by simpa using e)]
      by_cases hl : Op.bytesLess bs.data.toList cs.data.toList = true
      · rw [if_pos hl] at hrun
        rw [if_pos hl]
        exact ⟨_, hrun, zc.2 rfl⟩
      · rw [if_neg hl] at hrun
        rw [if_neg hl]
        exact ⟨_, hrun, zU.2 rfl⟩
  · -- overlaps
    rename_i a b
    injection he with he; subst he
    obtain ⟨x, r, e1, hx, hr⟩ := zX.1 has
    obtain ⟨y, r', e2, hy, hr'⟩ := zX.1 hr
    rw [zL] at hr'
    subst e2 hr'
    have := uw e1
    subst this
    refine yB (C := x7 P ψ h n w _ _) _ _ _ _ trivial (fun _ => trivial) fun k o l c s ex hk => ?_
    refine yB (C := x7 P ψ h n w _ _) _ _ _ _ trivial (fun _ => trivial) fun j o' m c' s' ex' hj => ?_
    refine zE (C := x7 P ψ h n w _ _) _ _ _ trivial fun hjk => ?_
    refine k9 (C := x7 P ψ h n w _ _) _ _ _ trivial fun u vs hvs => ?_
    refine zE (C := x7 P ψ h n w _ _) _ _ _ trivial fun hu => ?_
    refine yF (C := x7 P ψ h n w _ _) _ _ _ trivial fun vs' hvs' => ?_
    refine zE (C := x7 P ψ h n w _ _) _ _ _ trivial fun hl => ?_
    have hjk : j ≠ k := by simpa using hjk
    subst hu
    intro hrel _ _
    rw [hk, zw] at hx
    rw [hj, zw] at hy
    obtain ⟨p, x1, cap1, hp, rfl, _⟩ := hx
    obtain ⟨q, x2, cap2, hq, rfl, _⟩ := hy
    have hne : p.blk ≠ q.blk := fun e => hjk (hrel.inj k j _ _ p q hvs hvs' hp hq (.inl rfl) e).symm
    obtain ⟨arr, el, fz, c1, c2, c3, c4, _⟩ : jp ψ w p true vs := hrel.on k _ p hvs hp
    obtain ⟨arr', el', fz', d1, d2, d3, _⟩ : yR ψ w q vs' := hrel.on j _ q hvs' hq
    have hl : 1 ≤ ui vs' := zM hl
    have hll := zBo vs'
    have hfz : fz.1 = fz.2 := by
      rcases c4 with h | h
      · exact h
      · cases h.1
    have hfr : ∀ i, w.frozen? ⟨p.blk, i, none⟩ = false := by
      intro i
      unfold World.frozen?
      rw [c1]
      simp
      omega
    obtain ⟨tS, e, hp0, ht, sz, hsz⟩ : ∃ tS e, fn.params[0]? = some tS ∧ P.underlying tS = some (.slice e) ∧ ∃ sz, xV P e = some sz := by
      unfold zBi at hex
      split at hex
      · split at hex
        · cases hex
        · split at hex
          · cases hex
          · split at hex
            · cases hex
            · split at hex <;> cases hex
      · split at hex
        · rename_i ho
          rw [Bool.and_eq_true] at ho
          have hok := ho.2
          unfold zAa und at hok
          rw [Bool.and_eq_true] at hok
          have hok := hok.2
          split at hok
          · rename_i t _ hpl
            split at hok
            · rename_i e ht
              obtain ⟨sz, hsz⟩ := Option.isSome_iff_exists.1 hok
              refine ⟨t, e, ?_, ht, sz, hsz⟩
              have := congrArg (·[0]?) hpl
              simpa using this
            · cases hok
          · cases hok
        · cases hex
    refine ⟨w, .bool false, ψ, ?_, zq.refl hrel, zH.2 rfl⟩
    exact zAm hp0 ht (fun w => yT hsz w) ⟨p.blk, x1, none⟩ ⟨q.blk, x2, none⟩ _ _ _ _ hne el el' arr.size arr'.size (by unfold World.shape?; rw [c1]) (by unfold World.shape?; rw [d1])
      (by omega) (hfr _) (hfr _)
  · -- clone
    rename_i a
    injection he with he; subst he
    obtain ⟨x, r, e1, hx, hr⟩ := zX.1 has
    rw [zL] at hr
    subst hr
    have := uw e1
    subst this
    refine xP (C := x7 P ψ h n w _ _) _ _ _ _ trivial (fun _ => trivial) fun t v hv => ?_
    rw [hv, z7] at hx
    obtain ⟨y, rfl, hy⟩ := hx
    refine yu (C := x7 P ψ h n w _ _) _ _ _ _ trivial (fun _ => trivial) fun b hb => ?_
    rw [hb, yY] at hy
    obtain ⟨p, hp, rfl⟩ := hy
    refine yE (C := x7 P ψ h n w _ _) _ _ _ trivial fun cs clock hl => ?_
    intro hrel hnew hroom
    obtain ⟨arr, h1, h2, hcp⟩ := hrel.on b _ p hl hp
    have hr := Key.room_of_succ hroom
    have hix := Key.ix_succ hr
    have hnone : ψ n = none := hnew n (Nat.le_refl _) (by omega)
    have hw := qx w (.map arr (p.ck clock))
    have hpost := kT (n := n) (sz := 0) (ck := p.ck) (o := .map cs clock) hrel hr hnone hw ⟨arr, by simp, h2.mono (Psi.le_upd _ hnone), hcp⟩
    refine ⟨_, .iface t (.map (some w.heap.size)), _, ?_, by rw [zz]; exact hpost, z7.2 ⟨_, rfl, yY.2 ⟨_, Psi.upd_same _ _ _, rfl⟩⟩⟩
    have hget := run_getObj_map (P := P) h1
    rw [show Extern.MapsClone.clone #[Value.iface t (.map (some p.blk))] = (getObj p.blk >>= _) from rfl, Sem.run_bind, hget]
    simp
  · exact trivial
section
variable {o : Op}
theorem zPg {c : Call} {f : FuncId} {fn : Func} {e : Ext} {args : List zR} (hcal : c.callee = .value (.func f)) (hρ : zKr ρ) (hfn : P.funcs[f]? = some fn) (hb : fn.body.isNone = true)
    (he : zBi P fn = some e) (hargs : xu P E c.args.toList = some args) (ha : zo P ψ es tm E ρ c.args.toList) : zC P ψ h n ρ (.call c) ty w (zAu e (aVs es tm args) h n) := by
  obtain ⟨en, h1, h2, h3, h4⟩ := zDA he
  have has := ji _ ha hargs
  rw [← Array.toList_map] at has
  have hout := zJ5 (P := P) (h := h) (n := n) (w := w) he h1 has
  have hrun : ∀ {x : Value} {w' : World}, (en (c.args.map ρ)).run P w = .ok x w' → (execOp ρ (xS (.call c) ty)).run P w = .ok (.value x) w' := by
    intro x w' hx
    have := run_callFunc_extern (P := P) hfn h2 hb h3 h4 (c.args.map ρ) w
    rw [hx] at this
    simp only [execOp, resolve, hcal, Sem.run_bind, hρ.func, Deferred.ofValue, Sem.run_pure, Result.andThen_ok, invoke]
    have e0 : (#[] ++ c.args.map ρ ++ #[] : Array Value) = c.args.map ρ := by simp
    rw [e0, this]; rfl
  generalize zAu e (aVs es tm args) h n = r at hout
  cases r <;> first | exact hout.elim | exact trivial | skip
  case val v =>
    obtain ⟨x, h5, h6⟩ := hout
    exact ⟨x, zP (hrun h5), h6⟩
  case eff v h' n' =>
    intro g1 g2 g3
    obtain ⟨w', x, ψ', h5, h6, h7⟩ := hout g1 g2 g3
    exact ⟨w', x, ψ', zP (hrun h5), h6, h7⟩
theorem zN1 (hρ : zKr ρ) (c : Call) (ha : zo P ψ es tm E ρ c.operands.toList) : zC P ψ h n ρ (.call c) ty w (yA P (za P E (.call c)) es tm h n) := by
  have hargsok : zo P ψ es tm E ρ c.args.toList := ha.sub fun y hy => by simp [Call.operands]; exact .inr (by simpa using hy)
  rw [show za P E (.call c) = zDb P E c from rfl]
  unfold zDb
  split
  · rename_i b hc
    exact zH5 c b hc hargsok
  · rename_i r name hc
    split
    · rename_i r' args hr hargs
      have hx := ha r (by simp [Call.operands, hc]) r' hr
      have has := ji _ hargsok hargs
      rw [← Array.toList_map] at has
      refine zCq ?_ (uN (P := P) (h := h) (n := n) (w := w) name hx has)
      simp only [execOp, resolve, hc, Sem.run_bind, Sem.run_pure, Result.andThen_ok, invoke]
      have e0 : (#[ρ r] ++ c.args.map ρ)[0]? = some (ρ r) := by rw [← Array.getElem?_toList, Array.toList_append]; rfl
      have e1 : (#[ρ r] ++ c.args.map ρ).extract 1 (#[ρ r] ++ c.args.map ρ).size = c.args.map ρ := by
        apply Array.ext'
        rw [Array.toList_extract, Array.toList_append, List.extract_eq_take_drop]
        show ((c.args.map ρ).toList).take _ = _
        exact List.take_of_length_le (by simp)
      rw [e0]
      simp only
      rw [e1]
    · exact zA _
  · rename_i f hc
    split
    · exact zA _
    · rename_i args hargs
      have has := ji _ hargsok hargs
      rw [← Array.toList_map] at has
      split
      · rename_i g
        rw [yV]
        split
        · exact zA _
        · rename_i fn hfn
          have hfn : P.funcs[g]? = some fn := by simpa using hfn
          split
          · intro _
            refine ⟨c.args.map ρ, ?_, has⟩
            simp only [execOp, resolve, hc, Sem.run_bind, hρ.func, Deferred.ofValue, Sem.run_pure, Result.andThen_ok, invoke]
            simp
          · rename_i hb
            split
            · rename_i e he
              exact zPg hc hρ hfn (by cases hbb : fn.body <;> simp_all) he hargs hargsok
            · exact zA _
      · split
        · rename_i f' hf
          have hx := ha f (by simp [Call.operands, hc]) f' hf
          refine zCq ?_ (zL0 (P := P) (h := h) (n := n) (w := w) hx has)
          simp only [execOp, resolve, hc]
        · exact zA _
theorem zI1 (hρ : zKr ρ) (o : Op) (ha : zo P ψ es tm E ρ o.operands.toList) : zC P ψ h n ρ o ty w (yA P (za P E o) es tm h n) := by
  cases o <;> try exact zA _
  case move => exact zMk _ ha
  case assign => exact zJK _ ha
  case pick => exact zNN _ _ _ ha
  case alloc => exact zLz _
  case box => exact zOP _ _ ha
  case build => exact zL7 _ _ ha
  case buildSlice => exact zEA _ _ _ ha
  case load => exact zNv _ _ ha
  case store => exact zLM _ _ _ ha
  case nilCheck => exact zL2 _ ha
  case binOp => exact zLY _ _ _ _ _ ha
  case unOp => exact zMY _ _ _ ha
  case convert => exact zIF _ _ _ ha
  case makeInterface => exact zAL _ _ ha
  case makeFunc => exact zG0 _ _ _ (ha.sub fun y hy => by simp [Op.operands] at hy ⊢; exact hy)
  case makeMap => exact zIr _ _ hρ.const
  case makeSlice => exact zEJ _ _ _ ha
  case slice => exact zLb _ _ _ _ _ (ha.sub fun y hy => by simp [Op.operands] at hy ⊢; exact hy)
  case fieldAddr => exact zEM _ _ _ ha
  case field => exact zLx _ _ _ ha
  case indexAddr => exact zEK _ _ _ ha
  case index => exact zMd _ _ _ ha
  case lookup => exact zJD _ _ _ _ ha
  case mapUpdate => exact zEQ _ _ _ _ ha
  case insert => exact zJx _ _ _ _ ha
  case range => exact zL1 _ _ ha
  case next => exact zNI _ _ ha
  case entry => exact zLZ _ ha
  case typeAssert => exact zDz _ _ _ _ ha
  case extract => exact zIv _ _ ha
  case call => exact zN1 hρ _ ha
  case defer => exact zLJ _ ha
end
end
end Go.Ev

namespace Go.Ev
variable [Sym]
noncomputable section
variable {P : Program} {es : List CV} {tm : Tm} {h : Heap} {n : Key}
variable [SymFact P]
def zD (n : Key) : OR → Prop
  | .eff _ _ n' => n.ix ≤ n'.ix
  | .fork a b => zD n a ∧ zD n b
  | _ => True
theorem zJ8 {x : CV} (s : Nat) (nf : Nat → Nat) (k : Nat → List CV → OR) (e : Nat) (hk : ∀ m l, zD n (k m l)) : zD n (zI5 h s x k nf e) := by
  unfold zI5
  split
  · refine zE (C := zD n) _ _ _ trivial fun _ => ?_
    exact yO (C := zD n) _ _ _ trivial fun _ _ => hk _ _
  · refine yB (C := zD n) _ _ _ _ trivial (fun _ => hk _ _) fun _ _ _ _ _ _ _ => ?_
    refine xF (C := zD n) _ _ _ trivial fun _ _ => ?_
    exact yO (C := zD n) _ _ _ trivial fun _ _ => hk _ _
theorem vM (v : Option CV) (e : Nat) : zD n (zDt v e) := by cases v <;> trivial
theorem zFZ (k : IntKind) : ∀ (m : Nat), zD n (zJk k m)
  | 0 => trivial
  | m + 1 => ⟨zFZ k m, trivial⟩
theorem zF9 (k : IntKind) : ∀ (m : Nat), zD n (zIW k m)
  | 0 => trivial
  | m + 1 => ⟨zF9 k m, trivial, trivial⟩
theorem yS (op : BinOp) (j k : IntKind) : zD n (qQ op j k) := by
  refine zE (C := zD n) _ _ _ trivial fun _ => ?_
  cases op <;> first | trivial | exact ⟨trivial, trivial⟩
theorem zMf (op : BinOp) (k : IntKind) (b : Int) : zD n (zDc op k b) := by
  cases op
  case add => exact yS .add k k
  case sub => exact yS .sub k k
  case mul => exact yS .mul k k
  case or => exact yS .or k k
  case xor => exact yS .xor k k
  case andNot => exact yS .andNot k k
  case eql => exact yS .eql k k
  case neq => exact yS .neq k k
  case lss => exact yS .lss k k
  case leq => exact yS .leq k k
  case gtr => exact yS .gtr k k
  case geq => exact yS .geq k k
  case quo => cases b with
    | ofNat m => cases m <;> trivial
    | negSucc m => trivial
  case rem => cases b with
    | ofNat m => cases m with
      | zero => trivial
      | succ m =>
        refine zE (C := zD n) _ _ _ trivial fun _ => ?_
        split
        · exact zF9 k m
        · trivial
    | negSucc m => trivial
  case and => cases b with
    | ofNat m =>
      refine zE (C := zD n) _ _ _ trivial fun _ => ?_
      exact zFZ k m
    | negSucc m => trivial
  case shl => cases b <;> trivial
  case shr => cases b <;> trivial
theorem zMe (op : BinOp) (x y : CV) : zD n (zJu op x y) := by
  have right : ∀ (k j : IntKind) (b : Int), zD n (yc (kEq k j || yn op) (zDc op k b) 118) := fun k j b => zE (C := zD n) _ _ _ trivial fun _ => zMf _ _ _
  refine zE9 (C := zD n) _ _ _ _ _ trivial (fun a _ => ?_) (fun k a _ => ?_) (fun k _ => ?_) (fun s _ => ?_)
  · refine jE (C := zD n) _ _ _ _ trivial (fun _ _ => ?_) (fun _ _ _ => ?_) (fun _ _ => yS _ _ _)
    · exact zE (C := zD n) _ _ _ trivial fun _ => vM _ _
    · exact zE (C := zD n) _ _ _ trivial fun _ => vM _ _
  · refine jE (C := zD n) _ _ _ _ trivial (fun _ _ => ?_) (fun _ _ _ => ?_) (fun _ _ => yS _ _ _)
    · exact zE (C := zD n) _ _ _ trivial fun _ => vM _ _
    · exact zE (C := zD n) _ _ _ trivial fun _ => vM _ _
  · exact jE (C := zD n) _ _ _ _ trivial (fun _ _ => right _ _ _) (fun _ _ _ => right _ _ _) (fun _ _ => yS _ _ _)
  · exact zx (C := zD n) _ _ _ trivial fun _ _ => vM _ _
theorem zK2 (o : Option (List CV)) (e : Nat) : zD n (zOU o e) := by
  have : ∀ (l : List CV) (c : CV), zD n (forkL c l) := by
    intro l
    induction l with
    | nil => intro c; trivial
    | cons d l ih => intro c; exact ⟨trivial, ih d⟩
  cases o with
  | none => trivial
  | some l => cases l with
    | nil => trivial
    | cons c l => exact this l c
theorem zLD (op : BinOp) (x y : CV) : zD n (jD op x y) := by
  unfold jD
  split
  · unfold zMN
    split <;> first | trivial | (rw [qf]; split <;> first | trivial | exact ⟨trivial, trivial⟩)
  · split
    · exact zK2 _ _
    · exact zMe _ _ _
theorem zB6 (c : Option zR) (y d : Nat) (k : Nat → OR) (e : Nat) (hk : ∀ i, zD n (k i)) : zD n (zAr es tm c y d k e) := by
  cases c with
  | none => exact hk _
  | some c =>
    refine yL (C := zD n) _ _ _ trivial fun _ _ => ?_
    exact zE (C := zD n) _ _ _ trivial fun _ => hk _
theorem jM (len cap : Nat) (lo hi mx : Option zR) (k : Nat → Nat → Nat → OR) (e : Nat) (hk : ∀ i j l, zD n (k i j l)) : zD n (qZ es tm len cap lo hi mx k e) :=
  zB6 _ _ _ _ _ fun _ => zB6 _ _ _ _ _ fun _ => zB6 _ _ _ _ _ fun _ => hk _ _ _
theorem zBf (b : Key) (off esz : Nat) (ex : Bool) (i j l : Nat) : zD n (zK1 b off esz ex i j l) := by
  refine zE (C := zD n) _ _ _ trivial fun _ => ?_
  rw [zr, zr, zr]; trivial
theorem zHD (a : Bool) (s : Nat) (cs : List CV) (off e : Nat) : zD n (zME a s cs off e) := by
  cases a with
  | true => exact kI (C := zD n) _ _ trivial fun _ _ => trivial
  | false => exact jH (C := zD n) _ _ trivial fun _ _ => trivial
theorem zGu (ok : Bool) (z : Option CV) : zD n (noV ok z) := by unfold noV; split <;> trivial
theorem zAE (r : CV) (name : String) (args : List CV) : zD n (zFt P h r name args) := by
  refine xP (C := zD n) _ _ _ _ trivial (fun _ => trivial) fun _ _ _ => ?_
  split <;> trivial
theorem zMm (f : CV) (args : List CV) : zD n (zM1 P h f args) := by
  refine k5 (C := zD n) _ _ _ trivial fun fn a c _ => ?_
  split
  · trivial
  · split
    · exact zAE _ _ _
    · trivial
  · split
    · split
      · exact zAE _ _ _
      · exact zAE _ _ _
      · trivial
    · trivial
  · split
    · split
      · split <;> trivial
      · trivial
    · trivial
  · trivial
theorem zDT {f : CE → OR} (hf : ∀ c, zD n (f c)) : ∀ (l : List CE) (e : CE), zD n (zCU f e l)
  | [], e => hf e
  | e' :: l, e => ⟨hf e, zDT hf l e'⟩
theorem zJB (e : Ext) (args : List CV) : zD n (zAu e args h n) := by
  unfold zAu
  split
  · refine zx (C := zD n) _ _ _ trivial fun _ _ => ?_
    exact wY (C := zD n) _ _ _ trivial fun _ _ => trivial
  · refine zx (C := zD n) _ _ _ trivial fun _ _ => ?_
    refine wY (C := zD n) _ _ _ trivial fun _ _ => ?_
    split <;> trivial
  · refine zx (C := zD n) _ _ _ trivial fun _ _ => ?_
    refine zx (C := zD n) _ _ _ trivial fun _ _ => ?_
    rw [qf, qf]
    split
    · trivial
    · split <;> trivial
  · refine yB (C := zD n) _ _ _ _ trivial (fun _ => trivial) fun _ _ _ _ _ _ _ => ?_
    refine yB (C := zD n) _ _ _ _ trivial (fun _ => trivial) fun _ _ _ _ _ _ _ => ?_
    refine zE (C := zD n) _ _ _ trivial fun _ => ?_
    refine k9 (C := zD n) _ _ _ trivial fun _ _ _ => ?_
    refine zE (C := zD n) _ _ _ trivial fun _ => ?_
    refine yF (C := zD n) _ _ _ trivial fun _ _ => ?_
    exact zE (C := zD n) _ _ _ trivial fun _ => Nat.le_refl _
  · refine xP (C := zD n) _ _ _ _ trivial (fun _ => trivial) fun _ _ _ => ?_
    refine yu (C := zD n) _ _ _ _ trivial (fun _ => trivial) fun _ _ => ?_
    exact yE (C := zD n) _ _ _ trivial fun _ _ _ => Key.ix_le_succ n
  · trivial
theorem zHU (esz k : Nat) (xs : List CV) (sv : CV) : zD n (zE8 esz k xs sv h n) := by
  unfold zE8
  refine yB (C := zD n) _ _ _ _ trivial (fun _ => ?_) fun _ _ _ _ _ _ _ => ?_
  · cases k with
    | zero => exact Nat.le_refl _
    | succ k =>
      refine zE (C := zD n) _ _ _ trivial fun _ => ?_
      rw [zr]; exact Key.ix_le_succ n
  · refine zE (C := zD n) _ _ _ trivial fun _ => ?_
    refine k9 (C := zD n) _ _ _ ?_ fun _ _ _ => ?_
    rotate_left
    · rw [zr]
      refine zE (C := zD n) _ _ _ trivial fun _ => ?_
      exact yO (C := zD n) _ _ _ trivial fun _ _ => Key.ix_le_succ n
    refine yF (C := zD n) _ _ _ trivial fun _ _ => ?_
    rw [zr, qf]
    split
    · exact yO (C := zD n) _ _ _ trivial fun _ _ => Nat.le_refl _
    · refine zE (C := zD n) _ _ _ trivial fun _ => ?_
      exact yO (C := zD n) _ _ _ trivial fun _ _ => Key.ix_le_succ n
theorem kn (op : COp) : zD n (yA P op es tm h n) := by
  cases op
  case mv => trivial
  case pick =>
    refine ki (C := zD n) _ _ _ trivial fun b _ => ?_
    cases b <;> trivial
  case alloc => trivial
  case box => exact yO (C := zD n) _ _ _ trivial fun _ _ => trivial
  case build => exact kI (C := zD n) _ _ trivial fun _ _ => trivial
  case bslice => exact yO (C := zD n) _ _ _ trivial fun _ _ => trivial
  case load1 =>
    refine yb (C := zD n) _ _ _ trivial fun _ _ _ => ?_
    refine xF (C := zD n) _ _ _ trivial fun _ _ => ?_
    exact zDi (C := zD n) _ _ trivial fun _ _ => trivial
  case loadN =>
    refine yb (C := zD n) _ _ _ trivial fun _ _ _ => ?_
    refine xF (C := zD n) _ _ _ trivial fun _ _ => ?_
    exact zEv (C := zD n) _ _ trivial fun _ _ => trivial
  case store =>
    refine yb (C := zD n) _ _ _ trivial fun _ _ _ => ?_
    refine yF (C := zD n) _ _ _ trivial fun _ _ => ?_
    refine yO (C := zD n) _ _ _ trivial fun _ _ => ?_
    refine zE (C := zD n) _ _ _ trivial fun _ => ?_
    exact yO (C := zD n) _ _ _ trivial fun _ _ => Nat.le_refl _
  case nilck x =>
    refine zF2 (C := zD n) _ _ _ ?_ fun _ _ _ => trivial
    show zD n (zD1 (aV es tm x))
    unfold zD1
    split <;> trivial
  case arith op x y =>
    show zD n (zLE (aV es tm x) (fun a => zLE (aV es tm y) (fun b => zJJ op a b (aV es tm x) (aV es tm y)) (jD op (aV es tm x) (aV es tm y))) (jD op (aV es tm x) (aV es tm y)))
    have hg := zLD (n := n) op (aV es tm x) (aV es tm y)
    cases hx : aV es tm x <;> try (rw [hx] at hg; exact hg)
    case nat a =>
      rw [hx] at hg
      cases hy : aV es tm y <;> try (rw [hy] at hg; exact hg)
      case nat b =>
        rw [hy] at hg
        show zD n (Option.rec (motive := fun _ => BinOp → CV → CV → OR) (fun op x y => jD op x y) (fun v _ _ _ => .val v) (zFh op a b) op (.nat a) (.nat b))
        cases zFh op a b with
        | none => exact hg
        | some v => trivial
  case eq neg k cst x y =>
    show zD n (match eqC k cst (aV es tm x) (aV es tm y) with
      | some b => .val (.bool (xor neg b))
      | none => .err 123)
    split <;> trivial
  case un op x =>
    cases op with
    | neg => exact vF (C := zD n) _ _ _ trivial (fun _ _ => trivial) fun _ _ _ => trivial
    | xor => exact vF (C := zD n) _ _ _ trivial (fun _ _ => trivial) fun _ _ _ => trivial
    | not => exact ki (C := zD n) _ _ _ trivial fun _ _ => trivial
    | plus => trivial
  case cvInt k x =>
    show zD n (zEp k (aV es tm x))
    unfold zEp
    split
    · exact zK2 _ _
    · exact jE (C := zD n) _ _ _ _ trivial (fun _ _ => trivial) (fun _ _ _ => trivial) fun _ _ => trivial
  case cvStr => exact zx (C := zD n) _ _ _ trivial fun _ _ => trivial
  case cvSB =>
    refine zx (C := zD n) _ _ _ trivial fun _ _ => ?_
    rw [zr]; trivial
  case cvMark =>
    refine yB (C := zD n) _ _ _ _ trivial (fun _ => trivial) fun _ _ _ _ _ _ _ => ?_
    exact yF (C := zD n) _ _ _ trivial fun _ _ => Nat.le_refl _
  case cvBS =>
    refine yB (C := zD n) _ _ _ _ trivial (fun _ => trivial) fun _ _ _ _ _ _ _ => ?_
    refine xF (C := zD n) _ _ _ trivial fun _ _ => ?_
    refine yO (C := zD n) _ _ _ trivial fun _ _ => ?_
    unfold zJb
    split
    · trivial
    · split <;> trivial
  case iface => trivial
  case mkfn => trivial
  case mkmap => trivial
  case mkslice =>
    refine yL (C := zD n) _ _ _ trivial fun _ _ => ?_
    refine yL (C := zD n) _ _ _ trivial fun _ _ => ?_
    refine zE (C := zD n) _ _ _ trivial fun _ => ?_
    rw [zr, zr]; trivial
  case slArr => exact yb (C := zD n) _ _ _ trivial fun _ _ _ => jM _ _ _ _ _ _ _ fun _ _ _ => zBf _ _ _ _ _ _ _
  case slSl =>
    refine yB (C := zD n) _ _ _ _ trivial (fun _ => jM _ _ _ _ _ _ _ fun _ _ _ => trivial) fun _ _ _ _ _ _ _ => ?_
    refine zE (C := zD n) _ _ _ trivial fun _ => ?_
    unfold ub
    split
    · split
      · split
        · refine yF (C := zD n) _ _ _ trivial fun _ _ => ?_
          refine zE (C := zD n) _ _ _ trivial fun _ => ?_
          rw [zr]; trivial
        · exact jM _ _ _ _ _ _ _ fun _ _ _ => zBf _ _ _ _ _ _ _
      · exact jM _ _ _ _ _ _ _ fun _ _ _ => zBf _ _ _ _ _ _ _
    · exact jM _ _ _ _ _ _ _ fun _ _ _ => zBf _ _ _ _ _ _ _
  case slStr =>
    refine zx (C := zD n) _ _ _ trivial fun _ _ => ?_
    rw [zr]
    refine jM _ _ _ _ _ _ _ fun _ _ _ => ?_
    refine zE (C := zD n) _ _ _ trivial fun _ => ?_
    exact zFQ (C := zD n) _ _ trivial fun _ _ => trivial
  case addOff =>
    refine yb (C := zD n) _ _ _ trivial fun _ _ _ => ?_
    rw [zr]; trivial
  case part => exact vE (C := zD n) _ _ _ trivial fun _ _ => zHD _ _ _ _ _
  case ixArr =>
    refine yb (C := zD n) _ _ _ trivial fun _ _ _ => ?_
    refine yL (C := zD n) _ _ _ trivial fun _ _ => ?_
    refine zE (C := zD n) _ _ _ trivial fun _ => ?_
    rw [zr]; trivial
  case ixSl =>
    refine w4 (C := zD n) _ _ _ ?_ fun _ _ _ _ _ => by
      unfold zMu
      split
      · split
        · split <;> trivial
        · trivial
      · trivial
    refine yB (C := zD n) _ _ _ _ trivial (fun _ => trivial) fun _ _ _ _ _ _ _ => ?_
    refine yL (C := zD n) _ _ _ trivial fun _ _ => ?_
    refine zE (C := zD n) _ _ _ trivial fun _ => ?_
    rw [zr]; trivial
  case ixAgg =>
    refine vE (C := zD n) _ _ _ trivial fun _ _ => ?_
    refine yL (C := zD n) _ _ _ trivial fun _ _ => ?_
    exact zE (C := zD n) _ _ _ trivial fun _ => zHD _ _ _ _ _
  case ixStr =>
    refine zx (C := zD n) _ _ _ trivial fun _ _ => ?_
    refine yL (C := zD n) _ _ _ trivial fun _ _ => ?_
    exact wY (C := zD n) _ _ _ trivial fun _ _ => trivial
  case lookup kk z ok x k =>
    have hl : ∀ l, zD n (zBb kk z ok (aV es tm k) l) := by
      intro l
      refine zE (C := zD n) _ _ _ trivial fun _ => ?_
      split <;> trivial
    refine yu (C := zD n) _ _ _ _ trivial (fun _ => hl _) fun _ _ => ?_
    exact yE (C := zD n) _ _ _ trivial fun _ _ _ => hl _
  case mapupd =>
    refine yu (C := zD n) _ _ _ _ trivial (fun _ => trivial) fun _ _ => ?_
    refine yE (C := zD n) _ _ _ trivial fun _ _ _ => ?_
    refine zE (C := zD n) _ _ _ trivial fun _ => ?_
    split
    · split
      · exact Nat.le_refl _
      · trivial
    · rw [zr]; exact Nat.le_refl _
    · trivial
  case rangeStr => exact zx (C := zD n) _ _ _ trivial fun _ _ => trivial
  case rangeMap =>
    refine yu (C := zD n) _ _ _ _ trivial (fun _ => trivial) fun _ _ => ?_
    exact yE (C := zD n) _ _ _ trivial fun _ _ _ => Key.ix_le_succ n
  case next =>
    refine yb (C := zD n) _ _ _ trivial fun _ _ _ => ?_
    refine zE (C := zD n) _ _ _ trivial fun _ => ?_
    unfold zMl
    split
    · unfold zGI
      split
      · exact Nat.le_refl _
      · refine zE (C := zD n) _ _ _ trivial fun _ => ?_
        rw [zr]; exact Nat.le_refl _
    · exact Nat.le_refl _
    · refine yE (C := zD n) _ _ _ trivial fun _ _ _ => ?_
      split
      · trivial
      · split
        · exact Nat.le_refl _
        · exact zE (C := zD n) _ _ _ trivial fun _ => zDT (fun _ => Nat.le_refl _) _ _
    · trivial
  case entry =>
    refine yb (C := zD n) _ _ _ trivial fun _ _ _ => ?_
    refine zE (C := zD n) _ _ _ trivial fun _ => ?_
    unfold zIJ
    split
    · split
      · refine yE (C := zD n) _ _ _ trivial fun _ _ _ => ?_
        split <;> trivial
      · trivial
    · trivial
  case tassert =>
    refine xP (C := zD n) _ _ _ _ trivial (fun _ => zGu _ _) fun _ _ _ => ?_
    rw [qf]
    split
    · trivial
    · exact zGu _ _
  case tiface =>
    refine xP (C := zD n) _ _ _ _ trivial (fun _ => zGu _ _) fun _ _ _ => ?_
    split
    · trivial
    · exact zGu _ _
    · trivial
  case extract => exact zEi (C := zD n) _ _ _ trivial fun _ _ => vM _ _
  case call => trivial
  case ext e args => exact zJB e _
  case callv => exact zMm _ _
  case invoke => exact zAE _ _ _
  case append esz bb s x =>
    show zD n (uM esz bb s x es tm h n)
    unfold uM
    refine zJ8 _ _ _ _ fun k l => ?_
    exact zE (C := zD n) _ _ _ trivial fun _ => zHU _ _ _ _
  case appz zero esz s x =>
    refine yL (C := zD n) _ _ _ trivial fun _ _ => ?_
    refine zE (C := zD n) _ _ _ trivial fun _ => ?_
    rw [zr]
    exact zE (C := zD n) _ _ _ trivial fun _ => zHU _ _ _ _
  case copy esz d x =>
    show zD n (zE3 esz d x es tm h n)
    have hk : ∀ nf, zD n (zI5 h esz (aV es tm x) (fun k xs => va (aV es tm d)
        (.eff (.nat 0) h n)
        (fun b off _ _ _ _ => jR (yK b h) (fun vs => yc (y9 xs) (onL (qe xs (Nat.mul k esz) vs off) (fun l => .eff (qq k) (yv (some (.cells l)) b h) n) 232) 233) 234) 235) nf 236) := by
      intro nf
      refine zJ8 _ _ _ _ fun k l => ?_
      refine yB (C := zD n) _ _ _ _ trivial (fun _ => Nat.le_refl _) fun _ _ _ _ _ _ _ => ?_
      refine yF (C := zD n) _ _ _ trivial fun _ _ => ?_
      refine zE (C := zD n) _ _ _ trivial fun _ => ?_
      exact yO (C := zD n) _ _ _ trivial fun _ _ => Nat.le_refl _
    unfold zE3 zNr
    split
    · exact hk _
    · exact yB (C := zD n) _ _ _ _ trivial (fun _ => hk _) fun _ _ _ _ _ _ _ => hk _
  case lenStr => exact zC4 (C := zD n) _ _ _ (zx (C := zD n) _ _ _ trivial fun _ _ => trivial) fun _ _ => trivial
  case lenSl => exact w4 (C := zD n) _ _ _ (yB (C := zD n) _ _ _ _ trivial (fun _ => trivial) fun _ _ _ _ _ _ _ => trivial) fun _ _ _ _ _ => trivial
  case lenMap =>
    refine yu (C := zD n) _ _ _ _ trivial (fun _ => trivial) fun _ _ => ?_
    exact yE (C := zD n) _ _ _ trivial fun _ _ _ => trivial
  case capSl =>
    refine yB (C := zD n) _ _ _ _ trivial (fun _ => trivial) fun _ _ _ _ _ ex _ => ?_
    cases ex
    · show zD n (zNW _ _ _ _ _ h n)
      unfold zNW
      rw [qf]
      split
      · trivial
      · refine yF (C := zD n) _ _ _ trivial fun _ _ => ?_
        exact zE (C := zD n) _ _ _ trivial fun _ => ⟨Nat.le_refl _, Nat.le_refl _⟩
    · trivial
  case delete =>
    refine zE (C := zD n) _ _ _ trivial fun _ => ?_
    refine yu (C := zD n) _ _ _ _ trivial (fun _ => Nat.le_refl _) fun _ _ => ?_
    refine yE (C := zD n) _ _ _ trivial fun _ _ _ => ?_
    split
    · split
      · exact Nat.le_refl _
      · trivial
    · exact Nat.le_refl _
    · trivial
  case clearMap =>
    refine yu (C := zD n) _ _ _ _ trivial (fun _ => Nat.le_refl _) fun _ _ => ?_
    exact yE (C := zD n) _ _ _ trivial fun _ _ _ => Nat.le_refl _
  case clearSl =>
    refine yB (C := zD n) _ _ _ _ trivial (fun _ => Nat.le_refl _) fun _ _ _ _ _ _ _ => ?_
    refine yF (C := zD n) _ _ _ trivial fun _ _ => ?_
    refine zE (C := zD n) _ _ _ trivial fun _ => ?_
    exact yO (C := zD n) _ _ _ trivial fun _ _ => Nat.le_refl _
  case minmax => exact vM _ _
  case defer =>
    refine k5 (C := zD n) _ _ _ trivial fun _ _ _ _ => ?_
    split <;> trivial
  case recov => trivial
  case bad => trivial
end
end Go.Ev

namespace Go.Ev
variable [Sym]
noncomputable section
variable {P : Program}
variable [SymFact P]
def zW : R → Prop
  | .ok _ _ _ _ n => n.room
  | .ret _ _ n => n.room
  | .err _ => False
  | .fork a b => zW a ∧ zW b
def ze (n : Key) : R → Prop
  | .ok _ _ _ _ n' => n.ix ≤ n'.ix
  | .ret _ _ n' => n.ix ≤ n'.ix
  | .err _ => True
  | .fork a b => ze n a ∧ ze n b
theorem kr {n : Key} : ∀ {r : R}, zW r → ze n r → n.room
  | .ok _ _ _ _ n', h, h' => Nat.lt_of_le_of_lt h' h
  | .ret _ _ n', h, h' => Nat.lt_of_le_of_lt h' h
  | .fork a _, h, h' => kr h.1 h'.1
theorem ze.le {n n' : Key} (hle : n.ix ≤ n'.ix) : ∀ {r : R}, ze n' r → ze n r
  | .ok _ _ _ _ _, h => Nat.le_trans hle h
  | .ret _ _ _, h => Nat.le_trans hle h
  | .err _, _ => trivial
  | .fork _ _, h => ⟨ze.le hle h.1, ze.le hle h.2⟩
def ym (call : yI) : Prop := ∀ d f args h n, ze n (call d f args h n)
theorem zp (d : Option Loc) (v : CV) (tm : Tm) (k : Tm → R) : zu d v tm k = k (match d with | none => tm | some p => kP v p tm) := by cases d <;> rfl
def qb (k : CV → Heap → Key → R) (r : R) : R := R.rec (motive := fun _ => R) (fun _ _ _ _ _ => .err 300) (fun v h n => k v h n) (fun c => .err c) (fun _ _ a b => .fork a b) r
theorem qW {k : CV → Heap → Key → R} (hk : ∀ v h n, ze n (k v h n)) : ∀ {r : R}, zW (qb k r) → zW r
  | .ok .., h => h.elim
  | .ret v h n, hc => kr hc (hk v h n)
  | .err _, h => h.elim
  | .fork _ _, h => ⟨qW hk h.1, qW hk h.2⟩
theorem qY {n : Key} {k : CV → Heap → Key → R} (hk : ∀ v h n, ze n (k v h n)) : ∀ {r : R}, ze n r → ze n (qb k r)
  | .ok .., _ => trivial
  | .ret v h n', hc => ze.le hc (hk v h n')
  | .err _, _ => trivial
  | .fork _ _, h => ⟨qY hk h.1, qY hk h.2⟩
theorem jd {call : yI} (hcall : ym call) {k : KE} (hk : ∀ es tm ds h n, ze n (k es tm ds h n)) (d : Option Loc) (es : List CV) (tm : Tm) (ds : xT) (h : Heap) (n : Key) :
    ∀ (r : OR), zD n r → ze n (after r call k d es tm ds h n)
  | .val v, _ => by show ze n (zu _ _ _ _); rw [zp]; exact hk _ _ _ _ _
  | .read v, _ => by show ze n (zu _ _ _ _); rw [zp]; exact hk _ _ _ _ _
  | .alloc o v, _ => by show ze n (zu _ _ _ _); rw [zp]; exact ze.le (Key.ix_le_succ n) (hk _ _ _ _ _)
  | .eff v h' n', ho => by show ze n (zu _ _ _ _); rw [zp]; exact ze.le ho (hk _ _ _ _ _)
  | .call f args, _ => qY (k := fun v h n => zu d v tm fun tm => k (v :: es) tm ds h n) (fun v h n => by rw [zp]; exact hk _ _ _ _ _) (hcall _ _ _ _ _)
  | .dfr f args, _ => by show ze n (zu _ _ _ _); rw [zp]; exact hk _ _ _ _ _
  | .recov, _ => by show ze n (zu _ _ _ _); rw [zp]; exact hk _ _ _ _ _
  | .err _, _ => trivial
  | .fork a b, ho => ⟨jd hcall hk d es tm ds h n a ho.1, jd hcall hk d es tm ds h n b ho.2⟩
theorem jJ {call : yI} (hcall : ym call) : ∀ (l : List xx) (es : List CV) (tm : Tm) (ds : xT) (h : Heap) (n : Key), ze n (yd P call l es tm ds h n)
  | [], _, _, _, _, _ => Nat.le_refl _
  | .i op :: l, es, tm, ds, h, n => jd hcall (fun es tm ds h n => jJ hcall l es tm ds h n) none es tm ds h n _ (kn op)
  | .o op d :: l, es, tm, ds, h, n => jd hcall (fun es tm ds h n => jJ hcall l es tm ds h n) (some d) es tm ds h n _ (kn op)
  | .g x wnt op d :: l, es, tm, ds, h, n => by
    show ze n (Bool.rec (motive := fun _ => R)
      (Bool.rec (motive := fun _ => R) (.err 299) (zu d .undef tm fun tm => yd P call l (.undef :: es) tm ds h n) (jq (aV es tm x)))
      (after (yA P op es tm h n) call (yd P call l) d es tm ds h n) (qv wnt (aV es tm x)))
    cases qv wnt (aV es tm x) with
    | true => exact jd hcall (fun es tm ds h n => jJ hcall l es tm ds h n) d es tm ds h n _ (kn op)
    | false =>
      cases jq (aV es tm x) with
      | true => show ze n (zu _ _ _ _); rw [zp]; exact jJ hcall l _ _ _ _ _
      | false => trivial
structure yq (ψ : Psi) (F N : Nat) (tm : Tm) (a : Act) : Prop where
  size : N ≤ a.tmps.size
  tmp : ∀ t, zn F t = true → t ≤ 271 → t < N → zJ ψ (qK (Loc.ofNat t) tm) (a.tmps.getD t undef)
def vY (ψ : Psi) (dl : List (Option Nat)) (es : List CV) (a : Act) : Prop := ∀ t i, y6 t dl 0 = some i → zJ ψ (zOR es i) (a.tmps.getD t undef)
def kf (P : Program) (ψ : Psi) : Prop := ∀ g, g < P.globals.size → g ≤ 4095 → ∃ sz, ψ (Key.ofNat g) = some ⟨g, 0, sz, fun n => n⟩
def xv (ψ : Psi) (n : Key) : Prop := ∀ k : Key, n.ix ≤ k.ix → ψ k = none
def zQi (P : Program) (ψ : Psi) (f : FuncId × List CV) (d : Deferred) : Prop :=
  ∃ fv cap args', d.target = .fn fv cap ∧ (∀ w, (invoke d.target d.args).run P w = (callFunc f.1 args').run P w) ∧ zS ψ f.2 args'.toList
def jT (P : Program) (ψ : Psi) : xT → List Deferred → Prop
  | [], l => l = []
  | f :: fs, l => ∃ d r, l = d :: r ∧ zQi P ψ f d ∧ jT P ψ fs r
structure St (P : Program) (F N : Nat) (ψ : Psi) (tm : Tm) (ds : xT) (h : Heap) (n : Key) (a : Act) (w : World) : Prop where
  frame : yq ψ F N tm a
  dfr : jT P ψ ds a.defers
  rel : Rel ψ (Heap.fam h) w
  glob : kf P ψ
  fresh : xv ψ n
theorem kf.mono {ψ ψ' : Psi} (hle : ψ.le ψ') (h : kf P ψ) : kf P ψ' := fun g h1 h2 => let ⟨sz, e⟩ := h g h1 h2; ⟨sz, hle _ _ e⟩
theorem jT.mono {ψ ψ' : Psi} (hle : ψ.le ψ') : ∀ {ds : xT} {l : List Deferred}, jT P ψ ds l → jT P ψ' ds l
  | [], _, h => h
  | f :: fs, _, h => by
    obtain ⟨d, r, rfl, ⟨fv, cap, as, h1, h2, h3⟩, h4⟩ := h
    exact ⟨d, r, rfl, ⟨fv, cap, as, h1, h2, h3.mono hle⟩, jT.mono hle h4⟩
theorem yq.mono {ψ ψ' : Psi} (hle : ψ.le ψ') {F N : Nat} {tm : Tm} {a : Act} (h : yq ψ F N tm a) : yq ψ' F N tm a := ⟨h.size, fun t h1 h2 h3 => (h.tmp t h1 h2 h3).mono hle⟩
theorem vY.mono {ψ ψ' : Psi} (hle : ψ.le ψ') {dl : List (Option Nat)} {es : List CV} {a : Act} (h : vY ψ dl es a) : vY ψ' dl es a := fun t i h1 => (h t i h1).mono hle
theorem zq.fresh {ψ ψ' : Psi} {g g' : Fam} {n n' : Key} {w w' : World} (hp : zq ψ g n w ψ' g' n' w') (h : xv ψ n) : xv ψ' n' := by
  intro k hk
  have := hp.mono
  rw [hp.out k (.inr hk)]
  exact h k (by omega)
theorem kC (t : Nat) : ∀ (dl : List (Option Nat)) (i : Nat), y6 t dl (i + 1) = (y6 t dl i).map (· + 1)
  | [], _ => rfl
  | none :: r, i => by
    show y6 t r (i + 1 + 1) = (y6 t r (i + 1)).map (· + 1)
    exact kC t r (i + 1)
  | some u :: r, i => by
    unfold y6
    simp only
    cases Nat.beq u t with
    | true => rfl
    | false => exact kC t r (i + 1)
theorem jZ (a : Act) (t : Nat) (v : Value) (h : t < a.tmps.size) : (a.put (some t) v).tmps.getD t undef = v := by
  simp [Act.put, h]
theorem xW (a : Act) (d : Option Nat) (v : Value) {t : Nat} (h : d ≠ some t) : (a.put d v).tmps.getD t undef = a.tmps.getD t undef := by
  cases d with
  | none => rfl
  | some u =>
    have : u ≠ t := fun e => h (by rw [e])
    simp [Act.put, Array.getElem?_setIfInBounds_ne this]
theorem zD3 (a : Act) (d : Option Nat) (v : Value) : (a.put d v).tmps.size = a.tmps.size := by cases d <;> simp [Act.put]
theorem uv (a : Act) (d : Option Nat) (v : Value) : (a.put d v).defers = a.defers := by cases d <;> rfl
abbrev zHI (d : Option Loc) (v : CV) (tm : Tm) : Tm := match d with | none => tm | some p => kP v p tm
theorem qD {F N : Nat} {dst : Option Nat} {d : Option Loc} (h : xC F N dst = some d) :
    (dst = none ∧ d = none) ∨ ∃ t, dst = some t ∧ t < N ∧ ((zn F t = false ∧ d = none) ∨ (zn F t = true ∧ t ≤ 271 ∧ d = some (Loc.ofNat t))) := by
  unfold xC at h
  split at h
  · injection h with h; exact .inl ⟨rfl, h.symm⟩
  · rename_i t
    split at h
    · cases h
    · rename_i hn
      have hn : t + 1 ≤ N := zM hn
      split at h
      · rename_i hf; injection h with h; exact .inr ⟨t, rfl, by omega, .inl ⟨hf, h.symm⟩⟩
      · rename_i hf
        split at h
        · rename_i hl; injection h with h; exact .inr ⟨t, rfl, by omega, .inr ⟨hf, zM hl, h.symm⟩⟩
        · cases h
theorem zLB {ψ : Psi} {F N : Nat} {tm : Tm} {a : Act} {dst : Option Nat} {d : Option Loc} {v : CV} {x : Value} (hf : yq ψ F N tm a) (hd : xC F N dst = some d) (hv : zJ ψ v x) :
    yq ψ F N (zHI d v tm) (a.put dst x) := by
  refine ⟨by rw [zD3]; exact hf.size, fun t h1 h2 h3 => ?_⟩
  rcases qD hd with ⟨rfl, rfl⟩ | ⟨u, rfl, hu, ⟨hb, rfl⟩ | ⟨hb, hle, rfl⟩⟩
  · exact hf.tmp t h1 h2 h3
  · have hne : u ≠ t := fun e => by subst e; rw [hb] at h1; cases h1
    rw [xW _ _ _ (by simpa using hne)]
    exact hf.tmp t h1 h2 h3
  · by_cases e : u = t
    · subst e
      rw [jZ _ _ _ (Nat.lt_of_lt_of_le hu hf.size)]
      show zJ ψ (qK _ (kP v _ tm)) x
      rw [qo]; exact hv
    · rw [xW _ _ _ (by simpa using e)]
      show zJ ψ (qK _ (kP v _ tm)) _
      rw [xK _ _ _ _ (fun h => e (Loc.ofNat_inj hle h2 h.symm))]
      exact hf.tmp t h1 h2 h3
theorem zOE {ψ : Psi} {F N : Nat} {dl : List (Option Nat)} {es : List CV} {a : Act} {dst : Option Nat} {d : Option Loc} {v : CV} {x : Value} (hs : N ≤ a.tmps.size) (he : vY ψ dl es a) (hd : xC F N dst = some d)
    (hv : zJ ψ v x) : vY ψ (dst :: dl) (v :: es) (a.put dst x) := by
  intro t i hi
  have other : dst ≠ some t → zJ ψ (zOR (v :: es) i) ((a.put dst x).tmps.getD t undef) := by
    intro hne
    have hi' : y6 t dl 1 = some i := by
      cases dst with
      | none => exact hi
      | some u =>
        unfold y6 at hi
        have : Nat.beq u t = false := kS fun e => hne (by rw [e])
        simp only [this] at hi
        exact hi
    rw [kC] at hi'
    cases hw : y6 t dl 0 with
    | none => rw [hw] at hi'; cases hi'
    | some j =>
      rw [hw] at hi'
      injection hi' with hi'; subst hi'
      rw [xW _ _ _ hne]
      exact he t j hw
  by_cases e : dst = some t
  · subst e
    rcases qD hd with ⟨h1, _⟩ | ⟨u, h1, hu, _⟩
    · cases h1
    · injection h1 with h1; subst h1
      unfold y6 at hi
      have hb : Nat.beq t t = true := qU t
      simp only [hb] at hi
      injection hi with hi; subst hi
      rw [jZ _ _ _ (Nat.lt_of_lt_of_le hu hs)]
      exact hv
  · exact other e
theorem zGx (a : Act) : zKr a.eval := ⟨fun _ => rfl, fun _ => rfl⟩
theorem zGj {F N : Nat} {ψ : Psi} {tm : Tm} {ds : xT} {h : Heap} {n : Key} {a : Act} {w : World} {dl : List (Option Nat)} {es : List CV} (hs : St P F N ψ tm ds h n a w) (he : vY ψ dl es a) :
    ∀ L, zo P ψ es tm ⟨F, N, dl⟩ a.eval L := by
  intro L x hxL c hc
  clear hxL
  unfold zb at hc
  split at hc
  · rename_i t
    split at hc
    · rename_i i hi
      injection hc with hc; subst hc
      exact he t i hi
    · split at hc
      · rename_i hb
        injection hc with hc; subst hc
        rw [Bool.and_eq_true, Bool.and_eq_true] at hb
        exact hs.frame.tmp t hb.1.1 (zM hb.1.2) (zM hb.2)
      · cases hc
  · rename_i v
    cases hv : vZ 20 v with
    | none => rw [hv] at hc; cases hc
    | some c' => rw [hv] at hc; injection hc with hc; subst hc; exact jK 20 hv
  · rename_i g
    split at hc
    · rename_i hb
      injection hc with hc; subst hc
      rw [Bool.and_eq_true] at hb
      obtain ⟨sz, e⟩ := hs.glob g (zM hb.1) (zM hb.2)
      exact zj.2 ⟨_, e, rfl⟩
    · cases hc
  · rename_i f
    injection hc with hc; subst hc
    exact yk.2 ⟨#[], #[], rfl, zL.2 rfl, zL.2 rfl⟩
end
end Go.Ev

namespace Go.Ev
variable [Sym]
noncomputable section
variable {P : Program}
variable [SymFact P]
def zf (ψ₀ : Psi) (g₀ : Fam) (n₀ : Key) (w₀ : World) : R → Value → World → Prop
  | .ret cv h n, v, w => ∃ ψ, zq ψ₀ g₀ n₀ w₀ ψ (Heap.fam h) n w ∧ zJ ψ cv v
  | .fork a b, v, w => zf ψ₀ g₀ n₀ w₀ a v w ∨ zf ψ₀ g₀ n₀ w₀ b v w
  | _, _, _ => False
def yP (P : Program) (f : FuncId) (args : Array Value) (w : World) (K : Value → World → Prop) : Prop := match (callFunc f args).run P w with
  | .ok (.enter g as) w' => Calls P g as w' fun e w'' => ∃ v, e = .returned v ∧ K v w''
  | .ok (.value v) w' => K v w'
  | _ => False
def zDj (P : Program) (f : FuncId) (args : Array Value) (w : World) (K : World → Prop) : Prop :=
  (callFunc f args).run P w = .ok (.enter f args) w ∧ CallsD P f args .returning w fun e u w' => u = .returning ∧ ∃ v, e = .returned v ∧ K w'
structure yN (P : Program) (call : yI) : Prop where
  above : ym call
  calls : ∀ f args h n ψ w args', zS ψ args args'.toList → kf P ψ → Rel ψ (Heap.fam h) w → xv ψ n → zW (call false f args h n) →
    yP P f args' w (zf ψ (Heap.fam h) n w (call false f args h n))
  defers : ∀ f args h n ψ w args', zS ψ args args'.toList → kf P ψ → Rel ψ (Heap.fam h) w → xv ψ n → zW (call true f args h n) →
    zDj P f args' w fun w' => ∃ v, zf ψ (Heap.fam h) n w (call true f args h n) v w'
def wA (P : Program) (rc : Bool) (o : Oper) (a : Act) (w : World) (K : Act → World → Prop) : Prop := match (execOp a.eval o).run P w with
  | .ok (.value v) w' => K (a.put o.dst v) w'
  | .ok .skip w' => K (a.put o.dst undef) w'
  | .ok (.defer d) w' => K ({ a with defers := d :: a.defers }.put o.dst undef) w'
  | .ok (.enter f args) w' => Calls P f args w' fun e w'' => ∃ v, e = .returned v ∧ K (a.put o.dst v) w''
  | .ok .recover w' => rc = true ∧ K (a.put o.dst .nilIface) w'
  | _ => False
theorem wA.mono {rc : Bool} {o : Oper} {a : Act} {w : World} {K K' : Act → World → Prop} (hk : ∀ a w, K a w → K' a w) (h : wA P rc o a w K) : wA P rc o a w K' := by
  unfold wA at *
  generalize (execOp a.eval o).run P w = r at h ⊢
  cases r with
  | halt x w' => exact h.elim
  | ok x w' =>
    cases x <;> first
      | exact hk _ _ h
      | exact Calls.mono h fun e w' ⟨v, e1, e2⟩ => ⟨v, e1, hk _ _ e2⟩
      | exact ⟨h.1, hk _ _ h.2⟩
      | exact h.elim
structure zO9 (P : Program) (ops : Array Oper) (rc : Bool) (Q : Act → World → Prop) (W : List Nat → Act → World → Prop) : Prop where
  nil : ∀ a w, Q a w → W [] a w
  skip : ∀ i o rest a w, ops[i]? = some o → Region.wanted o (yielded ops a.tmps) = false → W rest (a.put o.dst undef) w → W (i :: rest) a w
  step : ∀ i o rest a w, ops[i]? = some o → Region.wanted o (yielded ops a.tmps) = true → wA P rc o a w (W rest) → W (i :: rest) a w
theorem zIM (ops : Array Oper) (Q : Exit → Act → World → Prop) : zO9 P ops false (Q .normal) (wpOps P ops Q) := by
  refine ⟨fun a w h => h, fun i o rest a w ho hw h => ?_, fun i o rest a w ho hw h => ?_⟩
  · simp only [wpOps, ho, hw, Bool.false_eq_true, if_false]; exact h
  · simp only [wpOps, ho, hw, if_true]
    refine .inl ?_
    unfold Oper.wp
    unfold wA at h
    generalize (execOp a.eval o).run P w = r at h ⊢
    cases r with
    | halt x w' => exact h.elim
    | ok x w' =>
      cases x <;> first
        | exact h
        | exact Calls.mono h (fun e w' ⟨v, e1, e2⟩ => by subst e1; exact e2)
        | exact absurd h.1 (by simp)
        | exact h.elim
theorem zEN (ops : Array Oper) (Q : Exit → Act → List Frame → World → Prop) {cs : List Frame} (hcs : recoverD cs = none) :
    zO9 P ops true (fun a w => Q .normal a cs w) (fun l a w => wpOpsS P ops Q l a cs w) := by
  refine ⟨fun a w h => h, fun i o rest a w ho hw h => ?_, fun i o rest a w ho hw h => ?_⟩
  · simp only [wpOpsS, ho, hw, Bool.false_eq_true, if_false]; exact h
  · simp only [wpOpsS, ho, hw, if_true]
    unfold wA at h
    generalize (execOp a.eval o).run P w = r at h ⊢
    cases r with
    | halt x w' => exact h.elim
    | ok x w' =>
      cases x <;> first
        | exact h
        | exact Calls.mono h (fun e w' ⟨v, e1, e2⟩ => by subst e1; exact e2)
        | (simp only [hcs]; exact h.2)
        | exact h.elim
def zQK : CX → Exit → Prop
  | .normal, .normal => True
  | .exit i, .exit j => i = j
  | .ret, .ret => True
  | _, _ => False
section
variable {F N : Nat} {call : yI} {ψ : Psi} {tm : Tm} {ds : xT} {h : Heap} {n : Key} {a : Act} {w : World} {dl : List (Option Nat)} {es : List CV}
def ju (P : Program) (F N : Nat) (ψ : Psi) (h : Heap) (n : Key) (w : World) (dl : List (Option Nat)) (k : KE) (r : R) (a' : Act) (w' : World) : Prop :=
  ∃ es' tm' ds' h' n' ψ', St P F N ψ' tm' ds' h' n' a' w' ∧ vY ψ' dl es' a' ∧ zq ψ (Heap.fam h) n w ψ' (Heap.fam h') n' w' ∧ zW (k es' tm' ds' h' n') ∧
    ∀ (O : R → Prop), (∀ x y, O x → O (.fork x y)) → (∀ x y, O y → O (.fork x y)) → O (k es' tm' ds' h' n') → O r
theorem ju.forkL {k : KE} {r s : R} {a' : Act} {w' : World} (hx : ju P F N ψ h n w dl k r a' w') : ju P F N ψ h n w dl k (.fork r s) a' w' := by
  obtain ⟨es', tm', ds', h', n', ψ', h1, h2, h3, h4, h5⟩ := hx
  exact ⟨es', tm', ds', h', n', ψ', h1, h2, h3, h4, fun O f1 f2 ho => f1 _ _ (h5 O f1 f2 ho)⟩
theorem ju.forkR {k : KE} {r s : R} {a' : Act} {w' : World} (hx : ju P F N ψ h n w dl k s a' w') : ju P F N ψ h n w dl k (.fork r s) a' w' := by
  obtain ⟨es', tm', ds', h', n', ψ', h1, h2, h3, h4, h5⟩ := hx
  exact ⟨es', tm', ds', h', n', ψ', h1, h2, h3, h4, fun O f1 f2 ho => f2 _ _ (h5 O f1 f2 ho)⟩
theorem jc {k : KE} {o : Oper} {d : Option Loc} {v : CV} {x : Value} {ψ' : Psi} {h' : Heap} {n' : Key} {w' : World} (hst : St P F N ψ tm ds h n a w) (hev : vY ψ dl es a) (hd : xC F N o.dst = some d)
    (hp : zq ψ (Heap.fam h) n w ψ' (Heap.fam h') n' w') (hv : zJ ψ' v x) (hc : zW (zu d v tm fun tm => k (v :: es) tm ds h' n')) :
    ju P F N ψ h n w (o.dst :: dl) k (zu d v tm fun tm => k (v :: es) tm ds h' n') (a.put o.dst x) w' := by
  rw [zp] at hc ⊢
  refine ⟨v :: es, _, ds, h', n', ψ', ⟨zLB (hst.frame.mono hp.ext) hd hv, ?_, hp.rel, hst.glob.mono hp.ext, hp.fresh hst.fresh⟩, zOE hst.frame.size (hev.mono hp.ext) hd hv, hp, hc, fun O _ _ ho => ho⟩
  rw [uv]
  exact hst.dfr.mono hp.ext
theorem zDC {k : KE} {o : Oper} {d : Option Loc} {x : Value} {w' : World} (hst : St P F N ψ tm ds h n a w) (hev : vY ψ dl es a) (hd : xC F N o.dst = some d) :
    ∀ {r : R}, zf ψ (Heap.fam h) n w r x w' → zW (qb (fun v h n => zu d v tm fun tm => k (v :: es) tm ds h n) r) →
      ju P F N ψ h n w (o.dst :: dl) k (qb (fun v h n => zu d v tm fun tm => k (v :: es) tm ds h n) r) (a.put o.dst x) w'
  | .ok .., hr, _ => hr.elim
  | .err _, hr, _ => hr.elim
  | .ret cv h' n', hr, hc => by
    obtain ⟨ψ', hp, hv⟩ := hr
    exact jc hst hev hd hp hv hc
  | .fork r s, hr, hc => by
    rcases hr with hr | hr
    · exact ju.forkL (zDC hst hev hd hr hc.1)
    · exact ju.forkR (zDC hst hev hd hr hc.2)
theorem xd {o : Oper} {w' : World} {x : Value} (hv : jj P a.eval o.op o.type w w' x) {K : Act → World → Prop} {rc : Bool} (hk : K (a.put o.dst x) w') : wA P rc o a w K := by
  obtain ⟨nx, h1, h2⟩ := hv
  have h1 : (execOp a.eval o).run P w = .ok nx w' := h1
  unfold wA
  rw [h1]
  rcases h2 with rfl | ⟨rfl, rfl⟩
  · exact hk
  · exact hk
theorem we (hcall : yN P call) {k : KE} (hk : ∀ es tm ds h n, ze n (k es tm ds h n)) {o : Oper} {d : Option Loc} (hst : St P F N ψ tm ds h n a w) (hev : vY ψ dl es a)
    (hd : xC F N o.dst = some d) {rc : Bool} (hrc : zCy o.op = true → rc = true) : ∀ (r : OR), zC P ψ h n a.eval o.op o.type w r → zD n r → zW (after r call k d es tm ds h n) →
      wA P rc o a w (ju P F N ψ h n w (o.dst :: dl) k (after r call k d es tm ds h n))
  | .val v, hs, _, hc => by
    obtain ⟨x, h1, h2⟩ := hs
    exact xd h1 (jc hst hev hd (zq.refl hst.rel) h2 hc)
  | .read v, hs, _, hc => by
    obtain ⟨x, h1, h2⟩ := hs hst.rel.on
    exact xd h1 (jc hst hev hd (zq.refl hst.rel) h2 hc)
  | .alloc ob v, hs, _, hc => by
    obtain ⟨w', x, sz, h1, h2, h3, _⟩ := hs
    have hroom : n.succ.room := by
      have hc' : zW (zu d v tm fun tm => k (v :: es) tm ds (yv (some ob) n h) n.succ) := hc
      rw [zp] at hc'
      exact kr hc' (hk _ _ _ _ _)
    have hr := Key.room_of_succ hroom
    have hnone := hst.fresh n (Nat.le_refl _)
    have hle := Psi.le_upd (ψ := ψ) (k := n) ⟨w.heap.size, 0, sz, fun n => n⟩ hnone
    obtain ⟨h4, h5⟩ := h3 _ hle (Psi.upd_same _ _ _)
    have hp := kT hst.rel hr hnone h2 h5
    rw [← zz] at hp
    exact xd h1 (jc hst hev hd hp h4 hc)
  | .eff v h' n', hs, ha, hc => by
    have hroom : n'.room := by
      have hc' : zW (zu d v tm fun tm => k (v :: es) tm ds h' n') := hc
      rw [zp] at hc'
      exact kr hc' (hk _ _ _ _ _)
    obtain ⟨w', x, ψ', h1, h2, h3⟩ := hs hst.rel (fun q hq _ => hst.fresh q hq) hroom
    exact xd h1 (jc hst hev hd h2 h3 hc)
  | .call f args, hs, _, hc => by
    obtain ⟨args', h1, h2⟩ := hs hst.rel.on
    have hc' : zW (qb (fun v h n => zu d v tm fun tm => k (v :: es) tm ds h n) (call false f args h n)) := hc
    have hcl := qW (fun v h n => by rw [zp]; exact hk _ _ _ _ _) hc'
    have hcalls := hcall.calls f args h n ψ w args' h2 hst.glob hst.rel hst.fresh hcl
    have hn := fun (x : Value) (w' : World) hr => zDC (k := k) (o := o) (x := x) (w' := w') hst hev hd (r := call false f args h n) hr hc'
    have h1 : (execOp a.eval o).run P w = (callFunc f args').run P w := h1
    unfold wA
    rw [h1]
    unfold yP at hcalls
    generalize (callFunc f args').run P w = r at hcalls ⊢
    cases r with
    | halt x w' => exact hcalls.elim
    | ok x w' =>
      cases x <;> first
        | exact hn _ _ hcalls
        | exact Calls.mono hcalls fun e w' ⟨v, e1, e2⟩ => ⟨v, e1, hn v w' e2⟩
        | exact hcalls.elim
  | .dfr f args, hs, _, hc => by
    obtain ⟨dd, fv, cap, args', h1, h2, h3, h4⟩ := hs
    have h1 : (execOp a.eval o).run P w = .ok (.defer dd) w := h1
    unfold wA
    rw [h1]
    have hc' : zW (zu d .undef tm fun tm => k (.undef :: es) tm ((f, args) :: ds) h n) := hc
    show ju P F N ψ h n w (o.dst :: dl) k (zu d .undef tm fun tm => k (.undef :: es) tm ((f, args) :: ds) h n) ({ a with defers := dd :: a.defers }.put o.dst undef) w
    refine jc (a := { a with defers := dd :: a.defers }) (ds := (f, args) :: ds) ⟨⟨hst.frame.size, hst.frame.tmp⟩, ⟨dd, a.defers, rfl, ⟨fv, cap, args', h2, h3, h4⟩, hst.dfr⟩, hst.rel, hst.glob, hst.fresh⟩ hev hd (zq.refl hst.rel) qd hc'
  | .recov, hs, _, hc => by
    obtain ⟨h0, h1⟩ := hs
    have h1 : (execOp a.eval o).run P w = .ok .recover w := h1
    unfold wA
    rw [h1]
    exact ⟨hrc h0, jc hst hev hd (zq.refl hst.rel) (z8.2 rfl) hc⟩
  | .err _, _, _, hc => hc.elim
  | .fork r s, hs, ha, hc => by
    rcases hs hst.rel with hs | hs
    · exact wA.mono (fun _ _ h => ju.forkL h) (we hcall hk hst hev hd hrc r hs ha.1 hc.1)
    · exact wA.mono (fun _ _ h => ju.forkR h) (we hcall hk hst hev hd hrc s hs ha.2 hc.2)
end
end
end Go.Ev

namespace Go.Ev
variable [Sym]
noncomputable section
variable {P : Program}
variable [SymFact P]
theorem zE0 {ψ : Psi} {ops : Array Oper} {o : Oper} {j t : Nat} {wnt : Bool} {a : Act} {c : CV} (hg : o.guard = some (j, wnt)) (ht : (ops[j]?).bind (·.dst) = some t) (hc : zJ ψ c (a.tmps.getD t undef)) :
    (qv wnt c = true → Region.wanted o (yielded ops a.tmps) = true) ∧ (qv wnt c = false → jq c = true → Region.wanted o (yielded ops a.tmps) = false) := by
  have hw : Region.wanted o (yielded ops a.tmps) = (yielded ops a.tmps j == some wnt) := by unfold Region.wanted; rw [hg]
  have hy : yielded ops a.tmps j = (match a.tmps[t]? with | some (.bool b) => some b | _ => none) := by unfold yielded; rw [ht]; rfl
  have hget : ∀ b, a.tmps.getD t undef = .bool b → a.tmps[t]? = some (.bool b) := by
    intro b h
    rw [Array.getD_eq_getD_getElem?] at h
    cases hq : a.tmps[t]? with
    | none => rw [hq] at h; cases h
    | some v => rw [hq] at h; exact congrArg some h
  rw [hw, hy]
  constructor
  · intro hb
    unfold qv at hb
    split at hb
    · rename_i b
      rw [zH] at hc
      rw [hget _ hc]
      cases b <;> cases wnt <;> simp_all
    · cases hb
  · intro hb hn
    cases hq : a.tmps[t]? with
    | none => rfl
    | some v =>
      have hv : a.tmps.getD t undef = v := by rw [Array.getD_eq_getD_getElem?, hq]; rfl
      rw [hv] at hc
      cases v <;> try rfl
      rename_i b
      have hb' : c = .bool b ∨ c = .any := by
        cases c
        case bool b' => rw [zH] at hc; injection hc with hc; subst hc; exact .inl rfl
        case any => exact .inr rfl
        case nat => rw [zU] at hc; cases hc
        case int => rw [zc] at hc; cases hc
        case anyi => rw [yC] at hc; obtain ⟨_, hc⟩ := hc; cases hc
        case str => rw [zh] at hc; obtain ⟨_, hc, _⟩ := hc; cases hc
        case big => rw [qN] at hc; obtain ⟨_, hc, _⟩ := hc; cases hc
        case nilptr => rw [yx] at hc; cases hc
        case ptr => rw [zj] at hc; obtain ⟨_, _, hc⟩ := hc; cases hc
        case nilsl => rw [zl] at hc; cases hc
        case sl => rw [zw] at hc; obtain ⟨_, _, _, _, hc, _⟩ := hc; cases hc
        case sst => rw [xI] at hc; obtain ⟨_, hc, _⟩ := hc; cases hc
        case win => rw [qV] at hc; obtain ⟨_, _, _, _, _, hc, _⟩ := hc; cases hc
        case nilmap => rw [zt] at hc; cases hc
        case map => rw [yY] at hc; obtain ⟨_, _, hc⟩ := hc; cases hc
        case func => rw [yk] at hc; obtain ⟨_, _, hc, _⟩ := hc; cases hc
        case nilfunc => rw [yi] at hc; cases hc
        case iface => rw [z7] at hc; obtain ⟨_, hc, _⟩ := hc; cases hc
        case niliface => rw [z8] at hc; cases hc
        case agg => rw [yU] at hc; obtain ⟨_, hc, _⟩ := hc; cases hc
        case sym i => rw [yh] at hc; rcases Sym.one i with ⟨_, _, e⟩ | ⟨_, e⟩ <;> rw [e] at hc <;> cases hc
        case tup => rw [z6] at hc; obtain ⟨_, hc, _⟩ := hc; cases hc
      rcases hb' with rfl | rfl
      · cases b <;> cases wnt <;> first | rfl | cases hb
      · cases hn
section
variable {F N : Nat} {call : yI} {ops : Array Oper} {rc : Bool} {Q : Act → World → Prop} {W : List Nat → Act → World → Prop}
theorem zKQ {j : Nat} : (nth ops.toList j).bind (·.dst) = (ops[j]?).bind (·.dst) := by rw [yV, Array.getElem?_toList]
theorem zO8 (hcall : yN P call) (walk : zO9 P ops rc Q W) {k : KE} (hk : ∀ es tm ds h n, ze n (k es tm ds h n)) {ψ : Psi} {tm : Tm} {ds : xT} {h : Heap} {n : Key} {a : Act} {w : World} {dl : List (Option Nat)} {es : List CV}
    (hst : St P F N ψ tm ds h n a w) (hev : vY ψ dl es a) {i : Nat} {o : Oper} {rest : List Nat} (ho : ops[i]? = some o) (hrc : zCy o.op = true → rc = true)
    (hc : zW (zQl P call (wq P F N ops.toList dl o) k es tm ds h n))
    (hnext : ∀ a' w', ju P F N ψ h n w (o.dst :: dl) k (zQl P call (wq P F N ops.toList dl o) k es tm ds h n) a' w' → W rest a' w') : W (i :: rest) a w := by
  unfold wq at hc hnext
  cases hd : xC F N o.dst with
  | none => simp only [hd] at hc; exact hc.elim
  | some d =>
    simp only [hd] at hc hnext
    have hsim := fun (w : World) => zI1 (ψ := ψ) (h := h) (n := n) (es := es) (tm := tm) (ty := o.type) (w := w) (zGx a) o.op (zGj hst hev _)
    cases hg : o.guard with
    | none =>
      have hw : Region.wanted o (yielded ops a.tmps) = true := by unfold Region.wanted; rw [hg]
      simp only [hg] at hc hnext
      refine walk.step i o rest a w ho hw ?_
      cases d with
      | none =>
        have := we hcall hk hst hev hd hrc _ (hsim w) (kn _) hc
        exact wA.mono hnext this
      | some p =>
        have := we hcall hk hst hev hd hrc _ (hsim w) (kn _) hc
        exact wA.mono hnext this
    | some jw =>
      obtain ⟨j, wnt⟩ := jw
      simp only [hg] at hc hnext
      cases ht : (nth ops.toList j).bind (·.dst) with
      | none => simp only [ht] at hc; exact hc.elim
      | some t =>
        simp only [ht] at hc hnext
        cases hx : zb P ⟨F, N, dl⟩ (.tmp t) with
        | none => simp only [hx] at hc; exact hc.elim
        | some x =>
          simp only [hx] at hc hnext
          have hv := zGj hst hev [.tmp t] _ (by simp) _ hx
          have hv : zJ ψ (aV es tm x) (a.tmps.getD t undef) := hv
          rw [zKQ] at ht
          obtain ⟨w1, w2⟩ := zE0 hg ht hv
          have hc' : zW (Bool.rec (motive := fun _ => R)
            (Bool.rec (motive := fun _ => R) (.err 299) (zu d .undef tm fun tm => k (.undef :: es) tm ds h n) (jq (aV es tm x)))
            (after (yA P (za P ⟨F, N, dl⟩ o.op) es tm h n) call k d es tm ds h n) (qv wnt (aV es tm x))) := hc
          have hnext' : ∀ a' w', ju P F N ψ h n w (o.dst :: dl) k (Bool.rec (motive := fun _ => R)
            (Bool.rec (motive := fun _ => R) (.err 299) (zu d .undef tm fun tm => k (.undef :: es) tm ds h n) (jq (aV es tm x)))
            (after (yA P (za P ⟨F, N, dl⟩ o.op) es tm h n) call k d es tm ds h n) (qv wnt (aV es tm x))) a' w' → W rest a' w' := hnext
          cases hb : qv wnt (aV es tm x) with
          | true =>
            rw [hb] at hc' hnext'
            refine walk.step i o rest a w ho (w1 hb) ?_
            exact wA.mono hnext' (we hcall hk hst hev hd hrc _ (hsim w) (kn _) hc')
          | false =>
            rw [hb] at hc' hnext'
            cases hn : jq (aV es tm x) with
            | false => rw [hn] at hc'; exact hc'.elim
            | true =>
              rw [hn] at hc' hnext'
              exact walk.skip i o rest a w ho (w2 hb hn) (hnext' _ _ (jc hst hev hd (zq.refl hst.rel) qd hc'))
theorem zG5 (hcall : yN P call) (walk : zO9 P ops rc Q W) : ∀ (rest : List Oper) (i : Nat) {ψ : Psi} {tm : Tm} {ds : xT} {h : Heap} {n : Key} {a : Act} {w : World} {dl : List (Option Nat)} {es : List CV},
    ops.toList.drop i = rest → (∀ o ∈ rest, zCy o.op = true → rc = true) → St P F N ψ tm ds h n a w → vY ψ dl es a →
    zW (yd P call (qa P F N ops.toList dl rest) es tm ds h n) →
    (∀ tm' ds' h' n' ψ' a' w', St P F N ψ' tm' ds' h' n' a' w' → zq ψ (Heap.fam h) n w ψ' (Heap.fam h') n' w' → n'.room →
      (∀ (O : R → Prop), (∀ x y, O x → O (.fork x y)) → (∀ x y, O y → O (.fork x y)) → O (.ok .normal tm' ds' h' n') → O (yd P call (qa P F N ops.toList dl rest) es tm ds h n)) → Q a' w') →
    W (List.range' i rest.length) a w
  | [], i, ψ, tm, ds, h, n, a, w, dl, es, _, _, hst, hev, hc, hQ => walk.nil a w (hQ tm ds h n ψ a w hst (zq.refl hst.rel) hc fun O _ _ ho => ho)
  | o :: rest, i, ψ, tm, ds, h, n, a, w, dl, es, hi, hrc, hst, hev, hc, hQ => by
    have ho : ops[i]? = some o := by
      rw [← Array.getElem?_toList]
      have : (ops.toList.drop i)[0]? = some o := by rw [hi]; rfl
      rw [List.getElem?_drop] at this
      exact this
    have hrest : ops.toList.drop (i + 1) = rest := by
      have := congrArg (List.drop 1) hi
      rw [List.drop_drop] at this
      exact this
    rw [List.length_cons, List.range'_succ]
    refine zO8 hcall walk (k := yd P call (qa P F N ops.toList (o.dst :: dl) rest)) (fun es tm ds h n => jJ hcall.above _ es tm ds h n) hst hev ho (hrc o (by simp)) hc fun a' w' hn => ?_
    obtain ⟨es', tm', ds', h', n', ψ', h1, h2, h3, h4, h5⟩ := hn
    refine zG5 hcall walk rest (i + 1) hrest (fun o ho => hrc o (by simp [ho])) h1 h2 h4 fun tm'' ds'' h'' n'' ψ'' a'' w'' g1 g2 g3 g4 => ?_
    exact hQ tm'' ds'' h'' n'' ψ'' a'' w'' g1 (h3.trans g2) g3 fun O f1 f2 ho => h5 O f1 f2 (g4 O f1 f2 ho)
end
end
end Go.Ev

namespace Go.Ev
variable [Sym]
noncomputable section
variable {P : Program}
variable [SymFact P]
theorem xr {n : Key} {k : K} (hk : ∀ tm ds h n, ze n (k tm ds h n)) : ∀ {r : R}, ze n r → ze n (xZ k r)
  | .ok .normal tm ds h n', ha => ze.le ha (hk tm ds h n')
  | .ok (.exit _) _ _ _ _, ha => ha
  | .ok .ret _ _ _ _, ha => ha
  | .ret .., _ => trivial
  | .err _, _ => trivial
  | .fork _ _, h => ⟨xr hk h.1, xr hk h.2⟩
theorem xG {k : K} (hk : ∀ tm ds h n, ze n (k tm ds h n)) : ∀ {r : R}, zW (xZ k r) → zW r
  | .ok .normal tm ds h n', hc => kr hc (hk tm ds h n')
  | .ok (.exit _) _ _ _ _, hc => hc
  | .ok .ret _ _ _ _, hc => hc
  | .ret .., hc => hc.elim
  | .err _, hc => hc.elim
  | .fork _ _, h => ⟨xG hk h.1, xG hk h.2⟩
theorem uD (id i : Nat) (tm : Tm) (ds : xT) (h : Heap) (n : Key) : wG id (.ok (.exit i) tm ds h n) = if i = id then .ok .normal tm ds h n else .ok (.exit i) tm ds h n := by
  show Bool.rec (motive := fun _ => R) (.ok (.exit i) tm ds h n) (.ok .normal tm ds h n) (Nat.beq i id) = _
  by_cases e : i = id
  · subst e; rw [qU, if_pos rfl]
  · rw [kS e, if_neg e]
theorem vO {n : Key} (id : Nat) : ∀ {r : R}, ze n r → ze n (wG id r)
  | .ok .normal _ _ _ _, ha => ha
  | .ok (.exit i) _ _ _ _, ha => by rw [uD]; split <;> exact ha
  | .ok .ret _ _ _ _, ha => ha
  | .ret .., _ => trivial
  | .err _, _ => trivial
  | .fork _ _, h => ⟨vO id h.1, vO id h.2⟩
theorem qE (id : Nat) : ∀ {r : R}, zW (wG id r) → zW r
  | .ok .normal _ _ _ _, ha => ha
  | .ok (.exit i) _ _ _ _, ha => by rw [uD] at ha; split at ha <;> exact ha
  | .ok .ret _ _ _ _, ha => ha
  | .ret .., h => h.elim
  | .err _, h => h.elim
  | .fork _ _, h => ⟨qE id h.1, qE id h.2⟩
theorem zDk {C : K → Prop} {a b : K} (v : CV) (ht : v = .bool true → C a) (hf : v = .bool false → C b) (he : C fun _ _ _ _ => .err 302) : C (zGc a b v) := by
  unfold zGc
  split
  · exact ht rfl
  · exact hf rfl
  · exact he
section
variable {call : yI} (hcall : ym call)
include hcall
theorem zIT {k : KD} (hk : ∀ es hs tm ds h n, ze n (k es hs tm ds h n)) (d : Option Loc) (es : List CV) (hs : List Heap) (tm : Tm) (ds : xT) (h : Heap) (n : Key) (r : OR) (ho : zD n r) :
    ze n (zIS call d k r es hs tm ds h n) := by
  cases r with
  | val v => show ze n (zu _ _ _ _); rw [zp]; exact hk _ _ _ _ _ _
  | read v => show ze n (zu _ _ _ _); rw [zp]; exact hk _ _ _ _ _ _
  | alloc o v => show ze n (zu _ _ _ _); rw [zp]; exact ze.le (Key.ix_le_succ n) (hk _ _ _ _ _ _)
  | eff v h' n' => show ze n (zu _ _ _ _); rw [zp]; exact ze.le ho (hk _ _ _ _ _ _)
  | call f args => exact qY (k := fun v h' n' => zu d v tm fun tm => k (v :: es) (h :: hs) tm ds h' n') (fun v h n => by rw [zp]; exact hk _ _ _ _ _ _) (hcall _ _ _ _ _)
  | dfr f args => trivial
  | recov => trivial
  | err _ => trivial
  | fork a b => trivial
omit hcall in
theorem zLi {k : KD} (hk : ∀ es hs tm ds h n, ze n (k es hs tm ds h n)) (op : COp) (d : Option Loc) (chk : Nat) (es : List CV) (hs : List Heap) (tm : Tm) (ds : xT) (h : Heap) (n : Key) (r : OR) :
    ze n (dNo P op d chk k r es hs tm ds h n) := by
  cases r with
  | val v => show ze n (zu _ _ _ _); rw [zp]; exact hk _ _ _ _ _ _
  | read v =>
    show ze n (match qX P op es tm n v chk hs with
      | true => zu d v tm fun tm => k (v :: es) hs tm ds h n
      | false => .err 311)
    split
    · rw [zp]; exact hk _ _ _ _ _ _
    · trivial
  | alloc o v => show ze n (zu _ _ _ _); rw [zp]; exact ze.le (Key.ix_le_succ n) (hk _ _ _ _ _ _)
  | eff v h' n' => trivial
  | call f args => trivial
  | dfr f args => trivial
  | recov => trivial
  | err _ => trivial
  | fork a b => trivial
theorem zCa {k : KD} (hk : ∀ es hs tm ds h n, ze n (k es hs tm ds h n)) (op : COp) (d : Option Loc) (e : Bool) (chk : Nat) (es : List CV) (hs : List Heap) (tm : Tm) (ds : xT) (h : Heap) (n : Key) :
    ze n (dOp P call op d e chk k es hs tm ds h n) := by
  unfold dOp
  split
  · exact zIT hcall hk d es hs tm ds h n _ (kn op)
  · exact zLi hk op d chk es hs tm ds h n _
theorem zG3 : ∀ (l : List zMa) (es : List CV) (hs : List Heap) (tm : Tm) (ds : xT) (h : Heap) (n : Key), ze n (evD P call l es hs tm ds h n)
  | [], _, _, _, _, _, _ => Nat.le_refl _
  | i :: l, es, hs, tm, ds, h, n => by
    unfold evD
    have ih := fun es hs tm ds h n => zG3 l es hs tm ds h n
    split
    · exact zCa hcall ih _ _ _ _ _ _ _ _ _ _
    · exact zCa hcall ih _ _ _ _ _ _ _ _ _ _
    · split
      · exact zCa hcall ih _ _ _ _ _ _ _ _ _ _
      · split
        · unfold zC9
          rw [zp]; exact ih _ _ _ _ _ _
        · trivial
theorem yM : ∀ (c : CCode) (tm : Tm) (ds : xT) (h : Heap) (n : Key), ze n (zd P call c tm ds h n)
  | .skip, _, _, _, _ => Nat.le_refl _
  | .region ops, tm, ds, h, n => jJ hcall ops [] tm ds h n
  | .dregion ops, tm, ds, h, n => zG3 hcall ops [] [] tm ds h n
  | .seq a b, tm, ds, h, n => xr (fun tm ds h n => yM b tm ds h n) (yM a tm ds h n)
  | .cond x a b, tm, ds, h, n => by
    exact zDk (C := fun k => ze n (k tm ds h n)) _ (fun _ => yM a tm ds h n) (fun _ => yM b tm ds h n) trivial
  | .block id b, tm, ds, h, n => vO id (yM b tm ds h n)
  | .loop b, tm, ds, h, n => by
    show ze n (uk uC (zd P call b) tm ds h n)
    have : ∀ (fuel : Nat) (tm : Tm) (ds : xT) (h : Heap) (n : Key), ze n (uk fuel (zd P call b) tm ds h n) := by
      intro fuel
      induction fuel with
      | zero => intros; trivial
      | succ m ih => intro tm ds h n; exact xr ih (yM b tm ds h n)
    exact this _ _ _ _ _
  | .exit _, _, _, _, _ => Nat.le_refl _
  | .ret, _, _, _, _ => Nat.le_refl _
  | .scope b, tm, ds, h, n => yM b tm ds h n
  | .bad _, _, _, _, _ => trivial
end
def ya (P : Program) (F N : Nat) (ψ₀ : Psi) (g₀ : Fam) (n₀ : Key) (w₀ : World) : R → Exit → Act → World → Prop
  | .ok cx tm ds h n, e, a, w => zQK cx e ∧ ∃ ψ, St P F N ψ tm ds h n a w ∧ zq ψ₀ g₀ n₀ w₀ ψ (Heap.fam h) n w ∧ n.room
  | .fork r s, e, a, w => ya P F N ψ₀ g₀ n₀ w₀ r e a w ∨ ya P F N ψ₀ g₀ n₀ w₀ s e a w
  | _, _, _, _ => False
section
variable {F N : Nat} {ψ₀ ψ₁ : Psi} {g₀ g₁ : Fam} {n₀ n₁ : Key} {w₀ w₁ : World}
theorem ya.trans (hp : zq ψ₀ g₀ n₀ w₀ ψ₁ g₁ n₁ w₁) {e : Exit} {a : Act} {w : World} : ∀ {r : R}, ya P F N ψ₁ g₁ n₁ w₁ r e a w → ya P F N ψ₀ g₀ n₀ w₀ r e a w
  | .ok .., ⟨h1, ψ, h2, h3, h4⟩ => ⟨h1, ψ, h2, hp.trans h3, h4⟩
  | .ret .., h => h
  | .err _, h => h
  | .fork _ _, h => h.imp (ya.trans hp) (ya.trans hp)
theorem qi {k : K} {e : Exit} {a : Act} {w : World} : ∀ {r : R}, zW (xZ k r) → ya P F N ψ₀ g₀ n₀ w₀ r e a w →
    (e = .normal ∧ ∃ tm ds h n ψ, St P F N ψ tm ds h n a w ∧ zq ψ₀ g₀ n₀ w₀ ψ (Heap.fam h) n w ∧ zW (k tm ds h n) ∧
      ∀ e' a' w', ya P F N ψ₀ g₀ n₀ w₀ (k tm ds h n) e' a' w' → ya P F N ψ₀ g₀ n₀ w₀ (xZ k r) e' a' w') ∨
    (e ≠ .normal ∧ ya P F N ψ₀ g₀ n₀ w₀ (xZ k r) e a w)
  | .ok .normal tm ds h n, hc, ⟨h1, ψ, h2, h3, h4⟩ => by
    cases e <;> first | exact h1.elim | skip
    exact .inl ⟨rfl, tm, ds, h, n, ψ, h2, h3, hc, fun e' a' w' ho => ho⟩
  | .ok (.exit i) tm ds h n, hc, ⟨h1, ψ, h2, h3, h4⟩ => .inr ⟨by rintro rfl; exact h1.elim, h1, ψ, h2, h3, h4⟩
  | .ok .ret tm ds h n, hc, ⟨h1, ψ, h2, h3, h4⟩ => .inr ⟨by rintro rfl; exact h1.elim, h1, ψ, h2, h3, h4⟩
  | .ret .., hc, _ => hc.elim
  | .err _, hc, _ => hc.elim
  | .fork r s, hc, ho => by
    rcases ho with ho | ho
    · rcases qi hc.1 ho with ⟨h1, tm, ds, h, n, ψ, h2, h3, h4, h5⟩ | ⟨h1, h2⟩
      · exact .inl ⟨h1, tm, ds, h, n, ψ, h2, h3, h4, fun e' a' w' q => .inl (h5 e' a' w' q)⟩
      · exact .inr ⟨h1, .inl h2⟩
    · rcases qi hc.2 ho with ⟨h1, tm, ds, h, n, ψ, h2, h3, h4, h5⟩ | ⟨h1, h2⟩
      · exact .inl ⟨h1, tm, ds, h, n, ψ, h2, h3, h4, fun e' a' w' q => .inr (h5 e' a' w' q)⟩
      · exact .inr ⟨h1, .inr h2⟩
theorem kb {id : Nat} {e : Exit} {a : Act} {w : World} {Q : Exit → Act → World → Prop} : ∀ {r : R}, (∀ e a w, ya P F N ψ₀ g₀ n₀ w₀ (wG id r) e a w → Q e a w) → ya P F N ψ₀ g₀ n₀ w₀ r e a w → Exit.inBlock id Q e a w
  | .ok .normal tm ds h n, hq, ⟨h1, ψ, h2, h3, h4⟩ => by
    cases e <;> first | exact h1.elim | skip
    exact hq .normal a w ⟨trivial, ψ, h2, h3, h4⟩
  | .ok (.exit i) tm ds h n, hq, ⟨h1, ψ, h2, h3, h4⟩ => by
    cases e <;> first | exact h1.elim | skip
    rename_i j
    have h1 : i = j := h1
    subst h1
    rw [uD] at hq
    unfold Exit.inBlock
    simp only
    split
    · rename_i e
      rw [if_pos e] at hq
      exact hq .normal a w ⟨trivial, ψ, h2, h3, h4⟩
    · rename_i e
      rw [if_neg e] at hq
      exact hq (.exit i) a w ⟨rfl, ψ, h2, h3, h4⟩
  | .ok .ret tm ds h n, hq, ⟨h1, ψ, h2, h3, h4⟩ => by
    cases e <;> first | exact h1.elim | skip
    exact hq .ret a w ⟨trivial, ψ, h2, h3, h4⟩
  | .ret .., _, ho => ho.elim
  | .err _, _, ho => ho.elim
  | .fork r s, hq, ho => by
    rcases ho with ho | ho
    · exact kb (fun e a w h => hq e a w (.inl h)) ho
    · exact kb (fun e a w h => hq e a w (.inr h)) ho
theorem u6 {Q : Exit → Act → World → Prop} {e : Exit} {a : Act} {w : World} : ∀ {r : R}, (ya P F N ψ₀ g₀ n₀ w₀ r e a w → Q e a w) → ya P F N ψ₀ g₀ n₀ w₀ r e a w → Exit.noGoto Q e a w
  | .ok cx tm ds h n, hq, ho => by
    cases e <;> first | exact hq ho | (cases cx <;> exact ho.1.elim)
  | .ret .., _, ho => ho.elim
  | .err _, _, ho => ho.elim
  | .fork r s, hq, ho => by
    rcases ho with ho | ho
    · exact u6 (fun h => hq (.inl h)) ho
    · exact u6 (fun h => hq (.inr h)) ho
end
theorem zHW (call : yI) (b : CCode) : zd P call (.loop b) = uk uC (zd P call b) := rfl
theorem zEU (F N : Nat) (b : Code) : zG P F N (.loop b) = .loop (zG P F N b) := rfl
def uF (P : Program) (c : Code) (Q : Exit → Act → World → Prop) (a : Act) (w : World) : Prop :=
  ∀ (b : Frame) (k : List Item) (cs : List Frame), ∃ e a' w', Q e a' w' ∧ Arrives P (lone (b.at a (.code c :: .inLoop c :: k)) cs w) b k cs e a' w'
theorem zFg {c : Code} {Q : Exit → Act → World → Prop} {a : Act} {w : World} (h : c.wp P (Exit.then (uF P c Q) Q) a w) : uF P c Q a w := by
  intro b k cs
  obtain ⟨e, a₁, w₁, hq, harr⟩ := h b (.inLoop c :: k) cs
  cases e with
  | normal =>
    obtain ⟨e₂, a₂, w₂, hq₂, harr₂⟩ := hq b k cs
    exact ⟨e₂, a₂, w₂, hq₂, .of_steps (Steps.trans harr (.one step_inLoop)) harr₂⟩
  | exit id => exact ⟨_, a₁, w₁, hq, .pass (x := .inLoop c) rfl (fun _ _ => .inl (by simp)) harr⟩
  | goto l => exact ⟨_, a₁, w₁, hq, .pass (x := .inLoop c) rfl (fun _ _ => .inl (by simp)) harr⟩
  | ret => exact ⟨_, a₁, w₁, hq, .pass (x := .inLoop c) rfl (fun _ _ => .inl (by simp)) harr⟩
  | panic ch => exact ⟨_, a₁, w₁, hq, .pass (x := .inLoop c) rfl (fun _ _ => .inl (by simp)) harr⟩
  | outgrown => exact ⟨_, a₁, w₁, hq, .pass (x := .inLoop c) rfl (fun _ _ => .inl (by simp)) harr⟩
theorem zD5 {c : Code} {Q : Exit → Act → World → Prop} {a : Act} {w : World} (h : uF P c Q a w) : (Code.loop c).wp P Q a w := by
  intro b k cs
  obtain ⟨e, a', w', hq, harr⟩ := h b k cs
  exact ⟨e, a', w', hq, .of_steps (.one step_loop) harr⟩
def qC (P : Program) (F N : Nat) (call : yI) : Prop := ∀ (id : Nat) (ops : Array Oper) (ψ : Psi) (tm : Tm) (ds : xT) (h : Heap) (n : Key) (a : Act) (w : World), zDr ops.toList = true →
  St P F N ψ tm ds h n a w → zW (zd P call (zBx P F N ops.toList) tm ds h n) →
  (Code.region id ops true).wp P (ya P F N ψ (Heap.fam h) n w (zd P call (zBx P F N ops.toList) tm ds h n)) a w
theorem zHO (l : List Oper) (h : zDr l = true) : ∀ o ∈ l, zCy o.op = false := by
  induction l with
  | nil => intro o ho; cases ho
  | cons x l ih =>
    intro o ho
    unfold zDr at h
    rw [Bool.and_eq_true] at h
    rcases List.mem_cons.1 ho with rfl | ho
    · have := h.1
      cases hr : zCy o.op with
      | false => rfl
      | true => rw [hr] at this; cases this
    · exact ih h.2 o ho
theorem qt {F N : Nat} {call : yI} (hcall : yN P call) (hdraw : qC P F N call) : ∀ (c : Code) {ψ : Psi} {tm : Tm} {ds : xT} {h : Heap} {n : Key} {a : Act} {w : World},
    zi c = true → St P F N ψ tm ds h n a w → zW (zd P call (zG P F N c) tm ds h n) → c.wp P (ya P F N ψ (Heap.fam h) n w (zd P call (zG P F N c) tm ds h n)) a w := by
  intro c
  induction c with
  | skip => intro ψ tm ds h n a w _ hst hc; exact wp_skip ⟨trivial, ψ, hst, zq.refl hst.rel, hc⟩
  | label l => intro ψ tm ds h n a w _ hst hc; exact wp_label ⟨trivial, ψ, hst, zq.refl hst.rel, hc⟩
  | region id ops dr =>
    intro ψ tm ds h n a w hnr hst hc
    cases dr with
    | true => exact hdraw id ops ψ tm ds h n a w hnr hst hc
    | false =>
      refine wp_region ?_
      have hc' : zW (yd P call (qa P F N ops.toList [] ops.toList) [] tm ds h n) := hc
      have := zG5 (F := F) (N := N) hcall (zIM (P := P) ops (ya P F N ψ (Heap.fam h) n w (yd P call (qa P F N ops.toList [] ops.toList) [] tm ds h n)))
        ops.toList 0 rfl (fun o ho hr => by rw [zHO _ hnr o ho] at hr; cases hr) hst (dl := []) (es := []) (fun t i hi => by cases hi) hc'
        (fun tm' ds' h' n' ψ' a' w' g1 g2 g3 g4 => g4 (fun r => ya P F N ψ (Heap.fam h) n w r .normal a' w') (fun _ _ h => .inl h) (fun _ _ h => .inr h) ⟨trivial, ψ', g1, g2, g3⟩)
      rw [Array.length_toList] at this
      rw [List.range_eq_range']
      exact this
  | seq x y ihx ihy =>
    intro ψ tm ds h n a w hnr hst hc
    have hnr : zi x = true ∧ zi y = true := by simpa [zi] using hnr
    have hc : zW (xZ (zd P call (zG P F N y)) (zd P call (zG P F N x) tm ds h n)) := hc
    have hab := fun tm ds h n => yM (P := P) hcall.above (zG P F N y) tm ds h n
    refine wp_seq (wp_mono (ihx hnr.1 hst (xG hab hc)) fun e a' w' ho => ?_)
    rcases qi hc ho with ⟨rfl, tm', ds', h', n', ψ', h2, h3, h4, h5⟩ | ⟨h1, h2⟩
    · exact wp_mono (ihy hnr.2 h2 h4) fun e'' a'' w'' ho' => h5 e'' a'' w'' (ya.trans h3 ho')
    · cases e <;> first | exact absurd rfl h1 | exact h2
  | cond x p q ihp ihq =>
    intro ψ tm ds h n a w hnr hst hc
    have hnr : zi p = true ∧ zi q = true := by simpa [zi] using hnr
    unfold zG at hc ⊢
    cases hx : zb P ⟨F, N, []⟩ x with
    | none => simp only [hx] at hc; exact hc.elim
    | some cx =>
      simp only [hx] at hc ⊢
      have hv := zGj hst (dl := []) (es := []) (fun t i hi => by cases hi) [x] x (by simp) cx hx
      have hc : zW (zGc (zd P call (zG P F N p)) (zd P call (zG P F N q)) (aV [] tm cx) tm ds h n) := hc
      show (Code.cond x p q).wp P (ya P F N ψ (Heap.fam h) n w (zGc (zd P call (zG P F N p)) (zd P call (zG P F N q)) (aV [] tm cx) tm ds h n)) a w
      revert hc
      refine zDk (C := fun k => zW (k tm ds h n) → (Code.cond x p q).wp P (ya P F N ψ (Heap.fam h) n w (k tm ds h n)) a w) _ (fun e hc => ?_) (fun e hc => ?_) (fun hc => hc.elim)
      · rw [e] at hv
        exact wp_cond_true (zH.1 hv) (ihp hnr.1 hst hc)
      · rw [e] at hv
        exact wp_cond_false (zH.1 hv) (ihq hnr.2 hst hc)
  | block id b ih =>
    intro ψ tm ds h n a w hnr hst hc
    have hc : zW (wG id (zd P call (zG P F N b) tm ds h n)) := hc
    refine wp_block (wp_mono (ih hnr hst (qE id hc)) fun e a' w' ho => ?_)
    exact kb (fun _ _ _ h => h) ho
  | loop b ih =>
    intro ψ tm ds h n a w hnr hst hc
    rw [zEU, zHW] at hc ⊢
    have main : ∀ (fuel : Nat) {ψ : Psi} {tm : Tm} {ds : xT} {h : Heap} {n : Key} {a : Act} {w : World}, St P F N ψ tm ds h n a w → zW (uk fuel (zd P call (zG P F N b)) tm ds h n) →
        uF P b (ya P F N ψ (Heap.fam h) n w (uk fuel (zd P call (zG P F N b)) tm ds h n)) a w := by
      intro fuel
      induction fuel with
      | zero => intro ψ tm ds h n a w _ hc; exact hc.elim
      | succ m ihm =>
        intro ψ tm ds h n a w hst hc
        have hc : zW (xZ (uk m (zd P call (zG P F N b))) (zd P call (zG P F N b) tm ds h n)) := hc
        have hab : ∀ tm ds h n, ze n (uk m (zd P call (zG P F N b)) tm ds h n) := by
          have : ∀ (fuel : Nat) (tm : Tm) (ds : xT) (h : Heap) (n : Key), ze n (uk fuel (zd P call (zG P F N b)) tm ds h n) := by
            intro fuel
            induction fuel with
            | zero => intros; trivial
            | succ m ih => intro tm ds h n; exact xr ih (yM hcall.above _ tm ds h n)
          exact this m
        refine zFg (wp_mono (ih hnr hst (xG hab hc)) fun e a' w' ho => ?_)
        rcases qi hc ho with ⟨rfl, tm', ds', h', n', ψ', h2, h3, h4, h5⟩ | ⟨h1, h2⟩
        · intro b' k cs
          obtain ⟨e, a'', w'', hq, harr⟩ := ihm h2 h4 b' k cs
          exact ⟨e, a'', w'', h5 e a'' w'' (ya.trans h3 hq), harr⟩
        · cases e <;> first | exact absurd rfl h1 | exact h2
    exact zD5 (main uC hst hc)
  | exit id => intro ψ tm ds h n a w _ hst hc; exact wp_exit ⟨rfl, ψ, hst, zq.refl hst.rel, hc⟩
  | ret => intro ψ tm ds h n a w _ hst hc; exact wp_ret ⟨trivial, ψ, hst, zq.refl hst.rel, hc⟩
  | scope b ih =>
    intro ψ tm ds h n a w hnr hst hc
    exact wp_scope_straight (wp_mono (ih hnr hst hc) fun e a' w' ho => u6 (fun h => h) ho)
  | _ => intro ψ tm ds h n a w _ hst hc; exact hc.elim
end
end Go.Ev

namespace Go.Ev
variable [Sym]
noncomputable section
variable {P : Program}
variable [SymFact P]
theorem uB {F N : Nat} {ψ : Psi} {tm : Tm} {a : Act} {t : Nat} {x : zR} (hf : yq ψ F N tm a) (hx : zb P ⟨F, N, []⟩ (.tmp t) = some x) : zJ ψ (aV [] tm x) (a.tmps.getD t undef) := by
  unfold zb y6 at hx
  simp only at hx
  split at hx
  · rename_i hb
    injection hx with hx; subst hx
    rw [Bool.and_eq_true, Bool.and_eq_true] at hb
    exact hf.tmp t hb.1.1 (zM hb.1.2) (zM hb.2)
  · cases hx
theorem zCj {ψ : Psi} {h : Heap} {w : World} (hrel : qA ψ (Heap.fam h) w) {b : Key} {p : Pl} {vs : List CV} (hp : ψ b = some p) (hv : uW h b = some vs) : zBT ψ w p vs := by
  unfold uW at hv
  split at hv
  · rename_i q hq; injection hv with hv; subst hv; exact yR.toRo (hrel b _ p hq hp)
  · rename_i q hq; injection hv with hv; subst hv; exact hrel b _ p hq hp
  · cases hv
def zIg (tmps : Array Value) : ResultVar → Sem Value
  | .tmp t => pure (tmps.getD t undef)
  | .cell a t => do loadVar t (← asAddr (tmps.getD a undef))
theorem zNl {F N : Nat} {ψ : Psi} {tm : Tm} {a : Act} {h : Heap} {w : World} (hf : yq ψ F N tm a) (hrel : qA ψ (Heap.fam h) w) {r : ResultVar} {c : CRes} {v : CV} (hc : xD P F N r = some c)
    (hv : zNh h tm c = some v) : ∃ x, (zIg a.tmps r).run P w = .ok x w ∧ zJ ψ v x := by
  unfold xD at hc
  split at hc
  · rename_i t
    cases hx : zb P ⟨F, N, []⟩ (.tmp t) with
    | none => rw [hx] at hc; cases hc
    | some x =>
      rw [hx] at hc
      injection hc with hc; subst hc
      injection hv with hv; subst hv
      exact ⟨_, rfl, uB hf hx⟩
  · rename_i t ty
    split at hc
    · rename_i s x ha hs hx
      injection hc with hc; subst hc
      have hr := uB hf hx
      unfold zNh at hv
      simp only at hv
      split at hv
      · rename_i b off he
        rw [he, zj] at hr
        obtain ⟨p, hp, hr⟩ := hr
        split at hv
        · rename_i cs hcs
          have hcells := zCj hrel hp hcs
          cases hl : uj cs off s with
          | none => rw [hl] at hv; cases hv
          | some l =>
            rw [hl] at hv
            injection hv with hv; subst hv
            obtain ⟨xs, hrun, hxs⟩ := xN (P := P) hcells hl
            exact ⟨.agg xs.toArray, by simp only [zIg, hr, asAddr, Sem.run_bind, Sem.run_pure, Result.andThen_ok, loadVar, qj ha, if_true, yT hs, hrun], yU.2 ⟨_, rfl, by simpa using hxs⟩⟩
        · cases hv
      · cases hv
    · rename_i s x ha hs hx
      injection hc with hc; subst hc
      have hr := uB hf hx
      unfold zNh at hv
      simp only at hv
      split at hv
      · rename_i b off he
        rw [he, zj] at hr
        obtain ⟨p, hp, hr⟩ := hr
        split at hv
        · rename_i cs hcs
          have hcells := zCj hrel hp hcs
          rw [k8] at hv
          obtain ⟨y, hrun, hy⟩ := zBL (P := P) hcells hv
          exact ⟨y, by simp only [zIg, hr, asAddr, Sem.run_bind, Sem.run_pure, Result.andThen_ok, loadVar, qj ha, Bool.false_eq_true, if_false, hrun], hy⟩
        · cases hv
      · cases hv
    · cases hc
theorem zDG {F N : Nat} {ψ : Psi} {tm : Tm} {a : Act} {h : Heap} {w : World} (hf : yq ψ F N tm a) (hrel : qA ψ (Heap.fam h) w) : ∀ {l : List ResultVar} {cs : List CRes} {vs : List CV},
    yo (xD P F N) l = some cs → zBt h tm cs = some vs → ∃ xs, (l.mapM (zIg a.tmps)).run P w = .ok xs w ∧ zS ψ vs xs
  | [], cs, vs, hc, hv => by
    injection hc with hc; subst hc
    injection hv with hv; subst hv
    exact ⟨[], rfl, zL.2 rfl⟩
  | r :: l, cs, vs, hc, hv => by
    unfold yo at hc
    cases h1 : xD P F N r with
    | none => rw [h1] at hc; cases hc
    | some c =>
      simp only [h1] at hc
      cases h2 : yo (xD P F N) l with
      | none => rw [h2] at hc; cases hc
      | some cs' =>
        simp only [h2] at hc
        injection hc with hc; subst hc
        unfold zBt at hv
        cases h3 : zNh h tm c with
        | none => rw [h3] at hv; cases hv
        | some v =>
          simp only [h3] at hv
          cases h4 : zBt h tm cs' with
          | none => rw [h4] at hv; cases hv
          | some vs' =>
            simp only [h4] at hv
            injection hv with hv; subst hv
            obtain ⟨x, g1, g2⟩ := zNl hf hrel h1 h3
            obtain ⟨xs, g3, g4⟩ := zDG hf hrel h2 h4
            exact ⟨x :: xs, by simp only [List.mapM_cons, Sem.run_bind, g1, Result.andThen_ok, g3, Sem.run_pure], zT.2 ⟨g2, g4⟩⟩
theorem zCc {F N : Nat} {ψ : Psi} {tm : Tm} {a : Act} {h : Heap} {w : World} {fn : Func} (hf : yq ψ F N tm a) (hrel : qA ψ (Heap.fam h) w) {cs : List CRes} {v : CV}
    (hc : yo (xD P F N) fn.results.toList = some cs) (hv : zA5 h tm cs = some v) : ∃ x, (results fn a.tmps).run P w = .ok x w ∧ zJ ψ v x := by
  have hm : ∀ {xs : List Value}, (fn.results.toList.mapM (zIg a.tmps)).run P w = .ok xs w → (fn.results.mapM (zIg a.tmps)).run P w = .ok xs.toArray w := by
    intro xs hx
    rw [Array.mapM_eq_mapM_toList, Sem.run_map, hx]; rfl
  have hres : (results fn a.tmps).run P w = ((fn.results.mapM (zIg a.tmps)).run P w).andThen fun vs w => .ok (if h : vs.size = 1 then vs[0] else .tuple vs) w := by
    have : results fn a.tmps = (fn.results.mapM (zIg a.tmps) >>= fun vs => pure (if h : vs.size = 1 then vs[0] else .tuple vs)) := by
      unfold results
      congr 1
    rw [this, Sem.run_bind]; rfl
  unfold zA5 at hv
  split at hv
  · rename_i u hl
    injection hv with hv; subst hv
    obtain ⟨xs, h1, h2⟩ := zDG hf hrel hc hl
    obtain ⟨x, r, rfl, h3, h4⟩ := zX.1 h2
    rw [zL] at h4; subst h4
    exact ⟨x, by rw [hres, hm h1, Result.andThen_ok]; rfl, h3⟩
  · rename_i vs hne hl
    injection hv with hv; subst hv
    obtain ⟨xs, h1, h2⟩ := zDG hf hrel hc hl
    refine ⟨.tuple xs.toArray, ?_, z6.2 ⟨_, rfl, h2⟩⟩
    rw [hres, hm h1, Result.andThen_ok]
    have : ¬ (xs.toArray.size = 1) := by
      intro h
      have hl := h2.length
      have : vs.length = 1 := by simp at h; omega
      match vs, this with
      | [u], _ => exact hne u rfl
    rw [dif_neg this]
  · cases hv
theorem zHz {i j : Nat} (hi : i ≤ 271) (hj : j ≤ 271) (h : i ≠ j) : Loc.ofNat i ≠ Loc.ofNat j := fun e => h (Loc.ofNat_inj hi hj e)
theorem zFD {ψ : Psi} : ∀ (args : List CV) (as : List Value) (i : Nat) (tm : Tm) (t : Nat) (v : Value), zS ψ args as → t ≤ 271 → (t < i ∨ i + as.length ≤ t → zJ ψ (qK (Loc.ofNat t) tm) v) → (∀ u, i ≤ t → as[t - i]? = some u → u = v) →
    (i ≤ t → qK (Loc.ofNat t) tm = .any) → zJ ψ (qK (Loc.ofNat t) (xy args i tm)) v
  | [], as, i, tm, t, v, ha, ht, h1, h2, h3 => by
    rw [zL] at ha; subst ha
    show zJ ψ (qK (Loc.ofNat t) tm) v
    rcases Nat.lt_or_ge t i with h | h
    · exact h1 (.inl h)
    · exact h1 (.inr (by simpa using h))
  | c :: args, as, i, tm, t, v, ha, ht, h1, h2, h3 => by
    obtain ⟨x, r, rfl, hx, hr⟩ := zX.1 ha
    unfold xy
    split
    · rename_i hle
      have hle := zM hle
      refine zFD args r (i + 1) (kP c (Loc.ofNat i) tm) t v hr ht (fun h => ?_) (fun u hu hg => ?_) (fun hu => ?_)
      · by_cases e : t = i
        · subst e
          rw [qo]
          have : x = v := h2 x (Nat.le_refl _) (by simp)
          rw [← this]; exact hx
        · rw [xK _ _ _ _ (zHz ht hle e)]
          refine h1 ?_
          rcases h with h | h
          · exact .inl (by omega)
          · exact .inr (by simp; omega)
      · refine h2 u (by omega) ?_
        have : t - i = (t - (i + 1)) + 1 := by omega
        rw [this]; simpa using hg
      · rw [xK _ _ _ _ (zHz ht hle (by omega))]
        exact h3 (by omega)
    · rename_i hle
      have hlt : ¬ i ≤ 271 := fun h => by rw [Nat.ble_eq_true_of_le h] at hle; cases hle
      exact h1 (.inl (by omega))
theorem zMJ {ψ : Psi} {F N : Nat} {args : List CV} {as : Array Value} (ha : zS ψ args as.toList) : yq ψ F N (xy args 0 .nil) { tmps := as ++ Array.replicate (N - as.size) undef, defers := [] } := by
  refine ⟨by simp; omega, fun t _ ht hN => ?_⟩
  refine zFD args as.toList 0 .nil t _ ha ht (fun _ => by rw [zDZ]; exact qP) (fun u _ hu => ?_) (fun _ => zDZ _)
  simp only [Nat.sub_zero, Array.getElem?_toList] at hu
  have hlt : t < as.size := by
    rcases Nat.lt_or_ge t as.size with h | h
    · exact h
    · rw [Array.getElem?_eq_none h] at hu; cases hu
  rw [Array.getD_eq_getD_getElem?, Array.getElem?_append_left hlt, hu]; rfl
theorem zAl {rs : List CRes} {tm : Tm} {h : Heap} {n : Key} : ze n (zB7 rs tm h n) := by
  unfold zB7; split
  · exact Nat.le_refl _
  · trivial
theorem zAT {call : yI} {k : Heap → Key → R} {f : FuncId} {args : List CV} {r : xT} {h : Heap} {n : Key} :
    kh call k ((f, args) :: r) h n = qb (fun _ h n => kh call k r h n) (call true f args h n) := rfl
theorem wM {call : yI} (hcall : ym call) {k : Heap → Key → R} (hk : ∀ h n, ze n (k h n)) : ∀ (ds : xT) (h : Heap) (n : Key), ze n (kh call k ds h n)
  | [], h, n => hk h n
  | (f, args) :: r, h, n => by
    rw [zAT]
    exact qY (fun _ h n => wM hcall hk r h n) (hcall _ _ _ _ _)
theorem k4 {call : yI} (hcall : ym call) (d : Bool) (rs : List CRes) (tm : Tm) (ds : xT) (h : Heap) (n : Key) : ze n (qs d call rs tm ds h n) := by
  unfold qs
  split
  · exact zAl
  · split
    · exact wM hcall (fun _ _ => zAl) _ _ _
    · trivial
theorem jU {call : yI} (hcall : ym call) {n : Key} (d : Bool) (rs : List CRes) : ∀ {r : R}, ze n r → ze n (yX d call rs r)
  | .ok .normal tm ds h n', ha => ze.le ha (k4 hcall d rs tm ds h n')
  | .ok (.exit _) .., _ => trivial
  | .ok .ret tm ds h n', ha => ze.le ha (k4 hcall d rs tm ds h n')
  | .ret .., _ => trivial
  | .err _, _ => trivial
  | .fork _ _, h => ⟨jU hcall d rs h.1, jU hcall d rs h.2⟩
theorem yp {call : yI} (hcall : ym call) (d : Bool) (rs : List CRes) : ∀ {r : R}, zW (yX d call rs r) → zW r
  | .ok .normal tm ds h n', hc => kr hc (k4 hcall d rs tm ds h n')
  | .ok (.exit _) .., hc => hc.elim
  | .ok .ret tm ds h n', hc => kr hc (k4 hcall d rs tm ds h n')
  | .ret .., hc => hc.elim
  | .err _, hc => hc.elim
  | .fork _ _, h => ⟨yp hcall d rs h.1, yp hcall d rs h.2⟩
section
variable {F N : Nat} {call : yI} {fn : Func} {ψ₀ : Psi} {g₀ : Fam} {n₀ : Key} {w₀ : World}
theorem zf.trans {ψ₁ : Psi} {g₁ : Fam} {n₁ : Key} {w₁ : World} (hp : zq ψ₀ g₀ n₀ w₀ ψ₁ g₁ n₁ w₁) {v : Value} {w : World} : ∀ {r : R}, zf ψ₁ g₁ n₁ w₁ r v w → zf ψ₀ g₀ n₀ w₀ r v w
  | .ok .., h => h
  | .ret .., ⟨ψ, h1, h2⟩ => ⟨ψ, hp.trans h1, h2⟩
  | .err _, h => h
  | .fork _ _, h => h.imp (zf.trans hp) (zf.trans hp)
theorem vv {k : CV → Heap → Key → R} {v : Value} {w : World} {Z : Prop} : ∀ {r : R}, zW (qb k r) → zf ψ₀ g₀ n₀ w₀ r v w →
    (∀ cv h n ψ, zq ψ₀ g₀ n₀ w₀ ψ (Heap.fam h) n w → zJ ψ cv v → zW (k cv h n) → (∀ u w', zf ψ₀ g₀ n₀ w₀ (k cv h n) u w' → zf ψ₀ g₀ n₀ w₀ (qb k r) u w') → Z) → Z
  | .ok .., _, h, _ => h.elim
  | .err _, _, h, _ => h.elim
  | .ret cv h n, hc, ⟨ψ, h1, h2⟩, hz => hz cv h n ψ h1 h2 hc fun _ _ h => h
  | .fork r s, hc, h, hz => by
    rcases h with h | h
    · exact vv hc.1 h fun cv h n ψ a b c d => hz cv h n ψ a b c fun u w' q => .inl (d u w' q)
    · exact vv hc.2 h fun cv h n ψ a b c d => hz cv h n ψ a b c fun u w' q => .inr (d u w' q)
theorem qH {tmps : Array Value} {R R' : Ending → World → Prop} (hR : ∀ e w, R e w → R' e w) : ∀ (ds : List Deferred) (u : FrameMode) (w : World), Leaves P fn tmps R ds u w → Leaves P fn tmps R' ds u w
  | [], .returning, w, ⟨v, h1, h2⟩ => ⟨v, h1, hR _ _ h2⟩
  | [], .panicking _, w, h => hR _ _ h
  | [], .run, w, h => h
  | d :: ds, u, w, ⟨h0, fv, cap, f, args, h1, h2, h3⟩ => ⟨h0, fv, cap, f, args, h1, h2, CallsD.mono h3 fun e u' w' he => by
      cases e with
      | returned v => exact qH hR ds _ _ he
      | panicked c => exact qH hR ds _ _ he
      | outgrown => exact hR _ _ he⟩
theorem zCk (hcall : yN P call) {rs : List CRes} {tm : Tm} (hrs : yo (xD P F N) fn.results.toList = some rs) : ∀ (ds : xT) {ψ : Psi} {h : Heap} {n : Key} {a : Act} {w : World} {l : List Deferred},
    yq ψ F N tm a → jT P ψ ds l → Rel ψ (Heap.fam h) w → kf P ψ → xv ψ n → zW (kh call (fun h n => zB7 rs tm h n) ds h n) →
    Leaves P fn a.tmps (fun e w' => ∃ v, e = .returned v ∧ zf ψ (Heap.fam h) n w (kh call (fun h n => zB7 rs tm h n) ds h n) v w') l .returning w
  | [], ψ, h, n, a, w, l, hf, hd, hrel, hg, hfr, hc => by
    unfold jT at hd; subst hd
    have hc : zW (zB7 rs tm h n) := hc
    show ∃ v, (results fn a.tmps).run P w = .ok v w ∧ ∃ v', Ending.returned v = .returned v' ∧ zf ψ (Heap.fam h) n w (zB7 rs tm h n) v' w
    unfold zB7 at hc ⊢
    cases hv : zA5 h tm rs with
    | none => rw [hv] at hc; exact hc.elim
    | some v =>
      obtain ⟨x, h1, h2⟩ := zCc hf hrel.on hrs hv
      exact ⟨x, h1, x, rfl, ψ, zq.refl hrel, h2⟩
  | (f, args) :: r, ψ, h, n, a, w, l, hf, hd, hrel, hg, hfr, hc => by
    obtain ⟨d, l', rfl, ⟨fv, cap, args', e1, e2, e3⟩, hd'⟩ := hd
    rw [zAT] at hc ⊢
    have hcl := qW (fun _ h n => wM hcall.above (fun _ _ => zAl) r h n) hc
    obtain ⟨h1, h2⟩ := hcall.defers f args h n ψ w args' e3 hg hrel hfr hcl
    refine ⟨by simp, fv, cap, f, args', e1, by rw [e2, h1], CallsD.mono h2 fun e u w' ⟨hu, v, he, v', hr⟩ => ?_⟩
    subst hu he
    show Leaves P fn a.tmps _ l' (settle .returning) w'
    refine vv hc hr fun cv h' n' ψ' q1 q2 q3 q4 => ?_
    have := zCk hcall hrs r (hf.mono q1.ext) (hd'.mono q1.ext) q1.rel (hg.mono q1.ext) (q1.fresh hfr) q3
    refine qH (fun e w'' ⟨v, he, hr⟩ => ⟨v, he, q4 _ _ (zf.trans q1 hr)⟩) _ _ _ this
theorem zBz (hcall : yN P call) {rs : List CRes} (hrs : yo (xD P F N) fn.results.toList = some rs) {ψ : Psi} {tm : Tm} {ds : xT} {h : Heap} {n : Key} {a : Act} {w : World}
    (hst : St P F N ψ tm ds h n a w) (hc : zW (qs false call rs tm ds h n)) :
    Leaves P fn a.tmps (fun e w' => ∃ v, e = .returned v ∧ zf ψ (Heap.fam h) n w (qs false call rs tm ds h n) v w') a.defers .returning w := by
  have e : qs false call rs tm ds h n = kh call (fun h n => zB7 rs tm h n) ds h n := by cases ds <;> rfl
  rw [e] at hc ⊢
  exact zCk hcall hrs ds hst.frame hst.dfr hst.rel hst.glob hst.fresh hc
theorem zDs {rs : List CRes} (hrs : yo (xD P F N) fn.results.toList = some rs) {ψ : Psi} {tm : Tm} {ds : xT} {h : Heap} {n : Key} {a : Act} {w : World}
    (hst : St P F N ψ tm ds h n a w) (hc : zW (qs true call rs tm ds h n)) :
    a.defers = [] ∧ ∃ v, (results fn a.tmps).run P w = .ok v w ∧ zf ψ (Heap.fam h) n w (qs true call rs tm ds h n) v w := by
  cases ds with
  | cons f ds => exact hc.elim
  | nil =>
    have hd := hst.dfr
    unfold jT at hd
    refine ⟨hd, ?_⟩
    have hc : zW (zB7 rs tm h n) := hc
    show ∃ v, _ ∧ zf ψ (Heap.fam h) n w (zB7 rs tm h n) v w
    unfold zB7 at hc ⊢
    cases hv : zA5 h tm rs with
    | none => rw [hv] at hc; exact hc.elim
    | some v =>
      obtain ⟨x, h1, h2⟩ := zCc hst.frame hst.rel.on hrs hv
      exact ⟨x, h1, ψ, zq.refl hst.rel, h2⟩
theorem jQ (d : Bool) (rs : List CRes) {e : Exit} {a : Act} {w : World} {Z : Prop} : ∀ {r : R}, zW (yX d call rs r) → ya P F N ψ₀ g₀ n₀ w₀ r e a w →
    (∀ tm ds h n ψ, (e = .normal ∨ e = .ret) → St P F N ψ tm ds h n a w → zq ψ₀ g₀ n₀ w₀ ψ (Heap.fam h) n w → zW (qs d call rs tm ds h n) →
      (∀ u w', zf ψ₀ g₀ n₀ w₀ (qs d call rs tm ds h n) u w' → zf ψ₀ g₀ n₀ w₀ (yX d call rs r) u w') → Z) → Z
  | .ok .normal tm ds h n, hc, ⟨h1, ψ, h2, h3, h4⟩, hz => hz tm ds h n ψ (by cases e <;> first | exact .inl rfl | exact h1.elim) h2 h3 hc fun _ _ h => h
  | .ok (.exit _) .., hc, _, _ => hc.elim
  | .ok .ret tm ds h n, hc, ⟨h1, ψ, h2, h3, h4⟩, hz => hz tm ds h n ψ (by cases e <;> first | exact .inr rfl | exact h1.elim) h2 h3 hc fun _ _ h => h
  | .ret .., hc, _, _ => hc.elim
  | .err _, hc, _, _ => hc.elim
  | .fork r s, hc, ho, hz => by
    rcases ho with ho | ho
    · exact jQ d rs hc.1 ho fun tm ds h n ψ a b c d e => hz tm ds h n ψ a b c d fun u w' q => .inl (e u w' q)
    · exact jQ d rs hc.2 ho fun tm ds h n ψ a b c d e => hz tm ds h n ψ a b c d fun u w' q => .inr (e u w' q)
end
end
end Go.Ev

namespace Go.Ev
variable [Sym]
noncomputable section
variable {P : Program}
variable [SymFact P]
structure NatsOk (P : Program) (nat : Nats) : Prop where
  above : ∀ f g, nat f = some g → ∀ d args h n, ze n (g ‹Sym› d args h n)
  calls : ∀ f g, nat f = some g → ∀ args h n ψ w args', zS ψ args args'.toList → kf P ψ → Rel ψ (Heap.fam h) w → xv ψ n → zW (g ‹Sym› false args h n) →
    yP P f args' w (zf ψ (Heap.fam h) n w (g ‹Sym› false args h n))
  defers : ∀ f g, nat f = some g → ∀ args h n ψ w args', zS ψ args args'.toList → kf P ψ → Rel ψ (Heap.fam h) w → xv ψ n → zW (g ‹Sym› true args h n) →
    zDj P f args' w fun w' => ∃ v, zf ψ (Heap.fam h) n w (g ‹Sym› true args h n) v w'
omit [Sym] [SymFact P] in
theorem run_callFunc_enter {f : FuncId} {fn : Func} {c : Code} (hf : P.funcs[f]? = some fn) (hn : (fn.name == "runtime.NumGoroutine") = false) (hb : fn.body = some c) (args : Array Value) (w : World) :
    (callFunc f args).run P w = .ok (.enter f args) w := by
  have h1 : fn.name ≠ "runtime.NumGoroutine" := by simpa using hn
  simp [callFunc, hf, h1, hb]
section
variable {call : yI} (hcall : yN P call) (hdraw : ∀ F N, qC P F N call)
include hcall
theorem zJa (e : Ext) (args : List CV) (h : Heap) (n : Key) : ze n (zNM (zAu e args h n) h n) := by
  have := zJB (h := h) (n := n) e args
  generalize zAu e args h n = r at this
  cases r <;> first | exact Nat.le_refl _ | exact this | trivial
theorem zH1 (d : Bool) (fn : CFn) (args : List CV) (h : Heap) (n : Key) : ze n (uq P d call fn args h n) := by
  cases fn with
  | mk body res => exact jU hcall.above d res (yM hcall.above body _ _ h n)
  | mkD ops body res =>
    show ze n (match d with
      | true => yX true call res (xZ (zd P call body) (yd P call ops [] (xy args 0 .nil) [] h n))
      | false => .err 311)
    cases d with
    | true => exact jU hcall.above true res (xr (fun tm ds h n => yM hcall.above body tm ds h n) (jJ hcall.above ops [] _ _ h n))
    | false => trivial
  | ext e =>
    show ze n (match d with
      | true => .err 313
      | false => zNM (zAu e args h n) h n)
    cases d with
    | true => trivial
    | false => exact zJa hcall e args h n
  | bad c => trivial
include hdraw
theorem zA0 {F N : Nat} {args : List CV} {args' : Array Value} {h : Heap} {n : Key} {ψ : Psi} {w : World} (ha : zS ψ args args'.toList) (hg : kf P ψ) (hrel : Rel ψ (Heap.fam h) w) (hfr : xv ψ n) :
    St P F N ψ (xy args 0 .nil) [] h n { tmps := args' ++ Array.replicate (N - args'.size) undef, defers := [] } w :=
  ⟨zMJ ha, rfl, hrel, hg, hfr⟩
theorem zCm {f : FuncId} {args : List CV} {args' : Array Value} {h : Heap} {n : Key} {ψ : Psi} {w : World} (ha : zS ψ args args'.toList) (hg : kf P ψ) (hrel : Rel ψ (Heap.fam h) w) (hfr : xv ψ n)
    (hc : zW (uq P false call (compFn P f) args h n)) : yP P f args' w (zf ψ (Heap.fam h) n w (uq P false call (compFn P f) args h n)) := by
  unfold compFn at hc ⊢
  rw [yV] at hc ⊢
  cases hf : P.funcs.toList[f]? with
  | none => simp only [hf] at hc; exact hc.elim
  | some fn =>
    have hf' : P.funcs[f]? = some fn := by simpa using hf
    simp only [hf] at hc ⊢
    cases hb : fn.body with
    | none =>
      simp only [hb] at hc ⊢
      cases he : zBi P fn with
      | none => simp only [he] at hc; exact hc.elim
      | some e =>
        simp only [he] at hc ⊢
        obtain ⟨en, h1, h2, h3, h4⟩ := zDA he
        have hout := zJ5 (P := P) (h := h) (n := n) (w := w) he h1 ha
        have hrun := run_callFunc_extern (P := P) hf' h2 (by rw [hb]; rfl) h3 h4 args' w
        have hc : zW (zNM (zAu e args h n) h n) := hc
        show yP P f args' w (zf ψ (Heap.fam h) n w (zNM (zAu e args h n) h n))
        have hoa := zJB (h := h) (n := n) e args
        generalize zAu e args h n = r at hout hc hoa
        unfold yP
        cases r <;> first | exact hout.elim | exact hc.elim | skip
        case val v =>
          obtain ⟨x, g1, g2⟩ := hout
          rw [hrun, g1]
          exact ⟨ψ, zq.refl hrel, g2⟩
        case eff v h' n' =>
          obtain ⟨w', x, ψ', g1, g2, g3⟩ := hout hrel (fun k hk _ => hfr k hk) hc
          rw [hrun, g1]
          exact ⟨ψ', g2, g3⟩
    | some c =>
      simp only [hb] at hc ⊢
      split at hc
      · exact hc.elim
      · rename_i hn
        have hn : (fn.name == "runtime.NumGoroutine") = false := by simpa using hn
        rw [if_neg (by rw [hn]; simp)]
        unfold zAB at hc ⊢
        cases hrs : yo (xD P (yw fn c) fn.ntmps) fn.results.toList with
        | none => simp only [hrs] at hc; exact hc.elim
        | some rs =>
          simp only [hrs] at hc ⊢
          split at hc
          · rename_i hnr
            rw [if_pos hnr]
            unfold yP
            rw [run_callFunc_enter hf' hn hb]
            have hc : zW (yX false call rs (zd P call (zG P (yw fn c) fn.ntmps c) (xy args 0 .nil) [] h n)) := hc
            show Calls P f args' w fun e w'' => ∃ v, e = .returned v ∧ zf ψ (Heap.fam h) n w (yX false call rs (zd P call (zG P (yw fn c) fn.ntmps c) (xy args 0 .nil) [] h n)) v w''
            refine calls_of_wp_defers hf' hb (wp_mono (qt hcall (hdraw _ _) c hnr (zA0 hcall hdraw ha hg hrel hfr) (yp hcall.above false rs hc)) fun e a w' ho => ?_)
            refine jQ false rs hc ho fun tm ds h' n' ψ' q1 q2 q3 q4 q5 => ?_
            have hl := zBz hcall hrs q2 q4
            have : Leaves P fn a.tmps (fun e w'' => ∃ v, e = .returned v ∧ zf ψ (Heap.fam h) n w (yX false call rs (zd P call (zG P (yw fn c) fn.ntmps c) (xy args 0 .nil) [] h n)) v w'') a.defers .returning w' :=
              qH (fun e w'' ⟨v, he, hr⟩ => ⟨v, he, q5 _ _ (zf.trans q3 hr)⟩) _ _ _ hl
            rcases q1 with rfl | rfl
            · exact this
            · exact this
          · rename_i hnr
            split at hc
            · split at hc <;> exact hc.elim
            · exact hc.elim
theorem zAt {f : FuncId} {args : List CV} {args' : Array Value} {h : Heap} {n : Key} {ψ : Psi} {w : World} (ha : zS ψ args args'.toList) (hg : kf P ψ) (hrel : Rel ψ (Heap.fam h) w) (hfr : xv ψ n)
    (hc : zW (uq P true call (compFn P f) args h n)) : zDj P f args' w fun w' => ∃ v, zf ψ (Heap.fam h) n w (uq P true call (compFn P f) args h n) v w' := by
  unfold compFn at hc ⊢
  rw [yV] at hc ⊢
  cases hf : P.funcs.toList[f]? with
  | none => simp only [hf] at hc; exact hc.elim
  | some fn =>
    have hf' : P.funcs[f]? = some fn := by simpa using hf
    simp only [hf] at hc ⊢
    cases hb : fn.body with
    | none =>
      simp only [hb] at hc
      cases he : zBi P fn with
      | none => simp only [he] at hc; exact hc.elim
      | some e => simp only [he] at hc; exact hc.elim
    | some c =>
      simp only [hb] at hc ⊢
      split at hc
      · exact hc.elim
      · rename_i hn
        have hn : (fn.name == "runtime.NumGoroutine") = false := by simpa using hn
        rw [if_neg (by rw [hn]; simp)]
        unfold zAB at hc ⊢
        cases hrs : yo (xD P (yw fn c) fn.ntmps) fn.results.toList with
        | none => simp only [hrs] at hc; exact hc.elim
        | some rs =>
          simp only [hrs] at hc ⊢
          refine ⟨run_callFunc_enter hf' hn hb _ _, ?_⟩
          split at hc
          · rename_i hnr
            rw [if_pos hnr]
            have hc : zW (yX true call rs (zd P call (zG P (yw fn c) fn.ntmps c) (xy args 0 .nil) [] h n)) := hc
            show CallsD P f args' .returning w fun e u w' => u = .returning ∧ ∃ v, e = .returned v ∧ ∃ v, zf ψ (Heap.fam h) n w (yX true call rs (zd P call (zG P (yw fn c) fn.ntmps c) (xy args 0 .nil) [] h n)) v w'
            refine callsD_of_wp hf' hb (wp_mono (qt hcall (hdraw _ _) c hnr (zA0 hcall hdraw ha hg hrel hfr) (yp hcall.above true rs hc)) fun e a w' ho => ?_)
            refine jQ true rs hc ho fun tm ds h' n' ψ' q1 q2 q3 q4 q5 => ?_
            obtain ⟨g1, v, g2, g3⟩ := zDs (call := call) hrs q2 q4
            rcases q1 with rfl | rfl
            · exact ⟨g1, v, g2, v, rfl, v, q5 _ _ (zf.trans q3 g3)⟩
            · exact ⟨g1, v, g2, v, rfl, v, q5 _ _ (zf.trans q3 g3)⟩
          · rename_i hnr
            rw [if_neg hnr]
            split at hc
            · rename_i c0 id ops r
              split at hc
              · rename_i hnr'
                rw [if_pos hnr']
                have hc : zW (yX true call rs (xZ (zd P call (zG P (yw fn (.seq (.region id ops false) r)) fn.ntmps r))
                  (yd P call (qa P (yw fn (.seq (.region id ops false) r)) fn.ntmps ops.toList [] ops.toList) [] (xy args 0 .nil) [] h n))) := hc
                generalize hF : yw fn (.seq (.region id ops false) r) = F at hc hrs
                show CallsD P f args' .returning w fun e u w' => u = .returning ∧ ∃ v, e = .returned v ∧ ∃ v, zf ψ (Heap.fam h) n w (yX true call rs (xZ (zd P call (zG P F fn.ntmps r))
                  (yd P call (qa P F fn.ntmps ops.toList [] ops.toList) [] (xy args 0 .nil) [] h n))) v w'
                have hc1 := yp hcall.above true rs hc
                have hab := fun tm ds h n => yM (P := P) hcall.above (zG P F fn.ntmps r) tm ds h n
                have hc2 := xG hab hc1
                refine callsD_of_wpS hf' hb fun c₀ cs hm => wpS_seq (wpS_region ?_)
                have hrec : recoverD (c₀ :: cs) = none := by unfold recoverD; simp [hm]
                have := zG5 (F := F) (N := fn.ntmps) hcall (zEN (P := P) ops (Exit.thenS (r.wpS P (bodyPostS P fn c₀ cs fun e u w' => u = .returning ∧ ∃ v, e = .returned v ∧ ∃ v, zf ψ (Heap.fam h) n w (yX true call rs (xZ (zd P call (zG P F fn.ntmps r))
                    (yd P call (qa P F fn.ntmps ops.toList [] ops.toList) [] (xy args 0 .nil) [] h n))) v w'))
                    (bodyPostS P fn c₀ cs fun e u w' => u = .returning ∧ ∃ v, e = .returned v ∧ ∃ v, zf ψ (Heap.fam h) n w (yX true call rs (xZ (zd P call (zG P F fn.ntmps r))
                    (yd P call (qa P F fn.ntmps ops.toList [] ops.toList) [] (xy args 0 .nil) [] h n))) v w')) hrec)
                  ops.toList 0 rfl (fun _ _ _ => rfl) (zA0 hcall hdraw (F := F) (N := fn.ntmps) ha hg hrel hfr) (dl := []) (es := []) (fun t i hi => by cases hi) hc2
                  (fun tm' ds' h' n' ψ' a' w' g1 g2 g3 g4 => by
                    have k1 := g4 (fun r0 => zW (yX true call rs (xZ (zd P call (zG P F fn.ntmps r)) r0)) → zW (yX true call rs (zd P call (zG P F fn.ntmps r) tm' ds' h' n')))
                      (fun x y hx hc => hx hc.1) (fun x y hy hc => hy hc.2) (fun h => h) hc
                    have k2 := g4 (fun r0 => ∀ u w'', zf ψ (Heap.fam h) n w (yX true call rs (zd P call (zG P F fn.ntmps r) tm' ds' h' n')) u w'' →
                        zf ψ (Heap.fam h) n w (yX true call rs (xZ (zd P call (zG P F fn.ntmps r)) r0)) u w'')
                      (fun x y hx u w'' q => .inl (hx u w'' q)) (fun x y hy u w'' q => .inr (hy u w'' q)) (fun u w'' q => q)
                    show r.wpS P _ a' (c₀ :: cs) w'
                    refine wpS_of_wp (wp_mono (qt hcall (hdraw F fn.ntmps) r hnr' g1 (yp hcall.above true rs k1)) fun e a w'' ho => ?_)
                    refine jQ true rs k1 ho fun tm ds h'' n'' ψ'' q1 q2 q3 q4 q5 => ?_
                    obtain ⟨g1', v, g2', g3'⟩ := zDs (call := call) hrs q2 q4
                    have hfin := k2 _ _ (zf.trans g2 (q5 _ _ (zf.trans q3 g3')))
                    have hm' : ({ c₀ with mode := .returning } : Frame) = c₀ := by rw [← hm]
                    rcases q1 with rfl | rfl
                    · exact ⟨g1', .returning, by rw [hm'], v, g2', rfl, v, rfl, v, hfin⟩
                    · exact ⟨g1', .returning, by rw [hm'], v, g2', rfl, v, rfl, v, hfin⟩)
                rw [Array.length_toList] at this
                rw [List.range_eq_range']
                exact this
              · exact hc.elim
            · exact hc.elim
end
def CodeOk (P : Program) (code : FuncId → CFn) : Prop := ∀ f, code f = compFn P f ∨ code f = zKR (compFn P f) ∨ ∃ c, code f = .bad c
theorem jb (hdraw : ∀ (call : yI), yN P call → ∀ F N, qC P F N call) {code : FuncId → CFn} (hcode : CodeOk P code) {nat : Nats} (hnat : NatsOk P nat) : ∀ (fuel : Nat), yN P (ev P code nat fuel)
  | 0 => ⟨fun _ _ _ _ _ => trivial, fun _ _ _ _ _ _ _ _ _ _ _ hc => hc.elim, fun _ _ _ _ _ _ _ _ _ _ _ hc => hc.elim⟩
  | fuel + 1 => by
    have ih := jb hdraw hcode hnat fuel
    have hev : ∀ d f args h n, ev P code nat (fuel + 1) d f args h n = (match nat f with
        | none => uq P d (ev P code nat fuel) (code f) args h n
        | some g => g ‹Sym› d args h n) := by
      intro d f args h n
      show Option.rec (motive := fun _ => R) (uq P d (ev P code nat fuel) (code f) args h n) (fun g => g ‹Sym› d args h n) (nat f) = _
      cases nat f <;> rfl
    refine ⟨fun d f args h n => ?_, fun f args h n ψ w args' h1 h2 h3 h4 hc => ?_, fun f args h n ψ w args' h1 h2 h3 h4 hc => ?_⟩
    · rw [hev]
      split
      · exact zH1 ih d _ args h n
      · rename_i g hg
        exact hnat.above f g hg d args h n
    · rw [hev] at hc ⊢
      split at hc
      · rename_i hn
        rcases hcode f with e | e | ⟨c, e⟩
        · rw [e] at hc ⊢
          exact zCm ih (hdraw _ ih) h1 h2 h3 h4 hc
        · rw [e, zFe] at hc ⊢
          exact zCm ih (hdraw _ ih) h1 h2 h3 h4 hc
        · rw [e] at hc; exact hc.elim
      · rename_i g hg
        exact hnat.calls f g hg args h n ψ w args' h1 h2 h3 h4 hc
    · rw [hev] at hc ⊢
      split at hc
      · rename_i hn
        rcases hcode f with e | e | ⟨c, e⟩
        · rw [e] at hc ⊢
          exact zAt ih (hdraw _ ih) h1 h2 h3 h4 hc
        · rw [e, zFe] at hc ⊢
          exact zAt ih (hdraw _ ih) h1 h2 h3 h4 hc
        · rw [e] at hc; exact hc.elim
      · rename_i g hg
        exact hnat.defers f g hg args h n ψ w args' h1 h2 h3 h4 hc
end
end Go.Ev


