/- A verified evaluator for the model's code: EvU, EvV, EvW, EvX, EvY, EvZ, EvZa, EvZb, EvZc, EvZd. -/
import Derived.Test.YtebfhilokhbfgaaGreatDoorEv4
import Derived.Laws.Externs
import Derived.KernelRfl
import Derived.Lib.Bytealg
import Derived.Recover
import Derived.Orders
import Derived.Scope
set_option linter.unusedSectionVars false
set_option linter.unusedVariables false
set_option linter.unusedSimpArgs false
namespace Go.Ev
variable [Sym]
open Go.MapKept
noncomputable section
variable {P : Program} {ψ : Psi} {es : List CV} {tm : Tm} {h : Heap} {n : Key} {ρ : Operand → Value} {E : Env} {ty : TypeId} {w : World}
variable [SymFact P]
theorem zMR {c : Call} {l : List Operand} (h : c.args.toList = l) : c.args.map ρ = (l.map ρ).toArray := by
  rw [uT h]; simp
theorem zGr (c : Call) (b : Builtin) (hc : c.callee = .builtin b) (ha : zg P ψ es tm E ρ c.args.toList) :
    zB P ψ h n ρ (.call c) ty w (yC P (xJ P E b c.argTypes.toList c.args.toList) es tm h n) := by
  have hrun := fun w => zA0 (P := P) (ρ := ρ) (ty := ty) hc w
  generalize hts : c.argTypes.toList = ts
  generalize has : c.args.toList = as at ha
  have hts' := uT hts
  have has' := zMR (ρ := ρ) has
  rw [has', hts'] at hrun
  cases b <;> try exact zA _
  case append =>
    match ts, as with
    | t :: u :: r, [s, x] => exact zHO (fun w => by rw [hrun w]; rfl) ha
    | _ :: _ :: _, [] => exact zA _
    | _ :: _ :: _, [_] => exact zA _
    | _ :: _ :: _, _ :: _ :: _ :: _ => exact zA _
    | [], _ => exact zA _
    | [_], _ => exact zA _
  case copy =>
    match ts, as with
    | t :: r, [s, x] => exact zKN (fun w => by rw [hrun w]; rfl) ha
    | _ :: _, [] => exact zA _
    | _ :: _, [_] => exact zA _
    | _ :: _, _ :: _ :: _ :: _ => exact zA _
    | [], _ => exact zA _
  case len =>
    match ts, as with
    | t :: r, [x] => exact zMz (fun w => by rw [hrun w]; rfl) ha
    | _ :: _, [] => exact zA _
    | _ :: _, _ :: _ :: _ => exact zA _
    | [], _ => exact zA _
  case cap =>
    match ts, as with
    | t :: r, [x] => exact zM2 (fun w => by rw [hrun w]; rfl) ha
    | _ :: _, [] => exact zA _
    | _ :: _, _ :: _ :: _ => exact zA _
    | [], _ => exact zA _
  case delete =>
    match ts, as with
    | t :: r, [m, k] => exact zIv (fun w => by rw [hrun w]; rfl) ha
    | _ :: _, [] => exact zA _
    | _ :: _, [_] => exact zA _
    | _ :: _, _ :: _ :: _ :: _ => exact zA _
    | [], _ => exact zA _
  case clear =>
    match ts, as with
    | t :: r, [x] => exact zKu (fun w => by rw [hrun w]; rfl) ha
    | _ :: _, [] => exact zA _
    | _ :: _, _ :: _ :: _ => exact zA _
    | [], _ => exact zA _
  case min =>
    match as with
    | x :: r => exact zC4 false (fun w => by rw [hrun w]; rfl) ha
    | [] => exact zA _
  case max =>
    match as with
    | x :: r => exact zC4 true (fun w => by rw [hrun w]; rfl) ha
    | [] => exact zA _
  case recover =>
    match as with
    | [] => exact ⟨by unfold zBz; simp [hc], by rw [hrun w]; rfl⟩
    | _ :: _ => exact zA _
def zKy (ψ : Psi) : wW → Place → Prop
  | .val c, x => ∃ v, x = .val v ∧ zG ψ c v
  | .var b off, x => ∃ p, ψ b = some p ∧ x = .var ⟨p.blk, p.off + off, none⟩
theorem zHm {b : Key} {off : Nat} {p : Pl} (hp : ψ b = some p) : zKy ψ (.var b off) (.var ⟨p.blk, p.off + off, none⟩) := ⟨p, hp, rfl⟩
theorem zDx {c : CV} {v : Value} (hv : zG ψ c v) : zKy ψ (.val c) (.val v) := ⟨v, rfl, hv⟩
theorem zDV (hrel : xi ψ (Heap.fam h) w) {t : TypeId} {b : Key} {off : Nat} {c : CV} {p : Pl} (hp : ψ b = some p) (hc : zIR P h t b off = some c) :
    ∃ v, (loadVar t ⟨p.blk, p.off + off, none⟩).run P w = .ok v w ∧ zG ψ c v := by
  unfold zIR at hc
  split at hc
  · rename_i a s vs ha hs hv
    have hcells : zA8 ψ w p vs := by
      unfold vt at hv
      split at hv
      · rename_i q hq; injection hv with hv; subst hv; exact yJ.toRo (hrel b _ p hq hp)
      · rename_i q hq; injection hv with hv; subst hv; exact hrel b _ p hq hp
      · cases hv
    unfold zJm at hc
    cases a with
    | true =>
      simp only at hc
      cases hl : v6 vs off s with
      | none => rw [hl] at hc; cases hc
      | some l =>
        rw [hl] at hc
        injection hc with hc; subst hc
        obtain ⟨xs, hrun, hxs⟩ := y7 (P := P) hcells hl
        exact ⟨.agg xs.toArray, by simp [loadVar, qY ha, yM hs, hrun], yL.2 ⟨_, rfl, by simpa using hxs⟩⟩
    | false =>
      simp only [kK] at hc
      obtain ⟨y, hrun, hy⟩ := zA3 (P := P) hcells hc
      exact ⟨y, by simp only [loadVar, Sem.run_bind, qY ha, Result.andThen_ok, Bool.false_eq_true, if_false, hrun], hy⟩
  · cases hc
theorem ul (hrel : xi ψ (Heap.fam h) w) {t : TypeId} {x : wW} {y : Place} {c : CV} (hx : zKy ψ x y) (hc : x.get P h t = some c) : ∃ v, (y.get t).run P w = .ok v w ∧ zG ψ c v := by
  cases x with
  | val d =>
    obtain ⟨v, rfl, hv⟩ := hx
    injection hc with hc; subst hc
    exact ⟨v, rfl, hv⟩
  | var b off =>
    obtain ⟨p, hp, rfl⟩ := hx
    exact zDV hrel hp hc
theorem zIa {s : FieldStep} {f : Field} (hs : zFl P s = some f) : ∃ fs, P.underlying s.struct = some (.struct fs) ∧ fs[s.index]? = some f ∧ ∃ k, xG P f.type = some (k + 1) := by
  unfold zFl und at hs
  split at hs
  · rename_i fs ht
    rw [yH] at hs
    split at hs
    · rename_i g hg
      split at hs
      · rename_i k hk
        injection hs with hs; subst hs
        exact ⟨fs, ht, by simpa using hg, k, hk⟩
      · cases hs
    · cases hs
  · cases hs
theorem kH (hrel : xi ψ (Heap.fam h) w) : ∀ (l : List FieldStep) {t xt : TypeId} {x x' : wW} {y : Place}, zKy ψ x y → kQ P h l t x = some (xt, x') →
    ∃ y', (follow l t y).run P w = .ok (xt, y') w ∧ zKy ψ x' y'
  | [], t, xt, x, x', y, hx, hf => by
    injection hf with hf; injection hf with h1 h2; subst h1 h2
    exact ⟨y, rfl, hx⟩
  | s :: rest, t, xt, x, x', y, hx, hf => by
    unfold kQ at hf
    cases hs : zFl P s with
    | none => rw [hs] at hf; cases hf
    | some f =>
      simp only [hs] at hf
      obtain ⟨fs, h1, h2, k, h3⟩ := zIa hs
      split at hf
      · rename_i hd
        split at hf
        · rename_i b off hg
          obtain ⟨v, hv, hr⟩ := ul hrel hx hg
          rw [zb] at hr
          obtain ⟨p, hp, rfl⟩ := hr
          obtain ⟨y', g1, g2⟩ := kH hrel rest (zHm hp) hf
          refine ⟨y', ?_, g2⟩
          rw [← g1]
          simp [follow, run_underlying h1, h2, hd, hv, asAddr, fieldPlace, yM h3, yw, Nat.add_assoc]
        · cases hf
      · rename_i hd
        split at hf
        · rename_i b off
          obtain ⟨p, hp, rfl⟩ := hx
          obtain ⟨y', g1, g2⟩ := kH hrel rest (zHm hp) hf
          refine ⟨y', ?_, g2⟩
          rw [← g1]
          simp [follow, run_underlying h1, h2, hd, fieldPlace, yM h3, yw, Nat.add_assoc]
        · rename_i cs
          obtain ⟨v, rfl, hv⟩ := hx
          rw [yL] at hv
          obtain ⟨vs, rfl, hv⟩ := hv
          split at hf
          · rename_i a s' ha hs'
            split at hf
            · rename_i c hc
              have hp := zCR (P := P) (off := f.offset) ha hs' hv w
              have : ∃ u, (part f.type vs f.offset).run P w = .ok u w ∧ zG ψ c u := by
                unfold zJm at hc
                cases a with
                | true =>
                  simp only at hc
                  cases hl : v6 cs f.offset s' with
                  | none => rw [hl] at hc; cases hc
                  | some l => rw [hl] at hc; injection hc with hc; subst hc; exact hp.2 rfl l hl
                | false => exact hp.1 rfl c hc
              obtain ⟨u, hu, hur⟩ := this
              obtain ⟨y', g1, g2⟩ := kH hrel rest (zDx hur) hf
              refine ⟨y', ?_, g2⟩
              rw [← g1]
              simp [follow, run_underlying h1, h2, hd, hu]
            · cases hf
          · cases hf
        · cases hf
theorem ug (hrel : xi ψ (Heap.fam h) w) {xt : TypeId} {x : wW} {y : Place} {pr : Bool} {c : CV} (wr : Option String) (hx : zKy ψ x y) (hc : vl P h xt x pr = some c) :
    ∃ v, (receiverAt xt y pr wr).run P w = .ok v w ∧ zG ψ c v := by
  unfold vl und at hc
  split at hc
  · rename_i e ht
    obtain ⟨v, hv, hr⟩ := ul hrel hx hc
    exact ⟨v, by simp [receiverAt, run_underlying ht, hv], hr⟩
  · rename_i e ht
    split at hc
    · rename_i b off hg
      obtain ⟨v, hv, hr⟩ := ul hrel hx hg
      rw [zb] at hr
      obtain ⟨p, hp, rfl⟩ := hr
      obtain ⟨u, hu, hur⟩ := zDV hrel hp hc
      refine ⟨u, ?_, hur⟩
      cases wr with
      | none => simp [receiverAt, run_underlying ht, hv, asAddr, hu]
      | some nm =>
        have hck : (Builtin.ssaWrapNilChk_ #[xt] xt #[.pointer (some ⟨p.blk, p.off + off, none⟩), strVal "", strVal nm]).run P w = .ok (.pointer (some ⟨p.blk, p.off + off, none⟩)) w := rfl
        simp only [receiverAt, Sem.run_bind, run_underlying ht, Result.andThen_ok, hv, hck, asAddr, Sem.run_pure, hu]
    · cases hc
  · rename_i D hD b off ht
    injection hc with hc; subst hc
    obtain ⟨p, hp, rfl⟩ := hx
    refine ⟨_, ?_, zb.2 ⟨p, hp, rfl⟩⟩
    unfold receiverAt
    simp only [Sem.run_bind, run_underlying ht, Result.andThen_ok]
    cases D <;> first | rfl | exact absurd rfl (hD _)
  · cases hc
  · rename_i D hD ht
    obtain ⟨v, hv, hr⟩ := ul hrel hx hc
    refine ⟨v, ?_, hr⟩
    unfold receiverAt
    simp only [Sem.run_bind, run_underlying ht, Result.andThen_ok]
    cases D <;> first | exact hv | exact absurd rfl (hD _) | (exact absurd (Eq.refl _) (hD _))
  · cases hc
end
end Go.Ev

namespace Go.Ev
variable [Sym]
open Go.MapKept
noncomputable section
variable {P : Program} {ψ : Psi} {es : List CV} {tm : Tm} {h : Heap} {n : Key} {ρ : Operand → Value} {E : Env} {ty : TypeId} {w : World}
variable [SymFact P]
theorem zF4 (name : String) : ∀ (l : List Method), wZ name l = l.find? (fun m => m.name == name)
  | [] => rfl
  | m :: r => by
    unfold wZ
    rw [List.find?_cons, zF4 name r]
    by_cases e : (m.name == name) = true
    · rw [if_pos e, e]
    · rw [if_neg e]
      have : (m.name == name) = false := by simpa using e
      rw [this]
theorem zCt (hrel : xi ψ (Heap.fam h) w) (name : String) : ∀ (d fuel : Nat) {t : TypeId} {v : CV} {x : Value} {f : FuncId} {r : CV}, d ≤ fuel → zG ψ v x → zB1 P h d t v name = some (f, r) →
    ∃ y, (method fuel t x name).run P w = .ok (f, y) w ∧ zG ψ r y
  | 0, _, _, _, _, _, _, _, _, hm => by cases hm
  | d + 1, 0, _, _, _, _, _, hle, _, _ => by omega
  | d + 1, fuel + 1, t, v, x, f, r, hle, hv, hm => by
    unfold zB1 at hm
    cases hrow : zFk P t name with
    | none => rw [hrow] at hm; cases hm
    | some m =>
      simp only [hrow] at hm
      unfold zFk at hrow
      cases hi : P.info? t with
      | none => rw [hi] at hrow; cases hrow
      | some ti =>
        rw [hi] at hrow
        simp only [Option.bind_some, zF4] at hrow
        have hrow : ti.methods.find? (fun m => m.name == name) = some m := by rw [← Array.find?_toList]; exact hrow
        cases hf : kQ P h m.path.toList t (.val v) with
        | none => rw [hf] at hm; cases hm
        | some q =>
          obtain ⟨xt, x'⟩ := q
          simp only [hf] at hm
          obtain ⟨y', g1, g2⟩ := kH hrel _ (zDx hv) hf
          split at hm
          · rename_i hfn
            split at hm
            · rename_i t' v' hg
              obtain ⟨u, hu, hur⟩ := ul hrel g2 hg
              rw [zq] at hur
              obtain ⟨u', rfl, hur⟩ := hur
              obtain ⟨y, k1, k2⟩ := zCt hrel name d fuel (by omega) hur hm
              refine ⟨y, ?_, k2⟩
              rw [← k1]
              simp [method, typeInfo, hi, hrow, g1, hfn, hu]
            · cases hm
          · rename_i f' pr hfn
            split at hm
            · rename_i r' hrc
              injection hm with hm; injection hm with e1 e2; subst e1 e2
              obtain ⟨y, k1, k2⟩ := ug hrel (if m.path.isEmpty then some ((name.splitOn ".").getLastD name) else none) g2 hrc
              refine ⟨y, ?_, k2⟩
              unfold method
              simp only [Sem.run_bind, qB hi, Result.andThen_ok, hrow, g1, hfn, k1, Sem.run_pure]
            · cases hm
section
variable {o : Op}
def uq (P : Program) (ψ : Psi) (h : Heap) (n : Key) (w : World) (run : Result Next) : OR → Prop
  | .call f args => xi ψ (Heap.fam h) w → ∃ args', run = (callFunc f args').run P w ∧ zK ψ args args'.toList
  | .err _ => True
  | _ => False
theorem zBs {r : OR} {run : Result Next} (hrun : (execOp ρ (xB o ty)).run P w = run) (hc : uq P ψ h n w run r) : zB P ψ h n ρ o ty w r := by
  cases r <;> first | exact hc.elim | exact trivial | skip
  case call f args =>
    intro hrel
    obtain ⟨args', h1, h2⟩ := hc hrel
    exact ⟨args', by rw [← h1]; exact hrun, h2⟩
theorem vu {recv : CV} {x : Value} {args : List CV} {as : Array Value} (name : String) (hx : zG ψ recv x) (has : zK ψ args as.toList) :
    uq P ψ h n w ((callMethod x name as).run P w) (zEE P h recv name args) := by
  refine y4 (C := uq P ψ h n w ((callMethod x name as).run P w)) _ _ _ _ trivial (fun _ => trivial) fun t v hv => ?_
  rw [hv, zq] at hx
  obtain ⟨y, rfl, hy⟩ := hx
  split
  · rename_i f r hm
    intro hrel
    obtain ⟨u, h1, h2⟩ := zCt (P := P) hrel name 8 (P.types.size + Made.depth) (by unfold Made.depth; omega) hy hm
    refine ⟨#[u] ++ as, ?_, ?_⟩
    · simp [callMethod, h1]
    · have : (#[u] ++ as).toList = u :: as.toList := by simp
      rw [this]
      exact zL.2 ⟨h2, has⟩
  · exact trivial
theorem zJR {f : CV} {fv : Value} {args : List CV} {as : Array Value} (hf : zG ψ f fv) (has : zK ψ args as.toList) :
    uq P ψ h n w ((do let d ← Deferred.ofValue fv as; invoke d.target d.args : Sem Next).run P w) (zLY P h f args) := by
  refine kb (C := uq P ψ h n w _) _ _ _ trivial fun fn first captured hv => ?_
  rw [hv, yf] at hf
  obtain ⟨a', c', rfl, h1, h2⟩ := hf
  have hfa : zK ψ (zAU first args) (a' ++ as).toList := by rw [kX, Array.toList_append]; exact h1.append has
  split
  · rename_i g
    intro _
    refine ⟨a' ++ as ++ c', by simp [Deferred.ofValue, invoke], ?_⟩
    rw [kX, kX, Array.append_assoc, Array.toList_append, Array.toList_append]
    exact h1.append (has.append h2)
  · rename_i name
    split
    · rename_i recv rest hl
      rw [hl] at hfa
      obtain ⟨r, rs, e, hr, hrs⟩ := zP.1 hfa
      have e0 : (a' ++ as)[0]? = some r := by rw [← Array.getElem?_toList, e]; rfl
      have e1 : ((a' ++ as).extract 1 (a' ++ as).size).toList = rs := by
        rw [Array.toList_extract, e, List.extract_eq_take_drop]
        have : (a' ++ as).size = rs.length + 1 := by rw [← Array.length_toList, e]; rfl
        rw [this]; simp
      have := vu (P := P) (h := h) (n := n) (w := w) name hr (as := (a' ++ as).extract 1 (a' ++ as).size) (by rw [e1]; exact hrs)
      have hrun : (do let d ← Deferred.ofValue (.func (.method name) a' c') as; invoke d.target d.args : Sem Next).run P w = (callMethod r name ((a' ++ as).extract 1 (a' ++ as).size)).run P w := by
        simp only [Deferred.ofValue, Sem.run_bind, Sem.run_pure, Result.andThen_ok, invoke, e0]
      rw [hrun]; exact this
    · exact trivial
  · rename_i t name
    split
    · rename_i recv rest hl
      rw [hl] at hfa
      obtain ⟨r, rs, e, hr, hrs⟩ := zP.1 hfa
      have e0 : (a' ++ as)[0]? = some r := by rw [← Array.getElem?_toList, e]; rfl
      have e1 : ((a' ++ as).extract 1 (a' ++ as).size).toList = rs := by
        rw [Array.toList_extract, e, List.extract_eq_take_drop]
        have : (a' ++ as).size = rs.length + 1 := by rw [← Array.length_toList, e]; rfl
        rw [this]; simp
      unfold und
      split
      · rename_i ms ht
        have := vu (P := P) (h := h) (n := n) (w := w) name hr (as := (a' ++ as).extract 1 (a' ++ as).size) (by rw [e1]; exact hrs)
        have hrun : (do let d ← Deferred.ofValue (.func (.methodOf t name) a' c') as; invoke d.target d.args : Sem Next).run P w = (callMethod r name ((a' ++ as).extract 1 (a' ++ as).size)).run P w := by
          simp only [Deferred.ofValue, Sem.run_bind, Sem.run_pure, Result.andThen_ok, invoke, e0, run_underlying ht]
        rw [hrun]; exact this
      · rename_i D hD ht
        have := vu (P := P) (h := h) (n := n) (w := w) name (recv := .iface t recv) (x := .iface t r) (zq.2 ⟨r, rfl, hr⟩) (as := (a' ++ as).extract 1 (a' ++ as).size) (by rw [e1]; exact hrs)
        have hrun : (do let d ← Deferred.ofValue (.func (.methodOf t name) a' c') as; invoke d.target d.args : Sem Next).run P w = (callMethod (.iface t r) name ((a' ++ as).extract 1 (a' ++ as).size)).run P w := by
          simp only [Deferred.ofValue, Sem.run_bind, Sem.run_pure, Result.andThen_ok, invoke, e0, run_underlying ht]
        rw [hrun]; exact this
      · exact trivial
    · exact trivial
  · rename_i t path g pr
    split
    · rename_i recv rest hl
      rw [hl] at hfa
      obtain ⟨r, rs, e, hr, hrs⟩ := zP.1 hfa
      have e0 : (a' ++ as)[0]? = some r := by rw [← Array.getElem?_toList, e]; rfl
      have e1 : ((a' ++ as).extract 1 (a' ++ as).size).toList = rs := by
        rw [Array.toList_extract, e, List.extract_eq_take_drop]
        have : (a' ++ as).size = rs.length + 1 := by rw [← Array.length_toList, e]; rfl
        rw [this]; simp
      split
      · rename_i xt x hfo
        split
        · rename_i rc hrc
          intro hrel
          obtain ⟨y', g1, g2⟩ := kH hrel _ (zDx hr) hfo
          obtain ⟨u, k1, k2⟩ := ug hrel none g2 hrc
          refine ⟨#[u] ++ (a' ++ as).extract 1 (a' ++ as).size, ?_, ?_⟩
          · simp only [Deferred.ofValue, Sem.run_bind, Sem.run_pure, Result.andThen_ok, invoke, e0, receiverVia, g1, k1]
          · have : (#[u] ++ (a' ++ as).extract 1 (a' ++ as).size).toList = u :: rs := by rw [Array.toList_append, e1]; rfl
            rw [this]
            exact zL.2 ⟨k2, hrs⟩
        · exact trivial
      · exact trivial
    · exact trivial
  · exact trivial
structure zIK (ρ : Operand → Value) : Prop where
  const : ∀ v, ρ (.const v) = v
  func : ∀ f, ρ (.func f) = .func (.func f) #[] #[]
theorem zKs (c : Call) (ha : zg P ψ es tm E ρ c.operands.toList) : zB P ψ h n ρ (.defer c) ty w (yC P (zS P E (.defer c)) es tm h n) := by
  rw [zS]
  split
  · rename_i f hcal
    split
    · rename_i f' args hf hargs
      refine kb (C := zB P ψ h n ρ (.defer c) ty w) _ _ _ (zA _) fun fn first captured hv => ?_
      have hfr := ha f (by simp [Call.operands, hcal]) f' hf
      have has := jD _ (ha.sub fun y hy => by simp [Call.operands]; exact .inr (by simpa using hy)) hargs
      rw [hv, yf] at hfr
      obtain ⟨a', c', hfr, h1, h2⟩ := hfr
      split
      · rename_i g
        refine ⟨{ target := .fn (.func g) c', args := a' ++ c.args.map ρ }, .func g, c', a' ++ c.args.map ρ ++ c', ?_, rfl, fun w => rfl, ?_⟩
        · simp [execOp, resolve, hcal, hfr, Deferred.ofValue]
        · rw [kX, kX, Array.append_assoc, Array.toList_append, Array.toList_append, Array.toList_map]
          exact h1.append (has.append h2)
      · exact zA _
    · exact zA _
  · exact zA _
end
end
end Go.Ev

namespace Go.Ev
variable [Sym]
open Go.MapKept
noncomputable section
variable {P : Program} {ψ : Psi} {es : List CV} {tm : Tm} {h : Heap} {n : Key} {ρ : Operand → Value} {E : Env} {ty : TypeId} {w : World}
variable [SymFact P]
theorem zB9 {fn : Func} {nm : String} {e : Array Value → Sem Value} (ho : fn.origin = "") (hn : fn.name = nm)
    (h1 : Extern.allNextRows.lookup nm = none) (h2 : Extern.allGenericRows.lookup nm = none) (h3 : Extern.allTypedRows.lookup nm = none) (h4 : Extern.allRows.lookup nm = some e)
    (h5 : Extern.allNextRows.lookup "" = none) : Extern.findNext fn = none ∧ Extern.find fn = some e := by
  constructor
  · unfold Extern.findNext
    simp only [hn, ho, h1, h5]; rfl
  · unfold Extern.find
    simp only [hn, h2, h3, h4]; rfl
theorem zAf : Extern.allNextRows.lookup "" = none := by kernel_rfl
def zJA (fn : Func) : Ext → Option (Array Value → Sem Value)
  | .count => some Extern.BytealgCount.count
  | .indexByte => some Extern.BytealgIndexByte.indexByte
  | .cmp => some Extern.BytealgCompare.compare
  | .mapsClone => some Extern.MapsClone.clone
  | .overlaps => some (Extern.SlicesOverlaps.overlaps fn.params fn.resultTypes)
  | _ => none
theorem zDj {fn : Func} {e : Ext} (he : ut P fn = some e) : ∃ en, zJA fn e = some en ∧ (fn.name == "runtime.NumGoroutine") = false ∧ Extern.findNext fn = none ∧ Extern.find fn = some en := by
  unfold ut at he
  split at he
  · rename_i ho
    have ho : fn.origin = "" := by simpa using ho
    split at he
    · rename_i hn
      have hn : fn.name = zEU "bytealg.CountString" := by simpa using hn
      injection he with he; subst he
      obtain ⟨h1, h2⟩ := zB9 (e := Extern.BytealgCount.count) ho hn (by kernel_rfl) (by kernel_rfl) (by kernel_rfl) (by kernel_rfl) zAf
      exact ⟨_, rfl, by rw [hn]; decide, h1, h2⟩
    · split at he
      · rename_i hn
        have hn : fn.name = zEU "bytealg.IndexByteString" := by simpa using hn
        injection he with he; subst he
        obtain ⟨h1, h2⟩ := zB9 (e := Extern.BytealgIndexByte.indexByte) ho hn (by kernel_rfl) (by kernel_rfl) (by kernel_rfl) (by kernel_rfl) zAf
        exact ⟨_, rfl, by rw [hn]; decide, h1, h2⟩
      · split at he
        · rename_i hn
          have hn : fn.name = zEU "bytealg.abigen_runtime_cmpstring" := by simpa using hn
          injection he with he; subst he
          obtain ⟨h1, h2⟩ := zB9 (e := Extern.BytealgCompare.compare) ho hn (by kernel_rfl) (by kernel_rfl) (by kernel_rfl) (by kernel_rfl) zAf
          exact ⟨_, rfl, by rw [hn]; decide, h1, h2⟩
        · split at he
          · rename_i hn
            have hn : fn.name = "maps.clone" := by simpa using hn
            injection he with he; subst he
            obtain ⟨h1, h2⟩ := zB9 (e := Extern.MapsClone.clone) ho hn (by kernel_rfl) (by kernel_rfl) (by kernel_rfl) (by kernel_rfl) zAf
            exact ⟨_, rfl, by rw [hn]; decide, h1, h2⟩
          · cases he
  · split at he
    · rename_i ho
      injection he with he; subst he
      rw [Bool.and_eq_true] at ho
      obtain ⟨ho, hok⟩ := ho
      have ho : fn.origin = "slices.overlaps" := by simpa using ho
      unfold uR zGG at hok
      simp only [Bool.and_eq_true, Option.isNone_iff_eq_none] at hok
      obtain ⟨⟨gn, ⟨⟨g1, g2⟩, g3⟩, g4⟩, _⟩ := hok
      refine ⟨_, rfl, ?_, ?_, ?_⟩
      · simpa using gn
      · unfold Extern.findNext
        have h1 : Extern.allNextRows.lookup "slices.overlaps" = none := by kernel_rfl
        simp only [ho, g1, h1]; rfl
      · unfold Extern.find
        have h1 : Extern.allGenericRows.lookup "slices.overlaps" = none := by kernel_rfl
        have h2 : Extern.allTypedRows.lookup "slices.overlaps" = some Extern.SlicesOverlaps.overlaps := by kernel_rfl
        simp only [ho, g2, g3, g4, h1, h2]; rfl
    · cases he
theorem uX {w : World} {params res : Array TypeId} {tS e : TypeId} (hp : params[0]? = some tS) (ht : P.underlying tS = some (.slice e)) {size : Nat} (hz : ∀ w, (Go.sizeOf e).run P w = .ok size w)
    (a b : Addr) (la ca lb cb : Nat) (hne : a.block ≠ b.block) (tA tB : TypeId) (kA kB : Nat)
    (hsa : w.shape? a.block = some (tA, kA)) (hsb : w.shape? b.block = some (tB, kB)) (hkB : kB ≠ 0)
    (hfa : w.frozen? a = false) (hfe : w.frozen? { block := a.block, off := kA } = false) :
    (Extern.SlicesOverlaps.overlaps params res #[.slice (some a) la ca, .slice (some b) lb cb]).run P w = .ok (.bool false) w := by
  have hnb : (a.block != b.block) = true := by simpa using hne
  have hnb' : (a.block == b.block) = false := by simpa using hne
  change Sem.run P (α := Value) (do
    let some t := params[0]? | stuck "slices.overlaps: no parameter types"
    let .slice elem ← underlying t | stuck "slices.overlaps: slice type expected"
    let size ← sizeOf elem
    match (some a : Option Addr), (some b : Option Addr) with
    | some a, some b =>
      if la = 0 ∨ lb = 0 ∨ size = 0 then pure (Value.bool false)
      else if a.block != b.block && (← frozen a) && (← frozen b) then unsupported .addressObserved
      else do
        if a.block != b.block then do
          noView a; noView b
          if ← mayBeOne a b then return Value.bool ((← choose (.extern "sameAddr.stringBytes" 2)) == 1)
        pure (Value.bool (a.block == b.block && a.off < b.off + lb * size && b.off < a.off + la * size))
    | _, _ => pure (Value.bool false)) w = _
  by_cases h0 : la = 0 ∨ lb = 0 ∨ size = 0
  · simp [hp, run_underlying ht, hz, h0]
  · cases kB with
    | zero => exact absurd rfl hkB
    | succ kB =>
      simp [hp, run_underlying ht, hz, h0, hnb, hnb', frozen, noView, viewAt, mayBeOne, stringish, shape, Sem.run, hsa, hsb, hfa, hfe]
def xd (P : Program) (ψ : Psi) (h : Heap) (n : Key) (w : World) (en : Array Value → Sem Value) (args : Array Value) : OR → Prop
  | .val v => ∃ x, (en args).run P w = .ok x w ∧ zG ψ v x
  | .eff v h' n' => Rel ψ (Heap.fam h) w → (∀ k, n.ix ≤ k.ix → k.ix < n'.ix → ψ k = none) → n'.room →
      ∃ w' x ψ', (en args).run P w = .ok x w' ∧ zh ψ (Heap.fam h) n w ψ' (Heap.fam h') n' w' ∧ zG ψ' v x
  | .err _ => True
  | _ => False
theorem zBN {c : CV} {b : Nat} {v : Value} (hb : kc c = some b) (hv : zG ψ c v) : v = .int .u8 (Int.ofNat b) ∧ b ≤ 255 := by
  unfold kc at hb
  split at hb
  · split at hb
    · rename_i hle
      injection hb with hb; subst hb
      exact ⟨zV.1 hv, zH hle⟩
    · cases hb
  · cases hb
theorem zLL (c : UInt8) (l : List UInt8) : zFm c.toNat (l.map UInt8.toNat) = Lib.countByte l c := by
  unfold Lib.countByte
  induction l with
  | nil => rfl
  | cons x l ih =>
    show Bool.rec (motive := fun _ => Nat) (zFm c.toNat (l.map UInt8.toNat)) (Nat.succ (zFm c.toNat (l.map UInt8.toNat))) (Nat.beq x.toNat c.toNat) = _
    rw [ih, List.count_cons]
    by_cases e : x = c
    · subst e; simp
    · rw [jy (fun h => e (UInt8.toNat_inj.1 h))]; simp [e]
theorem zHb (c : UInt8) : ∀ (l : List UInt8) (i : Nat), (match zAR c.toNat (l.map UInt8.toNat) i with
      | some j => (j : Int)
      | none => -1) = (if Lib.indexByte l c = -1 then -1 else (i : Int) + Lib.indexByte l c) ∧ -1 ≤ Lib.indexByte l c
  | [], i => by simp [zAR, Lib.indexByte]
  | x :: l, i => by
    obtain ⟨h1, h2⟩ := zHb c l (i + 1)
    rw [List.map_cons]
    unfold zAR Lib.indexByte
    by_cases e : x = c
    · subst e; simp
    · rw [jy (fun h => e (UInt8.toNat_inj.1 h))]
      have e' : (x == c) = false := by simpa using e
      simp only [e']
      rw [h1]
      simp
      constructor
      · split <;> (try split) <;> omega
      · split <;> omega
theorem zCh : ∀ (a b : List UInt8), Lib.compareBytes a b = if a = b then 0 else if Op.bytesLess a b then -1 else 1
  | [], [] => by simp [Lib.compareBytes]
  | [], _ :: _ => by simp [Lib.compareBytes, Op.bytesLess]
  | _ :: _, [] => by simp [Lib.compareBytes, Op.bytesLess]
  | x :: a, y :: b => by
    unfold Lib.compareBytes Op.bytesLess
    rw [zCh a b]
    by_cases h1 : x < y
    · have : x ≠ y := fun e => by subst e; exact absurd h1 (UInt8.lt_irrefl x)
      simp [h1, this]
    · by_cases h2 : y < x
      · have : x ≠ y := fun e => by subst e; exact absurd h2 (UInt8.lt_irrefl x)
        simp [h1, h2, this]
      · have : x = y := by
          apply UInt8.toNat_inj.1
          rw [UInt8.lt_iff_toNat_lt] at h1 h2
          omega
        subst this
        simp [h1]
theorem zII {fn : Func} {e : Ext} {en : Array Value → Sem Value} (hex : ut P fn = some e) (he : zJA fn e = some en) {args : List CV} {as : Array Value} (has : zK ψ args as.toList) :
    xd P ψ h n w en as (zAa e args h n) := by
  unfold zAa
  split
  · -- count
    rename_i a b
    injection he with he; subst he
    obtain ⟨x, r, e1, hx, hr⟩ := zP.1 has
    obtain ⟨y, r', e2, hy, hr'⟩ := zP.1 hr
    rw [zI] at hr'
    subst e2 hr'
    have := uT e1
    subst this
    refine zm (C := xd P ψ h n w _ _) _ _ _ trivial fun s hs => ?_
    rw [hs, za] at hx
    obtain ⟨bs, rfl, rfl⟩ := hx
    refine wG (C := xd P ψ h n w _ _) _ _ _ trivial fun c hc => ?_
    obtain ⟨rfl, hle⟩ := zBN hc hy
    refine ⟨_, Lib.run_countString bs _ w, ?_⟩
    have : ((Int.ofNat c).toNat.toUInt8).toNat = c := by simp; omega
    have h2 := zLL ((Int.ofNat c).toNat.toUInt8) bs.data.toList
    rw [this] at h2
    rw [← h2]
    exact y1 _
  · -- index
    rename_i a b
    injection he with he; subst he
    obtain ⟨x, r, e1, hx, hr⟩ := zP.1 has
    obtain ⟨y, r', e2, hy, hr'⟩ := zP.1 hr
    rw [zI] at hr'
    subst e2 hr'
    have := uT e1
    subst this
    refine zm (C := xd P ψ h n w _ _) _ _ _ trivial fun s hs => ?_
    rw [hs, za] at hx
    obtain ⟨bs, rfl, rfl⟩ := hx
    refine wG (C := xd P ψ h n w _ _) _ _ _ trivial fun c hc => ?_
    obtain ⟨rfl, hle⟩ := zBN hc hy
    have hrun := Lib.run_indexByteString (P := P) bs (Int.ofNat c) w
    have : ((Int.ofNat c).toNat.toUInt8).toNat = c := by simp; omega
    obtain ⟨h2, h3⟩ := zHb ((Int.ofNat c).toNat.toUInt8) bs.data.toList 0
    rw [this] at h2
    have h4 : (match zAR c (zd bs) 0 with
      | some j => (j : Int)
      | none => -1) = Lib.indexByte bs.data.toList (Int.ofNat c).toNat.toUInt8 := by
      refine h2.trans ?_
      split <;> omega
    rw [← h4] at hrun
    split
    · rename_i i hi
      simp only [hi] at hrun
      exact ⟨_, hrun, y1 _⟩
    · rename_i hi
      simp only [hi] at hrun
      exact ⟨_, hrun, zV.2 rfl⟩
  · -- compare
    rename_i a b
    injection he with he; subst he
    obtain ⟨x, r, e1, hx, hr⟩ := zP.1 has
    obtain ⟨y, r', e2, hy, hr'⟩ := zP.1 hr
    rw [zI] at hr'
    subst e2 hr'
    have := uT e1
    subst this
    refine zm (C := xd P ψ h n w _ _) _ _ _ trivial fun s hs => ?_
    rw [hs, za] at hx
    obtain ⟨bs, rfl, rfl⟩ := hx
    refine zm (C := xd P ψ h n w _ _) _ _ _ trivial fun s hs => ?_
    rw [hs, za] at hy
    obtain ⟨cs, rfl, rfl⟩ := hy
    have hrun := Lib.run_compareString (P := P) bs cs w
    rw [zCh] at hrun
    rw [qM, qM, xk, jE, ByteArray.toList_eq, ByteArray.toList_eq]
    by_cases e : bs.data.toList = cs.data.toList
    · rw [if_pos e] at hrun
      rw [if_pos (by simpa using e)]
      exact ⟨_, hrun, zO.2 rfl⟩
    · rw [if_neg e] at hrun
      rw [if_neg (by simpa using e)]
      by_cases hl : Op.bytesLess bs.data.toList cs.data.toList = true
      · rw [if_pos hl] at hrun
        rw [if_pos hl]
        exact ⟨_, hrun, zV.2 rfl⟩
      · rw [if_neg hl] at hrun
        rw [if_neg hl]
        exact ⟨_, hrun, zO.2 rfl⟩
  · -- overlaps
    rename_i a b
    injection he with he; subst he
    obtain ⟨x, r, e1, hx, hr⟩ := zP.1 has
    obtain ⟨y, r', e2, hy, hr'⟩ := zP.1 hr
    rw [zI] at hr'
    subst e2 hr'
    have := uT e1
    subst this
    refine zt (C := xd P ψ h n w _ _) _ _ _ _ trivial (fun _ => trivial) fun k o l c s ex hk => ?_
    refine zt (C := xd P ψ h n w _ _) _ _ _ _ trivial (fun _ => trivial) fun j o' m c' s' ex' hj => ?_
    refine zD (C := xd P ψ h n w _ _) _ _ _ trivial fun hjk => ?_
    refine kY (C := xd P ψ h n w _ _) _ _ _ trivial fun u vs hvs => ?_
    refine zD (C := xd P ψ h n w _ _) _ _ _ trivial fun hu => ?_
    refine zz (C := xd P ψ h n w _ _) _ _ _ trivial fun vs' hvs' => ?_
    refine zD (C := xd P ψ h n w _ _) _ _ _ trivial fun hl => ?_
    have hjk : j ≠ k := by simpa using hjk
    subst hu
    intro hrel _ _
    rw [hk, zl] at hx
    rw [hj, zl] at hy
    obtain ⟨p, x1, cap1, hp, rfl, _⟩ := hx
    obtain ⟨q, x2, cap2, hq, rfl, _⟩ := hy
    have hne : p.blk ≠ q.blk := fun e => hjk (hrel.inj k j _ _ p q hvs hvs' hp hq (.inl rfl) e).symm
    obtain ⟨arr, el, fz, c1, c2, c3, c4, _⟩ : jP ψ w p true vs := hrel.on k _ p hvs hp
    obtain ⟨arr', el', fz', d1, d2, d3, _⟩ : yJ ψ w q vs' := hrel.on j _ q hvs' hq
    have hl : 1 ≤ vz vs' := zH hl
    have hll := zAq vs'
    have hfz : fz.1 = fz.2 := by
      rcases c4 with h | h
      · exact h
      · cases h.1
    have hfr : ∀ i, w.frozen? ⟨p.blk, i, none⟩ = false := by
      intro i
      unfold World.frozen?
      rw [c1]
      simp
      omega
    obtain ⟨tS, e, hp0, ht, sz, hsz⟩ : ∃ tS e, fn.params[0]? = some tS ∧ P.underlying tS = some (.slice e) ∧ ∃ sz, xG P e = some sz := by
      unfold ut at hex
      split at hex
      · split at hex
        · cases hex
        · split at hex
          · cases hex
          · split at hex
            · cases hex
            · split at hex <;> cases hex
      · split at hex
        · rename_i ho
          rw [Bool.and_eq_true] at ho
          have hok := ho.2
          unfold uR und at hok
          rw [Bool.and_eq_true] at hok
          have hok := hok.2
          split at hok
          · rename_i t _ hpl
            split at hok
            · rename_i e ht
              obtain ⟨sz, hsz⟩ := Option.isSome_iff_exists.1 hok
              refine ⟨t, e, ?_, ht, sz, hsz⟩
              have := congrArg (·[0]?) hpl
              simpa using this
            · cases hok
          · cases hok
        · cases hex
    refine ⟨w, .bool false, ψ, ?_, zh.refl hrel, zF.2 rfl⟩
    exact uX hp0 ht (fun w => yM hsz w) ⟨p.blk, x1, none⟩ ⟨q.blk, x2, none⟩ _ _ _ _ hne el el' arr.size arr'.size (by unfold World.shape?; rw [c1]) (by unfold World.shape?; rw [d1])
      (by omega) (hfr _) (hfr _)
  · -- clone
    rename_i a
    injection he with he; subst he
    obtain ⟨x, r, e1, hx, hr⟩ := zP.1 has
    rw [zI] at hr
    subst hr
    have := uT e1
    subst this
    refine y4 (C := xd P ψ h n w _ _) _ _ _ _ trivial (fun _ => trivial) fun t v hv => ?_
    rw [hv, zq] at hx
    obtain ⟨y, rfl, hy⟩ := hx
    refine yi (C := xd P ψ h n w _ _) _ _ _ _ trivial (fun _ => trivial) fun b hb => ?_
    rw [hb, yS] at hy
    obtain ⟨p, hp, rfl⟩ := hy
    refine zx (C := xd P ψ h n w _ _) _ _ _ trivial fun cs clock hl => ?_
    intro hrel hnew hroom
    obtain ⟨arr, h1, h2, hcp⟩ := hrel.on b _ p hl hp
    have hr := Key.room_of_succ hroom
    have hix := Key.ix_succ hr
    have hnone : ψ n = none := hnew n (Nat.le_refl _) (by omega)
    have hw := qc w (.map arr (p.ck clock))
    have hpost := kE (n := n) (sz := 0) (ck := p.ck) (o := .map cs clock) hrel hr hnone hw ⟨arr, by simp, h2.mono (Psi.le_upd _ hnone), hcp⟩
    refine ⟨_, .iface t (.map (some w.heap.size)), _, ?_, by rw [zp]; exact hpost, zq.2 ⟨_, rfl, yS.2 ⟨_, Psi.upd_same _ _ _, rfl⟩⟩⟩
    have hget := run_getObj_map (P := P) h1
    rw [show Extern.MapsClone.clone #[Value.iface t (.map (some p.blk))] = (getObj p.blk >>= _) from rfl, Sem.run_bind, hget]
    simp
  · exact trivial
section
variable {o : Op}
theorem zMS {c : Call} {f : FuncId} {fn : Func} {e : Ext} {args : List zR} (hcal : c.callee = .value (.func f)) (hρ : zIK ρ) (hfn : P.funcs[f]? = some fn) (hb : fn.body.isNone = true)
    (he : ut P fn = some e) (hargs : xZ P E c.args.toList = some args) (ha : zg P ψ es tm E ρ c.args.toList) : zB P ψ h n ρ (.call c) ty w (zAa e (aVs es tm args) h n) := by
  obtain ⟨en, h1, h2, h3, h4⟩ := zDj he
  have has := jD _ ha hargs
  rw [← Array.toList_map] at has
  have hout := zII (P := P) (h := h) (n := n) (w := w) he h1 has
  have hrun : ∀ {x : Value} {w' : World}, (en (c.args.map ρ)).run P w = .ok x w' → (execOp ρ (xB (.call c) ty)).run P w = .ok (.value x) w' := by
    intro x w' hx
    have := run_callFunc_extern (P := P) hfn h2 hb h3 h4 (c.args.map ρ) w
    rw [hx] at this
    simp only [execOp, resolve, hcal, Sem.run_bind, hρ.func, Deferred.ofValue, Sem.run_pure, Result.andThen_ok, invoke]
    have e0 : (#[] ++ c.args.map ρ ++ #[] : Array Value) = c.args.map ρ := by simp
    rw [e0, this]; rfl
  generalize zAa e (aVs es tm args) h n = r at hout
  cases r <;> first | exact hout.elim | exact trivial | skip
  case val v =>
    obtain ⟨x, h5, h6⟩ := hout
    exact ⟨x, zJ (hrun h5), h6⟩
  case eff v h' n' =>
    intro g1 g2 g3
    obtain ⟨w', x, ψ', h5, h6, h7⟩ := hout g1 g2 g3
    exact ⟨w', x, ψ', zJ (hrun h5), h6, h7⟩
theorem zMg (hρ : zIK ρ) (c : Call) (ha : zg P ψ es tm E ρ c.operands.toList) : zB P ψ h n ρ (.call c) ty w (yC P (zS P E (.call c)) es tm h n) := by
  have hargsok : zg P ψ es tm E ρ c.args.toList := ha.sub fun y hy => by simp [Call.operands]; exact .inr (by simpa using hy)
  rw [show zS P E (.call c) = zCT P E c from rfl]
  unfold zCT
  split
  · rename_i b hc
    exact zGr c b hc hargsok
  · rename_i r name hc
    split
    · rename_i r' args hr hargs
      have hx := ha r (by simp [Call.operands, hc]) r' hr
      have has := jD _ hargsok hargs
      rw [← Array.toList_map] at has
      refine zBs ?_ (vu (P := P) (h := h) (n := n) (w := w) name hx has)
      simp only [execOp, resolve, hc, Sem.run_bind, Sem.run_pure, Result.andThen_ok, invoke]
      have e0 : (#[ρ r] ++ c.args.map ρ)[0]? = some (ρ r) := by rw [← Array.getElem?_toList, Array.toList_append]; rfl
      have e1 : (#[ρ r] ++ c.args.map ρ).extract 1 (#[ρ r] ++ c.args.map ρ).size = c.args.map ρ := by
        apply Array.ext'
        rw [Array.toList_extract, Array.toList_append, List.extract_eq_take_drop]
        show ((c.args.map ρ).toList).take _ = _
        exact List.take_of_length_le (by simp)
      rw [e0]
      simp only
      rw [e1]
    · exact zA _
  · rename_i f hc
    split
    · exact zA _
    · rename_i args hargs
      have has := jD _ hargsok hargs
      rw [← Array.toList_map] at has
      split
      · rename_i g
        rw [yH]
        split
        · exact zA _
        · rename_i fn hfn
          have hfn : P.funcs[g]? = some fn := by simpa using hfn
          split
          · intro _
            refine ⟨c.args.map ρ, ?_, has⟩
            simp only [execOp, resolve, hc, Sem.run_bind, hρ.func, Deferred.ofValue, Sem.run_pure, Result.andThen_ok, invoke]
            simp
          · rename_i hb
            split
            · rename_i e he
              exact zMS hc hρ hfn (by cases hbb : fn.body <;> simp_all) he hargs hargsok
            · exact zA _
      · split
        · rename_i f' hf
          have hx := ha f (by simp [Call.operands, hc]) f' hf
          refine zBs ?_ (zJR (P := P) (h := h) (n := n) (w := w) hx has)
          simp only [execOp, resolve, hc]
        · exact zA _
theorem zH2 (hρ : zIK ρ) (o : Op) (ha : zg P ψ es tm E ρ o.operands.toList) : zB P ψ h n ρ o ty w (yC P (zS P E o) es tm h n) := by
  cases o <;> try exact zA _
  case move => exact zL4 _ ha
  case assign => exact zIe _ ha
  case pick => exact zKV _ _ _ ha
  case alloc => exact zKr _
  case box => exact zMC _ _ ha
  case build => exact zKm _ _ ha
  case buildSlice => exact zCG _ _ _ ha
  case load => exact zMh _ _ ha
  case store => exact zKD _ _ _ ha
  case nilCheck => exact zKE _ ha
  case binOp => exact zJI _ _ _ _ _ ha
  case unOp => exact zLv _ _ _ ha
  case convert => exact zGF _ _ _ ha
  case makeInterface => exact u5 _ _ ha
  case makeFunc => exact zFt _ _ _ (ha.sub fun y hy => by simp [Op.operands] at hy ⊢; exact hy)
  case makeMap => exact zF9 _ _ hρ.const
  case makeSlice => exact zDD _ _ _ ha
  case slice => exact zKz _ _ _ _ _ (ha.sub fun y hy => by simp [Op.operands] at hy ⊢; exact hy)
  case fieldAddr => exact zDH _ _ _ ha
  case field => exact zJX _ _ _ ha
  case indexAddr => exact zDM _ _ _ ha
  case index => exact zJV _ _ _ ha
  case lookup => exact zH7 _ _ _ _ ha
  case mapUpdate => exact zDK _ _ _ _ ha
  case insert => exact zHy _ _ _ _ ha
  case range => exact zJ6 _ _ ha
  case next => exact zLG _ _ ha
  case entry => exact zJ8 _ ha
  case typeAssert => exact zDc _ _ _ _ ha
  case extract => exact zF7 _ _ ha
  case call => exact zMg hρ _ ha
  case defer => exact zKs _ ha
end
end
end Go.Ev

namespace Go.Ev
variable [Sym]
noncomputable section
variable {P : Program} {es : List CV} {tm : Tm} {h : Heap} {n : Key}
variable [SymFact P]
def zC (n : Key) : OR → Prop
  | .eff _ _ n' => n.ix ≤ n'.ix
  | .fork a b => zC n a ∧ zC n b
  | _ => True
theorem zIJ {x : CV} (s : Nat) (nf : Nat → Nat) (k : Nat → List CV → OR) (e : Nat) (hk : ∀ m l, zC n (k m l)) : zC n (zHB h s x k nf e) := by
  unfold zHB
  split
  · refine zD (C := zC n) _ _ _ trivial fun _ => ?_
    exact yG (C := zC n) _ _ _ trivial fun _ _ => hk _ _
  · refine zt (C := zC n) _ _ _ _ trivial (fun _ => hk _ _) fun _ _ _ _ _ _ _ => ?_
    refine y0 (C := zC n) _ _ _ trivial fun _ _ => ?_
    exact yG (C := zC n) _ _ _ trivial fun _ _ => hk _ _
theorem wv (v : Option CV) (e : Nat) : zC n (zDk v e) := by cases v <;> trivial
theorem zD0 (k : IntKind) : ∀ (m : Nat), zC n (zH9 k m)
  | 0 => trivial
  | m + 1 => ⟨zD0 k m, trivial⟩
theorem zDX (k : IntKind) : ∀ (m : Nat), zC n (zIt k m)
  | 0 => trivial
  | m + 1 => ⟨zDX k m, trivial, trivial⟩
theorem yN (op : BinOp) (j k : IntKind) : zC n (qD op j k) := by
  refine zD (C := zC n) _ _ _ trivial fun _ => ?_
  cases op <;> first | trivial | exact ⟨trivial, trivial⟩
theorem zJ0 (op : BinOp) (k : IntKind) (b : Int) : zC n (zCl op k b) := by
  cases op
  case add => exact yN .add k k
  case sub => exact yN .sub k k
  case mul => exact yN .mul k k
  case or => exact yN .or k k
  case xor => exact yN .xor k k
  case andNot => exact yN .andNot k k
  case eql => exact yN .eql k k
  case neq => exact yN .neq k k
  case lss => exact yN .lss k k
  case leq => exact yN .leq k k
  case gtr => exact yN .gtr k k
  case geq => exact yN .geq k k
  case quo => cases b with
    | ofNat m => cases m <;> trivial
    | negSucc m => trivial
  case rem => cases b with
    | ofNat m => cases m with
      | zero => trivial
      | succ m =>
        refine zD (C := zC n) _ _ _ trivial fun _ => ?_
        split
        · exact zDX k m
        · trivial
    | negSucc m => trivial
  case and => cases b with
    | ofNat m =>
      refine zD (C := zC n) _ _ _ trivial fun _ => ?_
      exact zD0 k m
    | negSucc m => trivial
  case shl => cases b <;> trivial
  case shr => cases b <;> trivial
theorem zJN (op : BinOp) (x y : CV) : zC n (zHW op x y) := by
  have right : ∀ (k j : IntKind) (b : Int), zC n (yZ (kEq k j || yg op) (zCl op k b) 118) := fun k j b => zD (C := zC n) _ _ _ trivial fun _ => zJ0 _ _ _
  refine zEj (C := zC n) _ _ _ _ _ trivial (fun a _ => ?_) (fun k a _ => ?_) (fun k _ => ?_) (fun s _ => ?_)
  · refine qm (C := zC n) _ _ _ _ trivial (fun _ _ => ?_) (fun _ _ _ => ?_) (fun _ _ => yN _ _ _)
    · exact zD (C := zC n) _ _ _ trivial fun _ => wv _ _
    · exact zD (C := zC n) _ _ _ trivial fun _ => wv _ _
  · refine qm (C := zC n) _ _ _ _ trivial (fun _ _ => ?_) (fun _ _ _ => ?_) (fun _ _ => yN _ _ _)
    · exact zD (C := zC n) _ _ _ trivial fun _ => wv _ _
    · exact zD (C := zC n) _ _ _ trivial fun _ => wv _ _
  · exact qm (C := zC n) _ _ _ _ trivial (fun _ _ => right _ _ _) (fun _ _ _ => right _ _ _) (fun _ _ => yN _ _ _)
  · exact zm (C := zC n) _ _ _ trivial fun _ _ => wv _ _
theorem zJp (o : Option (List CV)) (e : Nat) : zC n (zMY o e) := by
  have : ∀ (l : List CV) (c : CV), zC n (forkL c l) := by
    intro l
    induction l with
    | nil => intro c; trivial
    | cons d l ih => intro c; exact ⟨trivial, ih d⟩
  cases o with
  | none => trivial
  | some l => cases l with
    | nil => trivial
    | cons c l => exact this l c
theorem zJ7 (op : BinOp) (x y : CV) : zC n (qo op x y) := by
  unfold qo
  split
  · unfold zKW
    split <;> first | trivial | (rw [qM]; split <;> first | trivial | exact ⟨trivial, trivial⟩)
  · split
    · exact zJp _ _
    · exact zJN _ _ _
theorem zA6 (c : Option zR) (y d : Nat) (k : Nat → OR) (e : Nat) (hk : ∀ i, zC n (k i)) : zC n (zDA es tm c y d k e) := by
  cases c with
  | none => exact hk _
  | some c =>
    refine yD (C := zC n) _ _ _ trivial fun _ _ => ?_
    exact zD (C := zC n) _ _ _ trivial fun _ => hk _
theorem qr (len cap : Nat) (lo hi mx : Option zR) (k : Nat → Nat → Nat → OR) (e : Nat) (hk : ∀ i j l, zC n (k i j l)) : zC n (wb es tm len cap lo hi mx k e) :=
  zA6 _ _ _ _ _ fun _ => zA6 _ _ _ _ _ fun _ => zA6 _ _ _ _ _ fun _ => hk _ _ _
theorem zAi (b : Key) (off esz : Nat) (ex : Bool) (i j l : Nat) : zC n (zI3 b off esz ex i j l) := by
  refine zD (C := zC n) _ _ _ trivial fun _ => ?_
  rw [zj, zj, zj]; trivial
theorem zGL (a : Bool) (s : Nat) (cs : List CV) (off e : Nat) : zC n (zMb a s cs off e) := by
  cases a with
  | true => exact jc (C := zC n) _ _ trivial fun _ _ => trivial
  | false => exact qp (C := zC n) _ _ trivial fun _ _ => trivial
theorem zFN (ok : Bool) (z : Option CV) : zC n (noV ok z) := by unfold noV; split <;> trivial
theorem zAz (r : CV) (name : String) (args : List CV) : zC n (zEE P h r name args) := by
  refine y4 (C := zC n) _ _ _ _ trivial (fun _ => trivial) fun _ _ _ => ?_
  split <;> trivial
theorem zK5 (f : CV) (args : List CV) : zC n (zLY P h f args) := by
  refine kb (C := zC n) _ _ _ trivial fun fn a c _ => ?_
  split
  · trivial
  · split
    · exact zAz _ _ _
    · trivial
  · split
    · split
      · exact zAz _ _ _
      · exact zAz _ _ _
      · trivial
    · trivial
  · split
    · split
      · split <;> trivial
      · trivial
    · trivial
  · trivial
theorem zCr {f : CE → OR} (hf : ∀ c, zC n (f c)) : ∀ (l : List CE) (e : CE), zC n (zB5 f e l)
  | [], e => hf e
  | e' :: l, e => ⟨hf e, zCr hf l e'⟩
theorem zIf (e : Ext) (args : List CV) : zC n (zAa e args h n) := by
  unfold zAa
  split
  · refine zm (C := zC n) _ _ _ trivial fun _ _ => ?_
    exact wG (C := zC n) _ _ _ trivial fun _ _ => trivial
  · refine zm (C := zC n) _ _ _ trivial fun _ _ => ?_
    refine wG (C := zC n) _ _ _ trivial fun _ _ => ?_
    split <;> trivial
  · refine zm (C := zC n) _ _ _ trivial fun _ _ => ?_
    refine zm (C := zC n) _ _ _ trivial fun _ _ => ?_
    rw [qM, qM]
    split
    · trivial
    · split <;> trivial
  · refine zt (C := zC n) _ _ _ _ trivial (fun _ => trivial) fun _ _ _ _ _ _ _ => ?_
    refine zt (C := zC n) _ _ _ _ trivial (fun _ => trivial) fun _ _ _ _ _ _ _ => ?_
    refine zD (C := zC n) _ _ _ trivial fun _ => ?_
    refine kY (C := zC n) _ _ _ trivial fun _ _ _ => ?_
    refine zD (C := zC n) _ _ _ trivial fun _ => ?_
    refine zz (C := zC n) _ _ _ trivial fun _ _ => ?_
    exact zD (C := zC n) _ _ _ trivial fun _ => Nat.le_refl _
  · refine y4 (C := zC n) _ _ _ _ trivial (fun _ => trivial) fun _ _ _ => ?_
    refine yi (C := zC n) _ _ _ _ trivial (fun _ => trivial) fun _ _ => ?_
    exact zx (C := zC n) _ _ _ trivial fun _ _ _ => Key.ix_le_succ n
  · trivial
theorem zHg (esz k : Nat) (xs : List CV) (sv : CV) : zC n (zDR esz k xs sv h n) := by
  unfold zDR
  refine zt (C := zC n) _ _ _ _ trivial (fun _ => ?_) fun _ _ _ _ _ _ _ => ?_
  · cases k with
    | zero => exact Nat.le_refl _
    | succ k =>
      refine zD (C := zC n) _ _ _ trivial fun _ => ?_
      rw [zj]; exact Key.ix_le_succ n
  · refine zD (C := zC n) _ _ _ trivial fun _ => ?_
    refine kY (C := zC n) _ _ _ ?_ fun _ _ _ => ?_
    rotate_left
    · rw [zj]
      refine zD (C := zC n) _ _ _ trivial fun _ => ?_
      exact yG (C := zC n) _ _ _ trivial fun _ _ => Key.ix_le_succ n
    refine zz (C := zC n) _ _ _ trivial fun _ _ => ?_
    rw [zj, qM]
    split
    · exact yG (C := zC n) _ _ _ trivial fun _ _ => Nat.le_refl _
    · refine zD (C := zC n) _ _ _ trivial fun _ => ?_
      exact yG (C := zC n) _ _ _ trivial fun _ _ => Key.ix_le_succ n
theorem kN (op : COp) : zC n (yC P op es tm h n) := by
  cases op
  case mv => trivial
  case pick =>
    refine kM (C := zC n) _ _ _ trivial fun b _ => ?_
    cases b <;> trivial
  case alloc => trivial
  case box => exact yG (C := zC n) _ _ _ trivial fun _ _ => trivial
  case build => exact jc (C := zC n) _ _ trivial fun _ _ => trivial
  case bslice => exact yG (C := zC n) _ _ _ trivial fun _ _ => trivial
  case load1 =>
    refine yT (C := zC n) _ _ _ trivial fun _ _ _ => ?_
    refine y0 (C := zC n) _ _ _ trivial fun _ _ => ?_
    exact zDo (C := zC n) _ _ trivial fun _ _ => trivial
  case loadN =>
    refine yT (C := zC n) _ _ _ trivial fun _ _ _ => ?_
    refine y0 (C := zC n) _ _ _ trivial fun _ _ => ?_
    exact zCK (C := zC n) _ _ trivial fun _ _ => trivial
  case store =>
    refine yT (C := zC n) _ _ _ trivial fun _ _ _ => ?_
    refine zz (C := zC n) _ _ _ trivial fun _ _ => ?_
    refine yG (C := zC n) _ _ _ trivial fun _ _ => ?_
    refine zD (C := zC n) _ _ _ trivial fun _ => ?_
    exact yG (C := zC n) _ _ _ trivial fun _ _ => Nat.le_refl _
  case nilck x =>
    refine zEY (C := zC n) _ _ _ ?_ fun _ _ _ => trivial
    show zC n (zCg (aV es tm x))
    unfold zCg
    split <;> trivial
  case arith op x y =>
    show zC n (zKj (aV es tm x) (fun a => zKj (aV es tm y) (fun b => zHN op a b (aV es tm x) (aV es tm y)) (qo op (aV es tm x) (aV es tm y))) (qo op (aV es tm x) (aV es tm y)))
    have hg := zJ7 (n := n) op (aV es tm x) (aV es tm y)
    cases hx : aV es tm x <;> try (rw [hx] at hg; exact hg)
    case nat a =>
      rw [hx] at hg
      cases hy : aV es tm y <;> try (rw [hy] at hg; exact hg)
      case nat b =>
        rw [hy] at hg
        show zC n (Option.rec (motive := fun _ => BinOp → CV → CV → OR) (fun op x y => qo op x y) (fun v _ _ _ => .val v) (zEl op a b) op (.nat a) (.nat b))
        cases zEl op a b with
        | none => exact hg
        | some v => trivial
  case eq neg k cst x y =>
    show zC n (match eqC k cst (aV es tm x) (aV es tm y) with
      | some b => .val (.bool (xor neg b))
      | none => .err 123)
    split <;> trivial
  case un op x =>
    cases op with
    | neg => exact we (C := zC n) _ _ _ trivial (fun _ _ => trivial) fun _ _ _ => trivial
    | xor => exact we (C := zC n) _ _ _ trivial (fun _ _ => trivial) fun _ _ _ => trivial
    | not => exact kM (C := zC n) _ _ _ trivial fun _ _ => trivial
    | plus => trivial
  case cvInt k x =>
    show zC n (zDl k (aV es tm x))
    unfold zDl
    split
    · exact zJp _ _
    · exact qm (C := zC n) _ _ _ _ trivial (fun _ _ => trivial) (fun _ _ _ => trivial) fun _ _ => trivial
  case cvStr => exact zm (C := zC n) _ _ _ trivial fun _ _ => trivial
  case cvSB =>
    refine zm (C := zC n) _ _ _ trivial fun _ _ => ?_
    rw [zj]; trivial
  case cvMark =>
    refine zt (C := zC n) _ _ _ _ trivial (fun _ => trivial) fun _ _ _ _ _ _ _ => ?_
    exact zz (C := zC n) _ _ _ trivial fun _ _ => Nat.le_refl _
  case cvBS =>
    refine zt (C := zC n) _ _ _ _ trivial (fun _ => trivial) fun _ _ _ _ _ _ _ => ?_
    refine y0 (C := zC n) _ _ _ trivial fun _ _ => ?_
    refine yG (C := zC n) _ _ _ trivial fun _ _ => ?_
    unfold zIg
    split
    · trivial
    · split <;> trivial
  case iface => trivial
  case mkfn => trivial
  case mkmap => trivial
  case mkslice =>
    refine yD (C := zC n) _ _ _ trivial fun _ _ => ?_
    refine yD (C := zC n) _ _ _ trivial fun _ _ => ?_
    refine zD (C := zC n) _ _ _ trivial fun _ => ?_
    rw [zj, zj]; trivial
  case slArr => exact yT (C := zC n) _ _ _ trivial fun _ _ _ => qr _ _ _ _ _ _ _ fun _ _ _ => zAi _ _ _ _ _ _ _
  case slSl =>
    refine zt (C := zC n) _ _ _ _ trivial (fun _ => qr _ _ _ _ _ _ _ fun _ _ _ => trivial) fun _ _ _ _ _ _ _ => ?_
    refine zD (C := zC n) _ _ _ trivial fun _ => ?_
    unfold zFB
    split
    · split
      · split
        · refine zz (C := zC n) _ _ _ trivial fun _ _ => ?_
          refine zD (C := zC n) _ _ _ trivial fun _ => ?_
          rw [zj]; trivial
        · exact qr _ _ _ _ _ _ _ fun _ _ _ => zAi _ _ _ _ _ _ _
      · exact qr _ _ _ _ _ _ _ fun _ _ _ => zAi _ _ _ _ _ _ _
    · exact qr _ _ _ _ _ _ _ fun _ _ _ => zAi _ _ _ _ _ _ _
  case slStr =>
    refine zm (C := zC n) _ _ _ trivial fun _ _ => ?_
    rw [zj]
    refine qr _ _ _ _ _ _ _ fun _ _ _ => ?_
    refine zD (C := zC n) _ _ _ trivial fun _ => ?_
    exact zEm (C := zC n) _ _ trivial fun _ _ => trivial
  case addOff =>
    refine yT (C := zC n) _ _ _ trivial fun _ _ _ => ?_
    rw [zj]; trivial
  case part => exact wd (C := zC n) _ _ _ trivial fun _ _ => zGL _ _ _ _ _
  case ixArr =>
    refine yT (C := zC n) _ _ _ trivial fun _ _ _ => ?_
    refine yD (C := zC n) _ _ _ trivial fun _ _ => ?_
    refine zD (C := zC n) _ _ _ trivial fun _ => ?_
    rw [zj]; trivial
  case ixSl =>
    refine wq (C := zC n) _ _ _ ?_ fun _ _ _ _ _ => by
      unfold zLw
      split
      · split
        · split <;> trivial
        · trivial
      · trivial
    refine zt (C := zC n) _ _ _ _ trivial (fun _ => trivial) fun _ _ _ _ _ _ _ => ?_
    refine yD (C := zC n) _ _ _ trivial fun _ _ => ?_
    refine zD (C := zC n) _ _ _ trivial fun _ => ?_
    rw [zj]; trivial
  case ixAgg =>
    refine wd (C := zC n) _ _ _ trivial fun _ _ => ?_
    refine yD (C := zC n) _ _ _ trivial fun _ _ => ?_
    exact zD (C := zC n) _ _ _ trivial fun _ => zGL _ _ _ _ _
  case ixStr =>
    refine zm (C := zC n) _ _ _ trivial fun _ _ => ?_
    refine yD (C := zC n) _ _ _ trivial fun _ _ => ?_
    exact wG (C := zC n) _ _ _ trivial fun _ _ => trivial
  case lookup kk z ok x k =>
    have hl : ∀ l, zC n (zAE kk z ok (aV es tm k) l) := by
      intro l
      refine zD (C := zC n) _ _ _ trivial fun _ => ?_
      split <;> trivial
    refine yi (C := zC n) _ _ _ _ trivial (fun _ => hl _) fun _ _ => ?_
    exact zx (C := zC n) _ _ _ trivial fun _ _ _ => hl _
  case mapupd =>
    refine yi (C := zC n) _ _ _ _ trivial (fun _ => trivial) fun _ _ => ?_
    refine zx (C := zC n) _ _ _ trivial fun _ _ _ => ?_
    refine zD (C := zC n) _ _ _ trivial fun _ => ?_
    split
    · split
      · exact Nat.le_refl _
      · trivial
    · rw [zj]; exact Nat.le_refl _
    · trivial
  case rangeStr => exact zm (C := zC n) _ _ _ trivial fun _ _ => trivial
  case rangeMap =>
    refine yi (C := zC n) _ _ _ _ trivial (fun _ => trivial) fun _ _ => ?_
    exact zx (C := zC n) _ _ _ trivial fun _ _ _ => Key.ix_le_succ n
  case next =>
    refine yT (C := zC n) _ _ _ trivial fun _ _ _ => ?_
    refine zD (C := zC n) _ _ _ trivial fun _ => ?_
    unfold zLh
    split
    · unfold zFW
      split
      · exact Nat.le_refl _
      · refine zD (C := zC n) _ _ _ trivial fun _ => ?_
        rw [zj]; exact Nat.le_refl _
    · exact Nat.le_refl _
    · refine zx (C := zC n) _ _ _ trivial fun _ _ _ => ?_
      split
      · trivial
      · split
        · exact Nat.le_refl _
        · exact zD (C := zC n) _ _ _ trivial fun _ => zCr (fun _ => Nat.le_refl _) _ _
    · trivial
  case entry =>
    refine yT (C := zC n) _ _ _ trivial fun _ _ _ => ?_
    refine zD (C := zC n) _ _ _ trivial fun _ => ?_
    unfold zId
    split
    · split
      · refine zx (C := zC n) _ _ _ trivial fun _ _ _ => ?_
        split <;> trivial
      · trivial
    · trivial
  case tassert =>
    refine y4 (C := zC n) _ _ _ _ trivial (fun _ => zFN _ _) fun _ _ _ => ?_
    rw [qM]
    split
    · trivial
    · exact zFN _ _
  case tiface =>
    refine y4 (C := zC n) _ _ _ _ trivial (fun _ => zFN _ _) fun _ _ _ => ?_
    split
    · trivial
    · exact zFN _ _
    · trivial
  case extract => exact zDp (C := zC n) _ _ _ trivial fun _ _ => wv _ _
  case call => trivial
  case ext e args => exact zIf e _
  case callv => exact zK5 _ _
  case invoke => exact zAz _ _ _
  case append esz bb s x =>
    show zC n (u0 esz bb s x es tm h n)
    unfold u0
    refine zIJ _ _ _ _ fun k l => ?_
    exact zD (C := zC n) _ _ _ trivial fun _ => zHg _ _ _ _
  case appz zero esz s x =>
    refine yD (C := zC n) _ _ _ trivial fun _ _ => ?_
    refine zD (C := zC n) _ _ _ trivial fun _ => ?_
    rw [zj]
    exact zD (C := zC n) _ _ _ trivial fun _ => zHg _ _ _ _
  case copy esz d x =>
    show zC n (zG3 esz d x es tm h n)
    have hk : ∀ nf, zC n (zHB h esz (aV es tm x) (fun k xs => vA (aV es tm d)
        (.eff (.nat 0) h n)
        (fun b off _ _ _ _ => jB (yF b h) (fun vs => yZ (yv xs) (onL (qO xs (Nat.mul k esz) vs off) (fun l => .eff (qf k) (yj (some (.cells l)) b h) n) 232) 233) 234) 235) nf 236) := by
      intro nf
      refine zIJ _ _ _ _ fun k l => ?_
      refine zt (C := zC n) _ _ _ _ trivial (fun _ => Nat.le_refl _) fun _ _ _ _ _ _ _ => ?_
      refine zz (C := zC n) _ _ _ trivial fun _ _ => ?_
      refine zD (C := zC n) _ _ _ trivial fun _ => ?_
      exact yG (C := zC n) _ _ _ trivial fun _ _ => Nat.le_refl _
    unfold zG3 zMf
    split
    · exact hk _
    · exact zt (C := zC n) _ _ _ _ trivial (fun _ => hk _) fun _ _ _ _ _ _ _ => hk _
  case lenStr => exact zDv (C := zC n) _ _ _ (zm (C := zC n) _ _ _ trivial fun _ _ => trivial) fun _ _ => trivial
  case lenSl => exact wq (C := zC n) _ _ _ (zt (C := zC n) _ _ _ _ trivial (fun _ => trivial) fun _ _ _ _ _ _ _ => trivial) fun _ _ _ _ _ => trivial
  case lenMap =>
    refine yi (C := zC n) _ _ _ _ trivial (fun _ => trivial) fun _ _ => ?_
    exact zx (C := zC n) _ _ _ trivial fun _ _ _ => trivial
  case capSl =>
    refine zt (C := zC n) _ _ _ _ trivial (fun _ => trivial) fun _ _ _ _ _ ex _ => ?_
    cases ex
    · show zC n (zKK _ _ _ _ _ h n)
      unfold zKK
      rw [qM]
      split
      · trivial
      · refine zz (C := zC n) _ _ _ trivial fun _ _ => ?_
        exact zD (C := zC n) _ _ _ trivial fun _ => ⟨Nat.le_refl _, Nat.le_refl _⟩
    · trivial
  case delete =>
    refine zD (C := zC n) _ _ _ trivial fun _ => ?_
    refine yi (C := zC n) _ _ _ _ trivial (fun _ => Nat.le_refl _) fun _ _ => ?_
    refine zx (C := zC n) _ _ _ trivial fun _ _ _ => ?_
    split
    · split
      · exact Nat.le_refl _
      · trivial
    · exact Nat.le_refl _
    · trivial
  case clearMap =>
    refine yi (C := zC n) _ _ _ _ trivial (fun _ => Nat.le_refl _) fun _ _ => ?_
    exact zx (C := zC n) _ _ _ trivial fun _ _ _ => Nat.le_refl _
  case clearSl =>
    refine zt (C := zC n) _ _ _ _ trivial (fun _ => Nat.le_refl _) fun _ _ _ _ _ _ _ => ?_
    refine zz (C := zC n) _ _ _ trivial fun _ _ => ?_
    refine zD (C := zC n) _ _ _ trivial fun _ => ?_
    exact yG (C := zC n) _ _ _ trivial fun _ _ => Nat.le_refl _
  case minmax => exact wv _ _
  case defer =>
    refine kb (C := zC n) _ _ _ trivial fun _ _ _ _ => ?_
    split <;> trivial
  case recov => trivial
  case bad => trivial
end
end Go.Ev

namespace Go.Ev
variable [Sym]
noncomputable section
variable {P : Program}
variable [SymFact P]
def zM : R → Prop
  | .ok _ _ _ _ n => n.room
  | .ret _ _ n => n.room
  | .err _ => False
  | .fork a b => zM a ∧ zM b
def zW (n : Key) : R → Prop
  | .ok _ _ _ _ n' => n.ix ≤ n'.ix
  | .ret _ _ n' => n.ix ≤ n'.ix
  | .err _ => True
  | .fork a b => zW n a ∧ zW n b
theorem kR {n : Key} : ∀ {r : R}, zM r → zW n r → n.room
  | .ok _ _ _ _ n', h, h' => Nat.lt_of_le_of_lt h' h
  | .ret _ _ n', h, h' => Nat.lt_of_le_of_lt h' h
  | .fork a _, h, h' => kR h.1 h'.1
theorem zW.le {n n' : Key} (hle : n.ix ≤ n'.ix) : ∀ {r : R}, zW n' r → zW n r
  | .ok _ _ _ _ _, h => Nat.le_trans hle h
  | .ret _ _ _, h => Nat.le_trans hle h
  | .err _, _ => trivial
  | .fork _ _, h => ⟨zW.le hle h.1, zW.le hle h.2⟩
def ye (call : yA) : Prop := ∀ d f args h n, zW n (call d f args h n)
theorem zi (d : Option Loc) (v : CV) (tm : Tm) (k : Tm → R) : zy d v tm k = k (match d with | none => tm | some p => w9 v p tm) := by cases d <;> rfl
def qH (k : CV → Heap → Key → R) (r : R) : R := R.rec (motive := fun _ => R) (fun _ _ _ _ _ => .err 300) (fun v h n => k v h n) (fun c => .err c) (fun _ _ a b => .fork a b) r
theorem xx {k : CV → Heap → Key → R} (hk : ∀ v h n, zW n (k v h n)) : ∀ {r : R}, zM (qH k r) → zM r
  | .ok .., h => h.elim
  | .ret v h n, hc => kR hc (hk v h n)
  | .err _, h => h.elim
  | .fork _ _, h => ⟨xx hk h.1, xx hk h.2⟩
theorem x6 {n : Key} {k : CV → Heap → Key → R} (hk : ∀ v h n, zW n (k v h n)) : ∀ {r : R}, zW n r → zW n (qH k r)
  | .ok .., _ => trivial
  | .ret v h n', hc => zW.le hc (hk v h n')
  | .err _, _ => trivial
  | .fork _ _, h => ⟨x6 hk h.1, x6 hk h.2⟩
theorem jH {call : yA} (hcall : ye call) {k : KE} (hk : ∀ es tm ds h n, zW n (k es tm ds h n)) (d : Option Loc) (es : List CV) (tm : Tm) (ds : xU) (h : Heap) (n : Key) :
    ∀ (r : OR), zC n r → zW n (after r call k d es tm ds h n)
  | .val v, _ => by show zW n (zy _ _ _ _); rw [zi]; exact hk _ _ _ _ _
  | .read v, _ => by show zW n (zy _ _ _ _); rw [zi]; exact hk _ _ _ _ _
  | .alloc o v, _ => by show zW n (zy _ _ _ _); rw [zi]; exact zW.le (Key.ix_le_succ n) (hk _ _ _ _ _)
  | .eff v h' n', ho => by show zW n (zy _ _ _ _); rw [zi]; exact zW.le ho (hk _ _ _ _ _)
  | .call f args, _ => x6 (k := fun v h n => zy d v tm fun tm => k (v :: es) tm ds h n) (fun v h n => by rw [zi]; exact hk _ _ _ _ _) (hcall _ _ _ _ _)
  | .dfr f args, _ => by show zW n (zy _ _ _ _); rw [zi]; exact hk _ _ _ _ _
  | .recov, _ => by show zW n (zy _ _ _ _); rw [zi]; exact hk _ _ _ _ _
  | .err _, _ => trivial
  | .fork a b, ho => ⟨jH hcall hk d es tm ds h n a ho.1, jH hcall hk d es tm ds h n b ho.2⟩
theorem ql {call : yA} (hcall : ye call) : ∀ (l : List zFq) (es : List CV) (tm : Tm) (ds : xU) (h : Heap) (n : Key), zW n (ju P call l es tm ds h n)
  | [], _, _, _, _, _ => Nat.le_refl _
  | .i op :: l, es, tm, ds, h, n => jH hcall (fun es tm ds h n => ql hcall l es tm ds h n) none es tm ds h n _ (kN op)
  | .o op d :: l, es, tm, ds, h, n => jH hcall (fun es tm ds h n => ql hcall l es tm ds h n) (some d) es tm ds h n _ (kN op)
  | .g x wnt op d :: l, es, tm, ds, h, n => by
    show zW n (Bool.rec (motive := fun _ => R)
      (Bool.rec (motive := fun _ => R) (.err 299) (zy d .undef tm fun tm => ju P call l (.undef :: es) tm ds h n) (jk (aV es tm x)))
      (after (yC P op es tm h n) call (ju P call l) d es tm ds h n) (qt wnt (aV es tm x)))
    cases qt wnt (aV es tm x) with
    | true => exact jH hcall (fun es tm ds h n => ql hcall l es tm ds h n) d es tm ds h n _ (kN op)
    | false =>
      cases jk (aV es tm x) with
      | true => show zW n (zy _ _ _ _); rw [zi]; exact ql hcall l _ _ _ _ _
      | false => trivial
structure yh (ψ : Psi) (F N : Nat) (tm : Tm) (a : Act) : Prop where
  size : N ≤ a.tmps.size
  tmp : ∀ t, zf F t = true → t ≤ 271 → t < N → zG ψ (qP (Loc.ofNat t) tm) (a.tmps.getD t undef)
def w7 (ψ : Psi) (dl : List (Option Nat)) (es : List CV) (a : Act) : Prop := ∀ t i, yp t dl 0 = some i → zG ψ (zM0 es i) (a.tmps.getD t undef)
def kJ (P : Program) (ψ : Psi) : Prop := ∀ g, g < P.globals.size → g ≤ 4095 → ∃ sz, ψ (Key.ofNat g) = some ⟨g, 0, sz, fun n => n⟩
def xf (ψ : Psi) (n : Key) : Prop := ∀ k : Key, n.ix ≤ k.ix → ψ k = none
def zOc (P : Program) (ψ : Psi) (f : FuncId × List CV) (d : Deferred) : Prop :=
  ∃ fv cap args', d.target = .fn fv cap ∧ (∀ w, (invoke d.target d.args).run P w = (callFunc f.1 args').run P w) ∧ zK ψ f.2 args'.toList
def qy (P : Program) (ψ : Psi) : xU → List Deferred → Prop
  | [], l => l = []
  | f :: fs, l => ∃ d r, l = d :: r ∧ zOc P ψ f d ∧ qy P ψ fs r
structure St (P : Program) (F N : Nat) (ψ : Psi) (tm : Tm) (ds : xU) (h : Heap) (n : Key) (a : Act) (w : World) : Prop where
  frame : yh ψ F N tm a
  dfr : qy P ψ ds a.defers
  rel : Rel ψ (Heap.fam h) w
  glob : kJ P ψ
  fresh : xf ψ n
theorem kJ.mono {ψ ψ' : Psi} (hle : ψ.le ψ') (h : kJ P ψ) : kJ P ψ' := fun g h1 h2 => let ⟨sz, e⟩ := h g h1 h2; ⟨sz, hle _ _ e⟩
theorem qy.mono {ψ ψ' : Psi} (hle : ψ.le ψ') : ∀ {ds : xU} {l : List Deferred}, qy P ψ ds l → qy P ψ' ds l
  | [], _, h => h
  | f :: fs, _, h => by
    obtain ⟨d, r, rfl, ⟨fv, cap, as, h1, h2, h3⟩, h4⟩ := h
    exact ⟨d, r, rfl, ⟨fv, cap, as, h1, h2, h3.mono hle⟩, qy.mono hle h4⟩
theorem yh.mono {ψ ψ' : Psi} (hle : ψ.le ψ') {F N : Nat} {tm : Tm} {a : Act} (h : yh ψ F N tm a) : yh ψ' F N tm a := ⟨h.size, fun t h1 h2 h3 => (h.tmp t h1 h2 h3).mono hle⟩
theorem w7.mono {ψ ψ' : Psi} (hle : ψ.le ψ') {dl : List (Option Nat)} {es : List CV} {a : Act} (h : w7 ψ dl es a) : w7 ψ' dl es a := fun t i h1 => (h t i h1).mono hle
theorem zh.fresh {ψ ψ' : Psi} {g g' : Fam} {n n' : Key} {w w' : World} (hp : zh ψ g n w ψ' g' n' w') (h : xf ψ n) : xf ψ' n' := by
  intro k hk
  have := hp.mono
  rw [hp.out k (.inr hk)]
  exact h k (by omega)
theorem jW (t : Nat) : ∀ (dl : List (Option Nat)) (i : Nat), yp t dl (i + 1) = (yp t dl i).map (· + 1)
  | [], _ => rfl
  | none :: r, i => by
    show yp t r (i + 1 + 1) = (yp t r (i + 1)).map (· + 1)
    exact jW t r (i + 1)
  | some u :: r, i => by
    unfold yp
    simp only
    cases Nat.beq u t with
    | true => rfl
    | false => exact jW t r (i + 1)
theorem qw (a : Act) (t : Nat) (v : Value) (h : t < a.tmps.size) : (a.put (some t) v).tmps.getD t undef = v := by
  simp [Act.put, h]
theorem xI (a : Act) (d : Option Nat) (v : Value) {t : Nat} (h : d ≠ some t) : (a.put d v).tmps.getD t undef = a.tmps.getD t undef := by
  cases d with
  | none => rfl
  | some u =>
    have : u ≠ t := fun e => h (by rw [e])
    simp [Act.put, Array.getElem?_setIfInBounds_ne this]
theorem zCJ (a : Act) (d : Option Nat) (v : Value) : (a.put d v).tmps.size = a.tmps.size := by cases d <;> simp [Act.put]
theorem uO (a : Act) (d : Option Nat) (v : Value) : (a.put d v).defers = a.defers := by cases d <;> rfl
abbrev zGP (d : Option Loc) (v : CV) (tm : Tm) : Tm := match d with | none => tm | some p => w9 v p tm
theorem xq {F N : Nat} {dst : Option Nat} {d : Option Loc} (h : yx F N dst = some d) :
    (dst = none ∧ d = none) ∨ ∃ t, dst = some t ∧ t < N ∧ ((zf F t = false ∧ d = none) ∨ (zf F t = true ∧ t ≤ 271 ∧ d = some (Loc.ofNat t))) := by
  unfold yx at h
  split at h
  · injection h with h; exact .inl ⟨rfl, h.symm⟩
  · rename_i t
    split at h
    · cases h
    · rename_i hn
      have hn : t + 1 ≤ N := zH hn
      split at h
      · rename_i hf; injection h with h; exact .inr ⟨t, rfl, by omega, .inl ⟨hf, h.symm⟩⟩
      · rename_i hf
        split at h
        · rename_i hl; injection h with h; exact .inr ⟨t, rfl, by omega, .inr ⟨hf, zH hl, h.symm⟩⟩
        · cases h
theorem zKp {ψ : Psi} {F N : Nat} {tm : Tm} {a : Act} {dst : Option Nat} {d : Option Loc} {v : CV} {x : Value} (hf : yh ψ F N tm a) (hd : yx F N dst = some d) (hv : zG ψ v x) :
    yh ψ F N (zGP d v tm) (a.put dst x) := by
  refine ⟨by rw [zCJ]; exact hf.size, fun t h1 h2 h3 => ?_⟩
  rcases xq hd with ⟨rfl, rfl⟩ | ⟨u, rfl, hu, ⟨hb, rfl⟩ | ⟨hb, hle, rfl⟩⟩
  · exact hf.tmp t h1 h2 h3
  · have hne : u ≠ t := fun e => by subst e; rw [hb] at h1; cases h1
    rw [xI _ _ _ (by simpa using hne)]
    exact hf.tmp t h1 h2 h3
  · by_cases e : u = t
    · subst e
      rw [qw _ _ _ (Nat.lt_of_lt_of_le hu hf.size)]
      show zG ψ (qP _ (w9 v _ tm)) x
      rw [qd]; exact hv
    · rw [xI _ _ _ (by simpa using e)]
      show zG ψ (qP _ (w9 v _ tm)) _
      rw [xQ _ _ _ _ (fun h => e (Loc.ofNat_inj hle h2 h.symm))]
      exact hf.tmp t h1 h2 h3
theorem zMw {ψ : Psi} {F N : Nat} {dl : List (Option Nat)} {es : List CV} {a : Act} {dst : Option Nat} {d : Option Loc} {v : CV} {x : Value} (hs : N ≤ a.tmps.size) (he : w7 ψ dl es a) (hd : yx F N dst = some d)
    (hv : zG ψ v x) : w7 ψ (dst :: dl) (v :: es) (a.put dst x) := by
  intro t i hi
  have other : dst ≠ some t → zG ψ (zM0 (v :: es) i) ((a.put dst x).tmps.getD t undef) := by
    intro hne
    have hi' : yp t dl 1 = some i := by
      cases dst with
      | none => exact hi
      | some u =>
        unfold yp at hi
        have : Nat.beq u t = false := jy fun e => hne (by rw [e])
        simp only [this] at hi
        exact hi
    rw [jW] at hi'
    cases hw : yp t dl 0 with
    | none => rw [hw] at hi'; cases hi'
    | some j =>
      rw [hw] at hi'
      injection hi' with hi'; subst hi'
      rw [xI _ _ _ hne]
      exact he t j hw
  by_cases e : dst = some t
  · subst e
    rcases xq hd with ⟨h1, _⟩ | ⟨u, h1, hu, _⟩
    · cases h1
    · injection h1 with h1; subst h1
      unfold yp at hi
      have hb : Nat.beq t t = true := qA t
      simp only [hb] at hi
      injection hi with hi; subst hi
      rw [qw _ _ _ (Nat.lt_of_lt_of_le hu hs)]
      exact hv
  · exact other e
theorem zFX (a : Act) : zIK a.eval := ⟨fun _ => rfl, fun _ => rfl⟩
theorem zFg {F N : Nat} {ψ : Psi} {tm : Tm} {ds : xU} {h : Heap} {n : Key} {a : Act} {w : World} {dl : List (Option Nat)} {es : List CV} (hs : St P F N ψ tm ds h n a w) (he : w7 ψ dl es a) :
    ∀ L, zg P ψ es tm ⟨F, N, dl⟩ a.eval L := by
  intro L x hxL c hc
  clear hxL
  unfold zU at hc
  split at hc
  · rename_i t
    split at hc
    · rename_i i hi
      injection hc with hc; subst hc
      exact he t i hi
    · split at hc
      · rename_i hb
        injection hc with hc; subst hc
        rw [Bool.and_eq_true, Bool.and_eq_true] at hb
        exact hs.frame.tmp t hb.1.1 (zH hb.1.2) (zH hb.2)
      · cases hc
  · rename_i v
    cases hv : wy 20 v with
    | none => rw [hv] at hc; cases hc
    | some c' => rw [hv] at hc; injection hc with hc; subst hc; exact qk 20 hv
  · rename_i g
    split at hc
    · rename_i hb
      injection hc with hc; subst hc
      rw [Bool.and_eq_true] at hb
      obtain ⟨sz, e⟩ := hs.glob g (zH hb.1) (zH hb.2)
      exact zb.2 ⟨_, e, rfl⟩
    · cases hc
  · rename_i f
    injection hc with hc; subst hc
    exact yf.2 ⟨#[], #[], rfl, zI.2 rfl, zI.2 rfl⟩
end
end Go.Ev

namespace Go.Ev
variable [Sym]
noncomputable section
variable {P : Program}
variable [SymFact P]
def zX (ψ₀ : Psi) (g₀ : Fam) (n₀ : Key) (w₀ : World) : R → Value → World → Prop
  | .ret cv h n, v, w => ∃ ψ, zh ψ₀ g₀ n₀ w₀ ψ (Heap.fam h) n w ∧ zG ψ cv v
  | .fork a b, v, w => zX ψ₀ g₀ n₀ w₀ a v w ∨ zX ψ₀ g₀ n₀ w₀ b v w
  | _, _, _ => False
def yB (P : Program) (f : FuncId) (args : Array Value) (w : World) (K : Value → World → Prop) : Prop := match (callFunc f args).run P w with
  | .ok (.enter g as) w' => Calls P g as w' fun e w'' => ∃ v, e = .returned v ∧ K v w''
  | .ok (.value v) w' => K v w'
  | _ => False
def zCM (P : Program) (f : FuncId) (args : Array Value) (w : World) (K : World → Prop) : Prop :=
  (callFunc f args).run P w = .ok (.enter f args) w ∧ CallsD P f args .returning w fun e u w' => u = .returning ∧ ∃ v, e = .returned v ∧ K w'
structure yR (P : Program) (call : yA) : Prop where
  above : ye call
  calls : ∀ f args h n ψ w args', zK ψ args args'.toList → kJ P ψ → Rel ψ (Heap.fam h) w → xf ψ n → zM (call false f args h n) →
    yB P f args' w (zX ψ (Heap.fam h) n w (call false f args h n))
  defers : ∀ f args h n ψ w args', zK ψ args args'.toList → kJ P ψ → Rel ψ (Heap.fam h) w → xf ψ n → zM (call true f args h n) →
    zCM P f args' w fun w' => ∃ v, zX ψ (Heap.fam h) n w (call true f args h n) v w'
def kr (P : Program) (rc : Bool) (o : Oper) (a : Act) (w : World) (K : Act → World → Prop) : Prop := match (execOp a.eval o).run P w with
  | .ok (.value v) w' => K (a.put o.dst v) w'
  | .ok .skip w' => K (a.put o.dst undef) w'
  | .ok (.defer d) w' => K ({ a with defers := d :: a.defers }.put o.dst undef) w'
  | .ok (.enter f args) w' => Calls P f args w' fun e w'' => ∃ v, e = .returned v ∧ K (a.put o.dst v) w''
  | .ok .recover w' => rc = true ∧ K (a.put o.dst .nilIface) w'
  | _ => False
theorem kr.mono {rc : Bool} {o : Oper} {a : Act} {w : World} {K K' : Act → World → Prop} (hk : ∀ a w, K a w → K' a w) (h : kr P rc o a w K) : kr P rc o a w K' := by
  unfold kr at *
  generalize (execOp a.eval o).run P w = r at h ⊢
  cases r with
  | halt x w' => exact h.elim
  | ok x w' =>
    cases x <;> first
      | exact hk _ _ h
      | exact Calls.mono h fun e w' ⟨v, e1, e2⟩ => ⟨v, e1, hk _ _ e2⟩
      | exact ⟨h.1, hk _ _ h.2⟩
      | exact h.elim
structure zMT (P : Program) (ops : Array Oper) (rc : Bool) (Q : Act → World → Prop) (W : List Nat → Act → World → Prop) : Prop where
  nil : ∀ a w, Q a w → W [] a w
  skip : ∀ i o rest a w, ops[i]? = some o → Region.wanted o (yielded ops a.tmps) = false → W rest (a.put o.dst undef) w → W (i :: rest) a w
  step : ∀ i o rest a w, ops[i]? = some o → Region.wanted o (yielded ops a.tmps) = true → kr P rc o a w (W rest) → W (i :: rest) a w
theorem zHK (ops : Array Oper) (Q : Exit → Act → World → Prop) : zMT P ops false (Q .normal) (wpOps P ops Q) := by
  refine ⟨fun a w h => h, fun i o rest a w ho hw h => ?_, fun i o rest a w ho hw h => ?_⟩
  · simp only [wpOps, ho, hw, Bool.false_eq_true, if_false]; exact h
  · simp only [wpOps, ho, hw, if_true]
    refine .inl ?_
    unfold Oper.wp
    unfold kr at h
    generalize (execOp a.eval o).run P w = r at h ⊢
    cases r with
    | halt x w' => exact h.elim
    | ok x w' =>
      cases x <;> first
        | exact h
        | exact Calls.mono h (fun e w' ⟨v, e1, e2⟩ => by subst e1; exact e2)
        | exact absurd h.1 (by simp)
        | exact h.elim
theorem zDJ (ops : Array Oper) (Q : Exit → Act → List Frame → World → Prop) {cs : List Frame} (hcs : recoverD cs = none) :
    zMT P ops true (fun a w => Q .normal a cs w) (fun l a w => wpOpsS P ops Q l a cs w) := by
  refine ⟨fun a w h => h, fun i o rest a w ho hw h => ?_, fun i o rest a w ho hw h => ?_⟩
  · simp only [wpOpsS, ho, hw, Bool.false_eq_true, if_false]; exact h
  · simp only [wpOpsS, ho, hw, if_true]
    unfold kr at h
    generalize (execOp a.eval o).run P w = r at h ⊢
    cases r with
    | halt x w' => exact h.elim
    | ok x w' =>
      cases x <;> first
        | exact h
        | exact Calls.mono h (fun e w' ⟨v, e1, e2⟩ => by subst e1; exact e2)
        | (simp only [hcs]; exact h.2)
        | exact h.elim
def zOH : CX → Exit → Prop
  | .normal, .normal => True
  | .exit i, .exit j => i = j
  | .ret, .ret => True
  | _, _ => False
section
variable {F N : Nat} {call : yA} {ψ : Psi} {tm : Tm} {ds : xU} {h : Heap} {n : Key} {a : Act} {w : World} {dl : List (Option Nat)} {es : List CV}
def jR (P : Program) (F N : Nat) (ψ : Psi) (h : Heap) (n : Key) (w : World) (dl : List (Option Nat)) (k : KE) (r : R) (a' : Act) (w' : World) : Prop :=
  ∃ es' tm' ds' h' n' ψ', St P F N ψ' tm' ds' h' n' a' w' ∧ w7 ψ' dl es' a' ∧ zh ψ (Heap.fam h) n w ψ' (Heap.fam h') n' w' ∧ zM (k es' tm' ds' h' n') ∧
    ∀ (O : R → Prop), (∀ x y, O x → O (.fork x y)) → (∀ x y, O y → O (.fork x y)) → O (k es' tm' ds' h' n') → O r
theorem jR.forkL {k : KE} {r s : R} {a' : Act} {w' : World} (hx : jR P F N ψ h n w dl k r a' w') : jR P F N ψ h n w dl k (.fork r s) a' w' := by
  obtain ⟨es', tm', ds', h', n', ψ', h1, h2, h3, h4, h5⟩ := hx
  exact ⟨es', tm', ds', h', n', ψ', h1, h2, h3, h4, fun O f1 f2 ho => f1 _ _ (h5 O f1 f2 ho)⟩
theorem jR.forkR {k : KE} {r s : R} {a' : Act} {w' : World} (hx : jR P F N ψ h n w dl k s a' w') : jR P F N ψ h n w dl k (.fork r s) a' w' := by
  obtain ⟨es', tm', ds', h', n', ψ', h1, h2, h3, h4, h5⟩ := hx
  exact ⟨es', tm', ds', h', n', ψ', h1, h2, h3, h4, fun O f1 f2 ho => f2 _ _ (h5 O f1 f2 ho)⟩
theorem jG {k : KE} {o : Oper} {d : Option Loc} {v : CV} {x : Value} {ψ' : Psi} {h' : Heap} {n' : Key} {w' : World} (hst : St P F N ψ tm ds h n a w) (hev : w7 ψ dl es a) (hd : yx F N o.dst = some d)
    (hp : zh ψ (Heap.fam h) n w ψ' (Heap.fam h') n' w') (hv : zG ψ' v x) (hc : zM (zy d v tm fun tm => k (v :: es) tm ds h' n')) :
    jR P F N ψ h n w (o.dst :: dl) k (zy d v tm fun tm => k (v :: es) tm ds h' n') (a.put o.dst x) w' := by
  rw [zi] at hc ⊢
  refine ⟨v :: es, _, ds, h', n', ψ', ⟨zKp (hst.frame.mono hp.ext) hd hv, ?_, hp.rel, hst.glob.mono hp.ext, hp.fresh hst.fresh⟩, zMw hst.frame.size (hev.mono hp.ext) hd hv, hp, hc, fun O _ _ ho => ho⟩
  rw [uO]
  exact hst.dfr.mono hp.ext
theorem zCC {k : KE} {o : Oper} {d : Option Loc} {x : Value} {w' : World} (hst : St P F N ψ tm ds h n a w) (hev : w7 ψ dl es a) (hd : yx F N o.dst = some d) :
    ∀ {r : R}, zX ψ (Heap.fam h) n w r x w' → zM (qH (fun v h n => zy d v tm fun tm => k (v :: es) tm ds h n) r) →
      jR P F N ψ h n w (o.dst :: dl) k (qH (fun v h n => zy d v tm fun tm => k (v :: es) tm ds h n) r) (a.put o.dst x) w'
  | .ok .., hr, _ => hr.elim
  | .err _, hr, _ => hr.elim
  | .ret cv h' n', hr, hc => by
    obtain ⟨ψ', hp, hv⟩ := hr
    exact jG hst hev hd hp hv hc
  | .fork r s, hr, hc => by
    rcases hr with hr | hr
    · exact jR.forkL (zCC hst hev hd hr hc.1)
    · exact jR.forkR (zCC hst hev hd hr hc.2)
theorem xM {o : Oper} {w' : World} {x : Value} (hv : jN P a.eval o.op o.type w w' x) {K : Act → World → Prop} {rc : Bool} (hk : K (a.put o.dst x) w') : kr P rc o a w K := by
  obtain ⟨nx, h1, h2⟩ := hv
  have h1 : (execOp a.eval o).run P w = .ok nx w' := h1
  unfold kr
  rw [h1]
  rcases h2 with rfl | ⟨rfl, rfl⟩
  · exact hk
  · exact hk
theorem wA (hcall : yR P call) {k : KE} (hk : ∀ es tm ds h n, zW n (k es tm ds h n)) {o : Oper} {d : Option Loc} (hst : St P F N ψ tm ds h n a w) (hev : w7 ψ dl es a)
    (hd : yx F N o.dst = some d) {rc : Bool} (hrc : zBz o.op = true → rc = true) : ∀ (r : OR), zB P ψ h n a.eval o.op o.type w r → zC n r → zM (after r call k d es tm ds h n) →
      kr P rc o a w (jR P F N ψ h n w (o.dst :: dl) k (after r call k d es tm ds h n))
  | .val v, hs, _, hc => by
    obtain ⟨x, h1, h2⟩ := hs
    exact xM h1 (jG hst hev hd (zh.refl hst.rel) h2 hc)
  | .read v, hs, _, hc => by
    obtain ⟨x, h1, h2⟩ := hs hst.rel.on
    exact xM h1 (jG hst hev hd (zh.refl hst.rel) h2 hc)
  | .alloc ob v, hs, _, hc => by
    obtain ⟨w', x, sz, h1, h2, h3, _⟩ := hs
    have hroom : n.succ.room := by
      have hc' : zM (zy d v tm fun tm => k (v :: es) tm ds (yj (some ob) n h) n.succ) := hc
      rw [zi] at hc'
      exact kR hc' (hk _ _ _ _ _)
    have hr := Key.room_of_succ hroom
    have hnone := hst.fresh n (Nat.le_refl _)
    have hle := Psi.le_upd (ψ := ψ) (k := n) ⟨w.heap.size, 0, sz, fun n => n⟩ hnone
    obtain ⟨h4, h5⟩ := h3 _ hle (Psi.upd_same _ _ _)
    have hp := kE hst.rel hr hnone h2 h5
    rw [← zp] at hp
    exact xM h1 (jG hst hev hd hp h4 hc)
  | .eff v h' n', hs, ha, hc => by
    have hroom : n'.room := by
      have hc' : zM (zy d v tm fun tm => k (v :: es) tm ds h' n') := hc
      rw [zi] at hc'
      exact kR hc' (hk _ _ _ _ _)
    obtain ⟨w', x, ψ', h1, h2, h3⟩ := hs hst.rel (fun q hq _ => hst.fresh q hq) hroom
    exact xM h1 (jG hst hev hd h2 h3 hc)
  | .call f args, hs, _, hc => by
    obtain ⟨args', h1, h2⟩ := hs hst.rel.on
    have hc' : zM (qH (fun v h n => zy d v tm fun tm => k (v :: es) tm ds h n) (call false f args h n)) := hc
    have hcl := xx (fun v h n => by rw [zi]; exact hk _ _ _ _ _) hc'
    have hcalls := hcall.calls f args h n ψ w args' h2 hst.glob hst.rel hst.fresh hcl
    have hn := fun (x : Value) (w' : World) hr => zCC (k := k) (o := o) (x := x) (w' := w') hst hev hd (r := call false f args h n) hr hc'
    have h1 : (execOp a.eval o).run P w = (callFunc f args').run P w := h1
    unfold kr
    rw [h1]
    unfold yB at hcalls
    generalize (callFunc f args').run P w = r at hcalls ⊢
    cases r with
    | halt x w' => exact hcalls.elim
    | ok x w' =>
      cases x <;> first
        | exact hn _ _ hcalls
        | exact Calls.mono hcalls fun e w' ⟨v, e1, e2⟩ => ⟨v, e1, hn v w' e2⟩
        | exact hcalls.elim
  | .dfr f args, hs, _, hc => by
    obtain ⟨dd, fv, cap, args', h1, h2, h3, h4⟩ := hs
    have h1 : (execOp a.eval o).run P w = .ok (.defer dd) w := h1
    unfold kr
    rw [h1]
    have hc' : zM (zy d .undef tm fun tm => k (.undef :: es) tm ((f, args) :: ds) h n) := hc
    show jR P F N ψ h n w (o.dst :: dl) k (zy d .undef tm fun tm => k (.undef :: es) tm ((f, args) :: ds) h n) ({ a with defers := dd :: a.defers }.put o.dst undef) w
    refine jG (a := { a with defers := dd :: a.defers }) (ds := (f, args) :: ds) ⟨⟨hst.frame.size, hst.frame.tmp⟩, ⟨dd, a.defers, rfl, ⟨fv, cap, args', h2, h3, h4⟩, hst.dfr⟩, hst.rel, hst.glob, hst.fresh⟩ hev hd (zh.refl hst.rel) qN hc'
  | .recov, hs, _, hc => by
    obtain ⟨h0, h1⟩ := hs
    have h1 : (execOp a.eval o).run P w = .ok .recover w := h1
    unfold kr
    rw [h1]
    exact ⟨hrc h0, jG hst hev hd (zh.refl hst.rel) (zr.2 rfl) hc⟩
  | .err _, _, _, hc => hc.elim
  | .fork r s, hs, ha, hc => by
    rcases hs hst.rel with hs | hs
    · exact kr.mono (fun _ _ h => jR.forkL h) (wA hcall hk hst hev hd hrc r hs ha.1 hc.1)
    · exact kr.mono (fun _ _ h => jR.forkR h) (wA hcall hk hst hev hd hrc s hs ha.2 hc.2)
end
end
end Go.Ev

namespace Go.Ev
variable [Sym]
noncomputable section
variable {P : Program}
variable [SymFact P]
theorem zEH {ψ : Psi} {ops : Array Oper} {o : Oper} {j t : Nat} {wnt : Bool} {a : Act} {c : CV} (hg : o.guard = some (j, wnt)) (ht : (ops[j]?).bind (·.dst) = some t) (hc : zG ψ c (a.tmps.getD t undef)) :
    (qt wnt c = true → Region.wanted o (yielded ops a.tmps) = true) ∧ (qt wnt c = false → jk c = true → Region.wanted o (yielded ops a.tmps) = false) := by
  have hw : Region.wanted o (yielded ops a.tmps) = (yielded ops a.tmps j == some wnt) := by unfold Region.wanted; rw [hg]
  have hy : yielded ops a.tmps j = (match a.tmps[t]? with | some (.bool b) => some b | _ => none) := by unfold yielded; rw [ht]; rfl
  have hget : ∀ b, a.tmps.getD t undef = .bool b → a.tmps[t]? = some (.bool b) := by
    intro b h
    rw [Array.getD_eq_getD_getElem?] at h
    cases hq : a.tmps[t]? with
    | none => rw [hq] at h; cases h
    | some v => rw [hq] at h; exact congrArg some h
  rw [hw, hy]
  constructor
  · intro hb
    unfold qt at hb
    split at hb
    · rename_i b
      rw [zF] at hc
      rw [hget _ hc]
      cases b <;> cases wnt <;> simp_all
    · cases hb
  · intro hb hn
    cases hq : a.tmps[t]? with
    | none => rfl
    | some v =>
      have hv : a.tmps.getD t undef = v := by rw [Array.getD_eq_getD_getElem?, hq]; rfl
      rw [hv] at hc
      cases v <;> try rfl
      rename_i b
      have hb' : c = .bool b ∨ c = .any := by
        cases c
        case bool b' => rw [zF] at hc; injection hc with hc; subst hc; exact .inl rfl
        case any => exact .inr rfl
        case nat => rw [zO] at hc; cases hc
        case int => rw [zV] at hc; cases hc
        case anyi => rw [z7] at hc; obtain ⟨_, hc⟩ := hc; cases hc
        case str => rw [za] at hc; obtain ⟨_, hc, _⟩ := hc; cases hc
        case big => rw [x9] at hc; obtain ⟨_, hc, _⟩ := hc; cases hc
        case nilptr => rw [yk] at hc; cases hc
        case ptr => rw [zb] at hc; obtain ⟨_, _, hc⟩ := hc; cases hc
        case nilsl => rw [zc] at hc; cases hc
        case sl => rw [zl] at hc; obtain ⟨_, _, _, _, hc, _⟩ := hc; cases hc
        case sst => rw [y2] at hc; obtain ⟨_, hc, _⟩ := hc; cases hc
        case win => rw [x8] at hc; obtain ⟨_, _, _, _, _, hc, _⟩ := hc; cases hc
        case nilmap => rw [zk] at hc; cases hc
        case map => rw [yS] at hc; obtain ⟨_, _, hc⟩ := hc; cases hc
        case func => rw [yf] at hc; obtain ⟨_, _, hc, _⟩ := hc; cases hc
        case nilfunc => rw [yY] at hc; cases hc
        case iface => rw [zq] at hc; obtain ⟨_, hc, _⟩ := hc; cases hc
        case niliface => rw [zr] at hc; cases hc
        case agg => rw [yL] at hc; obtain ⟨_, hc, _⟩ := hc; cases hc
        case sym i => rw [yX] at hc; rcases Sym.one i with ⟨_, _, e⟩ | ⟨_, e⟩ <;> rw [e] at hc <;> cases hc
        case tup => rw [zn] at hc; obtain ⟨_, hc, _⟩ := hc; cases hc
      rcases hb' with rfl | rfl
      · cases b <;> cases wnt <;> first | rfl | cases hb
      · cases hn
section
variable {F N : Nat} {call : yA} {ops : Array Oper} {rc : Bool} {Q : Act → World → Prop} {W : List Nat → Act → World → Prop}
theorem zJw {j : Nat} : (nth ops.toList j).bind (·.dst) = (ops[j]?).bind (·.dst) := by rw [yH, Array.getElem?_toList]
theorem zMK (hcall : yR P call) (walk : zMT P ops rc Q W) {k : KE} (hk : ∀ es tm ds h n, zW n (k es tm ds h n)) {ψ : Psi} {tm : Tm} {ds : xU} {h : Heap} {n : Key} {a : Act} {w : World} {dl : List (Option Nat)} {es : List CV}
    (hst : St P F N ψ tm ds h n a w) (hev : w7 ψ dl es a) {i : Nat} {o : Oper} {rest : List Nat} (ho : ops[i]? = some o) (hrc : zBz o.op = true → rc = true)
    (hc : zM (zN7 P call (wR P F N ops.toList dl o) k es tm ds h n))
    (hnext : ∀ a' w', jR P F N ψ h n w (o.dst :: dl) k (zN7 P call (wR P F N ops.toList dl o) k es tm ds h n) a' w' → W rest a' w') : W (i :: rest) a w := by
  unfold wR at hc hnext
  cases hd : yx F N o.dst with
  | none => simp only [hd] at hc; exact hc.elim
  | some d =>
    simp only [hd] at hc hnext
    have hsim := fun (w : World) => zH2 (ψ := ψ) (h := h) (n := n) (es := es) (tm := tm) (ty := o.type) (w := w) (zFX a) o.op (zFg hst hev _)
    cases hg : o.guard with
    | none =>
      have hw : Region.wanted o (yielded ops a.tmps) = true := by unfold Region.wanted; rw [hg]
      simp only [hg] at hc hnext
      refine walk.step i o rest a w ho hw ?_
      cases d with
      | none =>
        have := wA hcall hk hst hev hd hrc _ (hsim w) (kN _) hc
        exact kr.mono hnext this
      | some p =>
        have := wA hcall hk hst hev hd hrc _ (hsim w) (kN _) hc
        exact kr.mono hnext this
    | some jw =>
      obtain ⟨j, wnt⟩ := jw
      simp only [hg] at hc hnext
      cases ht : (nth ops.toList j).bind (·.dst) with
      | none => simp only [ht] at hc; exact hc.elim
      | some t =>
        simp only [ht] at hc hnext
        cases hx : zU P ⟨F, N, dl⟩ (.tmp t) with
        | none => simp only [hx] at hc; exact hc.elim
        | some x =>
          simp only [hx] at hc hnext
          have hv := zFg hst hev [.tmp t] _ (by simp) _ hx
          have hv : zG ψ (aV es tm x) (a.tmps.getD t undef) := hv
          rw [zJw] at ht
          obtain ⟨w1, w2⟩ := zEH hg ht hv
          have hc' : zM (Bool.rec (motive := fun _ => R)
            (Bool.rec (motive := fun _ => R) (.err 299) (zy d .undef tm fun tm => k (.undef :: es) tm ds h n) (jk (aV es tm x)))
            (after (yC P (zS P ⟨F, N, dl⟩ o.op) es tm h n) call k d es tm ds h n) (qt wnt (aV es tm x))) := hc
          have hnext' : ∀ a' w', jR P F N ψ h n w (o.dst :: dl) k (Bool.rec (motive := fun _ => R)
            (Bool.rec (motive := fun _ => R) (.err 299) (zy d .undef tm fun tm => k (.undef :: es) tm ds h n) (jk (aV es tm x)))
            (after (yC P (zS P ⟨F, N, dl⟩ o.op) es tm h n) call k d es tm ds h n) (qt wnt (aV es tm x))) a' w' → W rest a' w' := hnext
          cases hb : qt wnt (aV es tm x) with
          | true =>
            rw [hb] at hc' hnext'
            refine walk.step i o rest a w ho (w1 hb) ?_
            exact kr.mono hnext' (wA hcall hk hst hev hd hrc _ (hsim w) (kN _) hc')
          | false =>
            rw [hb] at hc' hnext'
            cases hn : jk (aV es tm x) with
            | false => rw [hn] at hc'; exact hc'.elim
            | true =>
              rw [hn] at hc' hnext'
              exact walk.skip i o rest a w ho (w2 hb hn) (hnext' _ _ (jG hst hev hd (zh.refl hst.rel) qN hc'))
theorem zFE (hcall : yR P call) (walk : zMT P ops rc Q W) : ∀ (rest : List Oper) (i : Nat) {ψ : Psi} {tm : Tm} {ds : xU} {h : Heap} {n : Key} {a : Act} {w : World} {dl : List (Option Nat)} {es : List CV},
    ops.toList.drop i = rest → (∀ o ∈ rest, zBz o.op = true → rc = true) → St P F N ψ tm ds h n a w → w7 ψ dl es a →
    zM (ju P call (qJ P F N ops.toList dl rest) es tm ds h n) →
    (∀ tm' ds' h' n' ψ' a' w', St P F N ψ' tm' ds' h' n' a' w' → zh ψ (Heap.fam h) n w ψ' (Heap.fam h') n' w' → n'.room →
      (∀ (O : R → Prop), (∀ x y, O x → O (.fork x y)) → (∀ x y, O y → O (.fork x y)) → O (.ok .normal tm' ds' h' n') → O (ju P call (qJ P F N ops.toList dl rest) es tm ds h n)) → Q a' w') →
    W (List.range' i rest.length) a w
  | [], i, ψ, tm, ds, h, n, a, w, dl, es, _, _, hst, hev, hc, hQ => walk.nil a w (hQ tm ds h n ψ a w hst (zh.refl hst.rel) hc fun O _ _ ho => ho)
  | o :: rest, i, ψ, tm, ds, h, n, a, w, dl, es, hi, hrc, hst, hev, hc, hQ => by
    have ho : ops[i]? = some o := by
      rw [← Array.getElem?_toList]
      have : (ops.toList.drop i)[0]? = some o := by rw [hi]; rfl
      rw [List.getElem?_drop] at this
      exact this
    have hrest : ops.toList.drop (i + 1) = rest := by
      have := congrArg (List.drop 1) hi
      rw [List.drop_drop] at this
      exact this
    rw [List.length_cons, List.range'_succ]
    refine zMK hcall walk (k := ju P call (qJ P F N ops.toList (o.dst :: dl) rest)) (fun es tm ds h n => ql hcall.above _ es tm ds h n) hst hev ho (hrc o (by simp)) hc fun a' w' hn => ?_
    obtain ⟨es', tm', ds', h', n', ψ', h1, h2, h3, h4, h5⟩ := hn
    refine zFE hcall walk rest (i + 1) hrest (fun o ho => hrc o (by simp [ho])) h1 h2 h4 fun tm'' ds'' h'' n'' ψ'' a'' w'' g1 g2 g3 g4 => ?_
    exact hQ tm'' ds'' h'' n'' ψ'' a'' w'' g1 (h3.trans g2) g3 fun O f1 f2 ho => h5 O f1 f2 (g4 O f1 f2 ho)
end
end
end Go.Ev

namespace Go.Ev
variable [Sym]
noncomputable section
variable {P : Program}
variable [SymFact P]
theorem xe {n : Key} {k : K} (hk : ∀ tm ds h n, zW n (k tm ds h n)) : ∀ {r : R}, zW n r → zW n (xX k r)
  | .ok .normal tm ds h n', ha => zW.le ha (hk tm ds h n')
  | .ok (.exit _) _ _ _ _, ha => ha
  | .ok .ret _ _ _ _, ha => ha
  | .ret .., _ => trivial
  | .err _, _ => trivial
  | .fork _ _, h => ⟨xe hk h.1, xe hk h.2⟩
theorem yz {k : K} (hk : ∀ tm ds h n, zW n (k tm ds h n)) : ∀ {r : R}, zM (xX k r) → zM r
  | .ok .normal tm ds h n', hc => kR hc (hk tm ds h n')
  | .ok (.exit _) _ _ _ _, hc => hc
  | .ok .ret _ _ _ _, hc => hc
  | .ret .., hc => hc.elim
  | .err _, hc => hc.elim
  | .fork _ _, h => ⟨yz hk h.1, yz hk h.2⟩
theorem vV (id i : Nat) (tm : Tm) (ds : xU) (h : Heap) (n : Key) : wl id (.ok (.exit i) tm ds h n) = if i = id then .ok .normal tm ds h n else .ok (.exit i) tm ds h n := by
  show Bool.rec (motive := fun _ => R) (.ok (.exit i) tm ds h n) (.ok .normal tm ds h n) (Nat.beq i id) = _
  by_cases e : i = id
  · subst e; rw [qA, if_pos rfl]
  · rw [jy e, if_neg e]
theorem wN {n : Key} (id : Nat) : ∀ {r : R}, zW n r → zW n (wl id r)
  | .ok .normal _ _ _ _, ha => ha
  | .ok (.exit i) _ _ _ _, ha => by rw [vV]; split <;> exact ha
  | .ok .ret _ _ _ _, ha => ha
  | .ret .., _ => trivial
  | .err _, _ => trivial
  | .fork _ _, h => ⟨wN id h.1, wN id h.2⟩
theorem xu (id : Nat) : ∀ {r : R}, zM (wl id r) → zM r
  | .ok .normal _ _ _ _, ha => ha
  | .ok (.exit i) _ _ _ _, ha => by rw [vV] at ha; split at ha <;> exact ha
  | .ok .ret _ _ _ _, ha => ha
  | .ret .., h => h.elim
  | .err _, h => h.elim
  | .fork _ _, h => ⟨xu id h.1, xu id h.2⟩
theorem zCW {C : K → Prop} {a b : K} (v : CV) (ht : v = .bool true → C a) (hf : v = .bool false → C b) (he : C fun _ _ _ _ => .err 302) : C (zF5 a b v) := by
  unfold zF5
  split
  · exact ht rfl
  · exact hf rfl
  · exact he
section
variable {call : yA} (hcall : ye call)
include hcall
theorem zIp {k : KD} (hk : ∀ es hs tm ds h n, zW n (k es hs tm ds h n)) (d : Option Loc) (es : List CV) (hs : List Heap) (tm : Tm) (ds : xU) (h : Heap) (n : Key) (r : OR) (ho : zC n r) :
    zW n (zHv call d k r es hs tm ds h n) := by
  cases r with
  | val v => show zW n (zy _ _ _ _); rw [zi]; exact hk _ _ _ _ _ _
  | read v => show zW n (zy _ _ _ _); rw [zi]; exact hk _ _ _ _ _ _
  | alloc o v => show zW n (zy _ _ _ _); rw [zi]; exact zW.le (Key.ix_le_succ n) (hk _ _ _ _ _ _)
  | eff v h' n' => show zW n (zy _ _ _ _); rw [zi]; exact zW.le ho (hk _ _ _ _ _ _)
  | call f args => exact x6 (k := fun v h' n' => zy d v tm fun tm => k (v :: es) (h :: hs) tm ds h' n') (fun v h n => by rw [zi]; exact hk _ _ _ _ _ _) (hcall _ _ _ _ _)
  | dfr f args => trivial
  | recov => trivial
  | err _ => trivial
  | fork a b => trivial
omit hcall in
theorem zKl {k : KD} (hk : ∀ es hs tm ds h n, zW n (k es hs tm ds h n)) (op : COp) (d : Option Loc) (chk : Nat) (es : List CV) (hs : List Heap) (tm : Tm) (ds : xU) (h : Heap) (n : Key) (r : OR) :
    zW n (dNo P op d chk k r es hs tm ds h n) := by
  cases r with
  | val v => show zW n (zy _ _ _ _); rw [zi]; exact hk _ _ _ _ _ _
  | read v =>
    show zW n (match qG P op es tm n v chk hs with
      | true => zy d v tm fun tm => k (v :: es) hs tm ds h n
      | false => .err 311)
    split
    · rw [zi]; exact hk _ _ _ _ _ _
    · trivial
  | alloc o v => show zW n (zy _ _ _ _); rw [zi]; exact zW.le (Key.ix_le_succ n) (hk _ _ _ _ _ _)
  | eff v h' n' => trivial
  | call f args => trivial
  | dfr f args => trivial
  | recov => trivial
  | err _ => trivial
  | fork a b => trivial
theorem zBa {k : KD} (hk : ∀ es hs tm ds h n, zW n (k es hs tm ds h n)) (op : COp) (d : Option Loc) (e : Bool) (chk : Nat) (es : List CV) (hs : List Heap) (tm : Tm) (ds : xU) (h : Heap) (n : Key) :
    zW n (dOp P call op d e chk k es hs tm ds h n) := by
  unfold dOp
  split
  · exact zIp hcall hk d es hs tm ds h n _ (kN op)
  · exact zKl hk op d chk es hs tm ds h n _
theorem zFx : ∀ (l : List zKv) (es : List CV) (hs : List Heap) (tm : Tm) (ds : xU) (h : Heap) (n : Key), zW n (evD P call l es hs tm ds h n)
  | [], _, _, _, _, _, _ => Nat.le_refl _
  | i :: l, es, hs, tm, ds, h, n => by
    unfold evD
    have ih := fun es hs tm ds h n => zFx l es hs tm ds h n
    split
    · exact zBa hcall ih _ _ _ _ _ _ _ _ _ _
    · exact zBa hcall ih _ _ _ _ _ _ _ _ _ _
    · split
      · exact zBa hcall ih _ _ _ _ _ _ _ _ _ _
      · split
        · unfold zDq
          rw [zi]; exact ih _ _ _ _ _ _
        · trivial
theorem yE : ∀ (c : CCode) (tm : Tm) (ds : xU) (h : Heap) (n : Key), zW n (ze P call c tm ds h n)
  | .skip, _, _, _, _ => Nat.le_refl _
  | .region ops, tm, ds, h, n => ql hcall ops [] tm ds h n
  | .dregion ops, tm, ds, h, n => zFx hcall ops [] [] tm ds h n
  | .seq a b, tm, ds, h, n => xe (fun tm ds h n => yE b tm ds h n) (yE a tm ds h n)
  | .cond x a b, tm, ds, h, n => by
    exact zCW (C := fun k => zW n (k tm ds h n)) _ (fun _ => yE a tm ds h n) (fun _ => yE b tm ds h n) trivial
  | .block id b, tm, ds, h, n => wN id (yE b tm ds h n)
  | .loop b, tm, ds, h, n => by
    show zW n (zAl zAD (ze P call b) tm ds h n)
    have : ∀ (fuel : Nat) (tm : Tm) (ds : xU) (h : Heap) (n : Key), zW n (zAl fuel (ze P call b) tm ds h n) := by
      intro fuel
      induction fuel with
      | zero => intros; trivial
      | succ m ih => intro tm ds h n; exact xe ih (yE b tm ds h n)
    exact this _ _ _ _ _
  | .exit _, _, _, _, _ => Nat.le_refl _
  | .ret, _, _, _, _ => Nat.le_refl _
  | .scope b, tm, ds, h, n => yE b tm ds h n
  | .bad _, _, _, _, _ => trivial
end
def yP (P : Program) (F N : Nat) (ψ₀ : Psi) (g₀ : Fam) (n₀ : Key) (w₀ : World) : R → Exit → Act → World → Prop
  | .ok cx tm ds h n, e, a, w => zOH cx e ∧ ∃ ψ, St P F N ψ tm ds h n a w ∧ zh ψ₀ g₀ n₀ w₀ ψ (Heap.fam h) n w ∧ n.room
  | .fork r s, e, a, w => yP P F N ψ₀ g₀ n₀ w₀ r e a w ∨ yP P F N ψ₀ g₀ n₀ w₀ s e a w
  | _, _, _, _ => False
section
variable {F N : Nat} {ψ₀ ψ₁ : Psi} {g₀ g₁ : Fam} {n₀ n₁ : Key} {w₀ w₁ : World}
theorem yP.trans (hp : zh ψ₀ g₀ n₀ w₀ ψ₁ g₁ n₁ w₁) {e : Exit} {a : Act} {w : World} : ∀ {r : R}, yP P F N ψ₁ g₁ n₁ w₁ r e a w → yP P F N ψ₀ g₀ n₀ w₀ r e a w
  | .ok .., ⟨h1, ψ, h2, h3, h4⟩ => ⟨h1, ψ, h2, hp.trans h3, h4⟩
  | .ret .., h => h
  | .err _, h => h
  | .fork _ _, h => h.imp (yP.trans hp) (yP.trans hp)
theorem qW {k : K} {e : Exit} {a : Act} {w : World} : ∀ {r : R}, zM (xX k r) → yP P F N ψ₀ g₀ n₀ w₀ r e a w →
    (e = .normal ∧ ∃ tm ds h n ψ, St P F N ψ tm ds h n a w ∧ zh ψ₀ g₀ n₀ w₀ ψ (Heap.fam h) n w ∧ zM (k tm ds h n) ∧
      ∀ e' a' w', yP P F N ψ₀ g₀ n₀ w₀ (k tm ds h n) e' a' w' → yP P F N ψ₀ g₀ n₀ w₀ (xX k r) e' a' w') ∨
    (e ≠ .normal ∧ yP P F N ψ₀ g₀ n₀ w₀ (xX k r) e a w)
  | .ok .normal tm ds h n, hc, ⟨h1, ψ, h2, h3, h4⟩ => by
    cases e <;> first | exact h1.elim | skip
    exact .inl ⟨rfl, tm, ds, h, n, ψ, h2, h3, hc, fun e' a' w' ho => ho⟩
  | .ok (.exit i) tm ds h n, hc, ⟨h1, ψ, h2, h3, h4⟩ => .inr ⟨by rintro rfl; exact h1.elim, h1, ψ, h2, h3, h4⟩
  | .ok .ret tm ds h n, hc, ⟨h1, ψ, h2, h3, h4⟩ => .inr ⟨by rintro rfl; exact h1.elim, h1, ψ, h2, h3, h4⟩
  | .ret .., hc, _ => hc.elim
  | .err _, hc, _ => hc.elim
  | .fork r s, hc, ho => by
    rcases ho with ho | ho
    · rcases qW hc.1 ho with ⟨h1, tm, ds, h, n, ψ, h2, h3, h4, h5⟩ | ⟨h1, h2⟩
      · exact .inl ⟨h1, tm, ds, h, n, ψ, h2, h3, h4, fun e' a' w' q => .inl (h5 e' a' w' q)⟩
      · exact .inr ⟨h1, .inl h2⟩
    · rcases qW hc.2 ho with ⟨h1, tm, ds, h, n, ψ, h2, h3, h4, h5⟩ | ⟨h1, h2⟩
      · exact .inl ⟨h1, tm, ds, h, n, ψ, h2, h3, h4, fun e' a' w' q => .inr (h5 e' a' w' q)⟩
      · exact .inr ⟨h1, .inr h2⟩
theorem kD {id : Nat} {e : Exit} {a : Act} {w : World} {Q : Exit → Act → World → Prop} : ∀ {r : R}, (∀ e a w, yP P F N ψ₀ g₀ n₀ w₀ (wl id r) e a w → Q e a w) → yP P F N ψ₀ g₀ n₀ w₀ r e a w → Exit.inBlock id Q e a w
  | .ok .normal tm ds h n, hq, ⟨h1, ψ, h2, h3, h4⟩ => by
    cases e <;> first | exact h1.elim | skip
    exact hq .normal a w ⟨trivial, ψ, h2, h3, h4⟩
  | .ok (.exit i) tm ds h n, hq, ⟨h1, ψ, h2, h3, h4⟩ => by
    cases e <;> first | exact h1.elim | skip
    rename_i j
    have h1 : i = j := h1
    subst h1
    rw [vV] at hq
    unfold Exit.inBlock
    simp only
    split
    · rename_i e
      rw [if_pos e] at hq
      exact hq .normal a w ⟨trivial, ψ, h2, h3, h4⟩
    · rename_i e
      rw [if_neg e] at hq
      exact hq (.exit i) a w ⟨rfl, ψ, h2, h3, h4⟩
  | .ok .ret tm ds h n, hq, ⟨h1, ψ, h2, h3, h4⟩ => by
    cases e <;> first | exact h1.elim | skip
    exact hq .ret a w ⟨trivial, ψ, h2, h3, h4⟩
  | .ret .., _, ho => ho.elim
  | .err _, _, ho => ho.elim
  | .fork r s, hq, ho => by
    rcases ho with ho | ho
    · exact kD (fun e a w h => hq e a w (.inl h)) ho
    · exact kD (fun e a w h => hq e a w (.inr h)) ho
theorem uN {Q : Exit → Act → World → Prop} {e : Exit} {a : Act} {w : World} : ∀ {r : R}, (yP P F N ψ₀ g₀ n₀ w₀ r e a w → Q e a w) → yP P F N ψ₀ g₀ n₀ w₀ r e a w → Exit.noGoto Q e a w
  | .ok cx tm ds h n, hq, ho => by
    cases e <;> first | exact hq ho | (cases cx <;> exact ho.1.elim)
  | .ret .., _, ho => ho.elim
  | .err _, _, ho => ho.elim
  | .fork r s, hq, ho => by
    rcases ho with ho | ho
    · exact uN (fun h => hq (.inl h)) ho
    · exact uN (fun h => hq (.inr h)) ho
end
theorem zGC (call : yA) (b : CCode) : ze P call (.loop b) = zAl zAD (ze P call b) := rfl
theorem zDP (F N : Nat) (b : Code) : zE P F N (.loop b) = .loop (zE P F N b) := rfl
def jq (P : Program) (c : Code) (Q : Exit → Act → World → Prop) (a : Act) (w : World) : Prop :=
  ∀ (b : Frame) (k : List Item) (cs : List Frame), ∃ e a' w', Q e a' w' ∧ Arrives P (lone (b.at a (.code c :: .inLoop c :: k)) cs w) b k cs e a' w'
theorem zAP {c : Code} {Q : Exit → Act → World → Prop} {a : Act} {w : World} (h : c.wp P (Exit.then (jq P c Q) Q) a w) : jq P c Q a w := by
  intro b k cs
  obtain ⟨e, a₁, w₁, hq, harr⟩ := h b (.inLoop c :: k) cs
  cases e with
  | normal =>
    obtain ⟨e₂, a₂, w₂, hq₂, harr₂⟩ := hq b k cs
    exact ⟨e₂, a₂, w₂, hq₂, .of_steps (Steps.trans harr (.one step_inLoop)) harr₂⟩
  | exit id => exact ⟨_, a₁, w₁, hq, .pass (x := .inLoop c) rfl (fun _ _ => .inl (by simp)) harr⟩
  | goto l => exact ⟨_, a₁, w₁, hq, .pass (x := .inLoop c) rfl (fun _ _ => .inl (by simp)) harr⟩
  | ret => exact ⟨_, a₁, w₁, hq, .pass (x := .inLoop c) rfl (fun _ _ => .inl (by simp)) harr⟩
  | panic ch => exact ⟨_, a₁, w₁, hq, .pass (x := .inLoop c) rfl (fun _ _ => .inl (by simp)) harr⟩
  | outgrown => exact ⟨_, a₁, w₁, hq, .pass (x := .inLoop c) rfl (fun _ _ => .inl (by simp)) harr⟩
theorem zDb {c : Code} {Q : Exit → Act → World → Prop} {a : Act} {w : World} (h : jq P c Q a w) : (Code.loop c).wp P Q a w := by
  intro b k cs
  obtain ⟨e, a', w', hq, harr⟩ := h b k cs
  exact ⟨e, a', w', hq, .of_steps (.one step_loop) harr⟩
def xD (P : Program) (F N : Nat) (call : yA) : Prop := ∀ (id : Nat) (ops : Array Oper) (ψ : Psi) (tm : Tm) (ds : xU) (h : Heap) (n : Key) (a : Act) (w : World), zCm ops.toList = true →
  St P F N ψ tm ds h n a w → zM (ze P call (zBh P F N ops.toList) tm ds h n) →
  (Code.region id ops true).wp P (yP P F N ψ (Heap.fam h) n w (ze P call (zBh P F N ops.toList) tm ds h n)) a w
theorem zGp (l : List Oper) (h : zCm l = true) : ∀ o ∈ l, zBz o.op = false := by
  induction l with
  | nil => intro o ho; cases ho
  | cons x l ih =>
    intro o ho
    unfold zCm at h
    rw [Bool.and_eq_true] at h
    rcases List.mem_cons.1 ho with rfl | ho
    · have := h.1
      cases hr : zBz o.op with
      | false => rfl
      | true => rw [hr] at this; cases this
    · exact ih h.2 o ho
theorem xz {F N : Nat} {call : yA} (hcall : yR P call) (hdraw : xD P F N call) : ∀ (c : Code) {ψ : Psi} {tm : Tm} {ds : xU} {h : Heap} {n : Key} {a : Act} {w : World},
    zT c = true → St P F N ψ tm ds h n a w → zM (ze P call (zE P F N c) tm ds h n) → c.wp P (yP P F N ψ (Heap.fam h) n w (ze P call (zE P F N c) tm ds h n)) a w := by
  intro c
  induction c with
  | skip => intro ψ tm ds h n a w _ hst hc; exact wp_skip ⟨trivial, ψ, hst, zh.refl hst.rel, hc⟩
  | label l => intro ψ tm ds h n a w _ hst hc; exact wp_label ⟨trivial, ψ, hst, zh.refl hst.rel, hc⟩
  | region id ops dr =>
    intro ψ tm ds h n a w hnr hst hc
    cases dr with
    | true => exact hdraw id ops ψ tm ds h n a w hnr hst hc
    | false =>
      refine wp_region ?_
      have hc' : zM (ju P call (qJ P F N ops.toList [] ops.toList) [] tm ds h n) := hc
      have := zFE (F := F) (N := N) hcall (zHK (P := P) ops (yP P F N ψ (Heap.fam h) n w (ju P call (qJ P F N ops.toList [] ops.toList) [] tm ds h n)))
        ops.toList 0 rfl (fun o ho hr => by rw [zGp _ hnr o ho] at hr; cases hr) hst (dl := []) (es := []) (fun t i hi => by cases hi) hc'
        (fun tm' ds' h' n' ψ' a' w' g1 g2 g3 g4 => g4 (fun r => yP P F N ψ (Heap.fam h) n w r .normal a' w') (fun _ _ h => .inl h) (fun _ _ h => .inr h) ⟨trivial, ψ', g1, g2, g3⟩)
      rw [Array.length_toList] at this
      rw [List.range_eq_range']
      exact this
  | seq x y ihx ihy =>
    intro ψ tm ds h n a w hnr hst hc
    have hnr : zT x = true ∧ zT y = true := by simpa [zT] using hnr
    have hc : zM (xX (ze P call (zE P F N y)) (ze P call (zE P F N x) tm ds h n)) := hc
    have hab := fun tm ds h n => yE (P := P) hcall.above (zE P F N y) tm ds h n
    refine wp_seq (wp_mono (ihx hnr.1 hst (yz hab hc)) fun e a' w' ho => ?_)
    rcases qW hc ho with ⟨rfl, tm', ds', h', n', ψ', h2, h3, h4, h5⟩ | ⟨h1, h2⟩
    · exact wp_mono (ihy hnr.2 h2 h4) fun e'' a'' w'' ho' => h5 e'' a'' w'' (yP.trans h3 ho')
    · cases e <;> first | exact absurd rfl h1 | exact h2
  | cond x p q ihp ihq =>
    intro ψ tm ds h n a w hnr hst hc
    have hnr : zT p = true ∧ zT q = true := by simpa [zT] using hnr
    unfold zE at hc ⊢
    cases hx : zU P ⟨F, N, []⟩ x with
    | none => simp only [hx] at hc; exact hc.elim
    | some cx =>
      simp only [hx] at hc ⊢
      have hv := zFg hst (dl := []) (es := []) (fun t i hi => by cases hi) [x] x (by simp) cx hx
      have hc : zM (zF5 (ze P call (zE P F N p)) (ze P call (zE P F N q)) (aV [] tm cx) tm ds h n) := hc
      show (Code.cond x p q).wp P (yP P F N ψ (Heap.fam h) n w (zF5 (ze P call (zE P F N p)) (ze P call (zE P F N q)) (aV [] tm cx) tm ds h n)) a w
      revert hc
      refine zCW (C := fun k => zM (k tm ds h n) → (Code.cond x p q).wp P (yP P F N ψ (Heap.fam h) n w (k tm ds h n)) a w) _ (fun e hc => ?_) (fun e hc => ?_) (fun hc => hc.elim)
      · rw [e] at hv
        exact wp_cond_true (zF.1 hv) (ihp hnr.1 hst hc)
      · rw [e] at hv
        exact wp_cond_false (zF.1 hv) (ihq hnr.2 hst hc)
  | block id b ih =>
    intro ψ tm ds h n a w hnr hst hc
    have hc : zM (wl id (ze P call (zE P F N b) tm ds h n)) := hc
    refine wp_block (wp_mono (ih hnr hst (xu id hc)) fun e a' w' ho => ?_)
    exact kD (fun _ _ _ h => h) ho
  | loop b ih =>
    intro ψ tm ds h n a w hnr hst hc
    rw [zDP, zGC] at hc ⊢
    have main : ∀ (fuel : Nat) {ψ : Psi} {tm : Tm} {ds : xU} {h : Heap} {n : Key} {a : Act} {w : World}, St P F N ψ tm ds h n a w → zM (zAl fuel (ze P call (zE P F N b)) tm ds h n) →
        jq P b (yP P F N ψ (Heap.fam h) n w (zAl fuel (ze P call (zE P F N b)) tm ds h n)) a w := by
      intro fuel
      induction fuel with
      | zero => intro ψ tm ds h n a w _ hc; exact hc.elim
      | succ m ihm =>
        intro ψ tm ds h n a w hst hc
        have hc : zM (xX (zAl m (ze P call (zE P F N b))) (ze P call (zE P F N b) tm ds h n)) := hc
        have hab : ∀ tm ds h n, zW n (zAl m (ze P call (zE P F N b)) tm ds h n) := by
          have : ∀ (fuel : Nat) (tm : Tm) (ds : xU) (h : Heap) (n : Key), zW n (zAl fuel (ze P call (zE P F N b)) tm ds h n) := by
            intro fuel
            induction fuel with
            | zero => intros; trivial
            | succ m ih => intro tm ds h n; exact xe ih (yE hcall.above _ tm ds h n)
          exact this m
        refine zAP (wp_mono (ih hnr hst (yz hab hc)) fun e a' w' ho => ?_)
        rcases qW hc ho with ⟨rfl, tm', ds', h', n', ψ', h2, h3, h4, h5⟩ | ⟨h1, h2⟩
        · intro b' k cs
          obtain ⟨e, a'', w'', hq, harr⟩ := ihm h2 h4 b' k cs
          exact ⟨e, a'', w'', h5 e a'' w'' (yP.trans h3 hq), harr⟩
        · cases e <;> first | exact absurd rfl h1 | exact h2
    exact zDb (main zAD hst hc)
  | exit id => intro ψ tm ds h n a w _ hst hc; exact wp_exit ⟨rfl, ψ, hst, zh.refl hst.rel, hc⟩
  | ret => intro ψ tm ds h n a w _ hst hc; exact wp_ret ⟨trivial, ψ, hst, zh.refl hst.rel, hc⟩
  | scope b ih =>
    intro ψ tm ds h n a w hnr hst hc
    exact wp_scope_straight (wp_mono (ih hnr hst hc) fun e a' w' ho => uN (fun h => h) ho)
  | _ => intro ψ tm ds h n a w _ hst hc; exact hc.elim
end
end Go.Ev

namespace Go.Ev
variable [Sym]
noncomputable section
variable {P : Program}
variable [SymFact P]
theorem vO {F N : Nat} {ψ : Psi} {tm : Tm} {a : Act} {t : Nat} {x : zR} (hf : yh ψ F N tm a) (hx : zU P ⟨F, N, []⟩ (.tmp t) = some x) : zG ψ (aV [] tm x) (a.tmps.getD t undef) := by
  unfold zU yp at hx
  simp only at hx
  split at hx
  · rename_i hb
    injection hx with hx; subst hx
    rw [Bool.and_eq_true, Bool.and_eq_true] at hb
    exact hf.tmp t hb.1.1 (zH hb.1.2) (zH hb.2)
  · cases hx
theorem zBy {ψ : Psi} {h : Heap} {w : World} (hrel : xi ψ (Heap.fam h) w) {b : Key} {p : Pl} {vs : List CV} (hp : ψ b = some p) (hv : vt h b = some vs) : zA8 ψ w p vs := by
  unfold vt at hv
  split at hv
  · rename_i q hq; injection hv with hv; subst hv; exact yJ.toRo (hrel b _ p hq hp)
  · rename_i q hq; injection hv with hv; subst hv; exact hrel b _ p hq hp
  · cases hv
def zGc (tmps : Array Value) : ResultVar → Sem Value
  | .tmp t => pure (tmps.getD t undef)
  | .cell a t => do loadVar t (← asAddr (tmps.getD a undef))
theorem zKR {F N : Nat} {ψ : Psi} {tm : Tm} {a : Act} {h : Heap} {w : World} (hf : yh ψ F N tm a) (hrel : xi ψ (Heap.fam h) w) {r : ResultVar} {c : CRes} {v : CV} (hc : yo P F N r = some c)
    (hv : zLk h tm c = some v) : ∃ x, (zGc a.tmps r).run P w = .ok x w ∧ zG ψ v x := by
  unfold yo at hc
  split at hc
  · rename_i t
    cases hx : zU P ⟨F, N, []⟩ (.tmp t) with
    | none => rw [hx] at hc; cases hc
    | some x =>
      rw [hx] at hc
      injection hc with hc; subst hc
      injection hv with hv; subst hv
      exact ⟨_, rfl, vO hf hx⟩
  · rename_i t ty
    split at hc
    · rename_i s x ha hs hx
      injection hc with hc; subst hc
      have hr := vO hf hx
      unfold zLk at hv
      simp only at hv
      split at hv
      · rename_i b off he
        rw [he, zb] at hr
        obtain ⟨p, hp, hr⟩ := hr
        split at hv
        · rename_i cs hcs
          have hcells := zBy hrel hp hcs
          cases hl : v6 cs off s with
          | none => rw [hl] at hv; cases hv
          | some l =>
            rw [hl] at hv
            injection hv with hv; subst hv
            obtain ⟨xs, hrun, hxs⟩ := y7 (P := P) hcells hl
            exact ⟨.agg xs.toArray, by simp only [zGc, hr, asAddr, Sem.run_bind, Sem.run_pure, Result.andThen_ok, loadVar, qY ha, if_true, yM hs, hrun], yL.2 ⟨_, rfl, by simpa using hxs⟩⟩
        · cases hv
      · cases hv
    · rename_i s x ha hs hx
      injection hc with hc; subst hc
      have hr := vO hf hx
      unfold zLk at hv
      simp only at hv
      split at hv
      · rename_i b off he
        rw [he, zb] at hr
        obtain ⟨p, hp, hr⟩ := hr
        split at hv
        · rename_i cs hcs
          have hcells := zBy hrel hp hcs
          rw [kK] at hv
          obtain ⟨y, hrun, hy⟩ := zA3 (P := P) hcells hv
          exact ⟨y, by simp only [zGc, hr, asAddr, Sem.run_bind, Sem.run_pure, Result.andThen_ok, loadVar, qY ha, Bool.false_eq_true, if_false, hrun], hy⟩
        · cases hv
      · cases hv
    · cases hc
theorem zDh {F N : Nat} {ψ : Psi} {tm : Tm} {a : Act} {h : Heap} {w : World} (hf : yh ψ F N tm a) (hrel : xi ψ (Heap.fam h) w) : ∀ {l : List ResultVar} {cs : List CRes} {vs : List CV},
    yW (yo P F N) l = some cs → zAF h tm cs = some vs → ∃ xs, (l.mapM (zGc a.tmps)).run P w = .ok xs w ∧ zK ψ vs xs
  | [], cs, vs, hc, hv => by
    injection hc with hc; subst hc
    injection hv with hv; subst hv
    exact ⟨[], rfl, zI.2 rfl⟩
  | r :: l, cs, vs, hc, hv => by
    unfold yW at hc
    cases h1 : yo P F N r with
    | none => rw [h1] at hc; cases hc
    | some c =>
      simp only [h1] at hc
      cases h2 : yW (yo P F N) l with
      | none => rw [h2] at hc; cases hc
      | some cs' =>
        simp only [h2] at hc
        injection hc with hc; subst hc
        unfold zAF at hv
        cases h3 : zLk h tm c with
        | none => rw [h3] at hv; cases hv
        | some v =>
          simp only [h3] at hv
          cases h4 : zAF h tm cs' with
          | none => rw [h4] at hv; cases hv
          | some vs' =>
            simp only [h4] at hv
            injection hv with hv; subst hv
            obtain ⟨x, g1, g2⟩ := zKR hf hrel h1 h3
            obtain ⟨xs, g3, g4⟩ := zDh hf hrel h2 h4
            exact ⟨x :: xs, by simp only [List.mapM_cons, Sem.run_bind, g1, Result.andThen_ok, g3, Sem.run_pure], zL.2 ⟨g2, g4⟩⟩
theorem zBx {F N : Nat} {ψ : Psi} {tm : Tm} {a : Act} {h : Heap} {w : World} {fn : Func} (hf : yh ψ F N tm a) (hrel : xi ψ (Heap.fam h) w) {cs : List CRes} {v : CV}
    (hc : yW (yo P F N) fn.results.toList = some cs) (hv : zAG h tm cs = some v) : ∃ x, (results fn a.tmps).run P w = .ok x w ∧ zG ψ v x := by
  have hm : ∀ {xs : List Value}, (fn.results.toList.mapM (zGc a.tmps)).run P w = .ok xs w → (fn.results.mapM (zGc a.tmps)).run P w = .ok xs.toArray w := by
    intro xs hx
    rw [Array.mapM_eq_mapM_toList, Sem.run_map, hx]; rfl
  have hres : (results fn a.tmps).run P w = ((fn.results.mapM (zGc a.tmps)).run P w).andThen fun vs w => .ok (if h : vs.size = 1 then vs[0] else .tuple vs) w := by
    have : results fn a.tmps = (fn.results.mapM (zGc a.tmps) >>= fun vs => pure (if h : vs.size = 1 then vs[0] else .tuple vs)) := by
      unfold results
      congr 1
    rw [this, Sem.run_bind]; rfl
  unfold zAG at hv
  split at hv
  · rename_i u hl
    injection hv with hv; subst hv
    obtain ⟨xs, h1, h2⟩ := zDh hf hrel hc hl
    obtain ⟨x, r, rfl, h3, h4⟩ := zP.1 h2
    rw [zI] at h4; subst h4
    exact ⟨x, by rw [hres, hm h1, Result.andThen_ok]; rfl, h3⟩
  · rename_i vs hne hl
    injection hv with hv; subst hv
    obtain ⟨xs, h1, h2⟩ := zDh hf hrel hc hl
    refine ⟨.tuple xs.toArray, ?_, zn.2 ⟨_, rfl, h2⟩⟩
    rw [hres, hm h1, Result.andThen_ok]
    have : ¬ (xs.toArray.size = 1) := by
      intro h
      have hl := h2.length
      have : vs.length = 1 := by simp at h; omega
      match vs, this with
      | [u], _ => exact hne u rfl
    rw [dif_neg this]
  · cases hv
theorem zGy {i j : Nat} (hi : i ≤ 271) (hj : j ≤ 271) (h : i ≠ j) : Loc.ofNat i ≠ Loc.ofNat j := fun e => h (Loc.ofNat_inj hi hj e)
theorem zD8 {ψ : Psi} : ∀ (args : List CV) (as : List Value) (i : Nat) (tm : Tm) (t : Nat) (v : Value), zK ψ args as → t ≤ 271 → (t < i ∨ i + as.length ≤ t → zG ψ (qP (Loc.ofNat t) tm) v) → (∀ u, i ≤ t → as[t - i]? = some u → u = v) →
    (i ≤ t → qP (Loc.ofNat t) tm = .any) → zG ψ (qP (Loc.ofNat t) (xR args i tm)) v
  | [], as, i, tm, t, v, ha, ht, h1, h2, h3 => by
    rw [zI] at ha; subst ha
    show zG ψ (qP (Loc.ofNat t) tm) v
    rcases Nat.lt_or_ge t i with h | h
    · exact h1 (.inl h)
    · exact h1 (.inr (by simpa using h))
  | c :: args, as, i, tm, t, v, ha, ht, h1, h2, h3 => by
    obtain ⟨x, r, rfl, hx, hr⟩ := zP.1 ha
    unfold xR
    split
    · rename_i hle
      have hle := zH hle
      refine zD8 args r (i + 1) (w9 c (Loc.ofNat i) tm) t v hr ht (fun h => ?_) (fun u hu hg => ?_) (fun hu => ?_)
      · by_cases e : t = i
        · subst e
          rw [qd]
          have : x = v := h2 x (Nat.le_refl _) (by simp)
          rw [← this]; exact hx
        · rw [xQ _ _ _ _ (zGy ht hle e)]
          refine h1 ?_
          rcases h with h | h
          · exact .inl (by omega)
          · exact .inr (by simp; omega)
      · refine h2 u (by omega) ?_
        have : t - i = (t - (i + 1)) + 1 := by omega
        rw [this]; simpa using hg
      · rw [xQ _ _ _ _ (zGy ht hle (by omega))]
        exact h3 (by omega)
    · rename_i hle
      have hlt : ¬ i ≤ 271 := fun h => by rw [Nat.ble_eq_true_of_le h] at hle; cases hle
      exact h1 (.inl (by omega))
theorem zLJ {ψ : Psi} {F N : Nat} {args : List CV} {as : Array Value} (ha : zK ψ args as.toList) : yh ψ F N (xR args 0 .nil) { tmps := as ++ Array.replicate (N - as.size) undef, defers := [] } := by
  refine ⟨by simp; omega, fun t _ ht hN => ?_⟩
  refine zD8 args as.toList 0 .nil t _ ha ht (fun _ => by rw [zCq]; exact xy) (fun u _ hu => ?_) (fun _ => zCq _)
  simp only [Nat.sub_zero, Array.getElem?_toList] at hu
  have hlt : t < as.size := by
    rcases Nat.lt_or_ge t as.size with h | h
    · exact h
    · rw [Array.getElem?_eq_none h] at hu; cases hu
  rw [Array.getD_eq_getD_getElem?, Array.getElem?_append_left hlt, hu]; rfl
theorem uL {rs : List CRes} {tm : Tm} {h : Heap} {n : Key} : zW n (zBf rs tm h n) := by
  unfold zBf; split
  · exact Nat.le_refl _
  · trivial
theorem zAr {call : yA} {k : Heap → Key → R} {f : FuncId} {args : List CV} {r : xU} {h : Heap} {n : Key} :
    kf call k ((f, args) :: r) h n = qH (fun _ h n => kf call k r h n) (call true f args h n) := rfl
theorem km {call : yA} (hcall : ye call) {k : Heap → Key → R} (hk : ∀ h n, zW n (k h n)) : ∀ (ds : xU) (h : Heap) (n : Key), zW n (kf call k ds h n)
  | [], h, n => hk h n
  | (f, args) :: r, h, n => by
    rw [zAr]
    exact x6 (fun _ h n => km hcall hk r h n) (hcall _ _ _ _ _)
theorem kW {call : yA} (hcall : ye call) (d : Bool) (rs : List CRes) (tm : Tm) (ds : xU) (h : Heap) (n : Key) : zW n (qa d call rs tm ds h n) := by
  unfold qa
  split
  · exact uL
  · split
    · exact km hcall (fun _ _ => uL) _ _ _
    · trivial
theorem qx {call : yA} (hcall : ye call) {n : Key} (d : Bool) (rs : List CRes) : ∀ {r : R}, zW n r → zW n (yK d call rs r)
  | .ok .normal tm ds h n', ha => zW.le ha (kW hcall d rs tm ds h n')
  | .ok (.exit _) .., _ => trivial
  | .ok .ret tm ds h n', ha => zW.le ha (kW hcall d rs tm ds h n')
  | .ret .., _ => trivial
  | .err _, _ => trivial
  | .fork _ _, h => ⟨qx hcall d rs h.1, qx hcall d rs h.2⟩
theorem yO {call : yA} (hcall : ye call) (d : Bool) (rs : List CRes) : ∀ {r : R}, zM (yK d call rs r) → zM r
  | .ok .normal tm ds h n', hc => kR hc (kW hcall d rs tm ds h n')
  | .ok (.exit _) .., hc => hc.elim
  | .ok .ret tm ds h n', hc => kR hc (kW hcall d rs tm ds h n')
  | .ret .., hc => hc.elim
  | .err _, hc => hc.elim
  | .fork _ _, h => ⟨yO hcall d rs h.1, yO hcall d rs h.2⟩
section
variable {F N : Nat} {call : yA} {fn : Func} {ψ₀ : Psi} {g₀ : Fam} {n₀ : Key} {w₀ : World}
theorem zX.trans {ψ₁ : Psi} {g₁ : Fam} {n₁ : Key} {w₁ : World} (hp : zh ψ₀ g₀ n₀ w₀ ψ₁ g₁ n₁ w₁) {v : Value} {w : World} : ∀ {r : R}, zX ψ₁ g₁ n₁ w₁ r v w → zX ψ₀ g₀ n₀ w₀ r v w
  | .ok .., h => h
  | .ret .., ⟨ψ, h1, h2⟩ => ⟨ψ, hp.trans h1, h2⟩
  | .err _, h => h
  | .fork _ _, h => h.imp (zX.trans hp) (zX.trans hp)
theorem va {k : CV → Heap → Key → R} {v : Value} {w : World} {Z : Prop} : ∀ {r : R}, zM (qH k r) → zX ψ₀ g₀ n₀ w₀ r v w →
    (∀ cv h n ψ, zh ψ₀ g₀ n₀ w₀ ψ (Heap.fam h) n w → zG ψ cv v → zM (k cv h n) → (∀ u w', zX ψ₀ g₀ n₀ w₀ (k cv h n) u w' → zX ψ₀ g₀ n₀ w₀ (qH k r) u w') → Z) → Z
  | .ok .., _, h, _ => h.elim
  | .err _, _, h, _ => h.elim
  | .ret cv h n, hc, ⟨ψ, h1, h2⟩, hz => hz cv h n ψ h1 h2 hc fun _ _ h => h
  | .fork r s, hc, h, hz => by
    rcases h with h | h
    · exact va hc.1 h fun cv h n ψ a b c d => hz cv h n ψ a b c fun u w' q => .inl (d u w' q)
    · exact va hc.2 h fun cv h n ψ a b c d => hz cv h n ψ a b c fun u w' q => .inr (d u w' q)
theorem xP {tmps : Array Value} {R R' : Ending → World → Prop} (hR : ∀ e w, R e w → R' e w) : ∀ (ds : List Deferred) (u : FrameMode) (w : World), Leaves P fn tmps R ds u w → Leaves P fn tmps R' ds u w
  | [], .returning, w, ⟨v, h1, h2⟩ => ⟨v, h1, hR _ _ h2⟩
  | [], .panicking _, w, h => hR _ _ h
  | [], .run, w, h => h
  | d :: ds, u, w, ⟨h0, fv, cap, f, args, h1, h2, h3⟩ => ⟨h0, fv, cap, f, args, h1, h2, CallsD.mono h3 fun e u' w' he => by
      cases e with
      | returned v => exact xP hR ds _ _ he
      | panicked c => exact xP hR ds _ _ he
      | outgrown => exact hR _ _ he⟩
theorem zBJ (hcall : yR P call) {rs : List CRes} {tm : Tm} (hrs : yW (yo P F N) fn.results.toList = some rs) : ∀ (ds : xU) {ψ : Psi} {h : Heap} {n : Key} {a : Act} {w : World} {l : List Deferred},
    yh ψ F N tm a → qy P ψ ds l → Rel ψ (Heap.fam h) w → kJ P ψ → xf ψ n → zM (kf call (fun h n => zBf rs tm h n) ds h n) →
    Leaves P fn a.tmps (fun e w' => ∃ v, e = .returned v ∧ zX ψ (Heap.fam h) n w (kf call (fun h n => zBf rs tm h n) ds h n) v w') l .returning w
  | [], ψ, h, n, a, w, l, hf, hd, hrel, hg, hfr, hc => by
    unfold qy at hd; subst hd
    have hc : zM (zBf rs tm h n) := hc
    show ∃ v, (results fn a.tmps).run P w = .ok v w ∧ ∃ v', Ending.returned v = .returned v' ∧ zX ψ (Heap.fam h) n w (zBf rs tm h n) v' w
    unfold zBf at hc ⊢
    cases hv : zAG h tm rs with
    | none => rw [hv] at hc; exact hc.elim
    | some v =>
      obtain ⟨x, h1, h2⟩ := zBx hf hrel.on hrs hv
      exact ⟨x, h1, x, rfl, ψ, zh.refl hrel, h2⟩
  | (f, args) :: r, ψ, h, n, a, w, l, hf, hd, hrel, hg, hfr, hc => by
    obtain ⟨d, l', rfl, ⟨fv, cap, args', e1, e2, e3⟩, hd'⟩ := hd
    rw [zAr] at hc ⊢
    have hcl := xx (fun _ h n => km hcall.above (fun _ _ => uL) r h n) hc
    obtain ⟨h1, h2⟩ := hcall.defers f args h n ψ w args' e3 hg hrel hfr hcl
    refine ⟨by simp, fv, cap, f, args', e1, by rw [e2, h1], CallsD.mono h2 fun e u w' ⟨hu, v, he, v', hr⟩ => ?_⟩
    subst hu he
    show Leaves P fn a.tmps _ l' (settle .returning) w'
    refine va hc hr fun cv h' n' ψ' q1 q2 q3 q4 => ?_
    have := zBJ hcall hrs r (hf.mono q1.ext) (hd'.mono q1.ext) q1.rel (hg.mono q1.ext) (q1.fresh hfr) q3
    refine xP (fun e w'' ⟨v, he, hr⟩ => ⟨v, he, q4 _ _ (zX.trans q1 hr)⟩) _ _ _ this
theorem vk (hcall : yR P call) {rs : List CRes} (hrs : yW (yo P F N) fn.results.toList = some rs) {ψ : Psi} {tm : Tm} {ds : xU} {h : Heap} {n : Key} {a : Act} {w : World}
    (hst : St P F N ψ tm ds h n a w) (hc : zM (qa false call rs tm ds h n)) :
    Leaves P fn a.tmps (fun e w' => ∃ v, e = .returned v ∧ zX ψ (Heap.fam h) n w (qa false call rs tm ds h n) v w') a.defers .returning w := by
  have e : qa false call rs tm ds h n = kf call (fun h n => zBf rs tm h n) ds h n := by cases ds <;> rfl
  rw [e] at hc ⊢
  exact zBJ hcall hrs ds hst.frame hst.dfr hst.rel hst.glob hst.fresh hc
theorem zDi {rs : List CRes} (hrs : yW (yo P F N) fn.results.toList = some rs) {ψ : Psi} {tm : Tm} {ds : xU} {h : Heap} {n : Key} {a : Act} {w : World}
    (hst : St P F N ψ tm ds h n a w) (hc : zM (qa true call rs tm ds h n)) :
    a.defers = [] ∧ ∃ v, (results fn a.tmps).run P w = .ok v w ∧ zX ψ (Heap.fam h) n w (qa true call rs tm ds h n) v w := by
  cases ds with
  | cons f ds => exact hc.elim
  | nil =>
    have hd := hst.dfr
    unfold qy at hd
    refine ⟨hd, ?_⟩
    have hc : zM (zBf rs tm h n) := hc
    show ∃ v, _ ∧ zX ψ (Heap.fam h) n w (zBf rs tm h n) v w
    unfold zBf at hc ⊢
    cases hv : zAG h tm rs with
    | none => rw [hv] at hc; exact hc.elim
    | some v =>
      obtain ⟨x, h1, h2⟩ := zBx hst.frame hst.rel.on hrs hv
      exact ⟨x, h1, ψ, zh.refl hst.rel, h2⟩
theorem qU (d : Bool) (rs : List CRes) {e : Exit} {a : Act} {w : World} {Z : Prop} : ∀ {r : R}, zM (yK d call rs r) → yP P F N ψ₀ g₀ n₀ w₀ r e a w →
    (∀ tm ds h n ψ, (e = .normal ∨ e = .ret) → St P F N ψ tm ds h n a w → zh ψ₀ g₀ n₀ w₀ ψ (Heap.fam h) n w → zM (qa d call rs tm ds h n) →
      (∀ u w', zX ψ₀ g₀ n₀ w₀ (qa d call rs tm ds h n) u w' → zX ψ₀ g₀ n₀ w₀ (yK d call rs r) u w') → Z) → Z
  | .ok .normal tm ds h n, hc, ⟨h1, ψ, h2, h3, h4⟩, hz => hz tm ds h n ψ (by cases e <;> first | exact .inl rfl | exact h1.elim) h2 h3 hc fun _ _ h => h
  | .ok (.exit _) .., hc, _, _ => hc.elim
  | .ok .ret tm ds h n, hc, ⟨h1, ψ, h2, h3, h4⟩, hz => hz tm ds h n ψ (by cases e <;> first | exact .inr rfl | exact h1.elim) h2 h3 hc fun _ _ h => h
  | .ret .., hc, _, _ => hc.elim
  | .err _, hc, _, _ => hc.elim
  | .fork r s, hc, ho, hz => by
    rcases ho with ho | ho
    · exact qU d rs hc.1 ho fun tm ds h n ψ a b c d e => hz tm ds h n ψ a b c d fun u w' q => .inl (e u w' q)
    · exact qU d rs hc.2 ho fun tm ds h n ψ a b c d e => hz tm ds h n ψ a b c d fun u w' q => .inr (e u w' q)
end
end
end Go.Ev

namespace Go.Ev
variable [Sym]
noncomputable section
variable {P : Program}
variable [SymFact P]
structure NatsOk (P : Program) (nat : Nats) : Prop where
  above : ∀ f g, nat f = some g → ∀ d args h n, zW n (g ‹Sym› d args h n)
  calls : ∀ f g, nat f = some g → ∀ args h n ψ w args', zK ψ args args'.toList → kJ P ψ → Rel ψ (Heap.fam h) w → xf ψ n → zM (g ‹Sym› false args h n) →
    yB P f args' w (zX ψ (Heap.fam h) n w (g ‹Sym› false args h n))
  defers : ∀ f g, nat f = some g → ∀ args h n ψ w args', zK ψ args args'.toList → kJ P ψ → Rel ψ (Heap.fam h) w → xf ψ n → zM (g ‹Sym› true args h n) →
    zCM P f args' w fun w' => ∃ v, zX ψ (Heap.fam h) n w (g ‹Sym› true args h n) v w'
omit [Sym] [SymFact P] in
theorem run_callFunc_enter {f : FuncId} {fn : Func} {c : Code} (hf : P.funcs[f]? = some fn) (hn : (fn.name == "runtime.NumGoroutine") = false) (hb : fn.body = some c) (args : Array Value) (w : World) :
    (callFunc f args).run P w = .ok (.enter f args) w := by
  have h1 : fn.name ≠ "runtime.NumGoroutine" := by simpa using hn
  simp [callFunc, hf, h1, hb]
section
variable {call : yA} (hcall : yR P call) (hdraw : ∀ F N, xD P F N call)
include hcall
theorem zIo (e : Ext) (args : List CV) (h : Heap) (n : Key) : zW n (zLg (zAa e args h n) h n) := by
  have := zIf (h := h) (n := n) e args
  generalize zAa e args h n = r at this
  cases r <;> first | exact Nat.le_refl _ | exact this | trivial
theorem zHr (d : Bool) (fn : CFn) (args : List CV) (h : Heap) (n : Key) : zW n (zBu P d call fn args h n) := by
  cases fn with
  | mk body res => exact qx hcall.above d res (yE hcall.above body _ _ h n)
  | mkD ops body res =>
    show zW n (match d with
      | true => yK true call res (xX (ze P call body) (ju P call ops [] (xR args 0 .nil) [] h n))
      | false => .err 311)
    cases d with
    | true => exact qx hcall.above true res (xe (fun tm ds h n => yE hcall.above body tm ds h n) (ql hcall.above ops [] _ _ h n))
    | false => trivial
  | ext e =>
    show zW n (match d with
      | true => .err 313
      | false => zLg (zAa e args h n) h n)
    cases d with
    | true => trivial
    | false => exact zIo hcall e args h n
  | bad c => trivial
include hdraw
theorem vG {F N : Nat} {args : List CV} {args' : Array Value} {h : Heap} {n : Key} {ψ : Psi} {w : World} (ha : zK ψ args args'.toList) (hg : kJ P ψ) (hrel : Rel ψ (Heap.fam h) w) (hfr : xf ψ n) :
    St P F N ψ (xR args 0 .nil) [] h n { tmps := args' ++ Array.replicate (N - args'.size) undef, defers := [] } w :=
  ⟨zLJ ha, rfl, hrel, hg, hfr⟩
theorem zHp {f : FuncId} {args : List CV} {args' : Array Value} {h : Heap} {n : Key} {ψ : Psi} {w : World} (ha : zK ψ args args'.toList) (hg : kJ P ψ) (hrel : Rel ψ (Heap.fam h) w) (hfr : xf ψ n)
    (hc : zM (zBu P false call (compFn P f) args h n)) : yB P f args' w (zX ψ (Heap.fam h) n w (zBu P false call (compFn P f) args h n)) := by
  unfold compFn at hc ⊢
  rw [yH] at hc ⊢
  cases hf : P.funcs.toList[f]? with
  | none => simp only [hf] at hc; exact hc.elim
  | some fn =>
    have hf' : P.funcs[f]? = some fn := by simpa using hf
    simp only [hf] at hc ⊢
    cases hb : fn.body with
    | none =>
      simp only [hb] at hc ⊢
      cases he : ut P fn with
      | none => simp only [he] at hc; exact hc.elim
      | some e =>
        simp only [he] at hc ⊢
        obtain ⟨en, h1, h2, h3, h4⟩ := zDj he
        have hout := zII (P := P) (h := h) (n := n) (w := w) he h1 ha
        have hrun := run_callFunc_extern (P := P) hf' h2 (by rw [hb]; rfl) h3 h4 args' w
        have hc : zM (zLg (zAa e args h n) h n) := hc
        show yB P f args' w (zX ψ (Heap.fam h) n w (zLg (zAa e args h n) h n))
        have hoa := zIf (h := h) (n := n) e args
        generalize zAa e args h n = r at hout hc hoa
        unfold yB
        cases r <;> first | exact hout.elim | exact hc.elim | skip
        case val v =>
          obtain ⟨x, g1, g2⟩ := hout
          rw [hrun, g1]
          exact ⟨ψ, zh.refl hrel, g2⟩
        case eff v h' n' =>
          obtain ⟨w', x, ψ', g1, g2, g3⟩ := hout hrel (fun k hk _ => hfr k hk) hc
          rw [hrun, g1]
          exact ⟨ψ', g2, g3⟩
    | some c =>
      simp only [hb] at hc ⊢
      split at hc
      · exact hc.elim
      · rename_i hn
        have hn : (fn.name == "runtime.NumGoroutine") = false := by simpa using hn
        rw [if_neg (by rw [hn]; simp)]
        unfold uY at hc ⊢
        cases hrs : yW (yo P (yU fn c) fn.ntmps) fn.results.toList with
        | none => simp only [hrs] at hc; exact hc.elim
        | some rs =>
          simp only [hrs] at hc ⊢
          split at hc
          · rename_i hnr
            rw [if_pos hnr]
            unfold yB
            rw [run_callFunc_enter hf' hn hb]
            have hc : zM (yK false call rs (ze P call (zE P (yU fn c) fn.ntmps c) (xR args 0 .nil) [] h n)) := hc
            show Calls P f args' w fun e w'' => ∃ v, e = .returned v ∧ zX ψ (Heap.fam h) n w (yK false call rs (ze P call (zE P (yU fn c) fn.ntmps c) (xR args 0 .nil) [] h n)) v w''
            refine calls_of_wp_defers hf' hb (wp_mono (xz hcall (hdraw _ _) c hnr (vG hcall hdraw ha hg hrel hfr) (yO hcall.above false rs hc)) fun e a w' ho => ?_)
            refine qU false rs hc ho fun tm ds h' n' ψ' q1 q2 q3 q4 q5 => ?_
            have hl := vk hcall hrs q2 q4
            have : Leaves P fn a.tmps (fun e w'' => ∃ v, e = .returned v ∧ zX ψ (Heap.fam h) n w (yK false call rs (ze P call (zE P (yU fn c) fn.ntmps c) (xR args 0 .nil) [] h n)) v w'') a.defers .returning w' :=
              xP (fun e w'' ⟨v, he, hr⟩ => ⟨v, he, q5 _ _ (zX.trans q3 hr)⟩) _ _ _ hl
            rcases q1 with rfl | rfl
            · exact this
            · exact this
          · rename_i hnr
            split at hc
            · split at hc <;> exact hc.elim
            · exact hc.elim
theorem zFs {f : FuncId} {args : List CV} {args' : Array Value} {h : Heap} {n : Key} {ψ : Psi} {w : World} (ha : zK ψ args args'.toList) (hg : kJ P ψ) (hrel : Rel ψ (Heap.fam h) w) (hfr : xf ψ n)
    (hc : zM (zBu P true call (compFn P f) args h n)) : zCM P f args' w fun w' => ∃ v, zX ψ (Heap.fam h) n w (zBu P true call (compFn P f) args h n) v w' := by
  unfold compFn at hc ⊢
  rw [yH] at hc ⊢
  cases hf : P.funcs.toList[f]? with
  | none => simp only [hf] at hc; exact hc.elim
  | some fn =>
    have hf' : P.funcs[f]? = some fn := by simpa using hf
    simp only [hf] at hc ⊢
    cases hb : fn.body with
    | none =>
      simp only [hb] at hc
      cases he : ut P fn with
      | none => simp only [he] at hc; exact hc.elim
      | some e => simp only [he] at hc; exact hc.elim
    | some c =>
      simp only [hb] at hc ⊢
      split at hc
      · exact hc.elim
      · rename_i hn
        have hn : (fn.name == "runtime.NumGoroutine") = false := by simpa using hn
        rw [if_neg (by rw [hn]; simp)]
        unfold uY at hc ⊢
        cases hrs : yW (yo P (yU fn c) fn.ntmps) fn.results.toList with
        | none => simp only [hrs] at hc; exact hc.elim
        | some rs =>
          simp only [hrs] at hc ⊢
          refine ⟨run_callFunc_enter hf' hn hb _ _, ?_⟩
          split at hc
          · rename_i hnr
            rw [if_pos hnr]
            have hc : zM (yK true call rs (ze P call (zE P (yU fn c) fn.ntmps c) (xR args 0 .nil) [] h n)) := hc
            show CallsD P f args' .returning w fun e u w' => u = .returning ∧ ∃ v, e = .returned v ∧ ∃ v, zX ψ (Heap.fam h) n w (yK true call rs (ze P call (zE P (yU fn c) fn.ntmps c) (xR args 0 .nil) [] h n)) v w'
            refine callsD_of_wp hf' hb (wp_mono (xz hcall (hdraw _ _) c hnr (vG hcall hdraw ha hg hrel hfr) (yO hcall.above true rs hc)) fun e a w' ho => ?_)
            refine qU true rs hc ho fun tm ds h' n' ψ' q1 q2 q3 q4 q5 => ?_
            obtain ⟨g1, v, g2, g3⟩ := zDi (call := call) hrs q2 q4
            rcases q1 with rfl | rfl
            · exact ⟨g1, v, g2, v, rfl, v, q5 _ _ (zX.trans q3 g3)⟩
            · exact ⟨g1, v, g2, v, rfl, v, q5 _ _ (zX.trans q3 g3)⟩
          · rename_i hnr
            rw [if_neg hnr]
            split at hc
            · rename_i c0 id ops r
              split at hc
              · rename_i hnr'
                rw [if_pos hnr']
                have hc : zM (yK true call rs (xX (ze P call (zE P (yU fn (.seq (.region id ops false) r)) fn.ntmps r))
                  (ju P call (qJ P (yU fn (.seq (.region id ops false) r)) fn.ntmps ops.toList [] ops.toList) [] (xR args 0 .nil) [] h n))) := hc
                generalize hF : yU fn (.seq (.region id ops false) r) = F at hc hrs
                show CallsD P f args' .returning w fun e u w' => u = .returning ∧ ∃ v, e = .returned v ∧ ∃ v, zX ψ (Heap.fam h) n w (yK true call rs (xX (ze P call (zE P F fn.ntmps r))
                  (ju P call (qJ P F fn.ntmps ops.toList [] ops.toList) [] (xR args 0 .nil) [] h n))) v w'
                have hc1 := yO hcall.above true rs hc
                have hab := fun tm ds h n => yE (P := P) hcall.above (zE P F fn.ntmps r) tm ds h n
                have hc2 := yz hab hc1
                refine callsD_of_wpS hf' hb fun c₀ cs hm => wpS_seq (wpS_region ?_)
                have hrec : recoverD (c₀ :: cs) = none := by unfold recoverD; simp [hm]
                have := zFE (F := F) (N := fn.ntmps) hcall (zDJ (P := P) ops (Exit.thenS (r.wpS P (bodyPostS P fn c₀ cs fun e u w' => u = .returning ∧ ∃ v, e = .returned v ∧ ∃ v, zX ψ (Heap.fam h) n w (yK true call rs (xX (ze P call (zE P F fn.ntmps r))
                    (ju P call (qJ P F fn.ntmps ops.toList [] ops.toList) [] (xR args 0 .nil) [] h n))) v w'))
                    (bodyPostS P fn c₀ cs fun e u w' => u = .returning ∧ ∃ v, e = .returned v ∧ ∃ v, zX ψ (Heap.fam h) n w (yK true call rs (xX (ze P call (zE P F fn.ntmps r))
                    (ju P call (qJ P F fn.ntmps ops.toList [] ops.toList) [] (xR args 0 .nil) [] h n))) v w')) hrec)
                  ops.toList 0 rfl (fun _ _ _ => rfl) (vG hcall hdraw (F := F) (N := fn.ntmps) ha hg hrel hfr) (dl := []) (es := []) (fun t i hi => by cases hi) hc2
                  (fun tm' ds' h' n' ψ' a' w' g1 g2 g3 g4 => by
                    have k1 := g4 (fun r0 => zM (yK true call rs (xX (ze P call (zE P F fn.ntmps r)) r0)) → zM (yK true call rs (ze P call (zE P F fn.ntmps r) tm' ds' h' n')))
                      (fun x y hx hc => hx hc.1) (fun x y hy hc => hy hc.2) (fun h => h) hc
                    have k2 := g4 (fun r0 => ∀ u w'', zX ψ (Heap.fam h) n w (yK true call rs (ze P call (zE P F fn.ntmps r) tm' ds' h' n')) u w'' →
                        zX ψ (Heap.fam h) n w (yK true call rs (xX (ze P call (zE P F fn.ntmps r)) r0)) u w'')
                      (fun x y hx u w'' q => .inl (hx u w'' q)) (fun x y hy u w'' q => .inr (hy u w'' q)) (fun u w'' q => q)
                    show r.wpS P _ a' (c₀ :: cs) w'
                    refine wpS_of_wp (wp_mono (xz hcall (hdraw F fn.ntmps) r hnr' g1 (yO hcall.above true rs k1)) fun e a w'' ho => ?_)
                    refine qU true rs k1 ho fun tm ds h'' n'' ψ'' q1 q2 q3 q4 q5 => ?_
                    obtain ⟨g1', v, g2', g3'⟩ := zDi (call := call) hrs q2 q4
                    have hfin := k2 _ _ (zX.trans g2 (q5 _ _ (zX.trans q3 g3')))
                    have hm' : ({ c₀ with mode := .returning } : Frame) = c₀ := by rw [← hm]
                    rcases q1 with rfl | rfl
                    · exact ⟨g1', .returning, by rw [hm'], v, g2', rfl, v, rfl, v, hfin⟩
                    · exact ⟨g1', .returning, by rw [hm'], v, g2', rfl, v, rfl, v, hfin⟩)
                rw [Array.length_toList] at this
                rw [List.range_eq_range']
                exact this
              · exact hc.elim
            · exact hc.elim
end
def CodeOk (P : Program) (code : FuncId → CFn) : Prop := ∀ f, code f = compFn P f ∨ ∃ c, code f = .bad c
theorem qe (hdraw : ∀ (call : yA), yR P call → ∀ F N, xD P F N call) {code : FuncId → CFn} (hcode : CodeOk P code) {nat : Nats} (hnat : NatsOk P nat) : ∀ (fuel : Nat), yR P (ev P code nat fuel)
  | 0 => ⟨fun _ _ _ _ _ => trivial, fun _ _ _ _ _ _ _ _ _ _ _ hc => hc.elim, fun _ _ _ _ _ _ _ _ _ _ _ hc => hc.elim⟩
  | fuel + 1 => by
    have ih := qe hdraw hcode hnat fuel
    have hev : ∀ d f args h n, ev P code nat (fuel + 1) d f args h n = (match nat f with
        | none => zBu P d (ev P code nat fuel) (code f) args h n
        | some g => g ‹Sym› d args h n) := by
      intro d f args h n
      show Option.rec (motive := fun _ => R) (zBu P d (ev P code nat fuel) (code f) args h n) (fun g => g ‹Sym› d args h n) (nat f) = _
      cases nat f <;> rfl
    refine ⟨fun d f args h n => ?_, fun f args h n ψ w args' h1 h2 h3 h4 hc => ?_, fun f args h n ψ w args' h1 h2 h3 h4 hc => ?_⟩
    · rw [hev]
      split
      · exact zHr ih d _ args h n
      · rename_i g hg
        exact hnat.above f g hg d args h n
    · rw [hev] at hc ⊢
      split at hc
      · rename_i hn
        rcases hcode f with e | ⟨c, e⟩
        · rw [e] at hc ⊢
          exact zHp ih (hdraw _ ih) h1 h2 h3 h4 hc
        · rw [e] at hc; exact hc.elim
      · rename_i g hg
        exact hnat.calls f g hg args h n ψ w args' h1 h2 h3 h4 hc
    · rw [hev] at hc ⊢
      split at hc
      · rename_i hn
        rcases hcode f with e | ⟨c, e⟩
        · rw [e] at hc ⊢
          exact zFs ih (hdraw _ ih) h1 h2 h3 h4 hc
        · rw [e] at hc; exact hc.elim
      · rename_i g hg
        exact hnat.defers f g hg args h n ψ w args' h1 h2 h3 h4 hc
end
end Go.Ev


