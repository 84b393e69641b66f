/- A verified evaluator for the model's code: EvU, EvV, EvW, EvX, EvY, EvZ, EvZa, EvZb, EvZc, EvZd. -/
import Derived.Test.YtaimebepiomgcaaGreatDoorEv4
import Derived.Laws.Externs
import Derived.KernelRfl
import Derived.Lib.Bytealg
import Derived.Recover
import Derived.Orders
import Derived.Scope
set_option linter.unusedSectionVars false
set_option linter.unusedVariables false
set_option linter.unusedSimpArgs false
namespace Go.Ev
variable [Sym]
open Go.MapKept
noncomputable section
variable {P : Program} {ψ : Psi} {es : List CV} {tm : Tm} {h : zD} {n : Key} {ρ : Operand → Value} {E : Env} {ty : TypeId} {w : World}
variable [SymFact P]
theorem zOu {c : Call} {l : List Operand} (h : c.args.toList = l) : c.args.map ρ = (l.map ρ).toArray := by
  rw [u9 h]; simp
theorem zHc (c : Call) (b : Builtin) (hc : c.callee = .builtin b) (ha : zq P ψ es tm E ρ c.args.toList) :
    zC P ψ h n ρ (.call c) ty w (yA P (xf P E b c.argTypes.toList c.args.toList) es tm h n) := by
  have hrun := fun w => zBJ (P := P) (ρ := ρ) (ty := ty) hc w
  generalize hts : c.argTypes.toList = ts
  generalize has : c.args.toList = as at ha
  have hts' := u9 hts
  have has' := zOu (ρ := ρ) has
  rw [has', hts'] at hrun
  cases b <;> try exact zA _
  case append =>
    match ts, as with
    | t :: u :: r, [s, x] => exact zI3 (fun w => by rw [hrun w]; rfl) ha
    | _ :: _ :: _, [] => exact zA _
    | _ :: _ :: _, [_] => exact zA _
    | _ :: _ :: _, _ :: _ :: _ :: _ => exact zA _
    | [], _ => exact zA _
    | [_], _ => exact zA _
  case copy =>
    match ts, as with
    | t :: r, [s, x] => exact zN2 (fun w => by rw [hrun w]; rfl) ha
    | _ :: _, [] => exact zA _
    | _ :: _, [_] => exact zA _
    | _ :: _, _ :: _ :: _ :: _ => exact zA _
    | [], _ => exact zA _
  case len =>
    match ts, as with
    | t :: r, [x] => exact zOC (fun w => by rw [hrun w]; rfl) ha
    | _ :: _, [] => exact zA _
    | _ :: _, _ :: _ :: _ => exact zA _
    | [], _ => exact zA _
  case cap =>
    match ts, as with
    | t :: r, [x] => exact zOl (fun w => by rw [hrun w]; rfl) ha
    | _ :: _, [] => exact zA _
    | _ :: _, _ :: _ :: _ => exact zA _
    | [], _ => exact zA _
  case delete =>
    match ts, as with
    | t :: r, [m, k] => exact zJg (fun w => by rw [hrun w]; rfl) ha
    | _ :: _, [] => exact zA _
    | _ :: _, [_] => exact zA _
    | _ :: _, _ :: _ :: _ :: _ => exact zA _
    | [], _ => exact zA _
  case clear =>
    match ts, as with
    | t :: r, [x] => exact zLD (fun w => by rw [hrun w]; rfl) ha
    | _ :: _, [] => exact zA _
    | _ :: _, _ :: _ :: _ => exact zA _
    | [], _ => exact zA _
  case min =>
    match as with
    | x :: r => exact zDn false (fun w => by rw [hrun w]; rfl) ha
    | [] => exact zA _
  case max =>
    match as with
    | x :: r => exact zDn true (fun w => by rw [hrun w]; rfl) ha
    | [] => exact zA _
  case recover =>
    match as with
    | [] => exact ⟨by unfold zCb; simp [hc], by rw [hrun w]; rfl⟩
    | _ :: _ => exact zA _
def zLn (ψ : Psi) : wl → Place → Prop
  | .val c, x => ∃ v, x = .val v ∧ zH ψ c v
  | .var b off, x => ∃ p, ψ b = some p ∧ x = .var ⟨p.blk, p.off + off, none⟩
theorem zHT {b : Key} {off : Nat} {p : Pl} (hp : ψ b = some p) : zLn ψ (.var b off) (.var ⟨p.blk, p.off + off, none⟩) := ⟨p, hp, rfl⟩
theorem zDL {c : CV} {v : Value} (hv : zH ψ c v) : zLn ψ (.val c) (.val v) := ⟨v, rfl, hv⟩
theorem zER (hrel : x6 ψ (zD.fam h) w) {t : TypeId} {b : Key} {off : Nat} {c : CV} {p : Pl} (hp : ψ b = some p) (hc : zJ1 P h t b off = some c) :
    ∃ v, (loadVar t ⟨p.blk, p.off + off, none⟩).run P w = .ok v w ∧ zH ψ c v := by
  unfold zJ1 at hc
  split at hc
  · rename_i a s vs ha hs hv
    have hcells : zA1 ψ w p vs := by
      unfold uV at hv
      split at hv
      · rename_i q hq; injection hv with hv; subst hv; exact yP.toRo (hrel b _ p hq hp)
      · rename_i q hq; injection hv with hv; subst hv; exact hrel b _ p hq hp
      · cases hv
    unfold zKQ at hc
    cases a with
    | true =>
      simp only at hc
      cases hl : vw vs off s with
      | none => rw [hl] at hc; cases hc
      | some l =>
        rw [hl] at hc
        injection hc with hc; subst hc
        obtain ⟨xs, hrun, hxs⟩ := xT (P := P) hcells hl
        exact ⟨.agg xs.toArray, by simp [loadVar, qN ha, yU hs, hrun], ye.2 ⟨_, rfl, by simpa using hxs⟩⟩
    | false =>
      simp only [kj] at hc
      obtain ⟨y, hrun, hy⟩ := uR (P := P) hcells hc
      exact ⟨y, by simp only [loadVar, Sem.run_bind, qN ha, Result.andThen_ok, Bool.false_eq_true, if_false, hrun], hy⟩
  · cases hc
theorem zBi (hrel : x6 ψ (zD.fam h) w) {t : TypeId} {x : wl} {y : Place} {c : CV} (hx : zLn ψ x y) (hc : x.get P h t = some c) : ∃ v, (y.get t).run P w = .ok v w ∧ zH ψ c v := by
  cases x with
  | val d =>
    obtain ⟨v, rfl, hv⟩ := hx
    injection hc with hc; subst hc
    exact ⟨v, rfl, hv⟩
  | var b off =>
    obtain ⟨p, hp, rfl⟩ := hx
    exact zER hrel hp hc
theorem zI9 {s : FieldStep} {f : Field} (hs : zGK P s = some f) : ∃ fs, P.underlying s.struct = some (.struct fs) ∧ fs[s.index]? = some f ∧ ∃ k, xZ P f.type = some (k + 1) := by
  unfold zGK und at hs
  split at hs
  · rename_i fs ht
    rw [yN] at hs
    split at hs
    · rename_i g hg
      split at hs
      · rename_i k hk
        injection hs with hs; subst hs
        exact ⟨fs, ht, by simpa using hg, k, hk⟩
      · cases hs
    · cases hs
  · cases hs
theorem kK (hrel : x6 ψ (zD.fam h) w) : ∀ (l : List FieldStep) {t xt : TypeId} {x x' : wl} {y : Place}, zLn ψ x y → ko P h l t x = some (xt, x') →
    ∃ y', (follow l t y).run P w = .ok (xt, y') w ∧ zLn ψ x' y'
  | [], t, xt, x, x', y, hx, hf => by
    injection hf with hf; injection hf with h1 h2; subst h1 h2
    exact ⟨y, rfl, hx⟩
  | s :: rest, t, xt, x, x', y, hx, hf => by
    unfold ko at hf
    cases hs : zGK P s with
    | none => rw [hs] at hf; cases hf
    | some f =>
      simp only [hs] at hf
      obtain ⟨fs, h1, h2, k, h3⟩ := zI9 hs
      split at hf
      · rename_i hd
        split at hf
        · rename_i b off hg
          obtain ⟨v, hv, hr⟩ := zBi hrel hx hg
          rw [zm] at hr
          obtain ⟨p, hp, rfl⟩ := hr
          obtain ⟨y', g1, g2⟩ := kK hrel rest (zHT hp) hf
          refine ⟨y', ?_, g2⟩
          rw [← g1]
          simp [follow, run_underlying h1, h2, hd, hv, asAddr, fieldPlace, yU h3, xH, Nat.add_assoc]
        · cases hf
      · rename_i hd
        split at hf
        · rename_i b off
          obtain ⟨p, hp, rfl⟩ := hx
          obtain ⟨y', g1, g2⟩ := kK hrel rest (zHT hp) hf
          refine ⟨y', ?_, g2⟩
          rw [← g1]
          simp [follow, run_underlying h1, h2, hd, fieldPlace, yU h3, xH, Nat.add_assoc]
        · rename_i cs
          obtain ⟨v, rfl, hv⟩ := hx
          rw [ye] at hv
          obtain ⟨vs, rfl, hv⟩ := hv
          split at hf
          · rename_i a s' ha hs'
            split at hf
            · rename_i c hc
              have hp := zD7 (P := P) (off := f.offset) ha hs' hv w
              have : ∃ u, (part f.type vs f.offset).run P w = .ok u w ∧ zH ψ c u := by
                unfold zKQ at hc
                cases a with
                | true =>
                  simp only at hc
                  cases hl : vw cs f.offset s' with
                  | none => rw [hl] at hc; cases hc
                  | some l => rw [hl] at hc; injection hc with hc; subst hc; exact hp.2 rfl l hl
                | false => exact hp.1 rfl c hc
              obtain ⟨u, hu, hur⟩ := this
              obtain ⟨y', g1, g2⟩ := kK hrel rest (zDL hur) hf
              refine ⟨y', ?_, g2⟩
              rw [← g1]
              simp [follow, run_underlying h1, h2, hd, hu]
            · cases hf
          · cases hf
        · cases hf
theorem zA6 (hrel : x6 ψ (zD.fam h) w) {xt : TypeId} {x : wl} {y : Place} {pr : Bool} {c : CV} (wr : Option String) (hx : zLn ψ x y) (hc : uM P h xt x pr = some c) :
    ∃ v, (receiverAt xt y pr wr).run P w = .ok v w ∧ zH ψ c v := by
  unfold uM und at hc
  split at hc
  · rename_i e ht
    obtain ⟨v, hv, hr⟩ := zBi hrel hx hc
    exact ⟨v, by simp [receiverAt, run_underlying ht, hv], hr⟩
  · rename_i e ht
    split at hc
    · rename_i b off hg
      obtain ⟨v, hv, hr⟩ := zBi hrel hx hg
      rw [zm] at hr
      obtain ⟨p, hp, rfl⟩ := hr
      obtain ⟨u, hu, hur⟩ := zER hrel hp hc
      refine ⟨u, ?_, hur⟩
      cases wr with
      | none => simp [receiverAt, run_underlying ht, hv, asAddr, hu]
      | some nm =>
        have hck : (Builtin.ssaWrapNilChk_ #[xt] xt #[.pointer (some ⟨p.blk, p.off + off, none⟩), strVal "", strVal nm]).run P w = .ok (.pointer (some ⟨p.blk, p.off + off, none⟩)) w := rfl
        simp only [receiverAt, Sem.run_bind, run_underlying ht, Result.andThen_ok, hv, hck, asAddr, Sem.run_pure, hu]
    · cases hc
  · rename_i D hD b off ht
    injection hc with hc; subst hc
    obtain ⟨p, hp, rfl⟩ := hx
    refine ⟨_, ?_, zm.2 ⟨p, hp, rfl⟩⟩
    unfold receiverAt
    simp only [Sem.run_bind, run_underlying ht, Result.andThen_ok]
    cases D <;> first | rfl | exact absurd rfl (hD _)
  · cases hc
  · rename_i D hD ht
    obtain ⟨v, hv, hr⟩ := zBi hrel hx hc
    refine ⟨v, ?_, hr⟩
    unfold receiverAt
    simp only [Sem.run_bind, run_underlying ht, Result.andThen_ok]
    cases D <;> first | exact hv | exact absurd rfl (hD _) | (exact absurd (Eq.refl _) (hD _))
  · cases hc
end
end Go.Ev

namespace Go.Ev
variable [Sym]
open Go.MapKept
noncomputable section
variable {P : Program} {ψ : Psi} {es : List CV} {tm : Tm} {h : zD} {n : Key} {ρ : Operand → Value} {E : Env} {ty : TypeId} {w : World}
variable [SymFact P]
theorem zG2 (name : String) : ∀ (l : List Method), wg name l = l.find? (fun m => m.name == name)
  | [] => rfl
  | m :: r => by
    unfold wg
    rw [List.find?_cons, zG2 name r]
    by_cases e : (m.name == name) = true
    · rw [if_pos e, e]
    · rw [if_neg e]
      have : (m.name == name) = false := by simpa using e
      rw [this]
theorem zCW (hrel : x6 ψ (zD.fam h) w) (name : String) : ∀ (d fuel : Nat) {t : TypeId} {v : CV} {x : Value} {f : FuncId} {r : CV}, d ≤ fuel → zH ψ v x → zCC P h d t v name = some (f, r) →
    ∃ y, (method fuel t x name).run P w = .ok (f, y) w ∧ zH ψ r y
  | 0, _, _, _, _, _, _, _, _, hm => by cases hm
  | d + 1, 0, _, _, _, _, _, hle, _, _ => by omega
  | d + 1, fuel + 1, t, v, x, f, r, hle, hv, hm => by
    unfold zCC at hm
    cases hrow : zGg P t name with
    | none => rw [hrow] at hm; cases hm
    | some m =>
      simp only [hrow] at hm
      unfold zGg at hrow
      cases hi : P.info? t with
      | none => rw [hi] at hrow; cases hrow
      | some ti =>
        rw [hi] at hrow
        simp only [Option.bind_some, zG2] at hrow
        have hrow : ti.methods.find? (fun m => m.name == name) = some m := by rw [← Array.find?_toList]; exact hrow
        cases hf : ko P h m.path.toList t (.val v) with
        | none => rw [hf] at hm; cases hm
        | some q =>
          obtain ⟨xt, x'⟩ := q
          simp only [hf] at hm
          obtain ⟨y', g1, g2⟩ := kK hrel _ (zDL hv) hf
          split at hm
          · rename_i hfn
            split at hm
            · rename_i t' v' hg
              obtain ⟨u, hu, hur⟩ := zBi hrel g2 hg
              rw [yM] at hur
              obtain ⟨u', rfl, hur⟩ := hur
              obtain ⟨y, k1, k2⟩ := zCW hrel name d fuel (by omega) hur hm
              refine ⟨y, ?_, k2⟩
              rw [← k1]
              simp [method, typeInfo, hi, hrow, g1, hfn, hu]
            · cases hm
          · rename_i f' pr hfn
            split at hm
            · rename_i r' hrc
              injection hm with hm; injection hm with e1 e2; subst e1 e2
              obtain ⟨y, k1, k2⟩ := zA6 hrel (if m.path.isEmpty then some ((name.splitOn ".").getLastD name) else none) g2 hrc
              refine ⟨y, ?_, k2⟩
              unfold method
              simp only [Sem.run_bind, qS hi, Result.andThen_ok, hrow, g1, hfn, k1, Sem.run_pure]
            · cases hm
section
variable {o : Op}
def zAK (P : Program) (ψ : Psi) (h : zD) (n : Key) (w : World) (run : Result Next) : OR → Prop
  | .call f args => x6 ψ (zD.fam h) w → ∃ args', run = (callFunc f args').run P w ∧ zT ψ args args'.toList
  | .err _ => True
  | _ => False
theorem zCo {r : OR} {run : Result Next} (hrun : (execOp ρ (xV o ty)).run P w = run) (hc : zAK P ψ h n w run r) : zC P ψ h n ρ o ty w r := by
  cases r <;> first | exact hc.elim | exact trivial | skip
  case call f args =>
    intro hrel
    obtain ⟨args', h1, h2⟩ := hc hrel
    exact ⟨args', by rw [← h1]; exact hrun, h2⟩
theorem uH {recv : CV} {x : Value} {args : List CV} {as : Array Value} (name : String) (hx : zH ψ recv x) (has : zT ψ args as.toList) :
    zAK P ψ h n w ((callMethod x name as).run P w) (zFh P h recv name args) := by
  refine xO (C := zAK P ψ h n w ((callMethod x name as).run P w)) _ _ _ _ trivial (fun _ => trivial) fun t v hv => ?_
  rw [hv, yM] at hx
  obtain ⟨y, rfl, hy⟩ := hx
  split
  · rename_i f r hm
    intro hrel
    obtain ⟨u, h1, h2⟩ := zCW (P := P) hrel name 8 (P.types.size + Made.depth) (by unfold Made.depth; omega) hy hm
    refine ⟨#[u] ++ as, ?_, ?_⟩
    · simp [callMethod, h1]
    · have : (#[u] ++ as).toList = u :: as.toList := by simp
      rw [this]
      exact zX.2 ⟨h2, has⟩
  · exact trivial
theorem zLm {f : CV} {fv : Value} {args : List CV} {as : Array Value} (hf : zH ψ f fv) (has : zT ψ args as.toList) :
    zAK P ψ h n w ((do let d ← Deferred.ofValue fv as; invoke d.target d.args : Sem Next).run P w) (zMX P h f args) := by
  refine kx (C := zAK P ψ h n w _) _ _ _ trivial fun fn first captured hv => ?_
  rw [hv, yz] at hf
  obtain ⟨a', c', rfl, h1, h2⟩ := hf
  have hfa : zT ψ (zBQ first args) (a' ++ as).toList := by rw [kg, Array.toList_append]; exact h1.append has
  split
  · rename_i g
    intro _
    refine ⟨a' ++ as ++ c', by simp [Deferred.ofValue, invoke], ?_⟩
    rw [kg, kg, Array.append_assoc, Array.toList_append, Array.toList_append]
    exact h1.append (has.append h2)
  · rename_i name
    split
    · rename_i recv rest hl
      rw [hl] at hfa
      obtain ⟨r, rs, e, hr, hrs⟩ := zb.1 hfa
      have e0 : (a' ++ as)[0]? = some r := by rw [← Array.getElem?_toList, e]; rfl
      have e1 : ((a' ++ as).extract 1 (a' ++ as).size).toList = rs := by
        rw [Array.toList_extract, e, List.extract_eq_take_drop]
        have : (a' ++ as).size = rs.length + 1 := by rw [← Array.length_toList, e]; rfl
        rw [this]; simp
      have := uH (P := P) (h := h) (n := n) (w := w) name hr (as := (a' ++ as).extract 1 (a' ++ as).size) (by rw [e1]; exact hrs)
      have hrun : (do let d ← Deferred.ofValue (.func (.method name) a' c') as; invoke d.target d.args : Sem Next).run P w = (callMethod r name ((a' ++ as).extract 1 (a' ++ as).size)).run P w := by
        simp only [Deferred.ofValue, Sem.run_bind, Sem.run_pure, Result.andThen_ok, invoke, e0]
      rw [hrun]; exact this
    · exact trivial
  · rename_i t name
    split
    · rename_i recv rest hl
      rw [hl] at hfa
      obtain ⟨r, rs, e, hr, hrs⟩ := zb.1 hfa
      have e0 : (a' ++ as)[0]? = some r := by rw [← Array.getElem?_toList, e]; rfl
      have e1 : ((a' ++ as).extract 1 (a' ++ as).size).toList = rs := by
        rw [Array.toList_extract, e, List.extract_eq_take_drop]
        have : (a' ++ as).size = rs.length + 1 := by rw [← Array.length_toList, e]; rfl
        rw [this]; simp
      unfold und
      split
      · rename_i ms ht
        have := uH (P := P) (h := h) (n := n) (w := w) name hr (as := (a' ++ as).extract 1 (a' ++ as).size) (by rw [e1]; exact hrs)
        have hrun : (do let d ← Deferred.ofValue (.func (.methodOf t name) a' c') as; invoke d.target d.args : Sem Next).run P w = (callMethod r name ((a' ++ as).extract 1 (a' ++ as).size)).run P w := by
          simp only [Deferred.ofValue, Sem.run_bind, Sem.run_pure, Result.andThen_ok, invoke, e0, run_underlying ht]
        rw [hrun]; exact this
      · rename_i D hD ht
        have := uH (P := P) (h := h) (n := n) (w := w) name (recv := .iface t recv) (x := .iface t r) (yM.2 ⟨r, rfl, hr⟩) (as := (a' ++ as).extract 1 (a' ++ as).size) (by rw [e1]; exact hrs)
        have hrun : (do let d ← Deferred.ofValue (.func (.methodOf t name) a' c') as; invoke d.target d.args : Sem Next).run P w = (callMethod (.iface t r) name ((a' ++ as).extract 1 (a' ++ as).size)).run P w := by
          simp only [Deferred.ofValue, Sem.run_bind, Sem.run_pure, Result.andThen_ok, invoke, e0, run_underlying ht]
        rw [hrun]; exact this
      · exact trivial
    · exact trivial
  · rename_i t path g pr
    split
    · rename_i recv rest hl
      rw [hl] at hfa
      obtain ⟨r, rs, e, hr, hrs⟩ := zb.1 hfa
      have e0 : (a' ++ as)[0]? = some r := by rw [← Array.getElem?_toList, e]; rfl
      have e1 : ((a' ++ as).extract 1 (a' ++ as).size).toList = rs := by
        rw [Array.toList_extract, e, List.extract_eq_take_drop]
        have : (a' ++ as).size = rs.length + 1 := by rw [← Array.length_toList, e]; rfl
        rw [this]; simp
      split
      · rename_i xt x hfo
        split
        · rename_i rc hrc
          intro hrel
          obtain ⟨y', g1, g2⟩ := kK hrel _ (zDL hr) hfo
          obtain ⟨u, k1, k2⟩ := zA6 hrel none g2 hrc
          refine ⟨#[u] ++ (a' ++ as).extract 1 (a' ++ as).size, ?_, ?_⟩
          · simp only [Deferred.ofValue, Sem.run_bind, Sem.run_pure, Result.andThen_ok, invoke, e0, receiverVia, g1, k1]
          · have : (#[u] ++ (a' ++ as).extract 1 (a' ++ as).size).toList = u :: rs := by rw [Array.toList_append, e1]; rfl
            rw [this]
            exact zX.2 ⟨k2, hrs⟩
        · exact trivial
      · exact trivial
    · exact trivial
  · exact trivial
structure zKd (ρ : Operand → Value) : Prop where
  const : ∀ v, ρ (.const v) = v
  func : ∀ f, ρ (.func f) = .func (.func f) #[] #[]
theorem zLJ (c : Call) (ha : zq P ψ es tm E ρ c.operands.toList) : zC P ψ h n ρ (.defer c) ty w (yA P (zc P E (.defer c)) es tm h n) := by
  rw [zc]
  split
  · rename_i f hcal
    split
    · rename_i f' args hf hargs
      refine kx (C := zC P ψ h n ρ (.defer c) ty w) _ _ _ (zA _) fun fn first captured hv => ?_
      have hfr := ha f (by simp [Call.operands, hcal]) f' hf
      have has := jf _ (ha.sub fun y hy => by simp [Call.operands]; exact .inr (by simpa using hy)) hargs
      rw [hv, yz] at hfr
      obtain ⟨a', c', hfr, h1, h2⟩ := hfr
      split
      · rename_i g
        refine ⟨{ target := .fn (.func g) c', args := a' ++ c.args.map ρ }, .func g, c', a' ++ c.args.map ρ ++ c', ?_, rfl, fun w => rfl, ?_⟩
        · simp [execOp, resolve, hcal, hfr, Deferred.ofValue]
        · rw [kg, kg, Array.append_assoc, Array.toList_append, Array.toList_append, Array.toList_map]
          exact h1.append (has.append h2)
      · exact zA _
    · exact zA _
  · exact zA _
end
end
end Go.Ev

namespace Go.Ev
variable [Sym]
open Go.MapKept
noncomputable section
variable {P : Program} {ψ : Psi} {es : List CV} {tm : Tm} {h : zD} {n : Key} {ρ : Operand → Value} {E : Env} {ty : TypeId} {w : World}
variable [SymFact P]
theorem zCE {fn : Func} {nm : String} {e : Array Value → Sem Value} (ho : fn.origin = "") (hn : fn.name = nm)
    (h1 : Extern.allNextRows.lookup nm = none) (h2 : Extern.allGenericRows.lookup nm = none) (h3 : Extern.allTypedRows.lookup nm = none) (h4 : Extern.allRows.lookup nm = some e)
    (h5 : Extern.allNextRows.lookup "" = none) : Extern.findNext fn = none ∧ Extern.find fn = some e := by
  constructor
  · unfold Extern.findNext
    simp only [hn, ho, h1, h5]; rfl
  · unfold Extern.find
    simp only [hn, h2, h3, h4]; rfl
theorem zAr : Extern.allNextRows.lookup "" = none := by kernel_rfl
def zKY (fn : Func) : Ext → Option (Array Value → Sem Value)
  | .count => some Extern.BytealgCount.count
  | .indexByte => some Extern.BytealgIndexByte.indexByte
  | .cmp => some Extern.BytealgCompare.compare
  | .mapsClone => some Extern.MapsClone.clone
  | .overlaps => some (Extern.SlicesOverlaps.overlaps fn.params fn.resultTypes)
  | _ => none
theorem zDT {fn : Func} {e : Ext} (he : zAX P fn = some e) : ∃ en, zKY fn e = some en ∧ (fn.name == "runtime.NumGoroutine") = false ∧ Extern.findNext fn = none ∧ Extern.find fn = some en := by
  unfold zAX at he
  split at he
  · rename_i ho
    have ho : fn.origin = "" := by simpa using ho
    split at he
    · rename_i hn
      have hn : fn.name = zFw "bytealg.CountString" := by simpa using hn
      injection he with he; subst he
      obtain ⟨h1, h2⟩ := zCE (e := Extern.BytealgCount.count) ho hn (by kernel_rfl) (by kernel_rfl) (by kernel_rfl) (by kernel_rfl) zAr
      exact ⟨_, rfl, by rw [hn]; decide, h1, h2⟩
    · split at he
      · rename_i hn
        have hn : fn.name = zFw "bytealg.IndexByteString" := by simpa using hn
        injection he with he; subst he
        obtain ⟨h1, h2⟩ := zCE (e := Extern.BytealgIndexByte.indexByte) ho hn (by kernel_rfl) (by kernel_rfl) (by kernel_rfl) (by kernel_rfl) zAr
        exact ⟨_, rfl, by rw [hn]; decide, h1, h2⟩
      · split at he
        · rename_i hn
          have hn : fn.name = zFw "bytealg.abigen_runtime_cmpstring" := by simpa using hn
          injection he with he; subst he
          obtain ⟨h1, h2⟩ := zCE (e := Extern.BytealgCompare.compare) ho hn (by kernel_rfl) (by kernel_rfl) (by kernel_rfl) (by kernel_rfl) zAr
          exact ⟨_, rfl, by rw [hn]; decide, h1, h2⟩
        · split at he
          · rename_i hn
            have hn : fn.name = "maps.clone" := by simpa using hn
            injection he with he; subst he
            obtain ⟨h1, h2⟩ := zCE (e := Extern.MapsClone.clone) ho hn (by kernel_rfl) (by kernel_rfl) (by kernel_rfl) (by kernel_rfl) zAr
            exact ⟨_, rfl, by rw [hn]; decide, h1, h2⟩
          · cases he
  · split at he
    · rename_i ho
      injection he with he; subst he
      rw [Bool.and_eq_true] at ho
      obtain ⟨ho, hok⟩ := ho
      have ho : fn.origin = "slices.overlaps" := by simpa using ho
      unfold uq zHt at hok
      simp only [Bool.and_eq_true, Option.isNone_iff_eq_none] at hok
      obtain ⟨⟨gn, ⟨⟨g1, g2⟩, g3⟩, g4⟩, _⟩ := hok
      refine ⟨_, rfl, ?_, ?_, ?_⟩
      · simpa using gn
      · unfold Extern.findNext
        have h1 : Extern.allNextRows.lookup "slices.overlaps" = none := by kernel_rfl
        simp only [ho, g1, h1]; rfl
      · unfold Extern.find
        have h1 : Extern.allGenericRows.lookup "slices.overlaps" = none := by kernel_rfl
        have h2 : Extern.allTypedRows.lookup "slices.overlaps" = some Extern.SlicesOverlaps.overlaps := by kernel_rfl
        simp only [ho, g2, g3, g4, h1, h2]; rfl
    · cases he
theorem uk {w : World} {params res : Array TypeId} {tS e : TypeId} (hp : params[0]? = some tS) (ht : P.underlying tS = some (.slice e)) {size : Nat} (hz : ∀ w, (Go.sizeOf e).run P w = .ok size w)
    (a b : Addr) (la ca lb cb : Nat) (hne : a.block ≠ b.block) (tA tB : TypeId) (kA kB : Nat)
    (hsa : w.shape? a.block = some (tA, kA)) (hsb : w.shape? b.block = some (tB, kB)) (hkB : kB ≠ 0)
    (hfa : w.frozen? a = false) (hfe : w.frozen? { block := a.block, off := kA } = false) :
    (Extern.SlicesOverlaps.overlaps params res #[.slice (some a) la ca, .slice (some b) lb cb]).run P w = .ok (.bool false) w := by
  have hnb : (a.block != b.block) = true := by simpa using hne
  have hnb' : (a.block == b.block) = false := by simpa using hne
  change Sem.run P (α := Value) (do
    let some t := params[0]? | stuck "slices.overlaps: no parameter types"
    let .slice elem ← underlying t | stuck "slices.overlaps: slice type expected"
    let size ← sizeOf elem
    match (some a : Option Addr), (some b : Option Addr) with
    | some a, some b =>
      if la = 0 ∨ lb = 0 ∨ size = 0 then pure (Value.bool false)
      else if a.block != b.block && (← frozen a) && (← frozen b) then unsupported .addressObserved
      else do
        if a.block != b.block then do
          noView a; noView b
          if ← mayBeOne a b then return Value.bool ((← choose (.extern "sameAddr.stringBytes" 2)) == 1)
        pure (Value.bool (a.block == b.block && a.off < b.off + lb * size && b.off < a.off + la * size))
    | _, _ => pure (Value.bool false)) w = _
  by_cases h0 : la = 0 ∨ lb = 0 ∨ size = 0
  · simp [hp, run_underlying ht, hz, h0]
  · cases kB with
    | zero => exact absurd rfl hkB
    | succ kB =>
      simp [hp, run_underlying ht, hz, h0, hnb, hnb', frozen, noView, viewAt, mayBeOne, stringish, shape, Sem.run, hsa, hsb, hfa, hfe]
def qG (P : Program) (ψ : Psi) (h : zD) (n : Key) (w : World) (en : Array Value → Sem Value) (args : Array Value) : OR → Prop
  | .val v => ∃ x, (en args).run P w = .ok x w ∧ zH ψ v x
  | .eff v h' n' => Rel ψ (zD.fam h) w → (∀ k, n.ix ≤ k.ix → k.ix < n'.ix → ψ k = none) → n'.room →
      ∃ w' x ψ', (en args).run P w = .ok x w' ∧ zy ψ (zD.fam h) n w ψ' (zD.fam h') n' w' ∧ zH ψ' v x
  | .err _ => True
  | _ => False
theorem zCc {c : CV} {b : Nat} {v : Value} (hb : ki c = some b) (hv : zH ψ c v) : v = .int .u8 (Int.ofNat b) ∧ b ≤ 255 := by
  unfold ki at hb
  split at hb
  · split at hb
    · rename_i hle
      injection hb with hb; subst hb
      exact ⟨zg.1 hv, zP hle⟩
    · cases hb
  · cases hb
theorem zNY (c : UInt8) (l : List UInt8) : zGt c.toNat (l.map UInt8.toNat) = Lib.countByte l c := by
  unfold Lib.countByte
  induction l with
  | nil => rfl
  | cons x l ih =>
    show Bool.rec (motive := fun _ => Nat) (zGt c.toNat (l.map UInt8.toNat)) (Nat.succ (zGt c.toNat (l.map UInt8.toNat))) (Nat.beq x.toNat c.toNat) = _
    rw [ih, List.count_cons]
    by_cases e : x = c
    · subst e; simp
    · rw [kI (fun h => e (UInt8.toNat_inj.1 h))]; simp [e]
theorem zIr (c : UInt8) : ∀ (l : List UInt8) (i : Nat), (match zBK c.toNat (l.map UInt8.toNat) i with
      | some j => (j : Int)
      | none => -1) = (if Lib.indexByte l c = -1 then -1 else (i : Int) + Lib.indexByte l c) ∧ -1 ≤ Lib.indexByte l c
  | [], i => by simp [zBK, Lib.indexByte]
  | x :: l, i => by
    obtain ⟨h1, h2⟩ := zIr c l (i + 1)
    rw [List.map_cons]
    unfold zBK Lib.indexByte
    by_cases e : x = c
    · subst e; simp
    · rw [kI (fun h => e (UInt8.toNat_inj.1 h))]
      have e' : (x == c) = false := by simpa using e
      simp only [e']
      rw [h1]
      simp
      constructor
      · split <;> (try split) <;> omega
      · split <;> omega
theorem zDk : ∀ (a b : List UInt8), Lib.compareBytes a b = if a = b then 0 else if Op.bytesLess a b then -1 else 1
  | [], [] => by simp [Lib.compareBytes]
  | [], _ :: _ => by simp [Lib.compareBytes, Op.bytesLess]
  | _ :: _, [] => by simp [Lib.compareBytes, Op.bytesLess]
  | x :: a, y :: b => by
    unfold Lib.compareBytes Op.bytesLess
    rw [zDk a b]
    by_cases h1 : x < y
    · have : x ≠ y := fun e => by subst e; exact absurd h1 (UInt8.lt_irrefl x)
      simp [h1, this]
    · by_cases h2 : y < x
      · have : x ≠ y := fun e => by subst e; exact absurd h2 (UInt8.lt_irrefl x)
        simp [h1, h2, this]
      · have : x = y := by
          apply UInt8.toNat_inj.1
          rw [UInt8.lt_iff_toNat_lt] at h1 h2
          omega
        subst this
        simp [h1]
theorem zKP {fn : Func} {e : Ext} {en : Array Value → Sem Value} (hex : zAX P fn = some e) (he : zKY fn e = some en) {args : List CV} {as : Array Value} (has : zT ψ args as.toList) :
    qG P ψ h n w en as (zBh e args h n) := by
  unfold zBh
  split
  · -- count
    rename_i a b
    injection he with he; subst he
    obtain ⟨x, r, e1, hx, hr⟩ := zb.1 has
    obtain ⟨y, r', e2, hy, hr'⟩ := zb.1 hr
    rw [zM] at hr'
    subst e2 hr'
    have := u9 e1
    subst this
    refine zz (C := qG P ψ h n w _ _) _ _ _ trivial fun s hs => ?_
    rw [hs, zf] at hx
    obtain ⟨bs, rfl, rfl⟩ := hx
    refine wW (C := qG P ψ h n w _ _) _ _ _ trivial fun c hc => ?_
    obtain ⟨rfl, hle⟩ := zCc hc hy
    refine ⟨_, Lib.run_countString bs _ w, ?_⟩
    have : ((Int.ofNat c).toNat.toUInt8).toNat = c := by simp; omega
    have h2 := zNY ((Int.ofNat c).toNat.toUInt8) bs.data.toList
    rw [this] at h2
    rw [← h2]
    exact xe _
  · -- index
    rename_i a b
    injection he with he; subst he
    obtain ⟨x, r, e1, hx, hr⟩ := zb.1 has
    obtain ⟨y, r', e2, hy, hr'⟩ := zb.1 hr
    rw [zM] at hr'
    subst e2 hr'
    have := u9 e1
    subst this
    refine zz (C := qG P ψ h n w _ _) _ _ _ trivial fun s hs => ?_
    rw [hs, zf] at hx
    obtain ⟨bs, rfl, rfl⟩ := hx
    refine wW (C := qG P ψ h n w _ _) _ _ _ trivial fun c hc => ?_
    obtain ⟨rfl, hle⟩ := zCc hc hy
    have hrun := Lib.run_indexByteString (P := P) bs (Int.ofNat c) w
    have : ((Int.ofNat c).toNat.toUInt8).toNat = c := by simp; omega
    obtain ⟨h2, h3⟩ := zIr ((Int.ofNat c).toNat.toUInt8) bs.data.toList 0
    rw [this] at h2
    have h4 : (match zBK c (zj bs) 0 with
      | some j => (j : Int)
      | none => -1) = Lib.indexByte bs.data.toList (Int.ofNat c).toNat.toUInt8 := by
      refine h2.trans ?_
      split <;> omega
    rw [← h4] at hrun
    split
    · rename_i i hi
      simp only [hi] at hrun
      exact ⟨_, hrun, xe _⟩
    · rename_i hi
      simp only [hi] at hrun
      exact ⟨_, hrun, zg.2 rfl⟩
  · -- compare
    rename_i a b
    injection he with he; subst he
    obtain ⟨x, r, e1, hx, hr⟩ := zb.1 has
    obtain ⟨y, r', e2, hy, hr'⟩ := zb.1 hr
    rw [zM] at hr'
    subst e2 hr'
    have := u9 e1
    subst this
    refine zz (C := qG P ψ h n w _ _) _ _ _ trivial fun s hs => ?_
    rw [hs, zf] at hx
    obtain ⟨bs, rfl, rfl⟩ := hx
    refine zz (C := qG P ψ h n w _ _) _ _ _ trivial fun s hs => ?_
    rw [hs, zf] at hy
    obtain ⟨cs, rfl, rfl⟩ := hy
    have hrun := Lib.run_compareString (P := P) bs cs w
    rw [zDk] at hrun
    rw [qe, qe, qB, jp, ByteArray.toList_eq, ByteArray.toList_eq]
    by_cases e : bs.data.toList = cs.data.toList
    · rw [if_pos e] at hrun
      rw [if_pos (by simpa using e)]
      exact ⟨_, hrun, zY.2 rfl⟩
    · rw [if_neg e] at hrun
      rw [if_neg (by simpa using e)]
      by_cases hl : Op.bytesLess bs.data.toList cs.data.toList = true
      · rw [if_pos hl] at hrun
        rw [if_pos hl]
        exact ⟨_, hrun, zg.2 rfl⟩
      · rw [if_neg hl] at hrun
        rw [if_neg hl]
        exact ⟨_, hrun, zY.2 rfl⟩
  · -- overlaps
    rename_i a b
    injection he with he; subst he
    obtain ⟨x, r, e1, hx, hr⟩ := zb.1 has
    obtain ⟨y, r', e2, hy, hr'⟩ := zb.1 hr
    rw [zM] at hr'
    subst e2 hr'
    have := u9 e1
    subst this
    refine yB (C := qG P ψ h n w _ _) _ _ _ _ trivial (fun _ => trivial) fun k o l c s ex hk => ?_
    refine yB (C := qG P ψ h n w _ _) _ _ _ _ trivial (fun _ => trivial) fun j o' m c' s' ex' hj => ?_
    refine zG (C := qG P ψ h n w _ _) _ _ _ trivial fun hjk => ?_
    refine kw (C := qG P ψ h n w _ _) _ _ _ trivial fun u vs hvs => ?_
    refine zG (C := qG P ψ h n w _ _) _ _ _ trivial fun hu => ?_
    refine yF (C := qG P ψ h n w _ _) _ _ _ trivial fun vs' hvs' => ?_
    refine zG (C := qG P ψ h n w _ _) _ _ _ trivial fun hl => ?_
    have hjk : j ≠ k := by simpa using hjk
    subst hu
    intro hrel _ _
    rw [hk, z8] at hx
    rw [hj, z8] at hy
    obtain ⟨p, x1, cap1, hp, rfl, _⟩ := hx
    obtain ⟨q, x2, cap2, hq, rfl, _⟩ := hy
    have hne : p.blk ≠ q.blk := fun e => hjk (hrel.inj k j _ _ p q hvs hvs' hp hq (.inl rfl) e).symm
    obtain ⟨arr, el, fz, c1, c2, c3, c4, _⟩ : jS ψ w p true vs := hrel.on k _ p hvs hp
    obtain ⟨arr', el', fz', d1, d2, d3, _⟩ : yP ψ w q vs' := hrel.on j _ q hvs' hq
    have hl : 1 ≤ uW vs' := zP hl
    have hll := zBc vs'
    have hfz : fz.1 = fz.2 := by
      rcases c4 with h | h
      · exact h
      · cases h.1
    have hfr : ∀ i, w.frozen? ⟨p.blk, i, none⟩ = false := by
      intro i
      unfold World.frozen?
      rw [c1]
      simp
      omega
    obtain ⟨tS, e, hp0, ht, sz, hsz⟩ : ∃ tS e, fn.params[0]? = some tS ∧ P.underlying tS = some (.slice e) ∧ ∃ sz, xZ P e = some sz := by
      unfold zAX at hex
      split at hex
      · split at hex
        · cases hex
        · split at hex
          · cases hex
          · split at hex
            · cases hex
            · split at hex <;> cases hex
      · split at hex
        · rename_i ho
          rw [Bool.and_eq_true] at ho
          have hok := ho.2
          unfold uq und at hok
          rw [Bool.and_eq_true] at hok
          have hok := hok.2
          split at hok
          · rename_i t _ hpl
            split at hok
            · rename_i e ht
              obtain ⟨sz, hsz⟩ := Option.isSome_iff_exists.1 hok
              refine ⟨t, e, ?_, ht, sz, hsz⟩
              have := congrArg (·[0]?) hpl
              simpa using this
            · cases hok
          · cases hok
        · cases hex
    refine ⟨w, .bool false, ψ, ?_, zy.refl hrel, zJ.2 rfl⟩
    exact uk hp0 ht (fun w => yU hsz w) ⟨p.blk, x1, none⟩ ⟨q.blk, x2, none⟩ _ _ _ _ hne el el' arr.size arr'.size (by unfold World.shape?; rw [c1]) (by unfold World.shape?; rw [d1])
      (by omega) (hfr _) (hfr _)
  · -- clone
    rename_i a
    injection he with he; subst he
    obtain ⟨x, r, e1, hx, hr⟩ := zb.1 has
    rw [zM] at hr
    subst hr
    have := u9 e1
    subst this
    refine xO (C := qG P ψ h n w _ _) _ _ _ _ trivial (fun _ => trivial) fun t v hv => ?_
    rw [hv, yM] at hx
    obtain ⟨y, rfl, hy⟩ := hx
    refine yv (C := qG P ψ h n w _ _) _ _ _ _ trivial (fun _ => trivial) fun b hb => ?_
    rw [hb, yZ] at hy
    obtain ⟨p, hp, rfl⟩ := hy
    refine yE (C := qG P ψ h n w _ _) _ _ _ trivial fun cs clock hl => ?_
    intro hrel hnew hroom
    obtain ⟨arr, h1, h2, hcp⟩ := hrel.on b _ p hl hp
    have hr := Key.room_of_succ hroom
    have hix := Key.ix_succ hr
    have hnone : ψ n = none := hnew n (Nat.le_refl _) (by omega)
    have hw := qr w (.map arr (p.ck clock))
    have hpost := kS (n := n) (sz := 0) (ck := p.ck) (o := .map cs clock) hrel hr hnone hw ⟨arr, by simp, h2.mono (Psi.le_upd _ hnone), hcp⟩
    refine ⟨_, .iface t (.map (some w.heap.size)), _, ?_, by rw [zt]; exact hpost, yM.2 ⟨_, rfl, yZ.2 ⟨_, Psi.upd_same _ _ _, rfl⟩⟩⟩
    have hget := run_getObj_map (P := P) h1
    rw [show Extern.MapsClone.clone #[Value.iface t (.map (some p.blk))] = (getObj p.blk >>= _) from rfl, Sem.run_bind, hget]
    simp
  · exact trivial
section
variable {o : Op}
theorem zOp {c : Call} {f : FuncId} {fn : Func} {e : Ext} {args : List zS} (hcal : c.callee = .value (.func f)) (hρ : zKd ρ) (hfn : P.funcs[f]? = some fn) (hb : fn.body.isNone = true)
    (he : zAX P fn = some e) (hargs : qA P E c.args.toList = some args) (ha : zq P ψ es tm E ρ c.args.toList) : zC P ψ h n ρ (.call c) ty w (zBh e (aVs es tm args) h n) := by
  obtain ⟨en, h1, h2, h3, h4⟩ := zDT he
  have has := jf _ ha hargs
  rw [← Array.toList_map] at has
  have hout := zKP (P := P) (h := h) (n := n) (w := w) he h1 has
  have hrun : ∀ {x : Value} {w' : World}, (en (c.args.map ρ)).run P w = .ok x w' → (execOp ρ (xV (.call c) ty)).run P w = .ok (.value x) w' := by
    intro x w' hx
    have := run_callFunc_extern (P := P) hfn h2 hb h3 h4 (c.args.map ρ) w
    rw [hx] at this
    simp only [execOp, resolve, hcal, Sem.run_bind, hρ.func, Deferred.ofValue, Sem.run_pure, Result.andThen_ok, invoke]
    have e0 : (#[] ++ c.args.map ρ ++ #[] : Array Value) = c.args.map ρ := by simp
    rw [e0, this]; rfl
  generalize zBh e (aVs es tm args) h n = r at hout
  cases r <;> first | exact hout.elim | exact trivial | skip
  case val v =>
    obtain ⟨x, h5, h6⟩ := hout
    exact ⟨x, zL (hrun h5), h6⟩
  case eff v h' n' =>
    intro g1 g2 g3
    obtain ⟨w', x, ψ', h5, h6, h7⟩ := hout g1 g2 g3
    exact ⟨w', x, ψ', zL (hrun h5), h6, h7⟩
theorem zME (hρ : zKd ρ) (c : Call) (ha : zq P ψ es tm E ρ c.operands.toList) : zC P ψ h n ρ (.call c) ty w (yA P (zc P E (.call c)) es tm h n) := by
  have hargsok : zq P ψ es tm E ρ c.args.toList := ha.sub fun y hy => by simp [Call.operands]; exact .inr (by simpa using hy)
  rw [show zc P E (.call c) = zDQ P E c from rfl]
  unfold zDQ
  split
  · rename_i b hc
    exact zHc c b hc hargsok
  · rename_i r name hc
    split
    · rename_i r' args hr hargs
      have hx := ha r (by simp [Call.operands, hc]) r' hr
      have has := jf _ hargsok hargs
      rw [← Array.toList_map] at has
      refine zCo ?_ (uH (P := P) (h := h) (n := n) (w := w) name hx has)
      simp only [execOp, resolve, hc, Sem.run_bind, Sem.run_pure, Result.andThen_ok, invoke]
      have e0 : (#[ρ r] ++ c.args.map ρ)[0]? = some (ρ r) := by rw [← Array.getElem?_toList, Array.toList_append]; rfl
      have e1 : (#[ρ r] ++ c.args.map ρ).extract 1 (#[ρ r] ++ c.args.map ρ).size = c.args.map ρ := by
        apply Array.ext'
        rw [Array.toList_extract, Array.toList_append, List.extract_eq_take_drop]
        show ((c.args.map ρ).toList).take _ = _
        exact List.take_of_length_le (by simp)
      rw [e0]
      simp only
      rw [e1]
    · exact zA _
  · rename_i f hc
    split
    · exact zA _
    · rename_i args hargs
      have has := jf _ hargsok hargs
      rw [← Array.toList_map] at has
      split
      · rename_i g
        rw [yN]
        split
        · exact zA _
        · rename_i fn hfn
          have hfn : P.funcs[g]? = some fn := by simpa using hfn
          split
          · intro _
            refine ⟨c.args.map ρ, ?_, has⟩
            simp only [execOp, resolve, hc, Sem.run_bind, hρ.func, Deferred.ofValue, Sem.run_pure, Result.andThen_ok, invoke]
            simp
          · rename_i hb
            split
            · rename_i e he
              exact zOp hc hρ hfn (by cases hbb : fn.body <;> simp_all) he hargs hargsok
            · exact zA _
      · split
        · rename_i f' hf
          have hx := ha f (by simp [Call.operands, hc]) f' hf
          refine zCo ?_ (zLm (P := P) (h := h) (n := n) (w := w) hx has)
          simp only [execOp, resolve, hc]
        · exact zA _
theorem zIt (hρ : zKd ρ) (o : Op) (ha : zq P ψ es tm E ρ o.operands.toList) : zC P ψ h n ρ o ty w (yA P (zc P E o) es tm h n) := by
  cases o <;> try exact zA _
  case move => exact zMq _ ha
  case assign => exact zIy _ ha
  case pick => exact zNj _ _ _ ha
  case alloc => exact zLk _
  case box => exact zOG _ _ ha
  case build => exact zLO _ _ ha
  case buildSlice => exact zDZ _ _ _ ha
  case load => exact zL4 _ _ ha
  case store => exact zL3 _ _ _ ha
  case nilCheck => exact zLp _ ha
  case binOp => exact zLS _ _ _ _ _ ha
  case unOp => exact zMc _ _ _ ha
  case convert => exact zG5 _ _ _ ha
  case makeInterface => exact zAj _ _ ha
  case makeFunc => exact zGs _ _ _ (ha.sub fun y hy => by simp [Op.operands] at hy ⊢; exact hy)
  case makeMap => exact zHZ _ _ hρ.const
  case makeSlice => exact zEm _ _ _ ha
  case slice => exact zK0 _ _ _ _ _ (ha.sub fun y hy => by simp [Op.operands] at hy ⊢; exact hy)
  case fieldAddr => exact zEp _ _ _ ha
  case field => exact zK6 _ _ _ ha
  case indexAddr => exact zEo _ _ _ ha
  case index => exact zLi _ _ _ ha
  case lookup => exact zI2 _ _ _ _ ha
  case mapUpdate => exact zEy _ _ _ _ ha
  case insert => exact zIQ _ _ _ _ ha
  case range => exact zLM _ _ ha
  case next => exact zMl _ _ ha
  case entry => exact zK2 _ ha
  case typeAssert => exact zD2 _ _ _ _ ha
  case extract => exact zHK _ _ ha
  case call => exact zME hρ _ ha
  case defer => exact zLJ _ ha
end
end
end Go.Ev

namespace Go.Ev
variable [Sym]
noncomputable section
variable {P : Program} {es : List CV} {tm : Tm} {h : zD} {n : Key}
variable [SymFact P]
def zE (n : Key) : OR → Prop
  | .eff _ _ n' => n.ix ≤ n'.ix
  | .fork a b => zE n a ∧ zE n b
  | _ => True
theorem zJR {x : CV} (s : Nat) (nf : Nat → Nat) (k : Nat → List CV → OR) (e : Nat) (hk : ∀ m l, zE n (k m l)) : zE n (zID h s x k nf e) := by
  unfold zID
  split
  · refine zG (C := zE n) _ _ _ trivial fun _ => ?_
    exact yT (C := zE n) _ _ _ trivial fun _ _ => hk _ _
  · refine yB (C := zE n) _ _ _ _ trivial (fun _ => hk _ _) fun _ _ _ _ _ _ _ => ?_
    refine yo (C := zE n) _ _ _ trivial fun _ _ => ?_
    exact yT (C := zE n) _ _ _ trivial fun _ _ => hk _ _
theorem wz (v : Option CV) (e : Nat) : zE n (zEa v e) := by cases v <;> trivial
theorem zEG (k : IntKind) : ∀ (m : Nat), zE n (zII k m)
  | 0 => trivial
  | m + 1 => ⟨zEG k m, trivial⟩
theorem zFT (k : IntKind) : ∀ (m : Nat), zE n (zIH k m)
  | 0 => trivial
  | m + 1 => ⟨zFT k m, trivial, trivial⟩
theorem yW (op : BinOp) (j k : IntKind) : zE n (qR op j k) := by
  refine zG (C := zE n) _ _ _ trivial fun _ => ?_
  cases op <;> first | trivial | exact ⟨trivial, trivial⟩
theorem zLx (op : BinOp) (k : IntKind) (b : Int) : zE n (zD1 op k b) := by
  cases op
  case add => exact yW .add k k
  case sub => exact yW .sub k k
  case mul => exact yW .mul k k
  case or => exact yW .or k k
  case xor => exact yW .xor k k
  case andNot => exact yW .andNot k k
  case eql => exact yW .eql k k
  case neq => exact yW .neq k k
  case lss => exact yW .lss k k
  case leq => exact yW .leq k k
  case gtr => exact yW .gtr k k
  case geq => exact yW .geq k k
  case quo => cases b with
    | ofNat m => cases m <;> trivial
    | negSucc m => trivial
  case rem => cases b with
    | ofNat m => cases m with
      | zero => trivial
      | succ m =>
        refine zG (C := zE n) _ _ _ trivial fun _ => ?_
        split
        · exact zFT k m
        · trivial
    | negSucc m => trivial
  case and => cases b with
    | ofNat m =>
      refine zG (C := zE n) _ _ _ trivial fun _ => ?_
      exact zEG k m
    | negSucc m => trivial
  case shl => cases b <;> trivial
  case shr => cases b <;> trivial
theorem zK5 (op : BinOp) (x y : CV) : zE n (zIC op x y) := by
  have right : ∀ (k j : IntKind) (b : Int), zE n (yY (kEq k j || yl op) (zD1 op k b) 118) := fun k j b => zG (C := zE n) _ _ _ trivial fun _ => zLx _ _ _
  refine zFB (C := zE n) _ _ _ _ _ trivial (fun a _ => ?_) (fun k a _ => ?_) (fun k _ => ?_) (fun s _ => ?_)
  · refine jD (C := zE n) _ _ _ _ trivial (fun _ _ => ?_) (fun _ _ _ => ?_) (fun _ _ => yW _ _ _)
    · exact zG (C := zE n) _ _ _ trivial fun _ => wz _ _
    · exact zG (C := zE n) _ _ _ trivial fun _ => wz _ _
  · refine jD (C := zE n) _ _ _ _ trivial (fun _ _ => ?_) (fun _ _ _ => ?_) (fun _ _ => yW _ _ _)
    · exact zG (C := zE n) _ _ _ trivial fun _ => wz _ _
    · exact zG (C := zE n) _ _ _ trivial fun _ => wz _ _
  · exact jD (C := zE n) _ _ _ _ trivial (fun _ _ => right _ _ _) (fun _ _ _ => right _ _ _) (fun _ _ => yW _ _ _)
  · exact zz (C := zE n) _ _ _ trivial fun _ _ => wz _ _
theorem zJH (o : Option (List CV)) (e : Nat) : zE n (zOT o e) := by
  have : ∀ (l : List CV) (c : CV), zE n (forkL c l) := by
    intro l
    induction l with
    | nil => intro c; trivial
    | cons d l ih => intro c; exact ⟨trivial, ih d⟩
  cases o with
  | none => trivial
  | some l => cases l with
    | nil => trivial
    | cons c l => exact this l c
theorem zLG (op : BinOp) (x y : CV) : zE n (jE op x y) := by
  unfold jE
  split
  · unfold zNQ
    split <;> first | trivial | (rw [qe]; split <;> first | trivial | exact ⟨trivial, trivial⟩)
  · split
    · exact zJH _ _
    · exact zK5 _ _ _
theorem zBv (c : Option zS) (y d : Nat) (k : Nat → OR) (e : Nat) (hk : ∀ i, zE n (k i)) : zE n (uz es tm c y d k e) := by
  cases c with
  | none => exact hk _
  | some c =>
    refine yR (C := zE n) _ _ _ trivial fun _ _ => ?_
    exact zG (C := zE n) _ _ _ trivial fun _ => hk _
theorem jQ (len cap : Nat) (lo hi mx : Option zS) (k : Nat → Nat → Nat → OR) (e : Nat) (hk : ∀ i j l, zE n (k i j l)) : zE n (qZ es tm len cap lo hi mx k e) :=
  zBv _ _ _ _ _ fun _ => zBv _ _ _ _ _ fun _ => zBv _ _ _ _ _ fun _ => hk _ _ _
theorem zAD (b : Key) (off esz : Nat) (ex : Bool) (i j l : Nat) : zE n (zKL b off esz ex i j l) := by
  refine zG (C := zE n) _ _ _ trivial fun _ => ?_
  rw [zw, zw, zw]; trivial
theorem zH1 (a : Bool) (s : Nat) (cs : List CV) (off e : Nat) : zE n (zMh a s cs off e) := by
  cases a with
  | true => exact j7 (C := zE n) _ _ trivial fun _ _ => trivial
  | false => exact jI (C := zE n) _ _ trivial fun _ _ => trivial
theorem zGw (ok : Bool) (z : Option CV) : zE n (noV ok z) := by unfold noV; split <;> trivial
theorem zAH (r : CV) (name : String) (args : List CV) : zE n (zFh P h r name args) := by
  refine xO (C := zE n) _ _ _ _ trivial (fun _ => trivial) fun _ _ _ => ?_
  split <;> trivial
theorem zM2 (f : CV) (args : List CV) : zE n (zMX P h f args) := by
  refine kx (C := zE n) _ _ _ trivial fun fn a c _ => ?_
  split
  · trivial
  · split
    · exact zAH _ _ _
    · trivial
  · split
    · split
      · exact zAH _ _ _
      · exact zAH _ _ _
      · trivial
    · trivial
  · split
    · split
      · split <;> trivial
      · trivial
    · trivial
  · trivial
theorem zD3 {f : CE → OR} (hf : ∀ c, zE n (f c)) : ∀ (l : List CE) (e : CE), zE n (zCG f e l)
  | [], e => hf e
  | e' :: l, e => ⟨hf e, zD3 hf l e'⟩
theorem zIE (e : Ext) (args : List CV) : zE n (zBh e args h n) := by
  unfold zBh
  split
  · refine zz (C := zE n) _ _ _ trivial fun _ _ => ?_
    exact wW (C := zE n) _ _ _ trivial fun _ _ => trivial
  · refine zz (C := zE n) _ _ _ trivial fun _ _ => ?_
    refine wW (C := zE n) _ _ _ trivial fun _ _ => ?_
    split <;> trivial
  · refine zz (C := zE n) _ _ _ trivial fun _ _ => ?_
    refine zz (C := zE n) _ _ _ trivial fun _ _ => ?_
    rw [qe, qe]
    split
    · trivial
    · split <;> trivial
  · refine yB (C := zE n) _ _ _ _ trivial (fun _ => trivial) fun _ _ _ _ _ _ _ => ?_
    refine yB (C := zE n) _ _ _ _ trivial (fun _ => trivial) fun _ _ _ _ _ _ _ => ?_
    refine zG (C := zE n) _ _ _ trivial fun _ => ?_
    refine kw (C := zE n) _ _ _ trivial fun _ _ _ => ?_
    refine zG (C := zE n) _ _ _ trivial fun _ => ?_
    refine yF (C := zE n) _ _ _ trivial fun _ _ => ?_
    exact zG (C := zE n) _ _ _ trivial fun _ => Nat.le_refl _
  · refine xO (C := zE n) _ _ _ _ trivial (fun _ => trivial) fun _ _ _ => ?_
    refine yv (C := zE n) _ _ _ _ trivial (fun _ => trivial) fun _ _ => ?_
    exact yE (C := zE n) _ _ _ trivial fun _ _ _ => Key.ix_le_succ n
  · trivial
theorem zG8 (esz k : Nat) (xs : List CV) (sv : CV) : zE n (zFL esz k xs sv h n) := by
  unfold zFL
  refine yB (C := zE n) _ _ _ _ trivial (fun _ => ?_) fun _ _ _ _ _ _ _ => ?_
  · cases k with
    | zero => exact Nat.le_refl _
    | succ k =>
      refine zG (C := zE n) _ _ _ trivial fun _ => ?_
      rw [zw]; exact Key.ix_le_succ n
  · refine zG (C := zE n) _ _ _ trivial fun _ => ?_
    refine kw (C := zE n) _ _ _ ?_ fun _ _ _ => ?_
    rotate_left
    · rw [zw]
      refine zG (C := zE n) _ _ _ trivial fun _ => ?_
      exact yT (C := zE n) _ _ _ trivial fun _ _ => Key.ix_le_succ n
    refine yF (C := zE n) _ _ _ trivial fun _ _ => ?_
    rw [zw, qe]
    split
    · exact yT (C := zE n) _ _ _ trivial fun _ _ => Nat.le_refl _
    · refine zG (C := zE n) _ _ _ trivial fun _ => ?_
      exact yT (C := zE n) _ _ _ trivial fun _ _ => Key.ix_le_succ n
theorem kX (op : COp) : zE n (yA P op es tm h n) := by
  cases op
  case mv => trivial
  case pick =>
    refine kZ (C := zE n) _ _ _ trivial fun b _ => ?_
    cases b <;> trivial
  case alloc => trivial
  case box => exact yT (C := zE n) _ _ _ trivial fun _ _ => trivial
  case build => exact j7 (C := zE n) _ _ trivial fun _ _ => trivial
  case bslice => exact yT (C := zE n) _ _ _ trivial fun _ _ => trivial
  case load1 =>
    refine uC (C := zE n) _ _ _ ?_ fun _ _ _ => ?_
    · unfold zPR
      split
      · refine yo (C := zE n) _ _ _ trivial fun _ _ => ?_
        exact vJ (C := zE n) _ _ trivial fun _ _ => trivial
      · trivial
    refine yo (C := zE n) _ _ _ trivial fun _ _ => ?_
    exact vJ (C := zE n) _ _ trivial fun _ _ => trivial
  case loadN =>
    refine yp (C := zE n) _ _ _ trivial fun _ _ _ => ?_
    refine yo (C := zE n) _ _ _ trivial fun _ _ => ?_
    exact zEg (C := zE n) _ _ trivial fun _ _ => trivial
  case store =>
    refine yp (C := zE n) _ _ _ trivial fun _ _ _ => ?_
    refine yF (C := zE n) _ _ _ trivial fun _ _ => ?_
    refine yT (C := zE n) _ _ _ trivial fun _ _ => ?_
    refine zG (C := zE n) _ _ _ trivial fun _ => ?_
    exact yT (C := zE n) _ _ _ trivial fun _ _ => Nat.le_refl _
  case nilck x =>
    refine uC (C := zE n) _ _ _ ?_ fun _ _ _ => trivial
    show zE n (zDd (aV es tm x))
    unfold zDd
    split <;> trivial
  case arith op x y =>
    show zE n (zLB (aV es tm x) (fun a => zLB (aV es tm y) (fun b => zIv op a b (aV es tm x) (aV es tm y)) (jE op (aV es tm x) (aV es tm y))) (jE op (aV es tm x) (aV es tm y)))
    have hg := zLG (n := n) op (aV es tm x) (aV es tm y)
    cases hx : aV es tm x <;> try (rw [hx] at hg; exact hg)
    case nat a =>
      rw [hx] at hg
      cases hy : aV es tm y <;> try (rw [hy] at hg; exact hg)
      case nat b =>
        rw [hy] at hg
        show zE n (Option.rec (motive := fun _ => BinOp → CV → CV → OR) (fun op x y => jE op x y) (fun v _ _ _ => .val v) (zFI op a b) op (.nat a) (.nat b))
        cases zFI op a b with
        | none => exact hg
        | some v => trivial
  case eq neg k cst x y =>
    show zE n (match eqC k cst (aV es tm x) (aV es tm y) with
      | some b => .val (.bool (xor neg b))
      | none => .err 123)
    split <;> trivial
  case un op x =>
    cases op with
    | neg => exact w5 (C := zE n) _ _ _ trivial (fun _ _ => trivial) fun _ _ _ => trivial
    | xor => exact w5 (C := zE n) _ _ _ trivial (fun _ _ => trivial) fun _ _ _ => trivial
    | not => exact kZ (C := zE n) _ _ _ trivial fun _ _ => trivial
    | plus => trivial
  case cvInt k x =>
    show zE n (zCV k (aV es tm x))
    unfold zCV
    split
    · exact zJH _ _
    · exact jD (C := zE n) _ _ _ _ trivial (fun _ _ => trivial) (fun _ _ _ => trivial) fun _ _ => trivial
  case cvStr => exact zz (C := zE n) _ _ _ trivial fun _ _ => trivial
  case cvSB =>
    refine zz (C := zE n) _ _ _ trivial fun _ _ => ?_
    rw [zw]; trivial
  case cvMark =>
    refine yB (C := zE n) _ _ _ _ trivial (fun _ => trivial) fun _ _ _ _ _ _ _ => ?_
    exact yF (C := zE n) _ _ _ trivial fun _ _ => Nat.le_refl _
  case cvBS =>
    refine yB (C := zE n) _ _ _ _ trivial (fun _ => trivial) fun _ _ _ _ _ _ _ => ?_
    refine yo (C := zE n) _ _ _ trivial fun _ _ => ?_
    refine yT (C := zE n) _ _ _ trivial fun _ _ => ?_
    unfold zIX
    split
    · trivial
    · split <;> trivial
  case iface => trivial
  case mkfn => trivial
  case mkmap => trivial
  case mkslice =>
    refine yR (C := zE n) _ _ _ trivial fun _ _ => ?_
    refine yR (C := zE n) _ _ _ trivial fun _ _ => ?_
    refine zG (C := zE n) _ _ _ trivial fun _ => ?_
    rw [zw, zw]; trivial
  case slArr => exact yp (C := zE n) _ _ _ trivial fun _ _ _ => jQ _ _ _ _ _ _ _ fun _ _ _ => zAD _ _ _ _ _ _ _
  case slSl =>
    refine yB (C := zE n) _ _ _ _ trivial (fun _ => jQ _ _ _ _ _ _ _ fun _ _ _ => trivial) fun _ _ _ _ _ _ _ => ?_
    refine zG (C := zE n) _ _ _ trivial fun _ => ?_
    unfold uB
    split
    · split
      · split
        · refine yF (C := zE n) _ _ _ trivial fun _ _ => ?_
          refine zG (C := zE n) _ _ _ trivial fun _ => ?_
          rw [zw]; trivial
        · exact jQ _ _ _ _ _ _ _ fun _ _ _ => zAD _ _ _ _ _ _ _
      · exact jQ _ _ _ _ _ _ _ fun _ _ _ => zAD _ _ _ _ _ _ _
    · exact jQ _ _ _ _ _ _ _ fun _ _ _ => zAD _ _ _ _ _ _ _
  case slStr =>
    refine zz (C := zE n) _ _ _ trivial fun _ _ => ?_
    rw [zw]
    refine jQ _ _ _ _ _ _ _ fun _ _ _ => ?_
    refine zG (C := zE n) _ _ _ trivial fun _ => ?_
    exact zE7 (C := zE n) _ _ trivial fun _ _ => trivial
  case addOff =>
    refine yp (C := zE n) _ _ _ trivial fun _ _ _ => ?_
    rw [zw]; trivial
  case part => exact vD (C := zE n) _ _ _ trivial fun _ _ => zH1 _ _ _ _ _
  case ixArr =>
    refine yp (C := zE n) _ _ _ trivial fun _ _ _ => ?_
    refine yR (C := zE n) _ _ _ trivial fun _ _ => ?_
    refine zG (C := zE n) _ _ _ trivial fun _ => ?_
    rw [zw]; trivial
  case ixSl =>
    refine wt (C := zE n) _ _ _ ?_ fun _ _ _ _ _ => by
      unfold zNi
      split
      · split
        · split <;> trivial
        · trivial
      · trivial
    refine yB (C := zE n) _ _ _ _ trivial (fun _ => trivial) fun _ _ _ _ _ _ _ => ?_
    refine zDH (C := zE n) ?_ fun _ _ _ _ _ _ _ => trivial
    refine yR (C := zE n) _ _ _ trivial fun _ _ => ?_
    refine zG (C := zE n) _ _ _ trivial fun _ => ?_
    rw [zw]; trivial
  case ixAgg =>
    refine vD (C := zE n) _ _ _ trivial fun _ _ => ?_
    refine yR (C := zE n) _ _ _ trivial fun _ _ => ?_
    exact zG (C := zE n) _ _ _ trivial fun _ => zH1 _ _ _ _ _
  case ixStr =>
    refine zz (C := zE n) _ _ _ trivial fun _ _ => ?_
    refine yR (C := zE n) _ _ _ trivial fun _ _ => ?_
    exact wW (C := zE n) _ _ _ trivial fun _ _ => trivial
  case lookup kk z ok x k =>
    have hl : ∀ l, zE n (zA2 kk z ok (aV es tm k) l) := by
      intro l
      refine zG (C := zE n) _ _ _ trivial fun _ => ?_
      split <;> trivial
    refine yv (C := zE n) _ _ _ _ trivial (fun _ => hl _) fun _ _ => ?_
    refine kY (C := zE n) _ _ _ ?_ fun _ _ => by
      refine zG (C := zE n) _ _ _ trivial fun _ => ?_
      split <;> trivial
    exact yE (C := zE n) _ _ _ trivial fun _ _ _ => hl _
  case mapupd =>
    refine yv (C := zE n) _ _ _ _ trivial (fun _ => trivial) fun _ _ => ?_
    refine kY (C := zE n) _ _ _ ?_ fun _ _ => by
      refine zG (C := zE n) _ _ _ trivial fun _ => ?_
      split
      · exact Nat.le_refl _
      · trivial
    refine yE (C := zE n) _ _ _ trivial fun _ _ _ => ?_
    refine zG (C := zE n) _ _ _ trivial fun _ => ?_
    split
    · split
      · exact Nat.le_refl _
      · trivial
    · rw [zw]; exact Nat.le_refl _
    · trivial
  case rangeStr => exact zz (C := zE n) _ _ _ trivial fun _ _ => trivial
  case rangeMap =>
    refine yv (C := zE n) _ _ _ _ trivial (fun _ => trivial) fun _ _ => ?_
    exact yE (C := zE n) _ _ _ trivial fun _ _ _ => Key.ix_le_succ n
  case next =>
    refine yp (C := zE n) _ _ _ trivial fun _ _ _ => ?_
    refine zG (C := zE n) _ _ _ trivial fun _ => ?_
    unfold zNS
    split
    · unfold zGT
      split
      · exact Nat.le_refl _
      · refine zG (C := zE n) _ _ _ trivial fun _ => ?_
        rw [zw]; exact Nat.le_refl _
    · exact Nat.le_refl _
    · refine yE (C := zE n) _ _ _ trivial fun _ _ _ => ?_
      split
      · trivial
      · split
        · exact Nat.le_refl _
        · exact zG (C := zE n) _ _ _ trivial fun _ => zD3 (fun _ => Nat.le_refl _) _ _
    · trivial
  case entry =>
    refine yp (C := zE n) _ _ _ trivial fun _ _ _ => ?_
    refine zG (C := zE n) _ _ _ trivial fun _ => ?_
    unfold zIJ
    split
    · split
      · refine yE (C := zE n) _ _ _ trivial fun _ _ _ => ?_
        split <;> trivial
      · trivial
    · trivial
  case tassert =>
    refine xO (C := zE n) _ _ _ _ trivial (fun _ => zGw _ _) fun _ _ _ => ?_
    rw [qe]
    split
    · trivial
    · exact zGw _ _
  case tiface =>
    refine xO (C := zE n) _ _ _ _ trivial (fun _ => zGw _ _) fun _ _ _ => ?_
    split
    · trivial
    · exact zGw _ _
    · trivial
  case extract => exact zC3 (C := zE n) _ _ _ trivial fun _ _ => wz _ _
  case call => trivial
  case ext e args => exact zIE e _
  case callv => exact zM2 _ _
  case invoke => exact zAH _ _ _
  case append esz bb s x =>
    show zE n (uI esz bb s x es tm h n)
    unfold uI
    refine zJR _ _ _ _ fun k l => ?_
    exact zG (C := zE n) _ _ _ trivial fun _ => zG8 _ _ _ _
  case appz zero esz s x =>
    refine yR (C := zE n) _ _ _ trivial fun _ _ => ?_
    refine zG (C := zE n) _ _ _ trivial fun _ => ?_
    rw [zw]
    exact zG (C := zE n) _ _ _ trivial fun _ => zG8 _ _ _ _
  case copy esz d x =>
    show zE n (zEM esz d x es tm h n)
    have hk : ∀ nf, zE n (zID h esz (aV es tm x) (fun k xs => vV (aV es tm d)
        (.eff (.nat 0) h n)
        (fun b off _ _ _ _ => jU (yK b h) (fun vs => yY (xC xs) (onL (qf xs (Nat.mul k esz) vs off) (fun l => .eff (jn k) (yn (some (.cells l)) b h) n) 232) 233) 234) 235) nf 236) := by
      intro nf
      refine zJR _ _ _ _ fun k l => ?_
      refine yB (C := zE n) _ _ _ _ trivial (fun _ => Nat.le_refl _) fun _ _ _ _ _ _ _ => ?_
      refine yF (C := zE n) _ _ _ trivial fun _ _ => ?_
      refine zG (C := zE n) _ _ _ trivial fun _ => ?_
      exact yT (C := zE n) _ _ _ trivial fun _ _ => Nat.le_refl _
    unfold zEM zMZ
    split
    · exact hk _
    · exact yB (C := zE n) _ _ _ _ trivial (fun _ => hk _) fun _ _ _ _ _ _ _ => hk _
  case lenStr => exact zDJ (C := zE n) _ _ _ (zz (C := zE n) _ _ _ trivial fun _ _ => trivial) fun _ _ => trivial
  case lenSl => exact wt (C := zE n) _ _ _ (yB (C := zE n) _ _ _ _ trivial (fun _ => trivial) fun _ _ _ _ _ _ _ => trivial) fun _ _ _ _ _ => trivial
  case lenMap =>
    refine yv (C := zE n) _ _ _ _ trivial (fun _ => trivial) fun _ _ => ?_
    exact yE (C := zE n) _ _ _ trivial fun _ _ _ => trivial
  case capSl =>
    refine yB (C := zE n) _ _ _ _ trivial (fun _ => trivial) fun _ _ _ _ _ ex _ => ?_
    cases ex
    · show zE n (zM4 _ _ _ _ _ h n)
      unfold zM4
      rw [qe]
      split
      · trivial
      · refine yF (C := zE n) _ _ _ trivial fun _ _ => ?_
        exact zG (C := zE n) _ _ _ trivial fun _ => ⟨Nat.le_refl _, Nat.le_refl _⟩
    · trivial
  case delete =>
    refine zG (C := zE n) _ _ _ trivial fun _ => ?_
    refine yv (C := zE n) _ _ _ _ trivial (fun _ => Nat.le_refl _) fun _ _ => ?_
    refine yE (C := zE n) _ _ _ trivial fun _ _ _ => ?_
    split
    · split
      · exact Nat.le_refl _
      · trivial
    · exact Nat.le_refl _
    · trivial
  case clearMap =>
    refine yv (C := zE n) _ _ _ _ trivial (fun _ => Nat.le_refl _) fun _ _ => ?_
    exact yE (C := zE n) _ _ _ trivial fun _ _ _ => Nat.le_refl _
  case clearSl =>
    refine yB (C := zE n) _ _ _ _ trivial (fun _ => Nat.le_refl _) fun _ _ _ _ _ _ _ => ?_
    refine yF (C := zE n) _ _ _ trivial fun _ _ => ?_
    refine zG (C := zE n) _ _ _ trivial fun _ => ?_
    exact yT (C := zE n) _ _ _ trivial fun _ _ => Nat.le_refl _
  case minmax => exact wz _ _
  case defer =>
    refine kx (C := zE n) _ _ _ trivial fun _ _ _ _ => ?_
    split <;> trivial
  case recov => trivial
  case bad => trivial
end
end Go.Ev

namespace Go.Ev
variable [Sym]
noncomputable section
variable {P : Program}
variable [SymFact P]
def za : R → Prop
  | .ok _ _ _ _ n => n.room
  | .ret _ _ n => n.room
  | .err _ => False
  | .fork a b => za a ∧ za b
def zh (n : Key) : R → Prop
  | .ok _ _ _ _ n' => n.ix ≤ n'.ix
  | .ret _ _ n' => n.ix ≤ n'.ix
  | .err _ => True
  | .fork a b => zh n a ∧ zh n b
theorem wy {n : Key} : ∀ {r : R}, za r → zh n r → n.room
  | .ok _ _ _ _ n', h, h' => Nat.lt_of_le_of_lt h' h
  | .ret _ _ n', h, h' => Nat.lt_of_le_of_lt h' h
  | .fork a _, h, h' => wy h.1 h'.1
theorem zh.le {n n' : Key} (hle : n.ix ≤ n'.ix) : ∀ {r : R}, zh n' r → zh n r
  | .ok _ _ _ _ _, h => Nat.le_trans hle h
  | .ret _ _ _, h => Nat.le_trans hle h
  | .err _, _ => trivial
  | .fork _ _, h => ⟨zh.le hle h.1, zh.le hle h.2⟩
def yj (call : yS) : Prop := ∀ d f args h n, zh n (call d f args h n)
theorem zr (d : Option Loc) (v : CV) (tm : Tm) (k : Tm → R) : zx d v tm k = k (match d with | none => tm | some p => kL v p tm) := by cases d <;> rfl
def qa (k : CV → zD → Key → R) (r : R) : R := R.rec (motive := fun _ => R) (fun _ _ _ _ _ => .err 300) (fun v h n => k v h n) (fun c => .err c) (fun _ _ a b => .fork a b) r
theorem qQ {k : CV → zD → Key → R} (hk : ∀ v h n, zh n (k v h n)) : ∀ {r : R}, za (qa k r) → za r
  | .ok .., h => h.elim
  | .ret v h n, hc => wy hc (hk v h n)
  | .err _, h => h.elim
  | .fork _ _, h => ⟨qQ hk h.1, qQ hk h.2⟩
theorem qT {n : Key} {k : CV → zD → Key → R} (hk : ∀ v h n, zh n (k v h n)) : ∀ {r : R}, zh n r → zh n (qa k r)
  | .ok .., _ => trivial
  | .ret v h n', hc => zh.le hc (hk v h n')
  | .err _, _ => trivial
  | .fork _ _, h => ⟨qT hk h.1, qT hk h.2⟩
theorem jq {call : yS} (hcall : yj call) {k : KE} (hk : ∀ es tm ds h n, zh n (k es tm ds h n)) (d : Option Loc) (es : List CV) (tm : Tm) (ds : xM) (h : zD) (n : Key) :
    ∀ (r : OR), zE n r → zh n (after r call k d es tm ds h n)
  | .val v, _ => by show zh n (zx _ _ _ _); rw [zr]; exact hk _ _ _ _ _
  | .read v, _ => by show zh n (zx _ _ _ _); rw [zr]; exact hk _ _ _ _ _
  | .alloc o v, _ => by show zh n (zx _ _ _ _); rw [zr]; exact zh.le (Key.ix_le_succ n) (hk _ _ _ _ _)
  | .eff v h' n', ho => by show zh n (zx _ _ _ _); rw [zr]; exact zh.le ho (hk _ _ _ _ _)
  | .call f args, _ => qT (k := fun v h n => zx d v tm fun tm => k (v :: es) tm ds h n) (fun v h n => by rw [zr]; exact hk _ _ _ _ _) (hcall _ _ _ _ _)
  | .dfr f args, _ => by show zh n (zx _ _ _ _); rw [zr]; exact hk _ _ _ _ _
  | .recov, _ => by show zh n (zx _ _ _ _); rw [zr]; exact hk _ _ _ _ _
  | .err _, _ => trivial
  | .fork a b, ho => ⟨jq hcall hk d es tm ds h n a ho.1, jq hcall hk d es tm ds h n b ho.2⟩
theorem jG {call : yS} (hcall : yj call) : ∀ (l : List x9) (es : List CV) (tm : Tm) (ds : xM) (h : zD) (n : Key), zh n (yb P call l es tm ds h n)
  | [], _, _, _, _, _ => Nat.le_refl _
  | .i op :: l, es, tm, ds, h, n => jq hcall (fun es tm ds h n => jG hcall l es tm ds h n) none es tm ds h n _ (kX op)
  | .o op d :: l, es, tm, ds, h, n => jq hcall (fun es tm ds h n => jG hcall l es tm ds h n) (some d) es tm ds h n _ (kX op)
  | .g x wnt op d :: l, es, tm, ds, h, n => by
    show zh n (Bool.rec (motive := fun _ => R)
      (Bool.rec (motive := fun _ => R) (.err 299) (zx d .undef tm fun tm => yb P call l (.undef :: es) tm ds h n) (jx (aV es tm x)))
      (after (yA P op es tm h n) call (yb P call l) d es tm ds h n) (qq wnt (aV es tm x)))
    cases qq wnt (aV es tm x) with
    | true => exact jq hcall (fun es tm ds h n => jG hcall l es tm ds h n) d es tm ds h n _ (kX op)
    | false =>
      cases jx (aV es tm x) with
      | true => show zh n (zx _ _ _ _); rw [zr]; exact jG hcall l _ _ _ _ _
      | false => trivial
structure xD (ψ : Psi) (F N : Nat) (tm : Tm) (a : Act) : Prop where
  size : N ≤ a.tmps.size
  tmp : ∀ t, zo F t = true → t ≤ 271 → t < N → zH ψ (qO (Loc.ofNat t) tm) (a.tmps.getD t undef)
def vT (ψ : Psi) (dl : List (Option Nat)) (es : List CV) (a : Act) : Prop := ∀ t i, y9 t dl 0 = some i → zH ψ (zOJ es i) (a.tmps.getD t undef)
def kU (P : Program) (ψ : Psi) : Prop := ∀ g, g < P.globals.size → g ≤ 4095 → ∃ sz, ψ (Key.ofNat g) = some ⟨g, 0, sz, fun n => n⟩
def x7 (ψ : Psi) (n : Key) : Prop := ∀ k : Key, n.ix ≤ k.ix → ψ k = none
def zPT (P : Program) (ψ : Psi) (f : FuncId × List CV) (d : Deferred) : Prop :=
  ∃ fv cap args', d.target = .fn fv cap ∧ (∀ w, (invoke d.target d.args).run P w = (callFunc f.1 args').run P w) ∧ zT ψ f.2 args'.toList
def jY (P : Program) (ψ : Psi) : xM → List Deferred → Prop
  | [], l => l = []
  | f :: fs, l => ∃ d r, l = d :: r ∧ zPT P ψ f d ∧ jY P ψ fs r
structure St (P : Program) (F N : Nat) (ψ : Psi) (tm : Tm) (ds : xM) (h : zD) (n : Key) (a : Act) (w : World) : Prop where
  frame : xD ψ F N tm a
  dfr : jY P ψ ds a.defers
  rel : Rel ψ (zD.fam h) w
  glob : kU P ψ
  fresh : x7 ψ n
theorem kU.mono {ψ ψ' : Psi} (hle : ψ.le ψ') (h : kU P ψ) : kU P ψ' := fun g h1 h2 => let ⟨sz, e⟩ := h g h1 h2; ⟨sz, hle _ _ e⟩
theorem jY.mono {ψ ψ' : Psi} (hle : ψ.le ψ') : ∀ {ds : xM} {l : List Deferred}, jY P ψ ds l → jY P ψ' ds l
  | [], _, h => h
  | f :: fs, _, h => by
    obtain ⟨d, r, rfl, ⟨fv, cap, as, h1, h2, h3⟩, h4⟩ := h
    exact ⟨d, r, rfl, ⟨fv, cap, as, h1, h2, h3.mono hle⟩, jY.mono hle h4⟩
theorem xD.mono {ψ ψ' : Psi} (hle : ψ.le ψ') {F N : Nat} {tm : Tm} {a : Act} (h : xD ψ F N tm a) : xD ψ' F N tm a := ⟨h.size, fun t h1 h2 h3 => (h.tmp t h1 h2 h3).mono hle⟩
theorem vT.mono {ψ ψ' : Psi} (hle : ψ.le ψ') {dl : List (Option Nat)} {es : List CV} {a : Act} (h : vT ψ dl es a) : vT ψ' dl es a := fun t i h1 => (h t i h1).mono hle
theorem zy.fresh {ψ ψ' : Psi} {g g' : Fam} {n n' : Key} {w w' : World} (hp : zy ψ g n w ψ' g' n' w') (h : x7 ψ n) : x7 ψ' n' := by
  intro k hk
  have := hp.mono
  rw [hp.out k (.inr hk)]
  exact h k (by omega)
theorem j3 (t : Nat) : ∀ (dl : List (Option Nat)) (i : Nat), y9 t dl (i + 1) = (y9 t dl i).map (· + 1)
  | [], _ => rfl
  | none :: r, i => by
    show y9 t r (i + 1 + 1) = (y9 t r (i + 1)).map (· + 1)
    exact j3 t r (i + 1)
  | some u :: r, i => by
    unfold y9
    simp only
    cases Nat.beq u t with
    | true => rfl
    | false => exact j3 t r (i + 1)
theorem jX (a : Act) (t : Nat) (v : Value) (h : t < a.tmps.size) : (a.put (some t) v).tmps.getD t undef = v := by
  simp [Act.put, h]
theorem xY (a : Act) (d : Option Nat) (v : Value) {t : Nat} (h : d ≠ some t) : (a.put d v).tmps.getD t undef = a.tmps.getD t undef := by
  cases d with
  | none => rfl
  | some u =>
    have : u ≠ t := fun e => h (by rw [e])
    simp [Act.put, Array.getElem?_setIfInBounds_ne this]
theorem zD0 (a : Act) (d : Option Nat) (v : Value) : (a.put d v).tmps.size = a.tmps.size := by cases d <;> simp [Act.put]
theorem zAd (a : Act) (d : Option Nat) (v : Value) : (a.put d v).defers = a.defers := by cases d <;> rfl
abbrev zHD (d : Option Loc) (v : CV) (tm : Tm) : Tm := match d with | none => tm | some p => kL v p tm
theorem qM {F N : Nat} {dst : Option Nat} {d : Option Loc} (h : xE F N dst = some d) :
    (dst = none ∧ d = none) ∨ ∃ t, dst = some t ∧ t < N ∧ ((zo F t = false ∧ d = none) ∨ (zo F t = true ∧ t ≤ 271 ∧ d = some (Loc.ofNat t))) := by
  unfold xE at h
  split at h
  · injection h with h; exact .inl ⟨rfl, h.symm⟩
  · rename_i t
    split at h
    · cases h
    · rename_i hn
      have hn : t + 1 ≤ N := zP hn
      split at h
      · rename_i hf; injection h with h; exact .inr ⟨t, rfl, by omega, .inl ⟨hf, h.symm⟩⟩
      · rename_i hf
        split at h
        · rename_i hl; injection h with h; exact .inr ⟨t, rfl, by omega, .inr ⟨hf, zP hl, h.symm⟩⟩
        · cases h
theorem zLK {ψ : Psi} {F N : Nat} {tm : Tm} {a : Act} {dst : Option Nat} {d : Option Loc} {v : CV} {x : Value} (hf : xD ψ F N tm a) (hd : xE F N dst = some d) (hv : zH ψ v x) :
    xD ψ F N (zHD d v tm) (a.put dst x) := by
  refine ⟨by rw [zD0]; exact hf.size, fun t h1 h2 h3 => ?_⟩
  rcases qM hd with ⟨rfl, rfl⟩ | ⟨u, rfl, hu, ⟨hb, rfl⟩ | ⟨hb, hle, rfl⟩⟩
  · exact hf.tmp t h1 h2 h3
  · have hne : u ≠ t := fun e => by subst e; rw [hb] at h1; cases h1
    rw [xY _ _ _ (by simpa using hne)]
    exact hf.tmp t h1 h2 h3
  · by_cases e : u = t
    · subst e
      rw [jX _ _ _ (Nat.lt_of_lt_of_le hu hf.size)]
      show zH ψ (qO _ (kL v _ tm)) x
      rw [qx]; exact hv
    · rw [xY _ _ _ (by simpa using e)]
      show zH ψ (qO _ (kL v _ tm)) _
      rw [xN _ _ _ _ (fun h => e (Loc.ofNat_inj hle h2 h.symm))]
      exact hf.tmp t h1 h2 h3
theorem zOX {ψ : Psi} {F N : Nat} {dl : List (Option Nat)} {es : List CV} {a : Act} {dst : Option Nat} {d : Option Loc} {v : CV} {x : Value} (hs : N ≤ a.tmps.size) (he : vT ψ dl es a) (hd : xE F N dst = some d)
    (hv : zH ψ v x) : vT ψ (dst :: dl) (v :: es) (a.put dst x) := by
  intro t i hi
  have other : dst ≠ some t → zH ψ (zOJ (v :: es) i) ((a.put dst x).tmps.getD t undef) := by
    intro hne
    have hi' : y9 t dl 1 = some i := by
      cases dst with
      | none => exact hi
      | some u =>
        unfold y9 at hi
        have : Nat.beq u t = false := kI fun e => hne (by rw [e])
        simp only [this] at hi
        exact hi
    rw [j3] at hi'
    cases hw : y9 t dl 0 with
    | none => rw [hw] at hi'; cases hi'
    | some j =>
      rw [hw] at hi'
      injection hi' with hi'; subst hi'
      rw [xY _ _ _ hne]
      exact he t j hw
  by_cases e : dst = some t
  · subst e
    rcases qM hd with ⟨h1, _⟩ | ⟨u, h1, hu, _⟩
    · cases h1
    · injection h1 with h1; subst h1
      unfold y9 at hi
      have hb : Nat.beq t t = true := qY t
      simp only [hb] at hi
      injection hi with hi; subst hi
      rw [jX _ _ _ (Nat.lt_of_lt_of_le hu hs)]
      exact hv
  · exact other e
theorem zGU (a : Act) : zKd a.eval := ⟨fun _ => rfl, fun _ => rfl⟩
theorem zGG {F N : Nat} {ψ : Psi} {tm : Tm} {ds : xM} {h : zD} {n : Key} {a : Act} {w : World} {dl : List (Option Nat)} {es : List CV} (hs : St P F N ψ tm ds h n a w) (he : vT ψ dl es a) :
    ∀ L, zq P ψ es tm ⟨F, N, dl⟩ a.eval L := by
  intro L x hxL c hc
  clear hxL
  unfold zd at hc
  split at hc
  · rename_i t
    split at hc
    · rename_i i hi
      injection hc with hc; subst hc
      exact he t i hi
    · split at hc
      · rename_i hb
        injection hc with hc; subst hc
        rw [Bool.and_eq_true, Bool.and_eq_true] at hb
        exact hs.frame.tmp t hb.1.1 (zP hb.1.2) (zP hb.2)
      · cases hc
  · rename_i v
    cases hv : vN 20 v with
    | none => rw [hv] at hc; cases hc
    | some c' => rw [hv] at hc; injection hc with hc; subst hc; exact jN 20 hv
  · rename_i g
    split at hc
    · rename_i hb
      injection hc with hc; subst hc
      rw [Bool.and_eq_true] at hb
      obtain ⟨sz, e⟩ := hs.glob g (zP hb.1) (zP hb.2)
      exact zm.2 ⟨_, e, rfl⟩
    · cases hc
  · rename_i f
    injection hc with hc; subst hc
    exact yz.2 ⟨#[], #[], rfl, zM.2 rfl, zM.2 rfl⟩
end
end Go.Ev

namespace Go.Ev
variable [Sym]
noncomputable section
variable {P : Program}
variable [SymFact P]
def zn (ψ₀ : Psi) (g₀ : Fam) (n₀ : Key) (w₀ : World) : R → Value → World → Prop
  | .ret cv h n, v, w => ∃ ψ, zy ψ₀ g₀ n₀ w₀ ψ (zD.fam h) n w ∧ zH ψ cv v
  | .fork a b, v, w => zn ψ₀ g₀ n₀ w₀ a v w ∨ zn ψ₀ g₀ n₀ w₀ b v w
  | _, _, _ => False
def yf (P : Program) (f : FuncId) (args : Array Value) (w : World) (K : Value → World → Prop) : Prop := match (callFunc f args).run P w with
  | .ok (.enter g as) w' => Calls P g as w' fun e w'' => ∃ v, e = .returned v ∧ K v w''
  | .ok (.value v) w' => K v w'
  | _ => False
def zDj (P : Program) (f : FuncId) (args : Array Value) (w : World) (K : World → Prop) : Prop :=
  (callFunc f args).run P w = .ok (.enter f args) w ∧ CallsD P f args .returning w fun e u w' => u = .returning ∧ ∃ v, e = .returned v ∧ K w'
structure ym (P : Program) (call : yS) : Prop where
  above : yj call
  calls : ∀ f args h n ψ w args', zT ψ args args'.toList → kU P ψ → Rel ψ (zD.fam h) w → x7 ψ n → za (call false f args h n) →
    yf P f args' w (zn ψ (zD.fam h) n w (call false f args h n))
  defers : ∀ f args h n ψ w args', zT ψ args args'.toList → kU P ψ → Rel ψ (zD.fam h) w → x7 ψ n → za (call true f args h n) →
    zDj P f args' w fun w' => ∃ v, zn ψ (zD.fam h) n w (call true f args h n) v w'
def wD (P : Program) (rc : Bool) (o : Oper) (a : Act) (w : World) (K : Act → World → Prop) : Prop := match (execOp a.eval o).run P w with
  | .ok (.value v) w' => K (a.put o.dst v) w'
  | .ok .skip w' => K (a.put o.dst undef) w'
  | .ok (.defer d) w' => K ({ a with defers := d :: a.defers }.put o.dst undef) w'
  | .ok (.enter f args) w' => Calls P f args w' fun e w'' => ∃ v, e = .returned v ∧ K (a.put o.dst v) w''
  | .ok .recover w' => rc = true ∧ K (a.put o.dst .nilIface) w'
  | _ => False
theorem wD.mono {rc : Bool} {o : Oper} {a : Act} {w : World} {K K' : Act → World → Prop} (hk : ∀ a w, K a w → K' a w) (h : wD P rc o a w K) : wD P rc o a w K' := by
  unfold wD at *
  generalize (execOp a.eval o).run P w = r at h ⊢
  cases r with
  | halt x w' => exact h.elim
  | ok x w' =>
    cases x <;> first
      | exact hk _ _ h
      | exact Calls.mono h fun e w' ⟨v, e1, e2⟩ => ⟨v, e1, hk _ _ e2⟩
      | exact ⟨h.1, hk _ _ h.2⟩
      | exact h.elim
structure zOA (P : Program) (ops : Array Oper) (rc : Bool) (Q : Act → World → Prop) (W : List Nat → Act → World → Prop) : Prop where
  nil : ∀ a w, Q a w → W [] a w
  skip : ∀ i o rest a w, ops[i]? = some o → Region.wanted o (yielded ops a.tmps) = false → W rest (a.put o.dst undef) w → W (i :: rest) a w
  step : ∀ i o rest a w, ops[i]? = some o → Region.wanted o (yielded ops a.tmps) = true → wD P rc o a w (W rest) → W (i :: rest) a w
theorem zI6 (ops : Array Oper) (Q : Exit → Act → World → Prop) : zOA P ops false (Q .normal) (wpOps P ops Q) := by
  refine ⟨fun a w h => h, fun i o rest a w ho hw h => ?_, fun i o rest a w ho hw h => ?_⟩
  · simp only [wpOps, ho, hw, Bool.false_eq_true, if_false]; exact h
  · simp only [wpOps, ho, hw, if_true]
    refine .inl ?_
    unfold Oper.wp
    unfold wD at h
    generalize (execOp a.eval o).run P w = r at h ⊢
    cases r with
    | halt x w' => exact h.elim
    | ok x w' =>
      cases x <;> first
        | exact h
        | exact Calls.mono h (fun e w' ⟨v, e1, e2⟩ => by subst e1; exact e2)
        | exact absurd h.1 (by simp)
        | exact h.elim
theorem zEn (ops : Array Oper) (Q : Exit → Act → List Frame → World → Prop) {cs : List Frame} (hcs : recoverD cs = none) :
    zOA P ops true (fun a w => Q .normal a cs w) (fun l a w => wpOpsS P ops Q l a cs w) := by
  refine ⟨fun a w h => h, fun i o rest a w ho hw h => ?_, fun i o rest a w ho hw h => ?_⟩
  · simp only [wpOpsS, ho, hw, Bool.false_eq_true, if_false]; exact h
  · simp only [wpOpsS, ho, hw, if_true]
    unfold wD at h
    generalize (execOp a.eval o).run P w = r at h ⊢
    cases r with
    | halt x w' => exact h.elim
    | ok x w' =>
      cases x <;> first
        | exact h
        | exact Calls.mono h (fun e w' ⟨v, e1, e2⟩ => by subst e1; exact e2)
        | (simp only [hcs]; exact h.2)
        | exact h.elim
def zQc : CX → Exit → Prop
  | .normal, .normal => True
  | .exit i, .exit j => i = j
  | .ret, .ret => True
  | _, _ => False
section
variable {F N : Nat} {call : yS} {ψ : Psi} {tm : Tm} {ds : xM} {h : zD} {n : Key} {a : Act} {w : World} {dl : List (Option Nat)} {es : List CV}
def jy (P : Program) (F N : Nat) (ψ : Psi) (h : zD) (n : Key) (w : World) (dl : List (Option Nat)) (k : KE) (r : R) (a' : Act) (w' : World) : Prop :=
  ∃ es' tm' ds' h' n' ψ', St P F N ψ' tm' ds' h' n' a' w' ∧ vT ψ' dl es' a' ∧ zy ψ (zD.fam h) n w ψ' (zD.fam h') n' w' ∧ za (k es' tm' ds' h' n') ∧
    ∀ (O : R → Prop), (∀ x y, O x → O (.fork x y)) → (∀ x y, O y → O (.fork x y)) → O (k es' tm' ds' h' n') → O r
theorem jy.forkL {k : KE} {r s : R} {a' : Act} {w' : World} (hx : jy P F N ψ h n w dl k r a' w') : jy P F N ψ h n w dl k (.fork r s) a' w' := by
  obtain ⟨es', tm', ds', h', n', ψ', h1, h2, h3, h4, h5⟩ := hx
  exact ⟨es', tm', ds', h', n', ψ', h1, h2, h3, h4, fun O f1 f2 ho => f1 _ _ (h5 O f1 f2 ho)⟩
theorem jy.forkR {k : KE} {r s : R} {a' : Act} {w' : World} (hx : jy P F N ψ h n w dl k s a' w') : jy P F N ψ h n w dl k (.fork r s) a' w' := by
  obtain ⟨es', tm', ds', h', n', ψ', h1, h2, h3, h4, h5⟩ := hx
  exact ⟨es', tm', ds', h', n', ψ', h1, h2, h3, h4, fun O f1 f2 ho => f2 _ _ (h5 O f1 f2 ho)⟩
theorem je {k : KE} {o : Oper} {d : Option Loc} {v : CV} {x : Value} {ψ' : Psi} {h' : zD} {n' : Key} {w' : World} (hst : St P F N ψ tm ds h n a w) (hev : vT ψ dl es a) (hd : xE F N o.dst = some d)
    (hp : zy ψ (zD.fam h) n w ψ' (zD.fam h') n' w') (hv : zH ψ' v x) (hc : za (zx d v tm fun tm => k (v :: es) tm ds h' n')) :
    jy P F N ψ h n w (o.dst :: dl) k (zx d v tm fun tm => k (v :: es) tm ds h' n') (a.put o.dst x) w' := by
  rw [zr] at hc ⊢
  refine ⟨v :: es, _, ds, h', n', ψ', ⟨zLK (hst.frame.mono hp.ext) hd hv, ?_, hp.rel, hst.glob.mono hp.ext, hp.fresh hst.fresh⟩, zOX hst.frame.size (hev.mono hp.ext) hd hv, hp, hc, fun O _ _ ho => ho⟩
  rw [zAd]
  exact hst.dfr.mono hp.ext
theorem zDD {k : KE} {o : Oper} {d : Option Loc} {x : Value} {w' : World} (hst : St P F N ψ tm ds h n a w) (hev : vT ψ dl es a) (hd : xE F N o.dst = some d) :
    ∀ {r : R}, zn ψ (zD.fam h) n w r x w' → za (qa (fun v h n => zx d v tm fun tm => k (v :: es) tm ds h n) r) →
      jy P F N ψ h n w (o.dst :: dl) k (qa (fun v h n => zx d v tm fun tm => k (v :: es) tm ds h n) r) (a.put o.dst x) w'
  | .ok .., hr, _ => hr.elim
  | .err _, hr, _ => hr.elim
  | .ret cv h' n', hr, hc => by
    obtain ⟨ψ', hp, hv⟩ := hr
    exact je hst hev hd hp hv hc
  | .fork r s, hr, hc => by
    rcases hr with hr | hr
    · exact jy.forkL (zDD hst hev hd hr hc.1)
    · exact jy.forkR (zDD hst hev hd hr hc.2)
theorem xi {o : Oper} {w' : World} {x : Value} (hv : ju P a.eval o.op o.type w w' x) {K : Act → World → Prop} {rc : Bool} (hk : K (a.put o.dst x) w') : wD P rc o a w K := by
  obtain ⟨nx, h1, h2⟩ := hv
  have h1 : (execOp a.eval o).run P w = .ok nx w' := h1
  unfold wD
  rw [h1]
  rcases h2 with rfl | ⟨rfl, rfl⟩
  · exact hk
  · exact hk
theorem wM (hcall : ym P call) {k : KE} (hk : ∀ es tm ds h n, zh n (k es tm ds h n)) {o : Oper} {d : Option Loc} (hst : St P F N ψ tm ds h n a w) (hev : vT ψ dl es a)
    (hd : xE F N o.dst = some d) {rc : Bool} (hrc : zCb o.op = true → rc = true) : ∀ (r : OR), zC P ψ h n a.eval o.op o.type w r → zE n r → za (after r call k d es tm ds h n) →
      wD P rc o a w (jy P F N ψ h n w (o.dst :: dl) k (after r call k d es tm ds h n))
  | .val v, hs, _, hc => by
    obtain ⟨x, h1, h2⟩ := hs
    exact xi h1 (je hst hev hd (zy.refl hst.rel) h2 hc)
  | .read v, hs, _, hc => by
    obtain ⟨x, h1, h2⟩ := hs hst.rel.on
    exact xi h1 (je hst hev hd (zy.refl hst.rel) h2 hc)
  | .alloc ob v, hs, _, hc => by
    obtain ⟨w', x, sz, h1, h2, h3, _⟩ := hs
    have hroom : n.succ.room := by
      have hc' : za (zx d v tm fun tm => k (v :: es) tm ds (yn (some ob) n h) n.succ) := hc
      rw [zr] at hc'
      exact wy hc' (hk _ _ _ _ _)
    have hr := Key.room_of_succ hroom
    have hnone := hst.fresh n (Nat.le_refl _)
    have hle := Psi.le_upd (ψ := ψ) (k := n) ⟨w.heap.size, 0, sz, fun n => n⟩ hnone
    obtain ⟨h4, h5⟩ := h3 _ hle (Psi.upd_same _ _ _)
    have hp := kS hst.rel hr hnone h2 h5
    rw [← zt] at hp
    exact xi h1 (je hst hev hd hp h4 hc)
  | .eff v h' n', hs, ha, hc => by
    have hroom : n'.room := by
      have hc' : za (zx d v tm fun tm => k (v :: es) tm ds h' n') := hc
      rw [zr] at hc'
      exact wy hc' (hk _ _ _ _ _)
    obtain ⟨w', x, ψ', h1, h2, h3⟩ := hs hst.rel (fun q hq _ => hst.fresh q hq) hroom
    exact xi h1 (je hst hev hd h2 h3 hc)
  | .call f args, hs, _, hc => by
    obtain ⟨args', h1, h2⟩ := hs hst.rel.on
    have hc' : za (qa (fun v h n => zx d v tm fun tm => k (v :: es) tm ds h n) (call false f args h n)) := hc
    have hcl := qQ (fun v h n => by rw [zr]; exact hk _ _ _ _ _) hc'
    have hcalls := hcall.calls f args h n ψ w args' h2 hst.glob hst.rel hst.fresh hcl
    have hn := fun (x : Value) (w' : World) hr => zDD (k := k) (o := o) (x := x) (w' := w') hst hev hd (r := call false f args h n) hr hc'
    have h1 : (execOp a.eval o).run P w = (callFunc f args').run P w := h1
    unfold wD
    rw [h1]
    unfold yf at hcalls
    generalize (callFunc f args').run P w = r at hcalls ⊢
    cases r with
    | halt x w' => exact hcalls.elim
    | ok x w' =>
      cases x <;> first
        | exact hn _ _ hcalls
        | exact Calls.mono hcalls fun e w' ⟨v, e1, e2⟩ => ⟨v, e1, hn v w' e2⟩
        | exact hcalls.elim
  | .dfr f args, hs, _, hc => by
    obtain ⟨dd, fv, cap, args', h1, h2, h3, h4⟩ := hs
    have h1 : (execOp a.eval o).run P w = .ok (.defer dd) w := h1
    unfold wD
    rw [h1]
    have hc' : za (zx d .undef tm fun tm => k (.undef :: es) tm ((f, args) :: ds) h n) := hc
    show jy P F N ψ h n w (o.dst :: dl) k (zx d .undef tm fun tm => k (.undef :: es) tm ((f, args) :: ds) h n) ({ a with defers := dd :: a.defers }.put o.dst undef) w
    refine je (a := { a with defers := dd :: a.defers }) (ds := (f, args) :: ds) ⟨⟨hst.frame.size, hst.frame.tmp⟩, ⟨dd, a.defers, rfl, ⟨fv, cap, args', h2, h3, h4⟩, hst.dfr⟩, hst.rel, hst.glob, hst.fresh⟩ hev hd (zy.refl hst.rel) xj hc'
  | .recov, hs, _, hc => by
    obtain ⟨h0, h1⟩ := hs
    have h1 : (execOp a.eval o).run P w = .ok .recover w := h1
    unfold wD
    rw [h1]
    exact ⟨hrc h0, je hst hev hd (zy.refl hst.rel) (yQ.2 rfl) hc⟩
  | .err _, _, _, hc => hc.elim
  | .fork r s, hs, ha, hc => by
    rcases hs hst.rel with hs | hs
    · exact wD.mono (fun _ _ h => jy.forkL h) (wM hcall hk hst hev hd hrc r hs ha.1 hc.1)
    · exact wD.mono (fun _ _ h => jy.forkR h) (wM hcall hk hst hev hd hrc s hs ha.2 hc.2)
end
end
end Go.Ev

namespace Go.Ev
variable [Sym]
noncomputable section
variable {P : Program}
variable [SymFact P]
theorem zE0 {ψ : Psi} {ops : Array Oper} {o : Oper} {j t : Nat} {wnt : Bool} {a : Act} {c : CV} (hg : o.guard = some (j, wnt)) (ht : (ops[j]?).bind (·.dst) = some t) (hc : zH ψ c (a.tmps.getD t undef)) :
    (qq wnt c = true → Region.wanted o (yielded ops a.tmps) = true) ∧ (qq wnt c = false → jx c = true → Region.wanted o (yielded ops a.tmps) = false) := by
  have hw : Region.wanted o (yielded ops a.tmps) = (yielded ops a.tmps j == some wnt) := by unfold Region.wanted; rw [hg]
  have hy : yielded ops a.tmps j = (match a.tmps[t]? with | some (.bool b) => some b | _ => none) := by unfold yielded; rw [ht]; rfl
  have hget : ∀ b, a.tmps.getD t undef = .bool b → a.tmps[t]? = some (.bool b) := by
    intro b h
    rw [Array.getD_eq_getD_getElem?] at h
    cases hq : a.tmps[t]? with
    | none => rw [hq] at h; cases h
    | some v => rw [hq] at h; exact congrArg some h
  rw [hw, hy]
  constructor
  · intro hb
    unfold qq at hb
    split at hb
    · rename_i b
      rw [zJ] at hc
      rw [hget _ hc]
      cases b <;> cases wnt <;> simp_all
    · cases hb
  · intro hb hn
    cases hq : a.tmps[t]? with
    | none => rfl
    | some v =>
      have hv : a.tmps.getD t undef = v := by rw [Array.getD_eq_getD_getElem?, hq]; rfl
      rw [hv] at hc
      cases v <;> try rfl
      rename_i b
      have hb' : c = .bool b ∨ c = .any := by
        cases c
        case bool b' => rw [zJ] at hc; injection hc with hc; subst hc; exact .inl rfl
        case any => exact .inr rfl
        case nat => rw [zY] at hc; cases hc
        case int => rw [zg] at hc; cases hc
        case anyi => rw [yV] at hc; obtain ⟨_, hc⟩ := hc; cases hc
        case str => rw [zf] at hc; obtain ⟨_, hc, _⟩ := hc; cases hc
        case big => rw [jg] at hc; obtain ⟨_, hc, _⟩ := hc; cases hc
        case nilptr => rw [xF] at hc; cases hc
        case ptr => rw [zm] at hc; obtain ⟨_, _, hc⟩ := hc; cases hc
        case nilsl => rw [zp] at hc; cases hc
        case sl => rw [z8] at hc; obtain ⟨_, _, _, _, hc, _⟩ := hc; cases hc
        case sst => rw [xc] at hc; obtain ⟨_, hc, _⟩ := hc; cases hc
        case elt => rw [vn] at hc; obtain ⟨_, _, _, _, _, hc⟩ := hc; cases hc
        case few => rw [qm] at hc; obtain ⟨_, _, _, hc, _⟩ := hc; cases hc
        case win => rw [jj] at hc; obtain ⟨_, _, _, _, _, hc, _⟩ := hc; cases hc
        case nilmap => rw [yD] at hc; cases hc
        case map => rw [yZ] at hc; obtain ⟨_, _, hc⟩ := hc; cases hc
        case func => rw [yz] at hc; obtain ⟨_, _, hc, _⟩ := hc; cases hc
        case nilfunc => rw [y7] at hc; cases hc
        case iface => rw [yM] at hc; obtain ⟨_, hc, _⟩ := hc; cases hc
        case niliface => rw [yQ] at hc; cases hc
        case agg => rw [ye] at hc; obtain ⟨_, hc, _⟩ := hc; cases hc
        case sym i => rw [yX] at hc; rcases Sym.one i with ⟨_, _, e⟩ | ⟨_, e⟩ <;> rw [e] at hc <;> cases hc
        case tup => rw [yG] at hc; obtain ⟨_, hc, _⟩ := hc; cases hc
      rcases hb' with rfl | rfl
      · cases b <;> cases wnt <;> first | rfl | cases hb
      · cases hn
section
variable {F N : Nat} {call : yS} {ops : Array Oper} {rc : Bool} {Q : Act → World → Prop} {W : List Nat → Act → World → Prop}
theorem zJG {j : Nat} : (nth ops.toList j).bind (·.dst) = (ops[j]?).bind (·.dst) := by rw [yN, Array.getElem?_toList]
theorem zOt (hcall : ym P call) (walk : zOA P ops rc Q W) {k : KE} (hk : ∀ es tm ds h n, zh n (k es tm ds h n)) {ψ : Psi} {tm : Tm} {ds : xM} {h : zD} {n : Key} {a : Act} {w : World} {dl : List (Option Nat)} {es : List CV}
    (hst : St P F N ψ tm ds h n a w) (hev : vT ψ dl es a) {i : Nat} {o : Oper} {rest : List Nat} (ho : ops[i]? = some o) (hrc : zCb o.op = true → rc = true)
    (hc : za (zPM P call (vK P F N ops.toList dl o) k es tm ds h n))
    (hnext : ∀ a' w', jy P F N ψ h n w (o.dst :: dl) k (zPM P call (vK P F N ops.toList dl o) k es tm ds h n) a' w' → W rest a' w') : W (i :: rest) a w := by
  unfold vK at hc hnext
  cases hd : xE F N o.dst with
  | none => simp only [hd] at hc; exact hc.elim
  | some d =>
    simp only [hd] at hc hnext
    have hsim := fun (w : World) => zIt (ψ := ψ) (h := h) (n := n) (es := es) (tm := tm) (ty := o.type) (w := w) (zGU a) o.op (zGG hst hev _)
    cases hg : o.guard with
    | none =>
      have hw : Region.wanted o (yielded ops a.tmps) = true := by unfold Region.wanted; rw [hg]
      simp only [hg] at hc hnext
      refine walk.step i o rest a w ho hw ?_
      cases d with
      | none =>
        have := wM hcall hk hst hev hd hrc _ (hsim w) (kX _) hc
        exact wD.mono hnext this
      | some p =>
        have := wM hcall hk hst hev hd hrc _ (hsim w) (kX _) hc
        exact wD.mono hnext this
    | some jw =>
      obtain ⟨j, wnt⟩ := jw
      simp only [hg] at hc hnext
      cases ht : (nth ops.toList j).bind (·.dst) with
      | none => simp only [ht] at hc; exact hc.elim
      | some t =>
        simp only [ht] at hc hnext
        cases hx : zd P ⟨F, N, dl⟩ (.tmp t) with
        | none => simp only [hx] at hc; exact hc.elim
        | some x =>
          simp only [hx] at hc hnext
          have hv := zGG hst hev [.tmp t] _ (by simp) _ hx
          have hv : zH ψ (aV es tm x) (a.tmps.getD t undef) := hv
          rw [zJG] at ht
          obtain ⟨w1, w2⟩ := zE0 hg ht hv
          have hc' : za (Bool.rec (motive := fun _ => R)
            (Bool.rec (motive := fun _ => R) (.err 299) (zx d .undef tm fun tm => k (.undef :: es) tm ds h n) (jx (aV es tm x)))
            (after (yA P (zc P ⟨F, N, dl⟩ o.op) es tm h n) call k d es tm ds h n) (qq wnt (aV es tm x))) := hc
          have hnext' : ∀ a' w', jy P F N ψ h n w (o.dst :: dl) k (Bool.rec (motive := fun _ => R)
            (Bool.rec (motive := fun _ => R) (.err 299) (zx d .undef tm fun tm => k (.undef :: es) tm ds h n) (jx (aV es tm x)))
            (after (yA P (zc P ⟨F, N, dl⟩ o.op) es tm h n) call k d es tm ds h n) (qq wnt (aV es tm x))) a' w' → W rest a' w' := hnext
          cases hb : qq wnt (aV es tm x) with
          | true =>
            rw [hb] at hc' hnext'
            refine walk.step i o rest a w ho (w1 hb) ?_
            exact wD.mono hnext' (wM hcall hk hst hev hd hrc _ (hsim w) (kX _) hc')
          | false =>
            rw [hb] at hc' hnext'
            cases hn : jx (aV es tm x) with
            | false => rw [hn] at hc'; exact hc'.elim
            | true =>
              rw [hn] at hc' hnext'
              exact walk.skip i o rest a w ho (w2 hb hn) (hnext' _ _ (je hst hev hd (zy.refl hst.rel) xj hc'))
theorem zF1 (hcall : ym P call) (walk : zOA P ops rc Q W) : ∀ (rest : List Oper) (i : Nat) {ψ : Psi} {tm : Tm} {ds : xM} {h : zD} {n : Key} {a : Act} {w : World} {dl : List (Option Nat)} {es : List CV},
    ops.toList.drop i = rest → (∀ o ∈ rest, zCb o.op = true → rc = true) → St P F N ψ tm ds h n a w → vT ψ dl es a →
    za (yb P call (qb P F N ops.toList dl rest) es tm ds h n) →
    (∀ tm' ds' h' n' ψ' a' w', St P F N ψ' tm' ds' h' n' a' w' → zy ψ (zD.fam h) n w ψ' (zD.fam h') n' w' → n'.room →
      (∀ (O : R → Prop), (∀ x y, O x → O (.fork x y)) → (∀ x y, O y → O (.fork x y)) → O (.ok .normal tm' ds' h' n') → O (yb P call (qb P F N ops.toList dl rest) es tm ds h n)) → Q a' w') →
    W (List.range' i rest.length) a w
  | [], i, ψ, tm, ds, h, n, a, w, dl, es, _, _, hst, hev, hc, hQ => walk.nil a w (hQ tm ds h n ψ a w hst (zy.refl hst.rel) hc fun O _ _ ho => ho)
  | o :: rest, i, ψ, tm, ds, h, n, a, w, dl, es, hi, hrc, hst, hev, hc, hQ => by
    have ho : ops[i]? = some o := by
      rw [← Array.getElem?_toList]
      have : (ops.toList.drop i)[0]? = some o := by rw [hi]; rfl
      rw [List.getElem?_drop] at this
      exact this
    have hrest : ops.toList.drop (i + 1) = rest := by
      have := congrArg (List.drop 1) hi
      rw [List.drop_drop] at this
      exact this
    rw [List.length_cons, List.range'_succ]
    refine zOt hcall walk (k := yb P call (qb P F N ops.toList (o.dst :: dl) rest)) (fun es tm ds h n => jG hcall.above _ es tm ds h n) hst hev ho (hrc o (by simp)) hc fun a' w' hn => ?_
    obtain ⟨es', tm', ds', h', n', ψ', h1, h2, h3, h4, h5⟩ := hn
    refine zF1 hcall walk rest (i + 1) hrest (fun o ho => hrc o (by simp [ho])) h1 h2 h4 fun tm'' ds'' h'' n'' ψ'' a'' w'' g1 g2 g3 g4 => ?_
    exact hQ tm'' ds'' h'' n'' ψ'' a'' w'' g1 (h3.trans g2) g3 fun O f1 f2 ho => h5 O f1 f2 (g4 O f1 f2 ho)
end
end
end Go.Ev

namespace Go.Ev
variable [Sym]
noncomputable section
variable {P : Program}
variable [SymFact P]
theorem qD {n : Key} {k : K} (hk : ∀ tm ds h n, zh n (k tm ds h n)) : ∀ {r : R}, zh n r → zh n (xp k r)
  | .ok .normal tm ds h n', ha => zh.le ha (hk tm ds h n')
  | .ok (.exit _) _ _ _ _, ha => ha
  | .ok .ret _ _ _ _, ha => ha
  | .ret .., _ => trivial
  | .err _, _ => trivial
  | .fork _ _, h => ⟨qD hk h.1, qD hk h.2⟩
theorem xP {k : K} (hk : ∀ tm ds h n, zh n (k tm ds h n)) : ∀ {r : R}, za (xp k r) → za r
  | .ok .normal tm ds h n', hc => wy hc (hk tm ds h n')
  | .ok (.exit _) _ _ _ _, hc => hc
  | .ok .ret _ _ _ _, hc => hc
  | .ret .., hc => hc.elim
  | .err _, hc => hc.elim
  | .fork _ _, h => ⟨xP hk h.1, xP hk h.2⟩
theorem vu (id i : Nat) (tm : Tm) (ds : xM) (h : zD) (n : Key) : wi id (.ok (.exit i) tm ds h n) = if i = id then .ok .normal tm ds h n else .ok (.exit i) tm ds h n := by
  show Bool.rec (motive := fun _ => R) (.ok (.exit i) tm ds h n) (.ok .normal tm ds h n) (Nat.beq i id) = _
  by_cases e : i = id
  · subst e; rw [qY, if_pos rfl]
  · rw [kI e, if_neg e]
theorem vH {n : Key} (id : Nat) : ∀ {r : R}, zh n r → zh n (wi id r)
  | .ok .normal _ _ _ _, ha => ha
  | .ok (.exit i) _ _ _ _, ha => by rw [vu]; split <;> exact ha
  | .ok .ret _ _ _ _, ha => ha
  | .ret .., _ => trivial
  | .err _, _ => trivial
  | .fork _ _, h => ⟨vH id h.1, vH id h.2⟩
theorem qu (id : Nat) : ∀ {r : R}, za (wi id r) → za r
  | .ok .normal _ _ _ _, ha => ha
  | .ok (.exit i) _ _ _ _, ha => by rw [vu] at ha; split at ha <;> exact ha
  | .ok .ret _ _ _ _, ha => ha
  | .ret .., h => h.elim
  | .err _, h => h.elim
  | .fork _ _, h => ⟨qu id h.1, qu id h.2⟩
theorem zDX {C : K → Prop} {a b : K} (v : CV) (ht : v = .bool true → C a) (hf : v = .bool false → C b) (he : C fun _ _ _ _ => .err 302) : C (zFa a b v) := by
  unfold zFa
  split
  · exact ht rfl
  · exact hf rfl
  · exact he
section
variable {call : yS} (hcall : yj call)
include hcall
theorem zIU {k : KD} (hk : ∀ es hs tm ds h n, zh n (k es hs tm ds h n)) (d : Option Loc) (es : List CV) (hs : List zD) (tm : Tm) (ds : xM) (h : zD) (n : Key) (r : OR) (ho : zE n r) :
    zh n (zJc call d k r es hs tm ds h n) := by
  cases r with
  | val v => show zh n (zx _ _ _ _); rw [zr]; exact hk _ _ _ _ _ _
  | read v => show zh n (zx _ _ _ _); rw [zr]; exact hk _ _ _ _ _ _
  | alloc o v => show zh n (zx _ _ _ _); rw [zr]; exact zh.le (Key.ix_le_succ n) (hk _ _ _ _ _ _)
  | eff v h' n' => show zh n (zx _ _ _ _); rw [zr]; exact zh.le ho (hk _ _ _ _ _ _)
  | call f args => exact qT (k := fun v h' n' => zx d v tm fun tm => k (v :: es) (h :: hs) tm ds h' n') (fun v h n => by rw [zr]; exact hk _ _ _ _ _ _) (hcall _ _ _ _ _)
  | dfr f args => trivial
  | recov => trivial
  | err _ => trivial
  | fork a b => trivial
omit hcall in
theorem zLg {k : KD} (hk : ∀ es hs tm ds h n, zh n (k es hs tm ds h n)) (op : COp) (d : Option Loc) (chk : Nat) (es : List CV) (hs : List zD) (tm : Tm) (ds : xM) (h : zD) (n : Key) (r : OR) :
    zh n (dNo P op d chk k r es hs tm ds h n) := by
  cases r with
  | val v => show zh n (zx _ _ _ _); rw [zr]; exact hk _ _ _ _ _ _
  | read v =>
    show zh n (match qV P op es tm n v chk hs with
      | true => zx d v tm fun tm => k (v :: es) hs tm ds h n
      | false => .err 311)
    split
    · rw [zr]; exact hk _ _ _ _ _ _
    · trivial
  | alloc o v => show zh n (zx _ _ _ _); rw [zr]; exact zh.le (Key.ix_le_succ n) (hk _ _ _ _ _ _)
  | eff v h' n' => trivial
  | call f args => trivial
  | dfr f args => trivial
  | recov => trivial
  | err _ => trivial
  | fork a b => trivial
theorem zBG {k : KD} (hk : ∀ es hs tm ds h n, zh n (k es hs tm ds h n)) (op : COp) (d : Option Loc) (e : Bool) (chk : Nat) (es : List CV) (hs : List zD) (tm : Tm) (ds : xM) (h : zD) (n : Key) :
    zh n (dOp P call op d e chk k es hs tm ds h n) := by
  unfold dOp
  split
  · exact zIU hcall hk d es hs tm ds h n _ (kX op)
  · exact zLg hk op d chk es hs tm ds h n _
theorem zFX : ∀ (l : List zLF) (es : List CV) (hs : List zD) (tm : Tm) (ds : xM) (h : zD) (n : Key), zh n (evD P call l es hs tm ds h n)
  | [], _, _, _, _, _, _ => Nat.le_refl _
  | i :: l, es, hs, tm, ds, h, n => by
    unfold evD
    have ih := fun es hs tm ds h n => zFX l es hs tm ds h n
    split
    · exact zBG hcall ih _ _ _ _ _ _ _ _ _ _
    · exact zBG hcall ih _ _ _ _ _ _ _ _ _ _
    · split
      · exact zBG hcall ih _ _ _ _ _ _ _ _ _ _
      · split
        · unfold zDi
          rw [zr]; exact ih _ _ _ _ _ _
        · trivial
theorem yi : ∀ (c : CCode) (tm : Tm) (ds : xM) (h : zD) (n : Key), zh n (zi P call c tm ds h n)
  | .skip, _, _, _, _ => Nat.le_refl _
  | .region ops, tm, ds, h, n => jG hcall ops [] tm ds h n
  | .dregion ops, tm, ds, h, n => zFX hcall ops [] [] tm ds h n
  | .seq a b, tm, ds, h, n => qD (fun tm ds h n => yi b tm ds h n) (yi a tm ds h n)
  | .cond x a b, tm, ds, h, n => by
    exact zDX (C := fun k => zh n (k tm ds h n)) _ (fun _ => yi a tm ds h n) (fun _ => yi b tm ds h n) trivial
  | .block id b, tm, ds, h, n => vH id (yi b tm ds h n)
  | .loop b, tm, ds, h, n => by
    show zh n (ub vk (zi P call b) tm ds h n)
    have : ∀ (fuel : Nat) (tm : Tm) (ds : xM) (h : zD) (n : Key), zh n (ub fuel (zi P call b) tm ds h n) := by
      intro fuel
      induction fuel with
      | zero => intros; trivial
      | succ m ih => intro tm ds h n; exact qD ih (yi b tm ds h n)
    exact this _ _ _ _ _
  | .exit _, _, _, _, _ => Nat.le_refl _
  | .ret, _, _, _, _ => Nat.le_refl _
  | .scope b, tm, ds, h, n => yi b tm ds h n
  | .bad _, _, _, _, _ => trivial
end
def yw (P : Program) (F N : Nat) (ψ₀ : Psi) (g₀ : Fam) (n₀ : Key) (w₀ : World) : R → Exit → Act → World → Prop
  | .ok cx tm ds h n, e, a, w => zQc cx e ∧ ∃ ψ, St P F N ψ tm ds h n a w ∧ zy ψ₀ g₀ n₀ w₀ ψ (zD.fam h) n w ∧ n.room
  | .fork r s, e, a, w => yw P F N ψ₀ g₀ n₀ w₀ r e a w ∨ yw P F N ψ₀ g₀ n₀ w₀ s e a w
  | _, _, _, _ => False
section
variable {F N : Nat} {ψ₀ ψ₁ : Psi} {g₀ g₁ : Fam} {n₀ n₁ : Key} {w₀ w₁ : World}
theorem yw.trans (hp : zy ψ₀ g₀ n₀ w₀ ψ₁ g₁ n₁ w₁) {e : Exit} {a : Act} {w : World} : ∀ {r : R}, yw P F N ψ₁ g₁ n₁ w₁ r e a w → yw P F N ψ₀ g₀ n₀ w₀ r e a w
  | .ok .., ⟨h1, ψ, h2, h3, h4⟩ => ⟨h1, ψ, h2, hp.trans h3, h4⟩
  | .ret .., h => h
  | .err _, h => h
  | .fork _ _, h => h.imp (yw.trans hp) (yw.trans hp)
theorem jK {k : K} {e : Exit} {a : Act} {w : World} : ∀ {r : R}, za (xp k r) → yw P F N ψ₀ g₀ n₀ w₀ r e a w →
    (e = .normal ∧ ∃ tm ds h n ψ, St P F N ψ tm ds h n a w ∧ zy ψ₀ g₀ n₀ w₀ ψ (zD.fam h) n w ∧ za (k tm ds h n) ∧
      ∀ e' a' w', yw P F N ψ₀ g₀ n₀ w₀ (k tm ds h n) e' a' w' → yw P F N ψ₀ g₀ n₀ w₀ (xp k r) e' a' w') ∨
    (e ≠ .normal ∧ yw P F N ψ₀ g₀ n₀ w₀ (xp k r) e a w)
  | .ok .normal tm ds h n, hc, ⟨h1, ψ, h2, h3, h4⟩ => by
    cases e <;> first | exact h1.elim | skip
    exact .inl ⟨rfl, tm, ds, h, n, ψ, h2, h3, hc, fun e' a' w' ho => ho⟩
  | .ok (.exit i) tm ds h n, hc, ⟨h1, ψ, h2, h3, h4⟩ => .inr ⟨by rintro rfl; exact h1.elim, h1, ψ, h2, h3, h4⟩
  | .ok .ret tm ds h n, hc, ⟨h1, ψ, h2, h3, h4⟩ => .inr ⟨by rintro rfl; exact h1.elim, h1, ψ, h2, h3, h4⟩
  | .ret .., hc, _ => hc.elim
  | .err _, hc, _ => hc.elim
  | .fork r s, hc, ho => by
    rcases ho with ho | ho
    · rcases jK hc.1 ho with ⟨h1, tm, ds, h, n, ψ, h2, h3, h4, h5⟩ | ⟨h1, h2⟩
      · exact .inl ⟨h1, tm, ds, h, n, ψ, h2, h3, h4, fun e' a' w' q => .inl (h5 e' a' w' q)⟩
      · exact .inr ⟨h1, .inl h2⟩
    · rcases jK hc.2 ho with ⟨h1, tm, ds, h, n, ψ, h2, h3, h4, h5⟩ | ⟨h1, h2⟩
      · exact .inl ⟨h1, tm, ds, h, n, ψ, h2, h3, h4, fun e' a' w' q => .inr (h5 e' a' w' q)⟩
      · exact .inr ⟨h1, .inr h2⟩
theorem wm {id : Nat} {e : Exit} {a : Act} {w : World} {Q : Exit → Act → World → Prop} : ∀ {r : R}, (∀ e a w, yw P F N ψ₀ g₀ n₀ w₀ (wi id r) e a w → Q e a w) → yw P F N ψ₀ g₀ n₀ w₀ r e a w → Exit.inBlock id Q e a w
  | .ok .normal tm ds h n, hq, ⟨h1, ψ, h2, h3, h4⟩ => by
    cases e <;> first | exact h1.elim | skip
    exact hq .normal a w ⟨trivial, ψ, h2, h3, h4⟩
  | .ok (.exit i) tm ds h n, hq, ⟨h1, ψ, h2, h3, h4⟩ => by
    cases e <;> first | exact h1.elim | skip
    rename_i j
    have h1 : i = j := h1
    subst h1
    rw [vu] at hq
    unfold Exit.inBlock
    simp only
    split
    · rename_i e
      rw [if_pos e] at hq
      exact hq .normal a w ⟨trivial, ψ, h2, h3, h4⟩
    · rename_i e
      rw [if_neg e] at hq
      exact hq (.exit i) a w ⟨rfl, ψ, h2, h3, h4⟩
  | .ok .ret tm ds h n, hq, ⟨h1, ψ, h2, h3, h4⟩ => by
    cases e <;> first | exact h1.elim | skip
    exact hq .ret a w ⟨trivial, ψ, h2, h3, h4⟩
  | .ret .., _, ho => ho.elim
  | .err _, _, ho => ho.elim
  | .fork r s, hq, ho => by
    rcases ho with ho | ho
    · exact wm (fun e a w h => hq e a w (.inl h)) ho
    · exact wm (fun e a w h => hq e a w (.inr h)) ho
theorem uv {Q : Exit → Act → World → Prop} {e : Exit} {a : Act} {w : World} : ∀ {r : R}, (yw P F N ψ₀ g₀ n₀ w₀ r e a w → Q e a w) → yw P F N ψ₀ g₀ n₀ w₀ r e a w → Exit.noGoto Q e a w
  | .ok cx tm ds h n, hq, ho => by
    cases e <;> first | exact hq ho | (cases cx <;> exact ho.1.elim)
  | .ret .., _, ho => ho.elim
  | .err _, _, ho => ho.elim
  | .fork r s, hq, ho => by
    rcases ho with ho | ho
    · exact uv (fun h => hq (.inl h)) ho
    · exact uv (fun h => hq (.inr h)) ho
end
theorem zIk (call : yS) (b : CCode) : zi P call (.loop b) = ub vk (zi P call b) := rfl
theorem zEx (F N : Nat) (b : Code) : zR P F N (.loop b) = .loop (zR P F N b) := rfl
def w7 (P : Program) (c : Code) (Q : Exit → Act → World → Prop) (a : Act) (w : World) : Prop :=
  ∀ (b : Frame) (k : List Item) (cs : List Frame), ∃ e a' w', Q e a' w' ∧ Arrives P (lone (b.at a (.code c :: .inLoop c :: k)) cs w) b k cs e a' w'
theorem zFU {c : Code} {Q : Exit → Act → World → Prop} {a : Act} {w : World} (h : c.wp P (Exit.then (w7 P c Q) Q) a w) : w7 P c Q a w := by
  intro b k cs
  obtain ⟨e, a₁, w₁, hq, harr⟩ := h b (.inLoop c :: k) cs
  cases e with
  | normal =>
    obtain ⟨e₂, a₂, w₂, hq₂, harr₂⟩ := hq b k cs
    exact ⟨e₂, a₂, w₂, hq₂, .of_steps (Steps.trans harr (.one step_inLoop)) harr₂⟩
  | exit id => exact ⟨_, a₁, w₁, hq, .pass (x := .inLoop c) rfl (fun _ _ => .inl (by simp)) harr⟩
  | goto l => exact ⟨_, a₁, w₁, hq, .pass (x := .inLoop c) rfl (fun _ _ => .inl (by simp)) harr⟩
  | ret => exact ⟨_, a₁, w₁, hq, .pass (x := .inLoop c) rfl (fun _ _ => .inl (by simp)) harr⟩
  | panic ch => exact ⟨_, a₁, w₁, hq, .pass (x := .inLoop c) rfl (fun _ _ => .inl (by simp)) harr⟩
  | outgrown => exact ⟨_, a₁, w₁, hq, .pass (x := .inLoop c) rfl (fun _ _ => .inl (by simp)) harr⟩
theorem zEh {c : Code} {Q : Exit → Act → World → Prop} {a : Act} {w : World} (h : w7 P c Q a w) : (Code.loop c).wp P Q a w := by
  intro b k cs
  obtain ⟨e, a', w', hq, harr⟩ := h b k cs
  exact ⟨e, a', w', hq, .of_steps (.one step_loop) harr⟩
def jZ (P : Program) (F N : Nat) (call : yS) : Prop := ∀ (id : Nat) (ops : Array Oper) (ψ : Psi) (tm : Tm) (ds : xM) (h : zD) (n : Key) (a : Act) (w : World), zDs ops.toList = true →
  St P F N ψ tm ds h n a w → za (zi P call (zF7 P F N ops.toList) tm ds h n) →
  (Code.region id ops true).wp P (yw P F N ψ (zD.fam h) n w (zi P call (zF7 P F N ops.toList) tm ds h n)) a w
theorem zHh (l : List Oper) (h : zDs l = true) : ∀ o ∈ l, zCb o.op = false := by
  induction l with
  | nil => intro o ho; cases ho
  | cons x l ih =>
    intro o ho
    unfold zDs at h
    rw [Bool.and_eq_true] at h
    rcases List.mem_cons.1 ho with rfl | ho
    · have := h.1
      cases hr : zCb o.op with
      | false => rfl
      | true => rw [hr] at this; cases this
    · exact ih h.2 o ho
theorem wc {F N : Nat} {call : yS} (hcall : ym P call) (hdraw : jZ P F N call) : ∀ (c : Code) {ψ : Psi} {tm : Tm} {ds : xM} {h : zD} {n : Key} {a : Act} {w : World},
    yC c = true → St P F N ψ tm ds h n a w → za (zi P call (zR P F N c) tm ds h n) → c.wp P (yw P F N ψ (zD.fam h) n w (zi P call (zR P F N c) tm ds h n)) a w := by
  intro c
  induction c with
  | skip => intro ψ tm ds h n a w _ hst hc; exact wp_skip ⟨trivial, ψ, hst, zy.refl hst.rel, hc⟩
  | label l => intro ψ tm ds h n a w _ hst hc; exact wp_label ⟨trivial, ψ, hst, zy.refl hst.rel, hc⟩
  | region id ops dr =>
    intro ψ tm ds h n a w hnr hst hc
    cases dr with
    | true => exact hdraw id ops ψ tm ds h n a w hnr hst hc
    | false =>
      refine wp_region ?_
      have hc' : za (yb P call (qb P F N ops.toList [] ops.toList) [] tm ds h n) := hc
      have := zF1 (F := F) (N := N) hcall (zI6 (P := P) ops (yw P F N ψ (zD.fam h) n w (yb P call (qb P F N ops.toList [] ops.toList) [] tm ds h n)))
        ops.toList 0 rfl (fun o ho hr => by rw [zHh _ hnr o ho] at hr; cases hr) hst (dl := []) (es := []) (fun t i hi => by cases hi) hc'
        (fun tm' ds' h' n' ψ' a' w' g1 g2 g3 g4 => g4 (fun r => yw P F N ψ (zD.fam h) n w r .normal a' w') (fun _ _ h => .inl h) (fun _ _ h => .inr h) ⟨trivial, ψ', g1, g2, g3⟩)
      rw [Array.length_toList] at this
      rw [List.range_eq_range']
      exact this
  | seq x y ihx ihy =>
    intro ψ tm ds h n a w hnr hst hc
    have hnr : yC x = true ∧ yC y = true := by simpa [yC] using hnr
    have hc : za (xp (zi P call (zR P F N y)) (zi P call (zR P F N x) tm ds h n)) := hc
    have hab := fun tm ds h n => yi (P := P) hcall.above (zR P F N y) tm ds h n
    refine wp_seq (wp_mono (ihx hnr.1 hst (xP hab hc)) fun e a' w' ho => ?_)
    rcases jK hc ho with ⟨rfl, tm', ds', h', n', ψ', h2, h3, h4, h5⟩ | ⟨h1, h2⟩
    · exact wp_mono (ihy hnr.2 h2 h4) fun e'' a'' w'' ho' => h5 e'' a'' w'' (yw.trans h3 ho')
    · cases e <;> first | exact absurd rfl h1 | exact h2
  | cond x p q ihp ihq =>
    intro ψ tm ds h n a w hnr hst hc
    have hnr : yC p = true ∧ yC q = true := by simpa [yC] using hnr
    unfold zR at hc ⊢
    cases hx : zd P ⟨F, N, []⟩ x with
    | none => simp only [hx] at hc; exact hc.elim
    | some cx =>
      simp only [hx] at hc ⊢
      have hv := zGG hst (dl := []) (es := []) (fun t i hi => by cases hi) [x] x (by simp) cx hx
      have hc : za (zFa (zi P call (zR P F N p)) (zi P call (zR P F N q)) (aV [] tm cx) tm ds h n) := hc
      show (Code.cond x p q).wp P (yw P F N ψ (zD.fam h) n w (zFa (zi P call (zR P F N p)) (zi P call (zR P F N q)) (aV [] tm cx) tm ds h n)) a w
      revert hc
      refine zDX (C := fun k => za (k tm ds h n) → (Code.cond x p q).wp P (yw P F N ψ (zD.fam h) n w (k tm ds h n)) a w) _ (fun e hc => ?_) (fun e hc => ?_) (fun hc => hc.elim)
      · rw [e] at hv
        exact wp_cond_true (zJ.1 hv) (ihp hnr.1 hst hc)
      · rw [e] at hv
        exact wp_cond_false (zJ.1 hv) (ihq hnr.2 hst hc)
  | block id b ih =>
    intro ψ tm ds h n a w hnr hst hc
    have hc : za (wi id (zi P call (zR P F N b) tm ds h n)) := hc
    refine wp_block (wp_mono (ih hnr hst (qu id hc)) fun e a' w' ho => ?_)
    exact wm (fun _ _ _ h => h) ho
  | loop b ih =>
    intro ψ tm ds h n a w hnr hst hc
    rw [zEx, zIk] at hc ⊢
    have main : ∀ (fuel : Nat) {ψ : Psi} {tm : Tm} {ds : xM} {h : zD} {n : Key} {a : Act} {w : World}, St P F N ψ tm ds h n a w → za (ub fuel (zi P call (zR P F N b)) tm ds h n) →
        w7 P b (yw P F N ψ (zD.fam h) n w (ub fuel (zi P call (zR P F N b)) tm ds h n)) a w := by
      intro fuel
      induction fuel with
      | zero => intro ψ tm ds h n a w _ hc; exact hc.elim
      | succ m ihm =>
        intro ψ tm ds h n a w hst hc
        have hc : za (xp (ub m (zi P call (zR P F N b))) (zi P call (zR P F N b) tm ds h n)) := hc
        have hab : ∀ tm ds h n, zh n (ub m (zi P call (zR P F N b)) tm ds h n) := by
          have : ∀ (fuel : Nat) (tm : Tm) (ds : xM) (h : zD) (n : Key), zh n (ub fuel (zi P call (zR P F N b)) tm ds h n) := by
            intro fuel
            induction fuel with
            | zero => intros; trivial
            | succ m ih => intro tm ds h n; exact qD ih (yi hcall.above _ tm ds h n)
          exact this m
        refine zFU (wp_mono (ih hnr hst (xP hab hc)) fun e a' w' ho => ?_)
        rcases jK hc ho with ⟨rfl, tm', ds', h', n', ψ', h2, h3, h4, h5⟩ | ⟨h1, h2⟩
        · intro b' k cs
          obtain ⟨e, a'', w'', hq, harr⟩ := ihm h2 h4 b' k cs
          exact ⟨e, a'', w'', h5 e a'' w'' (yw.trans h3 hq), harr⟩
        · cases e <;> first | exact absurd rfl h1 | exact h2
    exact zEh (main vk hst hc)
  | exit id => intro ψ tm ds h n a w _ hst hc; exact wp_exit ⟨rfl, ψ, hst, zy.refl hst.rel, hc⟩
  | ret => intro ψ tm ds h n a w _ hst hc; exact wp_ret ⟨trivial, ψ, hst, zy.refl hst.rel, hc⟩
  | scope b ih =>
    intro ψ tm ds h n a w hnr hst hc
    exact wp_scope_straight (wp_mono (ih hnr hst hc) fun e a' w' ho => uv (fun h => h) ho)
  | _ => intro ψ tm ds h n a w _ hst hc; exact hc.elim
end
end Go.Ev

namespace Go.Ev
variable [Sym]
noncomputable section
variable {P : Program}
variable [SymFact P]
theorem vt {F N : Nat} {ψ : Psi} {tm : Tm} {a : Act} {t : Nat} {x : zS} (hf : xD ψ F N tm a) (hx : zd P ⟨F, N, []⟩ (.tmp t) = some x) : zH ψ (aV [] tm x) (a.tmps.getD t undef) := by
  unfold zd y9 at hx
  simp only at hx
  split at hx
  · rename_i hb
    injection hx with hx; subst hx
    rw [Bool.and_eq_true, Bool.and_eq_true] at hb
    exact hf.tmp t hb.1.1 (zP hb.1.2) (zP hb.2)
  · cases hx
theorem zBZ {ψ : Psi} {h : zD} {w : World} (hrel : x6 ψ (zD.fam h) w) {b : Key} {p : Pl} {vs : List CV} (hp : ψ b = some p) (hv : uV h b = some vs) : zA1 ψ w p vs := by
  unfold uV at hv
  split at hv
  · rename_i q hq; injection hv with hv; subst hv; exact yP.toRo (hrel b _ p hq hp)
  · rename_i q hq; injection hv with hv; subst hv; exact hrel b _ p hq hp
  · cases hv
def zHv (tmps : Array Value) : ResultVar → Sem Value
  | .tmp t => pure (tmps.getD t undef)
  | .cell a t => do loadVar t (← asAddr (tmps.getD a undef))
theorem zMf {F N : Nat} {ψ : Psi} {tm : Tm} {a : Act} {h : zD} {w : World} (hf : xD ψ F N tm a) (hrel : x6 ψ (zD.fam h) w) {r : ResultVar} {c : CRes} {v : CV} (hc : xL P F N r = some c)
    (hv : zMR h tm c = some v) : ∃ x, (zHv a.tmps r).run P w = .ok x w ∧ zH ψ v x := by
  unfold xL at hc
  split at hc
  · rename_i t
    cases hx : zd P ⟨F, N, []⟩ (.tmp t) with
    | none => rw [hx] at hc; cases hc
    | some x =>
      rw [hx] at hc
      injection hc with hc; subst hc
      injection hv with hv; subst hv
      exact ⟨_, rfl, vt hf hx⟩
  · rename_i t ty
    split at hc
    · rename_i s x ha hs hx
      injection hc with hc; subst hc
      have hr := vt hf hx
      unfold zMR at hv
      simp only at hv
      split at hv
      · rename_i b off he
        rw [he, zm] at hr
        obtain ⟨p, hp, hr⟩ := hr
        split at hv
        · rename_i cs hcs
          have hcells := zBZ hrel hp hcs
          cases hl : vw cs off s with
          | none => rw [hl] at hv; cases hv
          | some l =>
            rw [hl] at hv
            injection hv with hv; subst hv
            obtain ⟨xs, hrun, hxs⟩ := xT (P := P) hcells hl
            exact ⟨.agg xs.toArray, by simp only [zHv, hr, asAddr, Sem.run_bind, Sem.run_pure, Result.andThen_ok, loadVar, qN ha, if_true, yU hs, hrun], ye.2 ⟨_, rfl, by simpa using hxs⟩⟩
        · cases hv
      · cases hv
    · rename_i s x ha hs hx
      injection hc with hc; subst hc
      have hr := vt hf hx
      unfold zMR at hv
      simp only at hv
      split at hv
      · rename_i b off he
        rw [he, zm] at hr
        obtain ⟨p, hp, hr⟩ := hr
        split at hv
        · rename_i cs hcs
          have hcells := zBZ hrel hp hcs
          rw [kj] at hv
          obtain ⟨y, hrun, hy⟩ := uR (P := P) hcells hv
          exact ⟨y, by simp only [zHv, hr, asAddr, Sem.run_bind, Sem.run_pure, Result.andThen_ok, loadVar, qN ha, Bool.false_eq_true, if_false, hrun], hy⟩
        · cases hv
      · cases hv
    · cases hc
theorem zDp {F N : Nat} {ψ : Psi} {tm : Tm} {a : Act} {h : zD} {w : World} (hf : xD ψ F N tm a) (hrel : x6 ψ (zD.fam h) w) : ∀ {l : List ResultVar} {cs : List CRes} {vs : List CV},
    yq (xL P F N) l = some cs → zAx h tm cs = some vs → ∃ xs, (l.mapM (zHv a.tmps)).run P w = .ok xs w ∧ zT ψ vs xs
  | [], cs, vs, hc, hv => by
    injection hc with hc; subst hc
    injection hv with hv; subst hv
    exact ⟨[], rfl, zM.2 rfl⟩
  | r :: l, cs, vs, hc, hv => by
    unfold yq at hc
    cases h1 : xL P F N r with
    | none => rw [h1] at hc; cases hc
    | some c =>
      simp only [h1] at hc
      cases h2 : yq (xL P F N) l with
      | none => rw [h2] at hc; cases hc
      | some cs' =>
        simp only [h2] at hc
        injection hc with hc; subst hc
        unfold zAx at hv
        cases h3 : zMR h tm c with
        | none => rw [h3] at hv; cases hv
        | some v =>
          simp only [h3] at hv
          cases h4 : zAx h tm cs' with
          | none => rw [h4] at hv; cases hv
          | some vs' =>
            simp only [h4] at hv
            injection hv with hv; subst hv
            obtain ⟨x, g1, g2⟩ := zMf hf hrel h1 h3
            obtain ⟨xs, g3, g4⟩ := zDp hf hrel h2 h4
            exact ⟨x :: xs, by simp only [List.mapM_cons, Sem.run_bind, g1, Result.andThen_ok, g3, Sem.run_pure], zX.2 ⟨g2, g4⟩⟩
theorem zB0 {F N : Nat} {ψ : Psi} {tm : Tm} {a : Act} {h : zD} {w : World} {fn : Func} (hf : xD ψ F N tm a) (hrel : x6 ψ (zD.fam h) w) {cs : List CRes} {v : CV}
    (hc : yq (xL P F N) fn.results.toList = some cs) (hv : zBa h tm cs = some v) : ∃ x, (results fn a.tmps).run P w = .ok x w ∧ zH ψ v x := by
  have hm : ∀ {xs : List Value}, (fn.results.toList.mapM (zHv a.tmps)).run P w = .ok xs w → (fn.results.mapM (zHv a.tmps)).run P w = .ok xs.toArray w := by
    intro xs hx
    rw [Array.mapM_eq_mapM_toList, Sem.run_map, hx]; rfl
  have hres : (results fn a.tmps).run P w = ((fn.results.mapM (zHv a.tmps)).run P w).andThen fun vs w => .ok (if h : vs.size = 1 then vs[0] else .tuple vs) w := by
    have : results fn a.tmps = (fn.results.mapM (zHv a.tmps) >>= fun vs => pure (if h : vs.size = 1 then vs[0] else .tuple vs)) := by
      unfold results
      congr 1
    rw [this, Sem.run_bind]; rfl
  unfold zBa at hv
  split at hv
  · rename_i u hl
    injection hv with hv; subst hv
    obtain ⟨xs, h1, h2⟩ := zDp hf hrel hc hl
    obtain ⟨x, r, rfl, h3, h4⟩ := zb.1 h2
    rw [zM] at h4; subst h4
    exact ⟨x, by rw [hres, hm h1, Result.andThen_ok]; rfl, h3⟩
  · rename_i vs hne hl
    injection hv with hv; subst hv
    obtain ⟨xs, h1, h2⟩ := zDp hf hrel hc hl
    refine ⟨.tuple xs.toArray, ?_, yG.2 ⟨_, rfl, h2⟩⟩
    rw [hres, hm h1, Result.andThen_ok]
    have : ¬ (xs.toArray.size = 1) := by
      intro h
      have hl := h2.length
      have : vs.length = 1 := by simp at h; omega
      match vs, this with
      | [u], _ => exact hne u rfl
    rw [dif_neg this]
  · cases hv
theorem zHq {i j : Nat} (hi : i ≤ 271) (hj : j ≤ 271) (h : i ≠ j) : Loc.ofNat i ≠ Loc.ofNat j := fun e => h (Loc.ofNat_inj hi hj e)
theorem zFC {ψ : Psi} : ∀ (args : List CV) (as : List Value) (i : Nat) (tm : Tm) (t : Nat) (v : Value), zT ψ args as → t ≤ 271 → (t < i ∨ i + as.length ≤ t → zH ψ (qO (Loc.ofNat t) tm) v) → (∀ u, i ≤ t → as[t - i]? = some u → u = v) →
    (i ≤ t → qO (Loc.ofNat t) tm = .any) → zH ψ (qO (Loc.ofNat t) (qE args i tm)) v
  | [], as, i, tm, t, v, ha, ht, h1, h2, h3 => by
    rw [zM] at ha; subst ha
    show zH ψ (qO (Loc.ofNat t) tm) v
    rcases Nat.lt_or_ge t i with h | h
    · exact h1 (.inl h)
    · exact h1 (.inr (by simpa using h))
  | c :: args, as, i, tm, t, v, ha, ht, h1, h2, h3 => by
    obtain ⟨x, r, rfl, hx, hr⟩ := zb.1 ha
    unfold qE
    split
    · rename_i hle
      have hle := zP hle
      refine zFC args r (i + 1) (kL c (Loc.ofNat i) tm) t v hr ht (fun h => ?_) (fun u hu hg => ?_) (fun hu => ?_)
      · by_cases e : t = i
        · subst e
          rw [qx]
          have : x = v := h2 x (Nat.le_refl _) (by simp)
          rw [← this]; exact hx
        · rw [xN _ _ _ _ (zHq ht hle e)]
          refine h1 ?_
          rcases h with h | h
          · exact .inl (by omega)
          · exact .inr (by simp; omega)
      · refine h2 u (by omega) ?_
        have : t - i = (t - (i + 1)) + 1 := by omega
        rw [this]; simpa using hg
      · rw [xN _ _ _ _ (zHq ht hle (by omega))]
        exact h3 (by omega)
    · rename_i hle
      have hlt : ¬ i ≤ 271 := fun h => by rw [Nat.ble_eq_true_of_le h] at hle; cases hle
      exact h1 (.inl (by omega))
theorem zMA {ψ : Psi} {F N : Nat} {args : List CV} {as : Array Value} (ha : zT ψ args as.toList) : xD ψ F N (qE args 0 .nil) { tmps := as ++ Array.replicate (N - as.size) undef, defers := [] } := by
  refine ⟨by simp; omega, fun t _ ht hN => ?_⟩
  refine zFC args as.toList 0 .nil t _ ha ht (fun _ => by rw [zEj]; exact xy) (fun u _ hu => ?_) (fun _ => zEj _)
  simp only [Nat.sub_zero, Array.getElem?_toList] at hu
  have hlt : t < as.size := by
    rcases Nat.lt_or_ge t as.size with h | h
    · exact h
    · rw [Array.getElem?_eq_none h] at hu; cases hu
  rw [Array.getD_eq_getD_getElem?, Array.getElem?_append_left hlt, hu]; rfl
theorem uh {rs : List CRes} {tm : Tm} {h : zD} {n : Key} : zh n (zBM rs tm h n) := by
  unfold zBM; split
  · exact Nat.le_refl _
  · trivial
theorem zAP {call : yS} {k : zD → Key → R} {f : FuncId} {args : List CV} {r : xM} {h : zD} {n : Key} :
    kv call k ((f, args) :: r) h n = qa (fun _ h n => kv call k r h n) (call true f args h n) := rfl
theorem wG {call : yS} (hcall : yj call) {k : zD → Key → R} (hk : ∀ h n, zh n (k h n)) : ∀ (ds : xM) (h : zD) (n : Key), zh n (kv call k ds h n)
  | [], h, n => hk h n
  | (f, args) :: r, h, n => by
    rw [zAP]
    exact qT (fun _ h n => wG hcall hk r h n) (hcall _ _ _ _ _)
theorem kl {call : yS} (hcall : yj call) (d : Bool) (rs : List CRes) (tm : Tm) (ds : xM) (h : zD) (n : Key) : zh n (qp d call rs tm ds h n) := by
  unfold qp
  split
  · exact uh
  · split
    · exact wG hcall (fun _ _ => uh) _ _ _
    · trivial
theorem jb {call : yS} (hcall : yj call) {n : Key} (d : Bool) (rs : List CRes) : ∀ {r : R}, zh n r → zh n (yg d call rs r)
  | .ok .normal tm ds h n', ha => zh.le ha (kl hcall d rs tm ds h n')
  | .ok (.exit _) .., _ => trivial
  | .ok .ret tm ds h n', ha => zh.le ha (kl hcall d rs tm ds h n')
  | .ret .., _ => trivial
  | .err _, _ => trivial
  | .fork _ _, h => ⟨jb hcall d rs h.1, jb hcall d rs h.2⟩
theorem xG {call : yS} (hcall : yj call) (d : Bool) (rs : List CRes) : ∀ {r : R}, za (yg d call rs r) → za r
  | .ok .normal tm ds h n', hc => wy hc (kl hcall d rs tm ds h n')
  | .ok (.exit _) .., hc => hc.elim
  | .ok .ret tm ds h n', hc => wy hc (kl hcall d rs tm ds h n')
  | .ret .., hc => hc.elim
  | .err _, hc => hc.elim
  | .fork _ _, h => ⟨xG hcall d rs h.1, xG hcall d rs h.2⟩
section
variable {F N : Nat} {call : yS} {fn : Func} {ψ₀ : Psi} {g₀ : Fam} {n₀ : Key} {w₀ : World}
theorem zn.trans {ψ₁ : Psi} {g₁ : Fam} {n₁ : Key} {w₁ : World} (hp : zy ψ₀ g₀ n₀ w₀ ψ₁ g₁ n₁ w₁) {v : Value} {w : World} : ∀ {r : R}, zn ψ₁ g₁ n₁ w₁ r v w → zn ψ₀ g₀ n₀ w₀ r v w
  | .ok .., h => h
  | .ret .., ⟨ψ, h1, h2⟩ => ⟨ψ, hp.trans h1, h2⟩
  | .err _, h => h
  | .fork _ _, h => h.imp (zn.trans hp) (zn.trans hp)
theorem vz {k : CV → zD → Key → R} {v : Value} {w : World} {Z : Prop} : ∀ {r : R}, za (qa k r) → zn ψ₀ g₀ n₀ w₀ r v w →
    (∀ cv h n ψ, zy ψ₀ g₀ n₀ w₀ ψ (zD.fam h) n w → zH ψ cv v → za (k cv h n) → (∀ u w', zn ψ₀ g₀ n₀ w₀ (k cv h n) u w' → zn ψ₀ g₀ n₀ w₀ (qa k r) u w') → Z) → Z
  | .ok .., _, h, _ => h.elim
  | .err _, _, h, _ => h.elim
  | .ret cv h n, hc, ⟨ψ, h1, h2⟩, hz => hz cv h n ψ h1 h2 hc fun _ _ h => h
  | .fork r s, hc, h, hz => by
    rcases h with h | h
    · exact vz hc.1 h fun cv h n ψ a b c d => hz cv h n ψ a b c fun u w' q => .inl (d u w' q)
    · exact vz hc.2 h fun cv h n ψ a b c d => hz cv h n ψ a b c fun u w' q => .inr (d u w' q)
theorem qo {tmps : Array Value} {R R' : Ending → World → Prop} (hR : ∀ e w, R e w → R' e w) : ∀ (ds : List Deferred) (u : FrameMode) (w : World), Leaves P fn tmps R ds u w → Leaves P fn tmps R' ds u w
  | [], .returning, w, ⟨v, h1, h2⟩ => ⟨v, h1, hR _ _ h2⟩
  | [], .panicking _, w, h => hR _ _ h
  | [], .run, w, h => h
  | d :: ds, u, w, ⟨h0, fv, cap, f, args, h1, h2, h3⟩ => ⟨h0, fv, cap, f, args, h1, h2, CallsD.mono h3 fun e u' w' he => by
      cases e with
      | returned v => exact qo hR ds _ _ he
      | panicked c => exact qo hR ds _ _ he
      | outgrown => exact hR _ _ he⟩
theorem zCe (hcall : ym P call) {rs : List CRes} {tm : Tm} (hrs : yq (xL P F N) fn.results.toList = some rs) : ∀ (ds : xM) {ψ : Psi} {h : zD} {n : Key} {a : Act} {w : World} {l : List Deferred},
    xD ψ F N tm a → jY P ψ ds l → Rel ψ (zD.fam h) w → kU P ψ → x7 ψ n → za (kv call (fun h n => zBM rs tm h n) ds h n) →
    Leaves P fn a.tmps (fun e w' => ∃ v, e = .returned v ∧ zn ψ (zD.fam h) n w (kv call (fun h n => zBM rs tm h n) ds h n) v w') l .returning w
  | [], ψ, h, n, a, w, l, hf, hd, hrel, hg, hfr, hc => by
    unfold jY at hd; subst hd
    have hc : za (zBM rs tm h n) := hc
    show ∃ v, (results fn a.tmps).run P w = .ok v w ∧ ∃ v', Ending.returned v = .returned v' ∧ zn ψ (zD.fam h) n w (zBM rs tm h n) v' w
    unfold zBM at hc ⊢
    cases hv : zBa h tm rs with
    | none => rw [hv] at hc; exact hc.elim
    | some v =>
      obtain ⟨x, h1, h2⟩ := zB0 hf hrel.on hrs hv
      exact ⟨x, h1, x, rfl, ψ, zy.refl hrel, h2⟩
  | (f, args) :: r, ψ, h, n, a, w, l, hf, hd, hrel, hg, hfr, hc => by
    obtain ⟨d, l', rfl, ⟨fv, cap, args', e1, e2, e3⟩, hd'⟩ := hd
    rw [zAP] at hc ⊢
    have hcl := qQ (fun _ h n => wG hcall.above (fun _ _ => uh) r h n) hc
    obtain ⟨h1, h2⟩ := hcall.defers f args h n ψ w args' e3 hg hrel hfr hcl
    refine ⟨by simp, fv, cap, f, args', e1, by rw [e2, h1], CallsD.mono h2 fun e u w' ⟨hu, v, he, v', hr⟩ => ?_⟩
    subst hu he
    show Leaves P fn a.tmps _ l' (settle .returning) w'
    refine vz hc hr fun cv h' n' ψ' q1 q2 q3 q4 => ?_
    have := zCe hcall hrs r (hf.mono q1.ext) (hd'.mono q1.ext) q1.rel (hg.mono q1.ext) (q1.fresh hfr) q3
    refine qo (fun e w'' ⟨v, he, hr⟩ => ⟨v, he, q4 _ _ (zn.trans q1 hr)⟩) _ _ _ this
theorem zFp (hcall : ym P call) {rs : List CRes} (hrs : yq (xL P F N) fn.results.toList = some rs) {ψ : Psi} {tm : Tm} {ds : xM} {h : zD} {n : Key} {a : Act} {w : World}
    (hst : St P F N ψ tm ds h n a w) (hc : za (qp false call rs tm ds h n)) :
    Leaves P fn a.tmps (fun e w' => ∃ v, e = .returned v ∧ zn ψ (zD.fam h) n w (qp false call rs tm ds h n) v w') a.defers .returning w := by
  have e : qp false call rs tm ds h n = kv call (fun h n => zBM rs tm h n) ds h n := by cases ds <;> rfl
  rw [e] at hc ⊢
  exact zCe hcall hrs ds hst.frame hst.dfr hst.rel hst.glob hst.fresh hc
theorem zDl {rs : List CRes} (hrs : yq (xL P F N) fn.results.toList = some rs) {ψ : Psi} {tm : Tm} {ds : xM} {h : zD} {n : Key} {a : Act} {w : World}
    (hst : St P F N ψ tm ds h n a w) (hc : za (qp true call rs tm ds h n)) :
    a.defers = [] ∧ ∃ v, (results fn a.tmps).run P w = .ok v w ∧ zn ψ (zD.fam h) n w (qp true call rs tm ds h n) v w := by
  cases ds with
  | cons f ds => exact hc.elim
  | nil =>
    have hd := hst.dfr
    unfold jY at hd
    refine ⟨hd, ?_⟩
    have hc : za (zBM rs tm h n) := hc
    show ∃ v, _ ∧ zn ψ (zD.fam h) n w (zBM rs tm h n) v w
    unfold zBM at hc ⊢
    cases hv : zBa h tm rs with
    | none => rw [hv] at hc; exact hc.elim
    | some v =>
      obtain ⟨x, h1, h2⟩ := zB0 hst.frame hst.rel.on hrs hv
      exact ⟨x, h1, ψ, zy.refl hst.rel, h2⟩
theorem kD (d : Bool) (rs : List CRes) {e : Exit} {a : Act} {w : World} {Z : Prop} : ∀ {r : R}, za (yg d call rs r) → yw P F N ψ₀ g₀ n₀ w₀ r e a w →
    (∀ tm ds h n ψ, (e = .normal ∨ e = .ret) → St P F N ψ tm ds h n a w → zy ψ₀ g₀ n₀ w₀ ψ (zD.fam h) n w → za (qp d call rs tm ds h n) →
      (∀ u w', zn ψ₀ g₀ n₀ w₀ (qp d call rs tm ds h n) u w' → zn ψ₀ g₀ n₀ w₀ (yg d call rs r) u w') → Z) → Z
  | .ok .normal tm ds h n, hc, ⟨h1, ψ, h2, h3, h4⟩, hz => hz tm ds h n ψ (by cases e <;> first | exact .inl rfl | exact h1.elim) h2 h3 hc fun _ _ h => h
  | .ok (.exit _) .., hc, _, _ => hc.elim
  | .ok .ret tm ds h n, hc, ⟨h1, ψ, h2, h3, h4⟩, hz => hz tm ds h n ψ (by cases e <;> first | exact .inr rfl | exact h1.elim) h2 h3 hc fun _ _ h => h
  | .ret .., hc, _, _ => hc.elim
  | .err _, hc, _, _ => hc.elim
  | .fork r s, hc, ho, hz => by
    rcases ho with ho | ho
    · exact kD d rs hc.1 ho fun tm ds h n ψ a b c d e => hz tm ds h n ψ a b c d fun u w' q => .inl (e u w' q)
    · exact kD d rs hc.2 ho fun tm ds h n ψ a b c d e => hz tm ds h n ψ a b c d fun u w' q => .inr (e u w' q)
end
end
end Go.Ev

namespace Go.Ev
variable [Sym]
noncomputable section
variable {P : Program}
variable [SymFact P]
structure NatsOk (P : Program) (nat : Nats) : Prop where
  above : ∀ f g, nat f = some g → ∀ d args h n, zh n (g ‹Sym› d args h n)
  calls : ∀ f g, nat f = some g → ∀ args h n ψ w args', zT ψ args args'.toList → kU P ψ → Rel ψ (zD.fam h) w → x7 ψ n → za (g ‹Sym› false args h n) →
    yf P f args' w (zn ψ (zD.fam h) n w (g ‹Sym› false args h n))
  defers : ∀ f g, nat f = some g → ∀ args h n ψ w args', zT ψ args args'.toList → kU P ψ → Rel ψ (zD.fam h) w → x7 ψ n → za (g ‹Sym› true args h n) →
    zDj P f args' w fun w' => ∃ v, zn ψ (zD.fam h) n w (g ‹Sym› true args h n) v w'
omit [Sym] [SymFact P] in
theorem run_callFunc_enter {f : FuncId} {fn : Func} {c : Code} (hf : P.funcs[f]? = some fn) (hn : (fn.name == "runtime.NumGoroutine") = false) (hb : fn.body = some c) (args : Array Value) (w : World) :
    (callFunc f args).run P w = .ok (.enter f args) w := by
  have h1 : fn.name ≠ "runtime.NumGoroutine" := by simpa using hn
  simp [callFunc, hf, h1, hb]
section
variable {call : yS} (hcall : ym P call) (hdraw : ∀ F N, jZ P F N call)
include hcall
theorem zJd (e : Ext) (args : List CV) (h : zD) (n : Key) : zh n (zMm (zBh e args h n) h n) := by
  have := zIE (h := h) (n := n) e args
  generalize zBh e args h n = r at this
  cases r <;> first | exact Nat.le_refl _ | exact this | trivial
theorem zH4 (d : Bool) (fn : CFn) (args : List CV) (h : zD) (n : Key) : zh n (ua P d call fn args h n) := by
  cases fn with
  | mk body res => exact jb hcall.above d res (yi hcall.above body _ _ h n)
  | mkD ops body res =>
    show zh n (match d with
      | true => yg true call res (xp (zi P call body) (yb P call ops [] (qE args 0 .nil) [] h n))
      | false => .err 311)
    cases d with
    | true => exact jb hcall.above true res (qD (fun tm ds h n => yi hcall.above body tm ds h n) (jG hcall.above ops [] _ _ h n))
    | false => trivial
  | ext e =>
    show zh n (match d with
      | true => .err 313
      | false => zMm (zBh e args h n) h n)
    cases d with
    | true => trivial
    | false => exact zJd hcall e args h n
  | bad c => trivial
include hdraw
theorem zBj {F N : Nat} {args : List CV} {args' : Array Value} {h : zD} {n : Key} {ψ : Psi} {w : World} (ha : zT ψ args args'.toList) (hg : kU P ψ) (hrel : Rel ψ (zD.fam h) w) (hfr : x7 ψ n) :
    St P F N ψ (qE args 0 .nil) [] h n { tmps := args' ++ Array.replicate (N - args'.size) undef, defers := [] } w :=
  ⟨zMA ha, rfl, hrel, hg, hfr⟩
theorem zB6 {f : FuncId} {args : List CV} {args' : Array Value} {h : zD} {n : Key} {ψ : Psi} {w : World} (ha : zT ψ args args'.toList) (hg : kU P ψ) (hrel : Rel ψ (zD.fam h) w) (hfr : x7 ψ n)
    (hc : za (ua P false call (compFn P f) args h n)) : yf P f args' w (zn ψ (zD.fam h) n w (ua P false call (compFn P f) args h n)) := by
  unfold compFn at hc ⊢
  rw [yN] at hc ⊢
  cases hf : P.funcs.toList[f]? with
  | none => simp only [hf] at hc; exact hc.elim
  | some fn =>
    have hf' : P.funcs[f]? = some fn := by simpa using hf
    simp only [hf] at hc ⊢
    cases hb : fn.body with
    | none =>
      simp only [hb] at hc ⊢
      cases he : zAX P fn with
      | none => simp only [he] at hc; exact hc.elim
      | some e =>
        simp only [he] at hc ⊢
        obtain ⟨en, h1, h2, h3, h4⟩ := zDT he
        have hout := zKP (P := P) (h := h) (n := n) (w := w) he h1 ha
        have hrun := run_callFunc_extern (P := P) hf' h2 (by rw [hb]; rfl) h3 h4 args' w
        have hc : za (zMm (zBh e args h n) h n) := hc
        show yf P f args' w (zn ψ (zD.fam h) n w (zMm (zBh e args h n) h n))
        have hoa := zIE (h := h) (n := n) e args
        generalize zBh e args h n = r at hout hc hoa
        unfold yf
        cases r <;> first | exact hout.elim | exact hc.elim | skip
        case val v =>
          obtain ⟨x, g1, g2⟩ := hout
          rw [hrun, g1]
          exact ⟨ψ, zy.refl hrel, g2⟩
        case eff v h' n' =>
          obtain ⟨w', x, ψ', g1, g2, g3⟩ := hout hrel (fun k hk _ => hfr k hk) hc
          rw [hrun, g1]
          exact ⟨ψ', g2, g3⟩
    | some c =>
      simp only [hb] at hc ⊢
      split at hc
      · exact hc.elim
      · rename_i hn
        have hn : (fn.name == "runtime.NumGoroutine") = false := by simpa using hn
        rw [if_neg (by rw [hn]; simp)]
        unfold zA3 at hc ⊢
        cases hrs : yq (xL P (frameBits fn c) fn.ntmps) fn.results.toList with
        | none => simp only [hrs] at hc; exact hc.elim
        | some rs =>
          simp only [hrs] at hc ⊢
          split at hc
          · rename_i hnr
            rw [if_pos hnr]
            unfold yf
            rw [run_callFunc_enter hf' hn hb]
            have hc : za (yg false call rs (zi P call (zR P (frameBits fn c) fn.ntmps c) (qE args 0 .nil) [] h n)) := hc
            show Calls P f args' w fun e w'' => ∃ v, e = .returned v ∧ zn ψ (zD.fam h) n w (yg false call rs (zi P call (zR P (frameBits fn c) fn.ntmps c) (qE args 0 .nil) [] h n)) v w''
            refine calls_of_wp_defers hf' hb (wp_mono (wc hcall (hdraw _ _) c hnr (zBj hcall hdraw ha hg hrel hfr) (xG hcall.above false rs hc)) fun e a w' ho => ?_)
            refine kD false rs hc ho fun tm ds h' n' ψ' q1 q2 q3 q4 q5 => ?_
            have hl := zFp hcall hrs q2 q4
            have : Leaves P fn a.tmps (fun e w'' => ∃ v, e = .returned v ∧ zn ψ (zD.fam h) n w (yg false call rs (zi P call (zR P (frameBits fn c) fn.ntmps c) (qE args 0 .nil) [] h n)) v w'') a.defers .returning w' :=
              qo (fun e w'' ⟨v, he, hr⟩ => ⟨v, he, q5 _ _ (zn.trans q3 hr)⟩) _ _ _ hl
            rcases q1 with rfl | rfl
            · exact this
            · exact this
          · rename_i hnr
            split at hc
            · split at hc <;> exact hc.elim
            · exact hc.elim
theorem zAL {f : FuncId} {args : List CV} {args' : Array Value} {h : zD} {n : Key} {ψ : Psi} {w : World} (ha : zT ψ args args'.toList) (hg : kU P ψ) (hrel : Rel ψ (zD.fam h) w) (hfr : x7 ψ n)
    (hc : za (ua P true call (compFn P f) args h n)) : zDj P f args' w fun w' => ∃ v, zn ψ (zD.fam h) n w (ua P true call (compFn P f) args h n) v w' := by
  unfold compFn at hc ⊢
  rw [yN] at hc ⊢
  cases hf : P.funcs.toList[f]? with
  | none => simp only [hf] at hc; exact hc.elim
  | some fn =>
    have hf' : P.funcs[f]? = some fn := by simpa using hf
    simp only [hf] at hc ⊢
    cases hb : fn.body with
    | none =>
      simp only [hb] at hc
      cases he : zAX P fn with
      | none => simp only [he] at hc; exact hc.elim
      | some e => simp only [he] at hc; exact hc.elim
    | some c =>
      simp only [hb] at hc ⊢
      split at hc
      · exact hc.elim
      · rename_i hn
        have hn : (fn.name == "runtime.NumGoroutine") = false := by simpa using hn
        rw [if_neg (by rw [hn]; simp)]
        unfold zA3 at hc ⊢
        cases hrs : yq (xL P (frameBits fn c) fn.ntmps) fn.results.toList with
        | none => simp only [hrs] at hc; exact hc.elim
        | some rs =>
          simp only [hrs] at hc ⊢
          refine ⟨run_callFunc_enter hf' hn hb _ _, ?_⟩
          split at hc
          · rename_i hnr
            rw [if_pos hnr]
            have hc : za (yg true call rs (zi P call (zR P (frameBits fn c) fn.ntmps c) (qE args 0 .nil) [] h n)) := hc
            show CallsD P f args' .returning w fun e u w' => u = .returning ∧ ∃ v, e = .returned v ∧ ∃ v, zn ψ (zD.fam h) n w (yg true call rs (zi P call (zR P (frameBits fn c) fn.ntmps c) (qE args 0 .nil) [] h n)) v w'
            refine callsD_of_wp hf' hb (wp_mono (wc hcall (hdraw _ _) c hnr (zBj hcall hdraw ha hg hrel hfr) (xG hcall.above true rs hc)) fun e a w' ho => ?_)
            refine kD true rs hc ho fun tm ds h' n' ψ' q1 q2 q3 q4 q5 => ?_
            obtain ⟨g1, v, g2, g3⟩ := zDl (call := call) hrs q2 q4
            rcases q1 with rfl | rfl
            · exact ⟨g1, v, g2, v, rfl, v, q5 _ _ (zn.trans q3 g3)⟩
            · exact ⟨g1, v, g2, v, rfl, v, q5 _ _ (zn.trans q3 g3)⟩
          · rename_i hnr
            rw [if_neg hnr]
            split at hc
            · rename_i c0 id ops r
              split at hc
              · rename_i hnr'
                rw [if_pos hnr']
                have hc : za (yg true call rs (xp (zi P call (zR P (frameBits fn (.seq (.region id ops false) r)) fn.ntmps r))
                  (yb P call (qb P (frameBits fn (.seq (.region id ops false) r)) fn.ntmps ops.toList [] ops.toList) [] (qE args 0 .nil) [] h n))) := hc
                generalize hF : frameBits fn (.seq (.region id ops false) r) = F at hc hrs
                show CallsD P f args' .returning w fun e u w' => u = .returning ∧ ∃ v, e = .returned v ∧ ∃ v, zn ψ (zD.fam h) n w (yg true call rs (xp (zi P call (zR P F fn.ntmps r))
                  (yb P call (qb P F fn.ntmps ops.toList [] ops.toList) [] (qE args 0 .nil) [] h n))) v w'
                have hc1 := xG hcall.above true rs hc
                have hab := fun tm ds h n => yi (P := P) hcall.above (zR P F fn.ntmps r) tm ds h n
                have hc2 := xP hab hc1
                refine callsD_of_wpS hf' hb fun c₀ cs hm => wpS_seq (wpS_region ?_)
                have hrec : recoverD (c₀ :: cs) = none := by unfold recoverD; simp [hm]
                have := zF1 (F := F) (N := fn.ntmps) hcall (zEn (P := P) ops (Exit.thenS (r.wpS P (bodyPostS P fn c₀ cs fun e u w' => u = .returning ∧ ∃ v, e = .returned v ∧ ∃ v, zn ψ (zD.fam h) n w (yg true call rs (xp (zi P call (zR P F fn.ntmps r))
                    (yb P call (qb P F fn.ntmps ops.toList [] ops.toList) [] (qE args 0 .nil) [] h n))) v w'))
                    (bodyPostS P fn c₀ cs fun e u w' => u = .returning ∧ ∃ v, e = .returned v ∧ ∃ v, zn ψ (zD.fam h) n w (yg true call rs (xp (zi P call (zR P F fn.ntmps r))
                    (yb P call (qb P F fn.ntmps ops.toList [] ops.toList) [] (qE args 0 .nil) [] h n))) v w')) hrec)
                  ops.toList 0 rfl (fun _ _ _ => rfl) (zBj hcall hdraw (F := F) (N := fn.ntmps) ha hg hrel hfr) (dl := []) (es := []) (fun t i hi => by cases hi) hc2
                  (fun tm' ds' h' n' ψ' a' w' g1 g2 g3 g4 => by
                    have k1 := g4 (fun r0 => za (yg true call rs (xp (zi P call (zR P F fn.ntmps r)) r0)) → za (yg true call rs (zi P call (zR P F fn.ntmps r) tm' ds' h' n')))
                      (fun x y hx hc => hx hc.1) (fun x y hy hc => hy hc.2) (fun h => h) hc
                    have k2 := g4 (fun r0 => ∀ u w'', zn ψ (zD.fam h) n w (yg true call rs (zi P call (zR P F fn.ntmps r) tm' ds' h' n')) u w'' →
                        zn ψ (zD.fam h) n w (yg true call rs (xp (zi P call (zR P F fn.ntmps r)) r0)) u w'')
                      (fun x y hx u w'' q => .inl (hx u w'' q)) (fun x y hy u w'' q => .inr (hy u w'' q)) (fun u w'' q => q)
                    show r.wpS P _ a' (c₀ :: cs) w'
                    refine wpS_of_wp (wp_mono (wc hcall (hdraw F fn.ntmps) r hnr' g1 (xG hcall.above true rs k1)) fun e a w'' ho => ?_)
                    refine kD true rs k1 ho fun tm ds h'' n'' ψ'' q1 q2 q3 q4 q5 => ?_
                    obtain ⟨g1', v, g2', g3'⟩ := zDl (call := call) hrs q2 q4
                    have hfin := k2 _ _ (zn.trans g2 (q5 _ _ (zn.trans q3 g3')))
                    have hm' : ({ c₀ with mode := .returning } : Frame) = c₀ := by rw [← hm]
                    rcases q1 with rfl | rfl
                    · exact ⟨g1', .returning, by rw [hm'], v, g2', rfl, v, rfl, v, hfin⟩
                    · exact ⟨g1', .returning, by rw [hm'], v, g2', rfl, v, rfl, v, hfin⟩)
                rw [Array.length_toList] at this
                rw [List.range_eq_range']
                exact this
              · exact hc.elim
            · exact hc.elim
end
def CodeOk (P : Program) (code : FuncId → CFn) : Prop := ∀ f, code f = compFn P f ∨ code f = zJS (compFn P f) ∨ ∃ c, code f = .bad c
theorem ue (hdraw : ∀ (call : yS), ym P call → ∀ F N, jZ P F N call) {code : FuncId → CFn} (hcode : CodeOk P code) {nat : Nats} (hnat : NatsOk P nat) : ∀ (fuel : Nat), ym P (ev P code nat fuel)
  | 0 => ⟨fun _ _ _ _ _ => trivial, fun _ _ _ _ _ _ _ _ _ _ _ hc => hc.elim, fun _ _ _ _ _ _ _ _ _ _ _ hc => hc.elim⟩
  | fuel + 1 => by
    have ih := ue hdraw hcode hnat fuel
    have hev : ∀ d f args h n, ev P code nat (fuel + 1) d f args h n = (match nat f with
        | none => ua P d (ev P code nat fuel) (code f) args h n
        | some g => g ‹Sym› d args h n) := by
      intro d f args h n
      show Option.rec (motive := fun _ => R) (ua P d (ev P code nat fuel) (code f) args h n) (fun g => g ‹Sym› d args h n) (nat f) = _
      cases nat f <;> rfl
    refine ⟨fun d f args h n => ?_, fun f args h n ψ w args' h1 h2 h3 h4 hc => ?_, fun f args h n ψ w args' h1 h2 h3 h4 hc => ?_⟩
    · rw [hev]
      split
      · exact zH4 ih d _ args h n
      · rename_i g hg
        exact hnat.above f g hg d args h n
    · rw [hev] at hc ⊢
      split at hc
      · rename_i hn
        rcases hcode f with e | e | ⟨c, e⟩
        · rw [e] at hc ⊢
          exact zB6 ih (hdraw _ ih) h1 h2 h3 h4 hc
        · rw [e, zFc] at hc ⊢
          exact zB6 ih (hdraw _ ih) h1 h2 h3 h4 hc
        · rw [e] at hc; exact hc.elim
      · rename_i g hg
        exact hnat.calls f g hg args h n ψ w args' h1 h2 h3 h4 hc
    · rw [hev] at hc ⊢
      split at hc
      · rename_i hn
        rcases hcode f with e | e | ⟨c, e⟩
        · rw [e] at hc ⊢
          exact zAL ih (hdraw _ ih) h1 h2 h3 h4 hc
        · rw [e, zFc] at hc ⊢
          exact zAL ih (hdraw _ ih) h1 h2 h3 h4 hc
        · rw [e] at hc; exact hc.elim
      · rename_i g hg
        exact hnat.defers f g hg args h n ψ w args' h1 h2 h3 h4 hc
end
end Go.Ev


