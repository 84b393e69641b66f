/- A verified evaluator for the model's code: EvU, EvV, EvW, EvX, EvY, EvZ, EvZa, EvZb, EvZc, EvZd. -/
import Derived.Test.YtphgaflpipibmaaGreatDoorEv4
import Derived.Laws.Externs
import Derived.KernelRfl
import Derived.Lib.Bytealg
import Derived.Recover
import Derived.Orders
import Derived.Scope
set_option linter.unusedSectionVars false
set_option linter.unusedVariables false
set_option linter.unusedSimpArgs false
namespace Go.Ev
variable [Sym]
open Go.MapKept
noncomputable section
variable {P : Program} {ψ : Psi} {es : List CV} {tm : Tm} {h : Heap} {n : Key} {ρ : Operand → Value} {E : Env} {ty : TypeId} {w : World}
variable [SymFact P]
theorem map_arr {c : Call} {l : List Operand} (h : c.args.toList = l) : c.args.map ρ = (l.map ρ).toArray := by
  rw [arr_of h]; simp
theorem sim_builtin (c : Call) (b : Builtin) (hc : c.callee = .builtin b) (ha : ArgsOk P ψ es tm E ρ c.args.toList) :
    SimAt P ψ h n ρ (.call c) ty w (exec P (compBuiltin P E b c.argTypes.toList c.args.toList) es tm h n) := by
  have hrun := fun w => run_call_builtin (P := P) (ρ := ρ) (ty := ty) hc w
  generalize hts : c.argTypes.toList = ts
  generalize has : c.args.toList = as at ha
  have hts' := arr_of hts
  have has' := map_arr (ρ := ρ) has
  rw [has', hts'] at hrun
  cases b <;> try exact sim_err _
  case append =>
    match ts, as with
    | t :: u :: r, [s, x] => exact sim_append (fun w => by rw [hrun w]; rfl) ha
    | _ :: _ :: _, [] => exact sim_err _
    | _ :: _ :: _, [_] => exact sim_err _
    | _ :: _ :: _, _ :: _ :: _ :: _ => exact sim_err _
    | [], _ => exact sim_err _
    | [_], _ => exact sim_err _
  case copy =>
    match ts, as with
    | t :: r, [s, x] => exact sim_copy (fun w => by rw [hrun w]; rfl) ha
    | _ :: _, [] => exact sim_err _
    | _ :: _, [_] => exact sim_err _
    | _ :: _, _ :: _ :: _ :: _ => exact sim_err _
    | [], _ => exact sim_err _
  case len =>
    match ts, as with
    | t :: r, [x] => exact sim_len (fun w => by rw [hrun w]; rfl) ha
    | _ :: _, [] => exact sim_err _
    | _ :: _, _ :: _ :: _ => exact sim_err _
    | [], _ => exact sim_err _
  case cap =>
    match ts, as with
    | t :: r, [x] => exact sim_cap (fun w => by rw [hrun w]; rfl) ha
    | _ :: _, [] => exact sim_err _
    | _ :: _, _ :: _ :: _ => exact sim_err _
    | [], _ => exact sim_err _
  case delete =>
    match ts, as with
    | t :: r, [m, k] => exact sim_delete (fun w => by rw [hrun w]; rfl) ha
    | _ :: _, [] => exact sim_err _
    | _ :: _, [_] => exact sim_err _
    | _ :: _, _ :: _ :: _ :: _ => exact sim_err _
    | [], _ => exact sim_err _
  case clear =>
    match ts, as with
    | t :: r, [x] => exact sim_clear (fun w => by rw [hrun w]; rfl) ha
    | _ :: _, [] => exact sim_err _
    | _ :: _, _ :: _ :: _ => exact sim_err _
    | [], _ => exact sim_err _
  case min =>
    match as with
    | x :: r => exact sim_minmax false (fun w => by rw [hrun w]; rfl) ha
    | [] => exact sim_err _
  case max =>
    match as with
    | x :: r => exact sim_minmax true (fun w => by rw [hrun w]; rfl) ha
    | [] => exact sim_err _
  case recover =>
    match as with
    | [] => exact ⟨by unfold isRec; simp [hc], by rw [hrun w]; rfl⟩
    | _ :: _ => exact sim_err _
def PRel (ψ : Psi) : CPlace → Place → Prop
  | .val c, x => ∃ v, x = .val v ∧ VRel ψ c v
  | .var b off, x => ∃ p, ψ b = some p ∧ x = .var ⟨p.blk, p.off + off, none⟩
theorem prel_var {b : Key} {off : Nat} {p : Pl} (hp : ψ b = some p) : PRel ψ (.var b off) (.var ⟨p.blk, p.off + off, none⟩) := ⟨p, hp, rfl⟩
theorem prel_val {c : CV} {v : Value} (hv : VRel ψ c v) : PRel ψ (.val c) (.val v) := ⟨v, rfl, hv⟩
theorem loadC_rel (hrel : RelOn ψ (Heap.fam h) w) {t : TypeId} {b : Key} {off : Nat} {c : CV} {p : Pl} (hp : ψ b = some p) (hc : loadC P h t b off = some c) :
    ∃ v, (loadVar t ⟨p.blk, p.off + off, none⟩).run P w = .ok v w ∧ VRel ψ c v := by
  unfold loadC at hc
  split at hc
  · rename_i a s vs ha hs hv
    have hcells : RoAt ψ w p vs := by
      unfold cellsAt at hv
      split at hv
      · rename_i q hq; injection hv with hv; subst hv; exact CellsAt.toRo (hrel b _ p hq hp)
      · rename_i q hq; injection hv with hv; subst hv; exact hrel b _ p hq hp
      · cases hv
    unfold partC at hc
    cases a with
    | true =>
      simp only at hc
      cases hl : subV vs off s with
      | none => rw [hl] at hc; cases hc
      | some l =>
        rw [hl] at hc
        injection hc with hc; subst hc
        obtain ⟨xs, hrun, hxs⟩ := run_loadMany (P := P) hcells hl
        exact ⟨.agg xs.toArray, by simp [loadVar, run_isAgg ha, run_szOf hs, hrun], vrel_agg.2 ⟨_, rfl, by simpa using hxs⟩⟩
    | false =>
      simp only [nthV_eq] at hc
      obtain ⟨y, hrun, hy⟩ := run_load1 (P := P) hcells hc
      exact ⟨y, by simp only [loadVar, Sem.run_bind, run_isAgg ha, Result.andThen_ok, Bool.false_eq_true, if_false, hrun], hy⟩
  · cases hc
theorem get_rel (hrel : RelOn ψ (Heap.fam h) w) {t : TypeId} {x : CPlace} {y : Place} {c : CV} (hx : PRel ψ x y) (hc : x.get P h t = some c) : ∃ v, (y.get t).run P w = .ok v w ∧ VRel ψ c v := by
  cases x with
  | val d =>
    obtain ⟨v, rfl, hv⟩ := hx
    injection hc with hc; subst hc
    exact ⟨v, rfl, hv⟩
  | var b off =>
    obtain ⟨p, hp, rfl⟩ := hx
    exact loadC_rel hrel hp hc
theorem stepAt_rel {s : FieldStep} {f : Field} (hs : stepAt P s = some f) : ∃ fs, P.underlying s.struct = some (.struct fs) ∧ fs[s.index]? = some f ∧ ∃ k, szOf P f.type = some (k + 1) := by
  unfold stepAt und at hs
  split at hs
  · rename_i fs ht
    rw [nth_eq] at hs
    split at hs
    · rename_i g hg
      split at hs
      · rename_i k hk
        injection hs with hs; subst hs
        exact ⟨fs, ht, by simpa using hg, k, hk⟩
      · cases hs
    · cases hs
  · cases hs
theorem follow_rel (hrel : RelOn ψ (Heap.fam h) w) : ∀ (l : List FieldStep) {t xt : TypeId} {x x' : CPlace} {y : Place}, PRel ψ x y → followC P h l t x = some (xt, x') →
    ∃ y', (follow l t y).run P w = .ok (xt, y') w ∧ PRel ψ x' y'
  | [], t, xt, x, x', y, hx, hf => by
    injection hf with hf; injection hf with h1 h2; subst h1 h2
    exact ⟨y, rfl, hx⟩
  | s :: rest, t, xt, x, x', y, hx, hf => by
    unfold followC at hf
    cases hs : stepAt P s with
    | none => rw [hs] at hf; cases hf
    | some f =>
      simp only [hs] at hf
      obtain ⟨fs, h1, h2, k, h3⟩ := stepAt_rel hs
      split at hf
      · rename_i hd
        split at hf
        · rename_i b off hg
          obtain ⟨v, hv, hr⟩ := get_rel hrel hx hg
          rw [vrel_ptr] at hr
          obtain ⟨p, hp, rfl⟩ := hr
          obtain ⟨y', g1, g2⟩ := follow_rel hrel rest (prel_var hp) hf
          refine ⟨y', ?_, g2⟩
          rw [← g1]
          simp [follow, run_underlying h1, h2, hd, hv, asAddr, fieldPlace, run_szOf h3, addr_add, Nat.add_assoc]
        · cases hf
      · rename_i hd
        split at hf
        · rename_i b off
          obtain ⟨p, hp, rfl⟩ := hx
          obtain ⟨y', g1, g2⟩ := follow_rel hrel rest (prel_var hp) hf
          refine ⟨y', ?_, g2⟩
          rw [← g1]
          simp [follow, run_underlying h1, h2, hd, fieldPlace, run_szOf h3, addr_add, Nat.add_assoc]
        · rename_i cs
          obtain ⟨v, rfl, hv⟩ := hx
          rw [vrel_agg] at hv
          obtain ⟨vs, rfl, hv⟩ := hv
          split at hf
          · rename_i a s' ha hs'
            split at hf
            · rename_i c hc
              have hp := part_rel (P := P) (off := f.offset) ha hs' hv w
              have : ∃ u, (part f.type vs f.offset).run P w = .ok u w ∧ VRel ψ c u := by
                unfold partC at hc
                cases a with
                | true =>
                  simp only at hc
                  cases hl : subV cs f.offset s' with
                  | none => rw [hl] at hc; cases hc
                  | some l => rw [hl] at hc; injection hc with hc; subst hc; exact hp.2 rfl l hl
                | false => exact hp.1 rfl c hc
              obtain ⟨u, hu, hur⟩ := this
              obtain ⟨y', g1, g2⟩ := follow_rel hrel rest (prel_val hur) hf
              refine ⟨y', ?_, g2⟩
              rw [← g1]
              simp [follow, run_underlying h1, h2, hd, hu]
            · cases hf
          · cases hf
        · cases hf
theorem receiver_rel (hrel : RelOn ψ (Heap.fam h) w) {xt : TypeId} {x : CPlace} {y : Place} {pr : Bool} {c : CV} (wr : Option String) (hx : PRel ψ x y) (hc : receiverC P h xt x pr = some c) :
    ∃ v, (receiverAt xt y pr wr).run P w = .ok v w ∧ VRel ψ c v := by
  unfold receiverC und at hc
  split at hc
  · rename_i e ht
    obtain ⟨v, hv, hr⟩ := get_rel hrel hx hc
    exact ⟨v, by simp [receiverAt, run_underlying ht, hv], hr⟩
  · rename_i e ht
    split at hc
    · rename_i b off hg
      obtain ⟨v, hv, hr⟩ := get_rel hrel hx hg
      rw [vrel_ptr] at hr
      obtain ⟨p, hp, rfl⟩ := hr
      obtain ⟨u, hu, hur⟩ := loadC_rel hrel hp hc
      refine ⟨u, ?_, hur⟩
      cases wr with
      | none => simp [receiverAt, run_underlying ht, hv, asAddr, hu]
      | some nm =>
        have hck : (Builtin.ssaWrapNilChk_ #[xt] xt #[.pointer (some ⟨p.blk, p.off + off, none⟩), strVal "", strVal nm]).run P w = .ok (.pointer (some ⟨p.blk, p.off + off, none⟩)) w := rfl
        simp only [receiverAt, Sem.run_bind, run_underlying ht, Result.andThen_ok, hv, hck, asAddr, Sem.run_pure, hu]
    · cases hc
  · rename_i D hD b off ht
    injection hc with hc; subst hc
    obtain ⟨p, hp, rfl⟩ := hx
    refine ⟨_, ?_, vrel_ptr.2 ⟨p, hp, rfl⟩⟩
    unfold receiverAt
    simp only [Sem.run_bind, run_underlying ht, Result.andThen_ok]
    cases D <;> first | rfl | exact absurd rfl (hD _)
  · cases hc
  · rename_i D hD ht
    obtain ⟨v, hv, hr⟩ := get_rel hrel hx hc
    refine ⟨v, ?_, hr⟩
    unfold receiverAt
    simp only [Sem.run_bind, run_underlying ht, Result.andThen_ok]
    cases D <;> first | exact hv | exact absurd rfl (hD _) | (exact absurd (Eq.refl _) (hD _))
  · cases hc
end
end Go.Ev

namespace Go.Ev
variable [Sym]
open Go.MapKept
noncomputable section
variable {P : Program} {ψ : Psi} {es : List CV} {tm : Tm} {h : Heap} {n : Key} {ρ : Operand → Value} {E : Env} {ty : TypeId} {w : World}
variable [SymFact P]
theorem find_rel (name : String) : ∀ (l : List Method), findMethod name l = l.find? (fun m => m.name == name)
  | [] => rfl
  | m :: r => by
    unfold findMethod
    rw [List.find?_cons, find_rel name r]
    by_cases e : (m.name == name) = true
    · rw [if_pos e, e]
    · rw [if_neg e]
      have : (m.name == name) = false := by simpa using e
      rw [this]
theorem method_rel (hrel : RelOn ψ (Heap.fam h) w) (name : String) : ∀ (d fuel : Nat) {t : TypeId} {v : CV} {x : Value} {f : FuncId} {r : CV}, d ≤ fuel → VRel ψ v x → methodC P h d t v name = some (f, r) →
    ∃ y, (method fuel t x name).run P w = .ok (f, y) w ∧ VRel ψ r y
  | 0, _, _, _, _, _, _, _, _, hm => by cases hm
  | d + 1, 0, _, _, _, _, _, hle, _, _ => by omega
  | d + 1, fuel + 1, t, v, x, f, r, hle, hv, hm => by
    unfold methodC at hm
    cases hrow : methRow P t name with
    | none => rw [hrow] at hm; cases hm
    | some m =>
      simp only [hrow] at hm
      unfold methRow at hrow
      cases hi : P.info? t with
      | none => rw [hi] at hrow; cases hrow
      | some ti =>
        rw [hi] at hrow
        simp only [Option.bind_some, find_rel] at hrow
        have hrow : ti.methods.find? (fun m => m.name == name) = some m := by rw [← Array.find?_toList]; exact hrow
        cases hf : followC P h m.path.toList t (.val v) with
        | none => rw [hf] at hm; cases hm
        | some q =>
          obtain ⟨xt, x'⟩ := q
          simp only [hf] at hm
          obtain ⟨y', g1, g2⟩ := follow_rel hrel _ (prel_val hv) hf
          split at hm
          · rename_i hfn
            split at hm
            · rename_i t' v' hg
              obtain ⟨u, hu, hur⟩ := get_rel hrel g2 hg
              rw [vrel_iface] at hur
              obtain ⟨u', rfl, hur⟩ := hur
              obtain ⟨y, k1, k2⟩ := method_rel hrel name d fuel (by omega) hur hm
              refine ⟨y, ?_, k2⟩
              rw [← k1]
              simp [method, typeInfo, hi, hrow, g1, hfn, hu]
            · cases hm
          · rename_i f' pr hfn
            split at hm
            · rename_i r' hrc
              injection hm with hm; injection hm with e1 e2; subst e1 e2
              obtain ⟨y, k1, k2⟩ := receiver_rel hrel (if m.path.isEmpty then some ((name.splitOn ".").getLastD name) else none) g2 hrc
              refine ⟨y, ?_, k2⟩
              unfold method
              simp only [Sem.run_bind, run_info hi, Result.andThen_ok, hrow, g1, hfn, k1, Sem.run_pure]
            · cases hm
section
variable {o : Op}
def CallsTo (P : Program) (ψ : Psi) (h : Heap) (n : Key) (w : World) (run : Result Next) : OR → Prop
  | .call f args => RelOn ψ (Heap.fam h) w → ∃ args', run = (callFunc f args').run P w ∧ VRels ψ args args'.toList
  | .err _ => True
  | _ => False
theorem callsTo_sim {r : OR} {run : Result Next} (hrun : (execOp ρ (dummy o ty)).run P w = run) (hc : CallsTo P ψ h n w run r) : SimAt P ψ h n ρ o ty w r := by
  cases r <;> first | exact hc.elim | exact trivial | skip
  case call f args =>
    intro hrel
    obtain ⟨args', h1, h2⟩ := hc hrel
    exact ⟨args', by rw [← h1]; exact hrun, h2⟩
theorem callM_rel {recv : CV} {x : Value} {args : List CV} {as : Array Value} (name : String) (hx : VRel ψ recv x) (has : VRels ψ args as.toList) :
    CallsTo P ψ h n w ((callMethod x name as).run P w) (callM P h recv name args) := by
  refine onIface_elim (C := CallsTo P ψ h n w ((callMethod x name as).run P w)) _ _ _ _ trivial (fun _ => trivial) fun t v hv => ?_
  rw [hv, vrel_iface] at hx
  obtain ⟨y, rfl, hy⟩ := hx
  split
  · rename_i f r hm
    intro hrel
    obtain ⟨u, h1, h2⟩ := method_rel (P := P) hrel name 8 (P.types.size + Made.depth) (by unfold Made.depth; omega) hy hm
    refine ⟨#[u] ++ as, ?_, ?_⟩
    · simp [callMethod, h1]
    · have : (#[u] ++ as).toList = u :: as.toList := by simp
      rw [this]
      exact vrels_cons'.2 ⟨h2, has⟩
  · exact trivial
theorem callV_rel {f : CV} {fv : Value} {args : List CV} {as : Array Value} (hf : VRel ψ f fv) (has : VRels ψ args as.toList) :
    CallsTo P ψ h n w ((do let d ← Deferred.ofValue fv as; invoke d.target d.args : Sem Next).run P w) (callV P h f args) := by
  refine onFunc_elim (C := CallsTo P ψ h n w _) _ _ _ trivial fun fn first captured hv => ?_
  rw [hv, vrel_func] at hf
  obtain ⟨a', c', rfl, h1, h2⟩ := hf
  have hfa : VRels ψ (appV first args) (a' ++ as).toList := by rw [appV_eq, Array.toList_append]; exact h1.append has
  split
  · rename_i g
    intro _
    refine ⟨a' ++ as ++ c', by simp [Deferred.ofValue, invoke], ?_⟩
    rw [appV_eq, appV_eq, Array.append_assoc, Array.toList_append, Array.toList_append]
    exact h1.append (has.append h2)
  · rename_i name
    split
    · rename_i recv rest hl
      rw [hl] at hfa
      obtain ⟨r, rs, e, hr, hrs⟩ := vrels_cons.1 hfa
      have e0 : (a' ++ as)[0]? = some r := by rw [← Array.getElem?_toList, e]; rfl
      have e1 : ((a' ++ as).extract 1 (a' ++ as).size).toList = rs := by
        rw [Array.toList_extract, e, List.extract_eq_take_drop]
        have : (a' ++ as).size = rs.length + 1 := by rw [← Array.length_toList, e]; rfl
        rw [this]; simp
      have := callM_rel (P := P) (h := h) (n := n) (w := w) name hr (as := (a' ++ as).extract 1 (a' ++ as).size) (by rw [e1]; exact hrs)
      have hrun : (do let d ← Deferred.ofValue (.func (.method name) a' c') as; invoke d.target d.args : Sem Next).run P w = (callMethod r name ((a' ++ as).extract 1 (a' ++ as).size)).run P w := by
        simp only [Deferred.ofValue, Sem.run_bind, Sem.run_pure, Result.andThen_ok, invoke, e0]
      rw [hrun]; exact this
    · exact trivial
  · rename_i t name
    split
    · rename_i recv rest hl
      rw [hl] at hfa
      obtain ⟨r, rs, e, hr, hrs⟩ := vrels_cons.1 hfa
      have e0 : (a' ++ as)[0]? = some r := by rw [← Array.getElem?_toList, e]; rfl
      have e1 : ((a' ++ as).extract 1 (a' ++ as).size).toList = rs := by
        rw [Array.toList_extract, e, List.extract_eq_take_drop]
        have : (a' ++ as).size = rs.length + 1 := by rw [← Array.length_toList, e]; rfl
        rw [this]; simp
      unfold und
      split
      · rename_i ms ht
        have := callM_rel (P := P) (h := h) (n := n) (w := w) name hr (as := (a' ++ as).extract 1 (a' ++ as).size) (by rw [e1]; exact hrs)
        have hrun : (do let d ← Deferred.ofValue (.func (.methodOf t name) a' c') as; invoke d.target d.args : Sem Next).run P w = (callMethod r name ((a' ++ as).extract 1 (a' ++ as).size)).run P w := by
          simp only [Deferred.ofValue, Sem.run_bind, Sem.run_pure, Result.andThen_ok, invoke, e0, run_underlying ht]
        rw [hrun]; exact this
      · rename_i D hD ht
        have := callM_rel (P := P) (h := h) (n := n) (w := w) name (recv := .iface t recv) (x := .iface t r) (vrel_iface.2 ⟨r, rfl, hr⟩) (as := (a' ++ as).extract 1 (a' ++ as).size) (by rw [e1]; exact hrs)
        have hrun : (do let d ← Deferred.ofValue (.func (.methodOf t name) a' c') as; invoke d.target d.args : Sem Next).run P w = (callMethod (.iface t r) name ((a' ++ as).extract 1 (a' ++ as).size)).run P w := by
          simp only [Deferred.ofValue, Sem.run_bind, Sem.run_pure, Result.andThen_ok, invoke, e0, run_underlying ht]
        rw [hrun]; exact this
      · exact trivial
    · exact trivial
  · rename_i t path g pr
    split
    · rename_i recv rest hl
      rw [hl] at hfa
      obtain ⟨r, rs, e, hr, hrs⟩ := vrels_cons.1 hfa
      have e0 : (a' ++ as)[0]? = some r := by rw [← Array.getElem?_toList, e]; rfl
      have e1 : ((a' ++ as).extract 1 (a' ++ as).size).toList = rs := by
        rw [Array.toList_extract, e, List.extract_eq_take_drop]
        have : (a' ++ as).size = rs.length + 1 := by rw [← Array.length_toList, e]; rfl
        rw [this]; simp
      split
      · rename_i xt x hfo
        split
        · rename_i rc hrc
          intro hrel
          obtain ⟨y', g1, g2⟩ := follow_rel hrel _ (prel_val hr) hfo
          obtain ⟨u, k1, k2⟩ := receiver_rel hrel none g2 hrc
          refine ⟨#[u] ++ (a' ++ as).extract 1 (a' ++ as).size, ?_, ?_⟩
          · simp only [Deferred.ofValue, Sem.run_bind, Sem.run_pure, Result.andThen_ok, invoke, e0, receiverVia, g1, k1]
          · have : (#[u] ++ (a' ++ as).extract 1 (a' ++ as).size).toList = u :: rs := by rw [Array.toList_append, e1]; rfl
            rw [this]
            exact vrels_cons'.2 ⟨k2, hrs⟩
        · exact trivial
      · exact trivial
    · exact trivial
  · exact trivial
structure RhoOk (ρ : Operand → Value) : Prop where
  const : ∀ v, ρ (.const v) = v
  func : ∀ f, ρ (.func f) = .func (.func f) #[] #[]
theorem sim_defer (c : Call) (ha : ArgsOk P ψ es tm E ρ c.operands.toList) : SimAt P ψ h n ρ (.defer c) ty w (exec P (compOp P E (.defer c)) es tm h n) := by
  rw [compOp]
  split
  · rename_i f hcal
    split
    · rename_i f' args hf hargs
      refine onFunc_elim (C := SimAt P ψ h n ρ (.defer c) ty w) _ _ _ (sim_err _) fun fn first captured hv => ?_
      have hfr := ha f (by simp [Call.operands, hcal]) f' hf
      have has := args_rel _ (ha.sub fun y hy => by simp [Call.operands]; exact .inr (by simpa using hy)) hargs
      rw [hv, vrel_func] at hfr
      obtain ⟨a', c', hfr, h1, h2⟩ := hfr
      split
      · rename_i g
        refine ⟨{ target := .fn (.func g) c', args := a' ++ c.args.map ρ }, .func g, c', a' ++ c.args.map ρ ++ c', ?_, rfl, fun w => rfl, ?_⟩
        · simp [execOp, resolve, hcal, hfr, Deferred.ofValue]
        · rw [appV_eq, appV_eq, Array.append_assoc, Array.toList_append, Array.toList_append, Array.toList_map]
          exact h1.append (has.append h2)
      · exact sim_err _
    · exact sim_err _
  · exact sim_err _
end
end
end Go.Ev

namespace Go.Ev
variable [Sym]
open Go.MapKept
noncomputable section
variable {P : Program} {ψ : Psi} {es : List CV} {tm : Tm} {h : Heap} {n : Key} {ρ : Operand → Value} {E : Env} {ty : TypeId} {w : World}
variable [SymFact P]
theorem find_of {fn : Func} {nm : String} {e : Array Value → Sem Value} (ho : fn.origin = "") (hn : fn.name = nm)
    (h1 : Extern.allNextRows.lookup nm = none) (h2 : Extern.allGenericRows.lookup nm = none) (h3 : Extern.allTypedRows.lookup nm = none) (h4 : Extern.allRows.lookup nm = some e)
    (h5 : Extern.allNextRows.lookup "" = none) : Extern.findNext fn = none ∧ Extern.find fn = some e := by
  constructor
  · unfold Extern.findNext
    simp only [hn, ho, h1, h5]; rfl
  · unfold Extern.find
    simp only [hn, h2, h3, h4]; rfl
theorem no_empty : Extern.allNextRows.lookup "" = none := by kernel_rfl
def entryOf (fn : Func) : Ext → Option (Array Value → Sem Value)
  | .count => some Extern.BytealgCount.count
  | .indexByte => some Extern.BytealgIndexByte.indexByte
  | .cmp => some Extern.BytealgCompare.compare
  | .mapsClone => some Extern.MapsClone.clone
  | .overlaps => some (Extern.SlicesOverlaps.overlaps fn.params fn.resultTypes)
  | _ => none
theorem extOf_find {fn : Func} {e : Ext} (he : extOf P fn = some e) : ∃ en, entryOf fn e = some en ∧ (fn.name == "runtime.NumGoroutine") = false ∧ Extern.findNext fn = none ∧ Extern.find fn = some en := by
  unfold extOf at he
  split at he
  · rename_i ho
    have ho : fn.origin = "" := by simpa using ho
    split at he
    · rename_i hn
      have hn : fn.name = nmAlg "bytealg.CountString" := by simpa using hn
      injection he with he; subst he
      obtain ⟨h1, h2⟩ := find_of (e := Extern.BytealgCount.count) ho hn (by kernel_rfl) (by kernel_rfl) (by kernel_rfl) (by kernel_rfl) no_empty
      exact ⟨_, rfl, by rw [hn]; decide, h1, h2⟩
    · split at he
      · rename_i hn
        have hn : fn.name = nmAlg "bytealg.IndexByteString" := by simpa using hn
        injection he with he; subst he
        obtain ⟨h1, h2⟩ := find_of (e := Extern.BytealgIndexByte.indexByte) ho hn (by kernel_rfl) (by kernel_rfl) (by kernel_rfl) (by kernel_rfl) no_empty
        exact ⟨_, rfl, by rw [hn]; decide, h1, h2⟩
      · split at he
        · rename_i hn
          have hn : fn.name = nmAlg "bytealg.abigen_runtime_cmpstring" := by simpa using hn
          injection he with he; subst he
          obtain ⟨h1, h2⟩ := find_of (e := Extern.BytealgCompare.compare) ho hn (by kernel_rfl) (by kernel_rfl) (by kernel_rfl) (by kernel_rfl) no_empty
          exact ⟨_, rfl, by rw [hn]; decide, h1, h2⟩
        · split at he
          · rename_i hn
            have hn : fn.name = "maps.clone" := by simpa using hn
            injection he with he; subst he
            obtain ⟨h1, h2⟩ := find_of (e := Extern.MapsClone.clone) ho hn (by kernel_rfl) (by kernel_rfl) (by kernel_rfl) (by kernel_rfl) no_empty
            exact ⟨_, rfl, by rw [hn]; decide, h1, h2⟩
          · cases he
  · split at he
    · rename_i ho
      injection he with he; subst he
      rw [Bool.and_eq_true] at ho
      obtain ⟨ho, hok⟩ := ho
      have ho : fn.origin = "slices.overlaps" := by simpa using ho
      unfold overlapsOk unlisted at hok
      simp only [Bool.and_eq_true, Option.isNone_iff_eq_none] at hok
      obtain ⟨⟨gn, ⟨⟨g1, g2⟩, g3⟩, g4⟩, _⟩ := hok
      refine ⟨_, rfl, ?_, ?_, ?_⟩
      · simpa using gn
      · unfold Extern.findNext
        have h1 : Extern.allNextRows.lookup "slices.overlaps" = none := by kernel_rfl
        simp only [ho, g1, h1]; rfl
      · unfold Extern.find
        have h1 : Extern.allGenericRows.lookup "slices.overlaps" = none := by kernel_rfl
        have h2 : Extern.allTypedRows.lookup "slices.overlaps" = some Extern.SlicesOverlaps.overlaps := by kernel_rfl
        simp only [ho, g2, g3, g4, h1, h2]; rfl
    · cases he
theorem run_overlaps_apart {w : World} {params res : Array TypeId} {tS e : TypeId} (hp : params[0]? = some tS) (ht : P.underlying tS = some (.slice e)) {size : Nat} (hz : ∀ w, (Go.sizeOf e).run P w = .ok size w)
    (a b : Addr) (la ca lb cb : Nat) (hne : a.block ≠ b.block) (tA tB : TypeId) (kA kB : Nat)
    (hsa : w.shape? a.block = some (tA, kA)) (hsb : w.shape? b.block = some (tB, kB)) (hkB : kB ≠ 0)
    (hfa : w.frozen? a = false) (hfe : w.frozen? { block := a.block, off := kA } = false) :
    (Extern.SlicesOverlaps.overlaps params res #[.slice (some a) la ca, .slice (some b) lb cb]).run P w = .ok (.bool false) w := by
  have hnb : (a.block != b.block) = true := by simpa using hne
  have hnb' : (a.block == b.block) = false := by simpa using hne
  change Sem.run P (α := Value) (do
    let some t := params[0]? | stuck "slices.overlaps: no parameter types"
    let .slice elem ← underlying t | stuck "slices.overlaps: slice type expected"
    let size ← sizeOf elem
    match (some a : Option Addr), (some b : Option Addr) with
    | some a, some b =>
      if la = 0 ∨ lb = 0 ∨ size = 0 then pure (Value.bool false)
      else if a.block != b.block && (← frozen a) && (← frozen b) then unsupported .addressObserved
      else do
        if a.block != b.block then do
          noView a; noView b
          if ← mayBeOne a b then return Value.bool ((← choose (.extern "sameAddr.stringBytes" 2)) == 1)
        pure (Value.bool (a.block == b.block && a.off < b.off + lb * size && b.off < a.off + la * size))
    | _, _ => pure (Value.bool false)) w = _
  by_cases h0 : la = 0 ∨ lb = 0 ∨ size = 0
  · simp [hp, run_underlying ht, hz, h0]
  · cases kB with
    | zero => exact absurd rfl hkB
    | succ kB =>
      simp [hp, run_underlying ht, hz, h0, hnb, hnb', frozen, noView, viewAt, mayBeOne, stringish, shape, Sem.run, hsa, hsb, hfa, hfe]
def ExtOut (P : Program) (ψ : Psi) (h : Heap) (n : Key) (w : World) (en : Array Value → Sem Value) (args : Array Value) : OR → Prop
  | .val v => ∃ x, (en args).run P w = .ok x w ∧ VRel ψ v x
  | .eff v h' n' => Rel ψ (Heap.fam h) w → (∀ k, n.ix ≤ k.ix → k.ix < n'.ix → ψ k = none) → n'.room →
      ∃ w' x ψ', (en args).run P w = .ok x w' ∧ Post ψ (Heap.fam h) n w ψ' (Heap.fam h') n' w' ∧ VRel ψ' v x
  | .err _ => True
  | _ => False
theorem byteOfC_rel {c : CV} {b : Nat} {v : Value} (hb : byteOfC c = some b) (hv : VRel ψ c v) : v = .int .u8 (Int.ofNat b) ∧ b ≤ 255 := by
  unfold byteOfC at hb
  split at hb
  · split at hb
    · rename_i hle
      injection hb with hb; subst hb
      exact ⟨vrel_int.1 hv, ble_yes hle⟩
    · cases hb
  · cases hb
theorem count_eq (c : UInt8) (l : List UInt8) : countC c.toNat (l.map UInt8.toNat) = Lib.countByte l c := by
  unfold Lib.countByte
  induction l with
  | nil => rfl
  | cons x l ih =>
    show Bool.rec (motive := fun _ => Nat) (countC c.toNat (l.map UInt8.toNat)) (Nat.succ (countC c.toNat (l.map UInt8.toNat))) (Nat.beq x.toNat c.toNat) = _
    rw [ih, List.count_cons]
    by_cases e : x = c
    · subst e; simp
    · rw [beq_no (fun h => e (UInt8.toNat_inj.1 h))]; simp [e]
theorem index_eq (c : UInt8) : ∀ (l : List UInt8) (i : Nat), (match indexC c.toNat (l.map UInt8.toNat) i with
      | some j => (j : Int)
      | none => -1) = (if Lib.indexByte l c = -1 then -1 else (i : Int) + Lib.indexByte l c) ∧ -1 ≤ Lib.indexByte l c
  | [], i => by simp [indexC, Lib.indexByte]
  | x :: l, i => by
    obtain ⟨h1, h2⟩ := index_eq c l (i + 1)
    rw [List.map_cons]
    unfold indexC Lib.indexByte
    by_cases e : x = c
    · subst e; simp
    · rw [beq_no (fun h => e (UInt8.toNat_inj.1 h))]
      have e' : (x == c) = false := by simpa using e
      simp only [e']
      rw [h1]
      simp
      constructor
      · split <;> (try split) <;> omega
      · split <;> omega
theorem compare_eq : ∀ (a b : List UInt8), Lib.compareBytes a b = if a = b then 0 else if Op.bytesLess a b then -1 else 1
  | [], [] => by simp [Lib.compareBytes]
  | [], _ :: _ => by simp [Lib.compareBytes, Op.bytesLess]
  | _ :: _, [] => by simp [Lib.compareBytes, Op.bytesLess]
  | x :: a, y :: b => by
    unfold Lib.compareBytes Op.bytesLess
    rw [compare_eq a b]
    by_cases h1 : x < y
    · have : x ≠ y := fun e => by subst e; exact absurd h1 (UInt8.lt_irrefl x)
      simp [h1, this]
    · by_cases h2 : y < x
      · have : x ≠ y := fun e => by subst e; exact absurd h2 (UInt8.lt_irrefl x)
        simp [h1, h2, this]
      · have : x = y := by
          apply UInt8.toNat_inj.1
          rw [UInt8.lt_iff_toNat_lt] at h1 h2
          omega
        subst this
        simp [h1]
theorem ext_sim {fn : Func} {e : Ext} {en : Array Value → Sem Value} (hex : extOf P fn = some e) (he : entryOf fn e = some en) {args : List CV} {as : Array Value} (has : VRels ψ args as.toList) :
    ExtOut P ψ h n w en as (xExt e args h n) := by
  unfold xExt
  split
  · -- count
    rename_i a b
    injection he with he; subst he
    obtain ⟨x, r, e1, hx, hr⟩ := vrels_cons.1 has
    obtain ⟨y, r', e2, hy, hr'⟩ := vrels_cons.1 hr
    rw [vrels_nil] at hr'
    subst e2 hr'
    have := arr_of e1
    subst this
    refine onStr_elim (C := ExtOut P ψ h n w _ _) _ _ _ trivial fun s hs => ?_
    rw [hs, vrel_str] at hx
    obtain ⟨bs, rfl, rfl⟩ := hx
    refine onN_elim (C := ExtOut P ψ h n w _ _) _ _ _ trivial fun c hc => ?_
    obtain ⟨rfl, hle⟩ := byteOfC_rel hc hy
    refine ⟨_, Lib.run_countString bs _ w, ?_⟩
    have : ((Int.ofNat c).toNat.toUInt8).toNat = c := by simp; omega
    have h2 := count_eq ((Int.ofNat c).toNat.toUInt8) bs.data.toList
    rw [this] at h2
    rw [← h2]
    exact mkNat_rel _
  · -- index
    rename_i a b
    injection he with he; subst he
    obtain ⟨x, r, e1, hx, hr⟩ := vrels_cons.1 has
    obtain ⟨y, r', e2, hy, hr'⟩ := vrels_cons.1 hr
    rw [vrels_nil] at hr'
    subst e2 hr'
    have := arr_of e1
    subst this
    refine onStr_elim (C := ExtOut P ψ h n w _ _) _ _ _ trivial fun s hs => ?_
    rw [hs, vrel_str] at hx
    obtain ⟨bs, rfl, rfl⟩ := hx
    refine onN_elim (C := ExtOut P ψ h n w _ _) _ _ _ trivial fun c hc => ?_
    obtain ⟨rfl, hle⟩ := byteOfC_rel hc hy
    have hrun := Lib.run_indexByteString (P := P) bs (Int.ofNat c) w
    have : ((Int.ofNat c).toNat.toUInt8).toNat = c := by simp; omega
    obtain ⟨h2, h3⟩ := index_eq ((Int.ofNat c).toNat.toUInt8) bs.data.toList 0
    rw [this] at h2
    have h4 : (match indexC c (natsOf bs) 0 with
      | some j => (j : Int)
      | none => -1) = Lib.indexByte bs.data.toList (Int.ofNat c).toNat.toUInt8 := by
      refine h2.trans ?_
      split <;> omega
    rw [← h4] at hrun
    split
    · rename_i i hi
      simp only [hi] at hrun
      exact ⟨_, hrun, mkNat_rel _⟩
    · rename_i hi
      simp only [hi] at hrun
      exact ⟨_, hrun, vrel_int.2 rfl⟩
  · -- compare
    rename_i a b
    injection he with he; subst he
    obtain ⟨x, r, e1, hx, hr⟩ := vrels_cons.1 has
    obtain ⟨y, r', e2, hy, hr'⟩ := vrels_cons.1 hr
    rw [vrels_nil] at hr'
    subst e2 hr'
    have := arr_of e1
    subst this
    refine onStr_elim (C := ExtOut P ψ h n w _ _) _ _ _ trivial fun s hs => ?_
    rw [hs, vrel_str] at hx
    obtain ⟨bs, rfl, rfl⟩ := hx
    refine onStr_elim (C := ExtOut P ψ h n w _ _) _ _ _ trivial fun s hs => ?_
    rw [hs, vrel_str] at hy
    obtain ⟨cs, rfl, rfl⟩ := hy
    have hrun := Lib.run_compareString (P := P) bs cs w
    rw [compare_eq] at hrun
    rw [ifB_eq, ifB_eq, strEq_bytes, strLt_bytes, ByteArray.toList_eq, ByteArray.toList_eq]
    by_cases e : bs.data.toList = cs.data.toList
    · rw [if_pos e] at hrun
      rw [if_pos (by simpa using e)]
      exact ⟨_, hrun, vrel_nat.2 rfl⟩
    · rw [if_neg e] at hrun
      rw [if_neg (by simpa using e)]
      by_cases hl : Op.bytesLess bs.data.toList cs.data.toList = true
      · rw [if_pos hl] at hrun
        rw [if_pos hl]
        exact ⟨_, hrun, vrel_int.2 rfl⟩
      · rw [if_neg hl] at hrun
        rw [if_neg hl]
        exact ⟨_, hrun, vrel_nat.2 rfl⟩
  · -- overlaps
    rename_i a b
    injection he with he; subst he
    obtain ⟨x, r, e1, hx, hr⟩ := vrels_cons.1 has
    obtain ⟨y, r', e2, hy, hr'⟩ := vrels_cons.1 hr
    rw [vrels_nil] at hr'
    subst e2 hr'
    have := arr_of e1
    subst this
    refine onSl_elim (C := ExtOut P ψ h n w _ _) _ _ _ _ trivial (fun _ => trivial) fun k o l c s ex hk => ?_
    refine onSl_elim (C := ExtOut P ψ h n w _ _) _ _ _ _ trivial (fun _ => trivial) fun j o' m c' s' ex' hj => ?_
    refine onOkB_elim (C := ExtOut P ψ h n w _ _) _ _ _ trivial fun hjk => ?_
    refine onFull_elim (C := ExtOut P ψ h n w _ _) _ _ _ trivial fun u vs hvs => ?_
    refine onOkB_elim (C := ExtOut P ψ h n w _ _) _ _ _ trivial fun hu => ?_
    refine onCells_elim (C := ExtOut P ψ h n w _ _) _ _ _ trivial fun vs' hvs' => ?_
    refine onOkB_elim (C := ExtOut P ψ h n w _ _) _ _ _ trivial fun hl => ?_
    have hjk : j ≠ k := by simpa using hjk
    subst hu
    intro hrel _ _
    rw [hk, vrel_sl] at hx
    rw [hj, vrel_sl] at hy
    obtain ⟨p, x1, cap1, hp, rfl, _⟩ := hx
    obtain ⟨q, x2, cap2, hq, rfl, _⟩ := hy
    have hne : p.blk ≠ q.blk := fun e => hjk (hrel.inj k j _ _ p q hvs hvs' hp hq e).symm
    obtain ⟨arr, el, fz, c1, c2, c3, c4, _⟩ : FullAt ψ w p true vs := hrel.on k _ p hvs hp
    obtain ⟨arr', el', fz', d1, d2, d3, _⟩ : CellsAt ψ w q vs' := hrel.on j _ q hvs' hq
    have hl : 1 ≤ lenV vs' := ble_yes hl
    have hll := lenV_len vs'
    have hfz : fz.1 = fz.2 := by
      rcases c4 with h | h
      · exact h
      · cases h.1
    have hfr : ∀ i, w.frozen? ⟨p.blk, i, none⟩ = false := by
      intro i
      unfold World.frozen?
      rw [c1]
      simp
      omega
    obtain ⟨tS, e, hp0, ht, sz, hsz⟩ : ∃ tS e, fn.params[0]? = some tS ∧ P.underlying tS = some (.slice e) ∧ ∃ sz, szOf P e = some sz := by
      unfold extOf at hex
      split at hex
      · split at hex
        · cases hex
        · split at hex
          · cases hex
          · split at hex
            · cases hex
            · split at hex <;> cases hex
      · split at hex
        · rename_i ho
          rw [Bool.and_eq_true] at ho
          have hok := ho.2
          unfold overlapsOk und at hok
          rw [Bool.and_eq_true] at hok
          have hok := hok.2
          split at hok
          · rename_i t _ hpl
            split at hok
            · rename_i e ht
              obtain ⟨sz, hsz⟩ := Option.isSome_iff_exists.1 hok
              refine ⟨t, e, ?_, ht, sz, hsz⟩
              have := congrArg (·[0]?) hpl
              simpa using this
            · cases hok
          · cases hok
        · cases hex
    refine ⟨w, .bool false, ψ, ?_, Post.refl hrel, vrel_bool.2 rfl⟩
    exact run_overlaps_apart hp0 ht (fun w => run_szOf hsz w) ⟨p.blk, x1, none⟩ ⟨q.blk, x2, none⟩ _ _ _ _ hne el el' arr.size arr'.size (by unfold World.shape?; rw [c1]) (by unfold World.shape?; rw [d1])
      (by omega) (hfr _) (hfr _)
  · -- clone
    rename_i a
    injection he with he; subst he
    obtain ⟨x, r, e1, hx, hr⟩ := vrels_cons.1 has
    rw [vrels_nil] at hr
    subst hr
    have := arr_of e1
    subst this
    refine onIface_elim (C := ExtOut P ψ h n w _ _) _ _ _ _ trivial (fun _ => trivial) fun t v hv => ?_
    rw [hv, vrel_iface] at hx
    obtain ⟨y, rfl, hy⟩ := hx
    refine onMap_elim (C := ExtOut P ψ h n w _ _) _ _ _ _ trivial (fun _ => trivial) fun b hb => ?_
    rw [hb, vrel_map] at hy
    obtain ⟨p, hp, rfl⟩ := hy
    refine onMapO_elim (C := ExtOut P ψ h n w _ _) _ _ _ trivial fun cs clock hl => ?_
    intro hrel hnew hroom
    obtain ⟨arr, h1, h2, hcp⟩ := hrel.on b _ p hl hp
    have hr := Key.room_of_succ hroom
    have hix := Key.ix_succ hr
    have hnone : ψ n = none := hnew n (Nat.le_refl _) (by omega)
    have hw := new_push w (.map arr (p.ck clock))
    have hpost := post_alloc (n := n) (sz := 0) (ck := p.ck) (o := .map cs clock) hrel hr hnone hw ⟨arr, by simp, h2.mono (Psi.le_upd _ hnone), hcp⟩
    refine ⟨_, .iface t (.map (some w.heap.size)), _, ?_, by rw [fam_putH]; exact hpost, vrel_iface.2 ⟨_, rfl, vrel_map.2 ⟨_, Psi.upd_same _ _ _, rfl⟩⟩⟩
    have hget := run_getObj_map (P := P) h1
    rw [show Extern.MapsClone.clone #[Value.iface t (.map (some p.blk))] = (getObj p.blk >>= _) from rfl, Sem.run_bind, hget]
    simp
  · exact trivial
section
variable {o : Op}
theorem sim_ext {c : Call} {f : FuncId} {fn : Func} {e : Ext} {args : List CArg} (hcal : c.callee = .value (.func f)) (hρ : RhoOk ρ) (hfn : P.funcs[f]? = some fn) (hb : fn.body.isNone = true)
    (he : extOf P fn = some e) (hargs : compArgs P E c.args.toList = some args) (ha : ArgsOk P ψ es tm E ρ c.args.toList) : SimAt P ψ h n ρ (.call c) ty w (xExt e (aVs es tm args) h n) := by
  obtain ⟨en, h1, h2, h3, h4⟩ := extOf_find he
  have has := args_rel _ ha hargs
  rw [← Array.toList_map] at has
  have hout := ext_sim (P := P) (h := h) (n := n) (w := w) he h1 has
  have hrun : ∀ {x : Value} {w' : World}, (en (c.args.map ρ)).run P w = .ok x w' → (execOp ρ (dummy (.call c) ty)).run P w = .ok (.value x) w' := by
    intro x w' hx
    have := run_callFunc_extern (P := P) hfn h2 hb h3 h4 (c.args.map ρ) w
    rw [hx] at this
    simp only [execOp, resolve, hcal, Sem.run_bind, hρ.func, Deferred.ofValue, Sem.run_pure, Result.andThen_ok, invoke]
    have e0 : (#[] ++ c.args.map ρ ++ #[] : Array Value) = c.args.map ρ := by simp
    rw [e0, this]; rfl
  generalize xExt e (aVs es tm args) h n = r at hout
  cases r <;> first | exact hout.elim | exact trivial | skip
  case val v =>
    obtain ⟨x, h5, h6⟩ := hout
    exact ⟨x, valOut (hrun h5), h6⟩
  case eff v h' n' =>
    intro g1 g2 g3
    obtain ⟨w', x, ψ', h5, h6, h7⟩ := hout g1 g2 g3
    exact ⟨w', x, ψ', valOut (hrun h5), h6, h7⟩
theorem sim_call (hρ : RhoOk ρ) (c : Call) (ha : ArgsOk P ψ es tm E ρ c.operands.toList) : SimAt P ψ h n ρ (.call c) ty w (exec P (compOp P E (.call c)) es tm h n) := by
  have hargsok : ArgsOk P ψ es tm E ρ c.args.toList := ha.sub fun y hy => by simp [Call.operands]; exact .inr (by simpa using hy)
  rw [show compOp P E (.call c) = compCall P E c from rfl]
  unfold compCall
  split
  · rename_i b hc
    exact sim_builtin c b hc hargsok
  · rename_i r name hc
    split
    · rename_i r' args hr hargs
      have hx := ha r (by simp [Call.operands, hc]) r' hr
      have has := args_rel _ hargsok hargs
      rw [← Array.toList_map] at has
      refine callsTo_sim ?_ (callM_rel (P := P) (h := h) (n := n) (w := w) name hx has)
      simp only [execOp, resolve, hc, Sem.run_bind, Sem.run_pure, Result.andThen_ok, invoke]
      have e0 : (#[ρ r] ++ c.args.map ρ)[0]? = some (ρ r) := by rw [← Array.getElem?_toList, Array.toList_append]; rfl
      have e1 : (#[ρ r] ++ c.args.map ρ).extract 1 (#[ρ r] ++ c.args.map ρ).size = c.args.map ρ := by
        apply Array.ext'
        rw [Array.toList_extract, Array.toList_append, List.extract_eq_take_drop]
        show ((c.args.map ρ).toList).take _ = _
        exact List.take_of_length_le (by simp)
      rw [e0]
      simp only
      rw [e1]
    · exact sim_err _
  · rename_i f hc
    split
    · exact sim_err _
    · rename_i args hargs
      have has := args_rel _ hargsok hargs
      rw [← Array.toList_map] at has
      split
      · rename_i g
        rw [nth_eq]
        split
        · exact sim_err _
        · rename_i fn hfn
          have hfn : P.funcs[g]? = some fn := by simpa using hfn
          split
          · intro _
            refine ⟨c.args.map ρ, ?_, has⟩
            simp only [execOp, resolve, hc, Sem.run_bind, hρ.func, Deferred.ofValue, Sem.run_pure, Result.andThen_ok, invoke]
            simp
          · rename_i hb
            split
            · rename_i e he
              exact sim_ext hc hρ hfn (by cases hbb : fn.body <;> simp_all) he hargs hargsok
            · exact sim_err _
      · split
        · rename_i f' hf
          have hx := ha f (by simp [Call.operands, hc]) f' hf
          refine callsTo_sim ?_ (callV_rel (P := P) (h := h) (n := n) (w := w) hx has)
          simp only [execOp, resolve, hc]
        · exact sim_err _
theorem sim_op (hρ : RhoOk ρ) (o : Op) (ha : ArgsOk P ψ es tm E ρ o.operands.toList) : SimAt P ψ h n ρ o ty w (exec P (compOp P E o) es tm h n) := by
  cases o <;> try exact sim_err _
  case move => exact sim_move _ ha
  case assign => exact sim_assign _ ha
  case pick => exact sim_pick _ _ _ ha
  case alloc => exact sim_alloc _
  case box => exact sim_box _ _ ha
  case build => exact sim_build _ _ ha
  case buildSlice => exact sim_buildSlice _ _ _ ha
  case load => exact sim_load _ _ ha
  case store => exact sim_store _ _ _ ha
  case nilCheck => exact sim_nilck _ ha
  case binOp => exact sim_binOp _ _ _ _ _ ha
  case unOp => exact sim_unOp _ _ _ ha
  case convert => exact sim_convert _ _ _ ha
  case makeInterface => exact sim_makeInterface _ _ ha
  case makeFunc => exact sim_makeFunc _ _ _ (ha.sub fun y hy => by simp [Op.operands] at hy ⊢; exact hy)
  case makeMap => exact sim_makeMap _ _ hρ.const
  case makeSlice => exact sim_makeSlice _ _ _ ha
  case slice => exact sim_slice _ _ _ _ _ (ha.sub fun y hy => by simp [Op.operands] at hy ⊢; exact hy)
  case fieldAddr => exact sim_fieldAddr _ _ _ ha
  case field => exact sim_field _ _ _ ha
  case indexAddr => exact sim_indexAddr _ _ _ ha
  case index => exact sim_index _ _ _ ha
  case lookup => exact sim_lookup _ _ _ _ ha
  case mapUpdate => exact sim_mapUpdate _ _ _ _ ha
  case insert => exact sim_insert _ _ _ _ ha
  case range => exact sim_range _ _ ha
  case next => exact sim_next _ _ ha
  case entry => exact sim_entry _ ha
  case typeAssert => exact sim_typeAssert _ _ _ _ ha
  case extract => exact sim_extract _ _ ha
  case call => exact sim_call hρ _ ha
  case defer => exact sim_defer _ ha
end
end
end Go.Ev

namespace Go.Ev
variable [Sym]
noncomputable section
variable {P : Program} {es : List CV} {tm : Tm} {h : Heap} {n : Key}
variable [SymFact P]
def OAbove (n : Key) : OR → Prop
  | .eff _ _ n' => n.ix ≤ n'.ix
  | .fork a b => OAbove n a ∧ OAbove n b
  | _ => True
theorem oa_srcK {x : CV} (s : Nat) (nf : Nat → Nat) (k : Nat → List CV → OR) (e : Nat) (hk : ∀ m l, OAbove n (k m l)) : OAbove n (srcK h s x k nf e) := by
  unfold srcK
  split
  · refine onOkB_elim (C := OAbove n) _ _ _ trivial fun _ => ?_
    exact onL_elim (C := OAbove n) _ _ _ trivial fun _ _ => hk _ _
  · refine onSl_elim (C := OAbove n) _ _ _ _ trivial (fun _ => hk _ _) fun _ _ _ _ _ _ _ => ?_
    refine onCellsR_elim (C := OAbove n) _ _ _ trivial fun _ _ => ?_
    exact onL_elim (C := OAbove n) _ _ _ trivial fun _ _ => hk _ _
theorem oa_val (v : CV) : OAbove n (.val v) := trivial
theorem oa_oVal (v : Option CV) (e : Nat) : OAbove n (oVal v e) := by cases v <;> trivial
theorem oa_forkTo (k : IntKind) : ∀ (m : Nat), OAbove n (forkTo k m)
  | 0 => trivial
  | m + 1 => ⟨oa_forkTo k m, trivial⟩
theorem oa_forkPm (k : IntKind) : ∀ (m : Nat), OAbove n (forkPm k m)
  | 0 => trivial
  | m + 1 => ⟨oa_forkPm k m, trivial, trivial⟩
theorem oa_arithAny (op : BinOp) (j k : IntKind) : OAbove n (arithAny op j k) := by
  refine onOkB_elim (C := OAbove n) _ _ _ trivial fun _ => ?_
  cases op <;> first | trivial | exact ⟨trivial, trivial⟩
theorem oa_arithR (op : BinOp) (k : IntKind) (b : Int) : OAbove n (arithR op k b) := by
  cases op
  case add => exact oa_arithAny .add k k
  case sub => exact oa_arithAny .sub k k
  case mul => exact oa_arithAny .mul k k
  case or => exact oa_arithAny .or k k
  case xor => exact oa_arithAny .xor k k
  case andNot => exact oa_arithAny .andNot k k
  case eql => exact oa_arithAny .eql k k
  case neq => exact oa_arithAny .neq k k
  case lss => exact oa_arithAny .lss k k
  case leq => exact oa_arithAny .leq k k
  case gtr => exact oa_arithAny .gtr k k
  case geq => exact oa_arithAny .geq k k
  case quo => cases b with
    | ofNat m => cases m <;> trivial
    | negSucc m => trivial
  case rem => cases b with
    | ofNat m => cases m with
      | zero => trivial
      | succ m =>
        refine onOkB_elim (C := OAbove n) _ _ _ trivial fun _ => ?_
        split
        · exact oa_forkPm k m
        · trivial
    | negSucc m => trivial
  case and => cases b with
    | ofNat m =>
      refine onOkB_elim (C := OAbove n) _ _ _ trivial fun _ => ?_
      exact oa_forkTo k m
    | negSucc m => trivial
  case shl => cases b <;> trivial
  case shr => cases b <;> trivial
theorem oa_arithW (op : BinOp) (x y : CV) : OAbove n (arithW op x y) := by
  have right : ∀ (k j : IntKind) (b : Int), OAbove n (onOkB (kEq k j || isShift op) (arithR op k b) 118) := fun k j b => onOkB_elim (C := OAbove n) _ _ _ trivial fun _ => oa_arithR _ _ _
  refine onIS_elim (C := OAbove n) _ _ _ _ _ trivial (fun a _ => ?_) (fun k a _ => ?_) (fun k _ => ?_) (fun s _ => ?_)
  · refine onIA_elim (C := OAbove n) _ _ _ _ trivial (fun _ _ => ?_) (fun _ _ _ => ?_) (fun _ _ => oa_arithAny _ _ _)
    · exact onOkB_elim (C := OAbove n) _ _ _ trivial fun _ => oa_oVal _ _
    · exact onOkB_elim (C := OAbove n) _ _ _ trivial fun _ => oa_oVal _ _
  · refine onIA_elim (C := OAbove n) _ _ _ _ trivial (fun _ _ => ?_) (fun _ _ _ => ?_) (fun _ _ => oa_arithAny _ _ _)
    · exact onOkB_elim (C := OAbove n) _ _ _ trivial fun _ => oa_oVal _ _
    · exact onOkB_elim (C := OAbove n) _ _ _ trivial fun _ => oa_oVal _ _
  · exact onIA_elim (C := OAbove n) _ _ _ _ trivial (fun _ _ => right _ _ _) (fun _ _ _ => right _ _ _) (fun _ _ => oa_arithAny _ _ _)
  · exact onStr_elim (C := OAbove n) _ _ _ trivial fun _ _ => oa_oVal _ _
theorem oa_symR (o : Option (List CV)) (e : Nat) : OAbove n (symR o e) := by
  have : ∀ (l : List CV) (c : CV), OAbove n (forkL c l) := by
    intro l
    induction l with
    | nil => intro c; trivial
    | cons d l ih => intro c; exact ⟨trivial, ih d⟩
  cases o with
  | none => trivial
  | some l => cases l with
    | nil => trivial
    | cons c l => exact this l c
theorem oa_arithV (op : BinOp) (x y : CV) : OAbove n (arithV op x y) := by
  unfold arithV
  split
  · unfold cmpBig
    split <;> first | trivial | (rw [ifB_eq]; split <;> first | trivial | exact ⟨trivial, trivial⟩)
  · split
    · exact oa_symR _ _
    · exact oa_arithW _ _ _
theorem oa_boundK (c : Option CArg) (y d : Nat) (k : Nat → OR) (e : Nat) (hk : ∀ i, OAbove n (k i)) : OAbove n (boundK es tm c y d k e) := by
  cases c with
  | none => exact hk _
  | some c =>
    refine onNat_elim' (C := OAbove n) _ _ _ trivial fun _ _ => ?_
    exact onOkB_elim (C := OAbove n) _ _ _ trivial fun _ => hk _
theorem oa_boundsK (len cap : Nat) (lo hi mx : Option CArg) (k : Nat → Nat → Nat → OR) (e : Nat) (hk : ∀ i j l, OAbove n (k i j l)) : OAbove n (boundsK es tm len cap lo hi mx k e) :=
  oa_boundK _ _ _ _ _ fun _ => oa_boundK _ _ _ _ _ fun _ => oa_boundK _ _ _ _ _ fun _ => hk _ _ _
theorem oa_slOut (b : Key) (off esz : Nat) (ex : Bool) (i j l : Nat) : OAbove n (slOut b off esz ex i j l) := by
  refine onOkB_elim (C := OAbove n) _ _ _ trivial fun _ => ?_
  rw [fNat_eq, fNat_eq, fNat_eq]; trivial
theorem oa_partO (a : Bool) (s : Nat) (cs : List CV) (off e : Nat) : OAbove n (partO a s cs off e) := by
  cases a with
  | true => exact oAgg_elim (C := OAbove n) _ _ trivial fun _ _ => trivial
  | false => exact oVal_elim (C := OAbove n) _ _ trivial fun _ _ => trivial
theorem oa_noV (ok : Bool) (z : Option CV) : OAbove n (noV ok z) := by unfold noV; split <;> trivial
theorem oa_callM (r : CV) (name : String) (args : List CV) : OAbove n (callM P h r name args) := by
  refine onIface_elim (C := OAbove n) _ _ _ _ trivial (fun _ => trivial) fun _ _ _ => ?_
  split <;> trivial
theorem oa_callV (f : CV) (args : List CV) : OAbove n (callV P h f args) := by
  refine onFunc_elim (C := OAbove n) _ _ _ trivial fun fn a c _ => ?_
  split
  · trivial
  · split
    · exact oa_callM _ _ _
    · trivial
  · split
    · split
      · exact oa_callM _ _ _
      · exact oa_callM _ _ _
      · trivial
    · trivial
  · split
    · split
      · split <;> trivial
      · trivial
    · trivial
  · trivial
theorem oa_forkAll {f : CE → OR} (hf : ∀ c, OAbove n (f c)) : ∀ (l : List CE) (e : CE), OAbove n (forkAll f e l)
  | [], e => hf e
  | e' :: l, e => ⟨hf e, oa_forkAll hf l e'⟩
theorem oa_ext (e : Ext) (args : List CV) : OAbove n (xExt e args h n) := by
  unfold xExt
  split
  · refine onStr_elim (C := OAbove n) _ _ _ trivial fun _ _ => ?_
    exact onN_elim (C := OAbove n) _ _ _ trivial fun _ _ => trivial
  · refine onStr_elim (C := OAbove n) _ _ _ trivial fun _ _ => ?_
    refine onN_elim (C := OAbove n) _ _ _ trivial fun _ _ => ?_
    split <;> trivial
  · refine onStr_elim (C := OAbove n) _ _ _ trivial fun _ _ => ?_
    refine onStr_elim (C := OAbove n) _ _ _ trivial fun _ _ => ?_
    rw [ifB_eq, ifB_eq]
    split
    · trivial
    · split <;> trivial
  · refine onSl_elim (C := OAbove n) _ _ _ _ trivial (fun _ => trivial) fun _ _ _ _ _ _ _ => ?_
    refine onSl_elim (C := OAbove n) _ _ _ _ trivial (fun _ => trivial) fun _ _ _ _ _ _ _ => ?_
    refine onOkB_elim (C := OAbove n) _ _ _ trivial fun _ => ?_
    refine onFull_elim (C := OAbove n) _ _ _ trivial fun _ _ _ => ?_
    refine onOkB_elim (C := OAbove n) _ _ _ trivial fun _ => ?_
    refine onCells_elim (C := OAbove n) _ _ _ trivial fun _ _ => ?_
    exact onOkB_elim (C := OAbove n) _ _ _ trivial fun _ => Nat.le_refl _
  · refine onIface_elim (C := OAbove n) _ _ _ _ trivial (fun _ => trivial) fun _ _ _ => ?_
    refine onMap_elim (C := OAbove n) _ _ _ _ trivial (fun _ => trivial) fun _ _ => ?_
    exact onMapO_elim (C := OAbove n) _ _ _ trivial fun _ _ _ => Key.ix_le_succ n
  · trivial
theorem oa_appGo (esz k : Nat) (xs : List CV) (sv : CV) : OAbove n (appGo esz k xs sv h n) := by
  unfold appGo
  refine onSl_elim (C := OAbove n) _ _ _ _ trivial (fun _ => ?_) fun _ _ _ _ _ _ _ => ?_
  · cases k with
    | zero => exact Nat.le_refl _
    | succ k =>
      refine onOkB_elim (C := OAbove n) _ _ _ trivial fun _ => ?_
      rw [fNat_eq]; exact Key.ix_le_succ n
  · refine onOkB_elim (C := OAbove n) _ _ _ trivial fun _ => ?_
    refine onFull_elim (C := OAbove n) _ _ _ ?_ fun _ _ _ => ?_
    rotate_left
    · rw [fNat_eq]
      refine onOkB_elim (C := OAbove n) _ _ _ trivial fun _ => ?_
      exact onL_elim (C := OAbove n) _ _ _ trivial fun _ _ => Key.ix_le_succ n
    refine onCells_elim (C := OAbove n) _ _ _ trivial fun _ _ => ?_
    rw [fNat_eq, ifB_eq]
    split
    · exact onL_elim (C := OAbove n) _ _ _ trivial fun _ _ => Nat.le_refl _
    · refine onOkB_elim (C := OAbove n) _ _ _ trivial fun _ => ?_
      exact onL_elim (C := OAbove n) _ _ _ trivial fun _ _ => Key.ix_le_succ n
theorem oa_exec (op : COp) : OAbove n (exec P op es tm h n) := by
  cases op
  case mv => trivial
  case pick =>
    refine onBool_elim (C := OAbove n) _ _ _ trivial fun b _ => ?_
    cases b <;> trivial
  case alloc => trivial
  case box => exact onL_elim (C := OAbove n) _ _ _ trivial fun _ _ => trivial
  case build => exact oAgg_elim (C := OAbove n) _ _ trivial fun _ _ => trivial
  case bslice => exact onL_elim (C := OAbove n) _ _ _ trivial fun _ _ => trivial
  case load1 =>
    refine onPtr_elim (C := OAbove n) _ _ _ trivial fun _ _ _ => ?_
    refine onCellsR_elim (C := OAbove n) _ _ _ trivial fun _ _ => ?_
    exact oRead_elim (C := OAbove n) _ _ trivial fun _ _ => trivial
  case loadN =>
    refine onPtr_elim (C := OAbove n) _ _ _ trivial fun _ _ _ => ?_
    refine onCellsR_elim (C := OAbove n) _ _ _ trivial fun _ _ => ?_
    exact oAggR_elim (C := OAbove n) _ _ trivial fun _ _ => trivial
  case store =>
    refine onPtr_elim (C := OAbove n) _ _ _ trivial fun _ _ _ => ?_
    refine onCells_elim (C := OAbove n) _ _ _ trivial fun _ _ => ?_
    refine onL_elim (C := OAbove n) _ _ _ trivial fun _ _ => ?_
    refine onOkB_elim (C := OAbove n) _ _ _ trivial fun _ => ?_
    exact onL_elim (C := OAbove n) _ _ _ trivial fun _ _ => Nat.le_refl _
  case nilck x =>
    refine onPN_elim (C := OAbove n) _ _ _ ?_ fun _ _ _ => trivial
    show OAbove n (nilckV (aV es tm x))
    unfold nilckV
    split <;> trivial
  case arith op x y =>
    show OAbove n (onNO (aV es tm x) (fun a => onNO (aV es tm y) (fun b => arithN op a b (aV es tm x) (aV es tm y)) (arithV op (aV es tm x) (aV es tm y))) (arithV op (aV es tm x) (aV es tm y)))
    have hg := oa_arithV (n := n) op (aV es tm x) (aV es tm y)
    cases hx : aV es tm x <;> try (rw [hx] at hg; exact hg)
    case nat a =>
      rw [hx] at hg
      cases hy : aV es tm y <;> try (rw [hy] at hg; exact hg)
      case nat b =>
        rw [hy] at hg
        show OAbove n (Option.rec (motive := fun _ => BinOp → CV → CV → OR) (fun op x y => arithV op x y) (fun v _ _ _ => .val v) (natOp op a b) op (.nat a) (.nat b))
        cases natOp op a b with
        | none => exact hg
        | some v => trivial
  case eq neg k cst x y =>
    show OAbove n (match eqC k cst (aV es tm x) (aV es tm y) with
      | some b => .val (.bool (xor neg b))
      | none => .err 123)
    split <;> trivial
  case un op x =>
    cases op with
    | neg => exact onInt_elim (C := OAbove n) _ _ _ trivial (fun _ _ => trivial) fun _ _ _ => trivial
    | xor => exact onInt_elim (C := OAbove n) _ _ _ trivial (fun _ _ => trivial) fun _ _ _ => trivial
    | not => exact onBool_elim (C := OAbove n) _ _ _ trivial fun _ _ => trivial
    | plus => trivial
  case cvInt k x =>
    show OAbove n (cvIntV k (aV es tm x))
    unfold cvIntV
    split
    · exact oa_symR _ _
    · exact onIA_elim (C := OAbove n) _ _ _ _ trivial (fun _ _ => trivial) (fun _ _ _ => trivial) fun _ _ => trivial
  case cvStr => exact onStr_elim (C := OAbove n) _ _ _ trivial fun _ _ => trivial
  case cvSB =>
    refine onStr_elim (C := OAbove n) _ _ _ trivial fun _ _ => ?_
    rw [fNat_eq]; trivial
  case cvMark =>
    refine onSl_elim (C := OAbove n) _ _ _ _ trivial (fun _ => trivial) fun _ _ _ _ _ _ _ => ?_
    exact onCells_elim (C := OAbove n) _ _ _ trivial fun _ _ => Nat.le_refl _
  case cvBS =>
    refine onSl_elim (C := OAbove n) _ _ _ _ trivial (fun _ => trivial) fun _ _ _ _ _ _ _ => ?_
    refine onCellsR_elim (C := OAbove n) _ _ _ trivial fun _ _ => ?_
    refine onL_elim (C := OAbove n) _ _ _ trivial fun _ _ => ?_
    unfold strOfC
    split
    · trivial
    · split <;> trivial
  case iface => trivial
  case mkfn => trivial
  case mkmap => trivial
  case mkslice =>
    refine onNat_elim' (C := OAbove n) _ _ _ trivial fun _ _ => ?_
    refine onNat_elim' (C := OAbove n) _ _ _ trivial fun _ _ => ?_
    refine onOkB_elim (C := OAbove n) _ _ _ trivial fun _ => ?_
    rw [fNat_eq, fNat_eq]; trivial
  case slArr => exact onPtr_elim (C := OAbove n) _ _ _ trivial fun _ _ _ => oa_boundsK _ _ _ _ _ _ _ fun _ _ _ => oa_slOut _ _ _ _ _ _ _
  case slSl =>
    refine onSl_elim (C := OAbove n) _ _ _ _ trivial (fun _ => oa_boundsK _ _ _ _ _ _ _ fun _ _ _ => trivial) fun _ _ _ _ _ _ _ => ?_
    refine onOkB_elim (C := OAbove n) _ _ _ trivial fun _ => ?_
    unfold moreCap
    split
    · split
      · split
        · refine onCells_elim (C := OAbove n) _ _ _ trivial fun _ _ => ?_
          refine onOkB_elim (C := OAbove n) _ _ _ trivial fun _ => ?_
          rw [fNat_eq]; trivial
        · exact oa_boundsK _ _ _ _ _ _ _ fun _ _ _ => oa_slOut _ _ _ _ _ _ _
      · exact oa_boundsK _ _ _ _ _ _ _ fun _ _ _ => oa_slOut _ _ _ _ _ _ _
    · exact oa_boundsK _ _ _ _ _ _ _ fun _ _ _ => oa_slOut _ _ _ _ _ _ _
  case slStr =>
    refine onStr_elim (C := OAbove n) _ _ _ trivial fun _ _ => ?_
    rw [fNat_eq]
    refine oa_boundsK _ _ _ _ _ _ _ fun _ _ _ => ?_
    refine onOkB_elim (C := OAbove n) _ _ _ trivial fun _ => ?_
    exact oStr_elim (C := OAbove n) _ _ trivial fun _ _ => trivial
  case addOff =>
    refine onPtr_elim (C := OAbove n) _ _ _ trivial fun _ _ _ => ?_
    rw [fNat_eq]; trivial
  case part => exact onAgg_elim (C := OAbove n) _ _ _ trivial fun _ _ => oa_partO _ _ _ _ _
  case ixArr =>
    refine onPtr_elim (C := OAbove n) _ _ _ trivial fun _ _ _ => ?_
    refine onNat_elim' (C := OAbove n) _ _ _ trivial fun _ _ => ?_
    refine onOkB_elim (C := OAbove n) _ _ _ trivial fun _ => ?_
    rw [fNat_eq]; trivial
  case ixSl =>
    refine onWin_elim (C := OAbove n) _ _ _ ?_ fun _ _ _ _ _ => by
      unfold winIx
      split
      · split
        · split <;> trivial
        · trivial
      · trivial
    refine onSl_elim (C := OAbove n) _ _ _ _ trivial (fun _ => trivial) fun _ _ _ _ _ _ _ => ?_
    refine onNat_elim' (C := OAbove n) _ _ _ trivial fun _ _ => ?_
    refine onOkB_elim (C := OAbove n) _ _ _ trivial fun _ => ?_
    rw [fNat_eq]; trivial
  case ixAgg =>
    refine onAgg_elim (C := OAbove n) _ _ _ trivial fun _ _ => ?_
    refine onNat_elim' (C := OAbove n) _ _ _ trivial fun _ _ => ?_
    exact onOkB_elim (C := OAbove n) _ _ _ trivial fun _ => oa_partO _ _ _ _ _
  case ixStr =>
    refine onStr_elim (C := OAbove n) _ _ _ trivial fun _ _ => ?_
    refine onNat_elim' (C := OAbove n) _ _ _ trivial fun _ _ => ?_
    exact onN_elim (C := OAbove n) _ _ _ trivial fun _ _ => trivial
  case lookup kk z ok x k =>
    have hl : ∀ l, OAbove n (lookupIn kk z ok (aV es tm k) l) := by
      intro l
      refine onOkB_elim (C := OAbove n) _ _ _ trivial fun _ => ?_
      split <;> trivial
    refine onMap_elim (C := OAbove n) _ _ _ _ trivial (fun _ => hl _) fun _ _ => ?_
    exact onMapO_elim (C := OAbove n) _ _ _ trivial fun _ _ _ => hl _
  case mapupd =>
    refine onMap_elim (C := OAbove n) _ _ _ _ trivial (fun _ => trivial) fun _ _ => ?_
    refine onMapO_elim (C := OAbove n) _ _ _ trivial fun _ _ _ => ?_
    refine onOkB_elim (C := OAbove n) _ _ _ trivial fun _ => ?_
    split
    · split
      · exact Nat.le_refl _
      · trivial
    · rw [fNat_eq]; exact Nat.le_refl _
    · trivial
  case rangeStr => exact onStr_elim (C := OAbove n) _ _ _ trivial fun _ _ => trivial
  case rangeMap =>
    refine onMap_elim (C := OAbove n) _ _ _ _ trivial (fun _ => trivial) fun _ _ => ?_
    exact onMapO_elim (C := OAbove n) _ _ _ trivial fun _ _ _ => Key.ix_le_succ n
  case next =>
    refine onPtr_elim (C := OAbove n) _ _ _ trivial fun _ _ _ => ?_
    refine onOkB_elim (C := OAbove n) _ _ _ trivial fun _ => ?_
    unfold nextO
    split
    · unfold nextStr
      split
      · exact Nat.le_refl _
      · refine onOkB_elim (C := OAbove n) _ _ _ trivial fun _ => ?_
        rw [fNat_eq]; exact Nat.le_refl _
    · exact Nat.le_refl _
    · refine onMapO_elim (C := OAbove n) _ _ _ trivial fun _ _ _ => ?_
      split
      · trivial
      · split
        · exact Nat.le_refl _
        · exact onOkB_elim (C := OAbove n) _ _ _ trivial fun _ => oa_forkAll (fun _ => Nat.le_refl _) _ _
    · trivial
  case entry =>
    refine onPtr_elim (C := OAbove n) _ _ _ trivial fun _ _ _ => ?_
    refine onOkB_elim (C := OAbove n) _ _ _ trivial fun _ => ?_
    unfold entryO
    split
    · split
      · refine onMapO_elim (C := OAbove n) _ _ _ trivial fun _ _ _ => ?_
        split <;> trivial
      · trivial
    · trivial
  case tassert =>
    refine onIface_elim (C := OAbove n) _ _ _ _ trivial (fun _ => oa_noV _ _) fun _ _ _ => ?_
    rw [ifB_eq]
    split
    · trivial
    · exact oa_noV _ _
  case tiface =>
    refine onIface_elim (C := OAbove n) _ _ _ _ trivial (fun _ => oa_noV _ _) fun _ _ _ => ?_
    split
    · trivial
    · exact oa_noV _ _
    · trivial
  case extract => exact onTup_elim (C := OAbove n) _ _ _ trivial fun _ _ => oa_oVal _ _
  case call => trivial
  case ext e args => exact oa_ext e _
  case callv => exact oa_callV _ _
  case invoke => exact oa_callM _ _ _
  case append esz bb s x =>
    show OAbove n (xAppend esz bb s x es tm h n)
    unfold xAppend
    refine oa_srcK _ _ _ _ fun k l => ?_
    exact onOkB_elim (C := OAbove n) _ _ _ trivial fun _ => oa_appGo _ _ _ _
  case appz zero esz s x =>
    refine onNat_elim' (C := OAbove n) _ _ _ trivial fun _ _ => ?_
    refine onOkB_elim (C := OAbove n) _ _ _ trivial fun _ => ?_
    rw [fNat_eq]
    exact onOkB_elim (C := OAbove n) _ _ _ trivial fun _ => oa_appGo _ _ _ _
  case copy esz d x =>
    show OAbove n (xCopy esz d x es tm h n)
    have hk : ∀ nf, OAbove n (srcK h esz (aV es tm x) (fun k xs => onSl (aV es tm d)
        (.eff (.nat 0) h n)
        (fun b off _ _ _ _ => onCells (getH b h) (fun vs => onOkB (allSingle xs) (onL (overAt xs (Nat.mul k esz) vs off) (fun l => .eff (mkNat k) (putH (some (.cells l)) b h) n) 232) 233) 234) 235) nf 236) := by
      intro nf
      refine oa_srcK _ _ _ _ fun k l => ?_
      refine onSl_elim (C := OAbove n) _ _ _ _ trivial (fun _ => Nat.le_refl _) fun _ _ _ _ _ _ _ => ?_
      refine onCells_elim (C := OAbove n) _ _ _ trivial fun _ _ => ?_
      refine onOkB_elim (C := OAbove n) _ _ _ trivial fun _ => ?_
      exact onL_elim (C := OAbove n) _ _ _ trivial fun _ _ => Nat.le_refl _
    unfold xCopy lenK
    split
    · exact hk _
    · exact onSl_elim (C := OAbove n) _ _ _ _ trivial (fun _ => hk _) fun _ _ _ _ _ _ _ => hk _
  case lenStr => exact onSst_elim (C := OAbove n) _ _ _ (onStr_elim (C := OAbove n) _ _ _ trivial fun _ _ => trivial) fun _ _ => trivial
  case lenSl => exact onWin_elim (C := OAbove n) _ _ _ (onSl_elim (C := OAbove n) _ _ _ _ trivial (fun _ => trivial) fun _ _ _ _ _ _ _ => trivial) fun _ _ _ _ _ => trivial
  case lenMap =>
    refine onMap_elim (C := OAbove n) _ _ _ _ trivial (fun _ => trivial) fun _ _ => ?_
    exact onMapO_elim (C := OAbove n) _ _ _ trivial fun _ _ _ => trivial
  case capSl =>
    refine onSl_elim (C := OAbove n) _ _ _ _ trivial (fun _ => trivial) fun _ _ _ _ _ ex _ => ?_
    cases ex
    · show OAbove n (capV _ _ _ _ _ h n)
      unfold capV
      rw [ifB_eq]
      split
      · trivial
      · refine onCells_elim (C := OAbove n) _ _ _ trivial fun _ _ => ?_
        exact onOkB_elim (C := OAbove n) _ _ _ trivial fun _ => ⟨Nat.le_refl _, Nat.le_refl _⟩
    · trivial
  case delete =>
    refine onOkB_elim (C := OAbove n) _ _ _ trivial fun _ => ?_
    refine onMap_elim (C := OAbove n) _ _ _ _ trivial (fun _ => Nat.le_refl _) fun _ _ => ?_
    refine onMapO_elim (C := OAbove n) _ _ _ trivial fun _ _ _ => ?_
    split
    · split
      · exact Nat.le_refl _
      · trivial
    · exact Nat.le_refl _
    · trivial
  case clearMap =>
    refine onMap_elim (C := OAbove n) _ _ _ _ trivial (fun _ => Nat.le_refl _) fun _ _ => ?_
    exact onMapO_elim (C := OAbove n) _ _ _ trivial fun _ _ _ => Nat.le_refl _
  case clearSl =>
    refine onSl_elim (C := OAbove n) _ _ _ _ trivial (fun _ => Nat.le_refl _) fun _ _ _ _ _ _ _ => ?_
    refine onCells_elim (C := OAbove n) _ _ _ trivial fun _ _ => ?_
    refine onOkB_elim (C := OAbove n) _ _ _ trivial fun _ => ?_
    exact onL_elim (C := OAbove n) _ _ _ trivial fun _ _ => Nat.le_refl _
  case minmax => exact oa_oVal _ _
  case defer =>
    refine onFunc_elim (C := OAbove n) _ _ _ trivial fun _ _ _ _ => ?_
    split <;> trivial
  case recov => trivial
  case bad => trivial
end
end Go.Ev

namespace Go.Ev
variable [Sym]
noncomputable section
variable {P : Program}
variable [SymFact P]
def Clean : R → Prop
  | .ok _ _ _ _ n => n.room
  | .ret _ _ n => n.room
  | .err _ => False
  | .fork a b => Clean a ∧ Clean b
def Above (n : Key) : R → Prop
  | .ok _ _ _ _ n' => n.ix ≤ n'.ix
  | .ret _ _ n' => n.ix ≤ n'.ix
  | .err _ => True
  | .fork a b => Above n a ∧ Above n b
theorem room_of {n : Key} : ∀ {r : R}, Clean r → Above n r → n.room
  | .ok _ _ _ _ n', h, h' => Nat.lt_of_le_of_lt h' h
  | .ret _ _ n', h, h' => Nat.lt_of_le_of_lt h' h
  | .fork a _, h, h' => room_of h.1 h'.1
theorem Above.le {n n' : Key} (hle : n.ix ≤ n'.ix) : ∀ {r : R}, Above n' r → Above n r
  | .ok _ _ _ _ _, h => Nat.le_trans hle h
  | .ret _ _ _, h => Nat.le_trans hle h
  | .err _, _ => trivial
  | .fork _ _, h => ⟨Above.le hle h.1, Above.le hle h.2⟩
def CallAbove (call : CallF) : Prop := ∀ d f args h n, Above n (call d f args h n)
theorem withT_eq (d : Option Loc) (v : CV) (tm : Tm) (k : Tm → R) : withT d v tm k = k (match d with | none => tm | some p => putL v p tm) := by cases d <;> rfl
def thenRet (k : CV → Heap → Key → R) (r : R) : R := R.rec (motive := fun _ => R) (fun _ _ _ _ _ => .err 300) (fun v h n => k v h n) (fun c => .err c) (fun _ _ a b => .fork a b) r
theorem clean_thenRet {k : CV → Heap → Key → R} (hk : ∀ v h n, Above n (k v h n)) : ∀ {r : R}, Clean (thenRet k r) → Clean r
  | .ok .., h => h.elim
  | .ret v h n, hc => room_of hc (hk v h n)
  | .err _, h => h.elim
  | .fork _ _, h => ⟨clean_thenRet hk h.1, clean_thenRet hk h.2⟩
theorem above_thenRet {n : Key} {k : CV → Heap → Key → R} (hk : ∀ v h n, Above n (k v h n)) : ∀ {r : R}, Above n r → Above n (thenRet k r)
  | .ok .., _ => trivial
  | .ret v h n', hc => Above.le hc (hk v h n')
  | .err _, _ => trivial
  | .fork _ _, h => ⟨above_thenRet hk h.1, above_thenRet hk h.2⟩
theorem above_after {call : CallF} (hcall : CallAbove call) {k : KE} (hk : ∀ es tm ds h n, Above n (k es tm ds h n)) (d : Option Loc) (es : List CV) (tm : Tm) (ds : Defs) (h : Heap) (n : Key) :
    ∀ (r : OR), OAbove n r → Above n (after r call k d es tm ds h n)
  | .val v, _ => by show Above n (withT _ _ _ _); rw [withT_eq]; exact hk _ _ _ _ _
  | .read v, _ => by show Above n (withT _ _ _ _); rw [withT_eq]; exact hk _ _ _ _ _
  | .alloc o v, _ => by show Above n (withT _ _ _ _); rw [withT_eq]; exact Above.le (Key.ix_le_succ n) (hk _ _ _ _ _)
  | .eff v h' n', ho => by show Above n (withT _ _ _ _); rw [withT_eq]; exact Above.le ho (hk _ _ _ _ _)
  | .call f args, _ => above_thenRet (k := fun v h n => withT d v tm fun tm => k (v :: es) tm ds h n) (fun v h n => by rw [withT_eq]; exact hk _ _ _ _ _) (hcall _ _ _ _ _)
  | .dfr f args, _ => by show Above n (withT _ _ _ _); rw [withT_eq]; exact hk _ _ _ _ _
  | .recov, _ => by show Above n (withT _ _ _ _); rw [withT_eq]; exact hk _ _ _ _ _
  | .err _, _ => trivial
  | .fork a b, ho => ⟨above_after hcall hk d es tm ds h n a ho.1, above_after hcall hk d es tm ds h n b ho.2⟩
theorem above_ins {call : CallF} (hcall : CallAbove call) : ∀ (l : List CIns) (es : List CV) (tm : Tm) (ds : Defs) (h : Heap) (n : Key), Above n (evIns P call l es tm ds h n)
  | [], _, _, _, _, _ => Nat.le_refl _
  | .i op :: l, es, tm, ds, h, n => above_after hcall (fun es tm ds h n => above_ins hcall l es tm ds h n) none es tm ds h n _ (oa_exec op)
  | .o op d :: l, es, tm, ds, h, n => above_after hcall (fun es tm ds h n => above_ins hcall l es tm ds h n) (some d) es tm ds h n _ (oa_exec op)
  | .g x wnt op d :: l, es, tm, ds, h, n => by
    show Above n (Bool.rec (motive := fun _ => R)
      (Bool.rec (motive := fun _ => R) (.err 299) (withT d .undef tm fun tm => evIns P call l (.undef :: es) tm ds h n) (notAny (aV es tm x)))
      (after (exec P op es tm h n) call (evIns P call l) d es tm ds h n) (boolIs wnt (aV es tm x)))
    cases boolIs wnt (aV es tm x) with
    | true => exact above_after hcall (fun es tm ds h n => above_ins hcall l es tm ds h n) d es tm ds h n _ (oa_exec op)
    | false =>
      cases notAny (aV es tm x) with
      | true => show Above n (withT _ _ _ _); rw [withT_eq]; exact above_ins hcall l _ _ _ _ _
      | false => trivial
structure FrameRel (ψ : Psi) (F N : Nat) (tm : Tm) (a : Act) : Prop where
  size : N ≤ a.tmps.size
  tmp : ∀ t, hasBit F t = true → t ≤ 271 → t < N → VRel ψ (getL (Loc.ofNat t) tm) (a.tmps.getD t undef)
def EnvOk (ψ : Psi) (dl : List (Option Nat)) (es : List CV) (a : Act) : Prop := ∀ t i, whereIs t dl 0 = some i → VRel ψ (nthA es i) (a.tmps.getD t undef)
def Glob (P : Program) (ψ : Psi) : Prop := ∀ g, g < P.globals.size → g ≤ 4095 → ∃ sz, ψ (Key.ofNat g) = some ⟨g, 0, sz, fun n => n⟩
def Fresh (ψ : Psi) (n : Key) : Prop := ∀ k : Key, n.ix ≤ k.ix → ψ k = none
def DfrRel (P : Program) (ψ : Psi) (f : FuncId × List CV) (d : Deferred) : Prop :=
  ∃ fv cap args', d.target = .fn fv cap ∧ (∀ w, (invoke d.target d.args).run P w = (callFunc f.1 args').run P w) ∧ VRels ψ f.2 args'.toList
def DfrRels (P : Program) (ψ : Psi) : Defs → List Deferred → Prop
  | [], l => l = []
  | f :: fs, l => ∃ d r, l = d :: r ∧ DfrRel P ψ f d ∧ DfrRels P ψ fs r
structure St (P : Program) (F N : Nat) (ψ : Psi) (tm : Tm) (ds : Defs) (h : Heap) (n : Key) (a : Act) (w : World) : Prop where
  frame : FrameRel ψ F N tm a
  dfr : DfrRels P ψ ds a.defers
  rel : Rel ψ (Heap.fam h) w
  glob : Glob P ψ
  fresh : Fresh ψ n
theorem Glob.mono {ψ ψ' : Psi} (hle : ψ.le ψ') (h : Glob P ψ) : Glob P ψ' := fun g h1 h2 => let ⟨sz, e⟩ := h g h1 h2; ⟨sz, hle _ _ e⟩
theorem DfrRels.mono {ψ ψ' : Psi} (hle : ψ.le ψ') : ∀ {ds : Defs} {l : List Deferred}, DfrRels P ψ ds l → DfrRels P ψ' ds l
  | [], _, h => h
  | f :: fs, _, h => by
    obtain ⟨d, r, rfl, ⟨fv, cap, as, h1, h2, h3⟩, h4⟩ := h
    exact ⟨d, r, rfl, ⟨fv, cap, as, h1, h2, h3.mono hle⟩, DfrRels.mono hle h4⟩
theorem FrameRel.mono {ψ ψ' : Psi} (hle : ψ.le ψ') {F N : Nat} {tm : Tm} {a : Act} (h : FrameRel ψ F N tm a) : FrameRel ψ' F N tm a := ⟨h.size, fun t h1 h2 h3 => (h.tmp t h1 h2 h3).mono hle⟩
theorem EnvOk.mono {ψ ψ' : Psi} (hle : ψ.le ψ') {dl : List (Option Nat)} {es : List CV} {a : Act} (h : EnvOk ψ dl es a) : EnvOk ψ' dl es a := fun t i h1 => (h t i h1).mono hle
theorem Post.fresh {ψ ψ' : Psi} {g g' : Fam} {n n' : Key} {w w' : World} (hp : Post ψ g n w ψ' g' n' w') (h : Fresh ψ n) : Fresh ψ' n' := by
  intro k hk
  have := hp.mono
  rw [hp.out k (.inr hk)]
  exact h k (by omega)
theorem whereIs_succ (t : Nat) : ∀ (dl : List (Option Nat)) (i : Nat), whereIs t dl (i + 1) = (whereIs t dl i).map (· + 1)
  | [], _ => rfl
  | none :: r, i => by
    show whereIs t r (i + 1 + 1) = (whereIs t r (i + 1)).map (· + 1)
    exact whereIs_succ t r (i + 1)
  | some u :: r, i => by
    unfold whereIs
    simp only
    cases Nat.beq u t with
    | true => rfl
    | false => exact whereIs_succ t r (i + 1)
theorem put_getD_same (a : Act) (t : Nat) (v : Value) (h : t < a.tmps.size) : (a.put (some t) v).tmps.getD t undef = v := by
  simp [Act.put, h]
theorem put_getD_other (a : Act) (d : Option Nat) (v : Value) {t : Nat} (h : d ≠ some t) : (a.put d v).tmps.getD t undef = a.tmps.getD t undef := by
  cases d with
  | none => rfl
  | some u =>
    have : u ≠ t := fun e => h (by rw [e])
    simp [Act.put, Array.getElem?_setIfInBounds_ne this]
theorem put_size (a : Act) (d : Option Nat) (v : Value) : (a.put d v).tmps.size = a.tmps.size := by cases d <;> simp [Act.put]
theorem put_defers (a : Act) (d : Option Nat) (v : Value) : (a.put d v).defers = a.defers := by cases d <;> rfl
abbrev dstT (d : Option Loc) (v : CV) (tm : Tm) : Tm := match d with | none => tm | some p => putL v p tm
theorem compDst_spec {F N : Nat} {dst : Option Nat} {d : Option Loc} (h : compDst F N dst = some d) :
    (dst = none ∧ d = none) ∨ ∃ t, dst = some t ∧ t < N ∧ ((hasBit F t = false ∧ d = none) ∨ (hasBit F t = true ∧ t ≤ 271 ∧ d = some (Loc.ofNat t))) := by
  unfold compDst at h
  split at h
  · injection h with h; exact .inl ⟨rfl, h.symm⟩
  · rename_i t
    split at h
    · cases h
    · rename_i hn
      have hn : t + 1 ≤ N := ble_yes hn
      split at h
      · rename_i hf; injection h with h; exact .inr ⟨t, rfl, by omega, .inl ⟨hf, h.symm⟩⟩
      · rename_i hf
        split at h
        · rename_i hl; injection h with h; exact .inr ⟨t, rfl, by omega, .inr ⟨hf, ble_yes hl, h.symm⟩⟩
        · cases h
theorem frame_put {ψ : Psi} {F N : Nat} {tm : Tm} {a : Act} {dst : Option Nat} {d : Option Loc} {v : CV} {x : Value} (hf : FrameRel ψ F N tm a) (hd : compDst F N dst = some d) (hv : VRel ψ v x) :
    FrameRel ψ F N (dstT d v tm) (a.put dst x) := by
  refine ⟨by rw [put_size]; exact hf.size, fun t h1 h2 h3 => ?_⟩
  rcases compDst_spec hd with ⟨rfl, rfl⟩ | ⟨u, rfl, hu, ⟨hb, rfl⟩ | ⟨hb, hle, rfl⟩⟩
  · exact hf.tmp t h1 h2 h3
  · have hne : u ≠ t := fun e => by subst e; rw [hb] at h1; cases h1
    rw [put_getD_other _ _ _ (by simpa using hne)]
    exact hf.tmp t h1 h2 h3
  · by_cases e : u = t
    · subst e
      rw [put_getD_same _ _ _ (Nat.lt_of_lt_of_le hu hf.size)]
      show VRel ψ (getL _ (putL v _ tm)) x
      rw [getL_putL_same]; exact hv
    · rw [put_getD_other _ _ _ (by simpa using e)]
      show VRel ψ (getL _ (putL v _ tm)) _
      rw [getL_putL_other _ _ _ _ (fun h => e (Loc.ofNat_inj hle h2 h.symm))]
      exact hf.tmp t h1 h2 h3
theorem env_put {ψ : Psi} {F N : Nat} {dl : List (Option Nat)} {es : List CV} {a : Act} {dst : Option Nat} {d : Option Loc} {v : CV} {x : Value} (hs : N ≤ a.tmps.size) (he : EnvOk ψ dl es a) (hd : compDst F N dst = some d)
    (hv : VRel ψ v x) : EnvOk ψ (dst :: dl) (v :: es) (a.put dst x) := by
  intro t i hi
  have other : dst ≠ some t → VRel ψ (nthA (v :: es) i) ((a.put dst x).tmps.getD t undef) := by
    intro hne
    have hi' : whereIs t dl 1 = some i := by
      cases dst with
      | none => exact hi
      | some u =>
        unfold whereIs at hi
        have : Nat.beq u t = false := beq_no fun e => hne (by rw [e])
        simp only [this] at hi
        exact hi
    rw [whereIs_succ] at hi'
    cases hw : whereIs t dl 0 with
    | none => rw [hw] at hi'; cases hi'
    | some j =>
      rw [hw] at hi'
      injection hi' with hi'; subst hi'
      rw [put_getD_other _ _ _ hne]
      exact he t j hw
  by_cases e : dst = some t
  · subst e
    rcases compDst_spec hd with ⟨h1, _⟩ | ⟨u, h1, hu, _⟩
    · cases h1
    · injection h1 with h1; subst h1
      unfold whereIs at hi
      have hb : Nat.beq t t = true := beq_self t
      simp only [hb] at hi
      injection hi with hi; subst hi
      rw [put_getD_same _ _ _ (Nat.lt_of_lt_of_le hu hs)]
      exact hv
  · exact other e
theorem act_rho (a : Act) : RhoOk a.eval := ⟨fun _ => rfl, fun _ => rfl⟩
theorem args_ok {F N : Nat} {ψ : Psi} {tm : Tm} {ds : Defs} {h : Heap} {n : Key} {a : Act} {w : World} {dl : List (Option Nat)} {es : List CV} (hs : St P F N ψ tm ds h n a w) (he : EnvOk ψ dl es a) :
    ∀ L, ArgsOk P ψ es tm ⟨F, N, dl⟩ a.eval L := by
  intro L x hxL c hc
  clear hxL
  unfold compArg at hc
  split at hc
  · rename_i t
    split at hc
    · rename_i i hi
      injection hc with hc; subst hc
      exact he t i hi
    · split at hc
      · rename_i hb
        injection hc with hc; subst hc
        rw [Bool.and_eq_true, Bool.and_eq_true] at hb
        exact hs.frame.tmp t hb.1.1 (ble_yes hb.1.2) (ble_yes hb.2)
      · cases hc
  · rename_i v
    cases hv : ofVal 20 v with
    | none => rw [hv] at hc; cases hc
    | some c' => rw [hv] at hc; injection hc with hc; subst hc; exact ofVal_rel 20 hv
  · rename_i g
    split at hc
    · rename_i hb
      injection hc with hc; subst hc
      rw [Bool.and_eq_true] at hb
      obtain ⟨sz, e⟩ := hs.glob g (ble_yes hb.1) (ble_yes hb.2)
      exact vrel_ptr.2 ⟨_, e, rfl⟩
    · cases hc
  · rename_i f
    injection hc with hc; subst hc
    exact vrel_func.2 ⟨#[], #[], rfl, vrels_nil.2 rfl, vrels_nil.2 rfl⟩
end
end Go.Ev

namespace Go.Ev
variable [Sym]
noncomputable section
variable {P : Program}
variable [SymFact P]
def RetOut (ψ₀ : Psi) (g₀ : Fam) (n₀ : Key) (w₀ : World) : R → Value → World → Prop
  | .ret cv h n, v, w => ∃ ψ, Post ψ₀ g₀ n₀ w₀ ψ (Heap.fam h) n w ∧ VRel ψ cv v
  | .fork a b, v, w => RetOut ψ₀ g₀ n₀ w₀ a v w ∨ RetOut ψ₀ g₀ n₀ w₀ b v w
  | _, _, _ => False
def CallsTo' (P : Program) (f : FuncId) (args : Array Value) (w : World) (K : Value → World → Prop) : Prop := match (callFunc f args).run P w with
  | .ok (.enter g as) w' => Calls P g as w' fun e w'' => ∃ v, e = .returned v ∧ K v w''
  | .ok (.value v) w' => K v w'
  | _ => False
def CallsDef (P : Program) (f : FuncId) (args : Array Value) (w : World) (K : World → Prop) : Prop :=
  (callFunc f args).run P w = .ok (.enter f args) w ∧ CallsD P f args .returning w fun e u w' => u = .returning ∧ ∃ v, e = .returned v ∧ K w'
structure CallOk (P : Program) (call : CallF) : Prop where
  above : CallAbove call
  calls : ∀ f args h n ψ w args', VRels ψ args args'.toList → Glob P ψ → Rel ψ (Heap.fam h) w → Fresh ψ n → Clean (call false f args h n) →
    CallsTo' P f args' w (RetOut ψ (Heap.fam h) n w (call false f args h n))
  defers : ∀ f args h n ψ w args', VRels ψ args args'.toList → Glob P ψ → Rel ψ (Heap.fam h) w → Fresh ψ n → Clean (call true f args h n) →
    CallsDef P f args' w fun w' => ∃ v, RetOut ψ (Heap.fam h) n w (call true f args h n) v w'
def Step (P : Program) (rc : Bool) (o : Oper) (a : Act) (w : World) (K : Act → World → Prop) : Prop := match (execOp a.eval o).run P w with
  | .ok (.value v) w' => K (a.put o.dst v) w'
  | .ok .skip w' => K (a.put o.dst undef) w'
  | .ok (.defer d) w' => K ({ a with defers := d :: a.defers }.put o.dst undef) w'
  | .ok (.enter f args) w' => Calls P f args w' fun e w'' => ∃ v, e = .returned v ∧ K (a.put o.dst v) w''
  | .ok .recover w' => rc = true ∧ K (a.put o.dst .nilIface) w'
  | _ => False
theorem Step.mono {rc : Bool} {o : Oper} {a : Act} {w : World} {K K' : Act → World → Prop} (hk : ∀ a w, K a w → K' a w) (h : Step P rc o a w K) : Step P rc o a w K' := by
  unfold Step at *
  generalize (execOp a.eval o).run P w = r at h ⊢
  cases r with
  | halt x w' => exact h.elim
  | ok x w' =>
    cases x <;> first
      | exact hk _ _ h
      | exact Calls.mono h fun e w' ⟨v, e1, e2⟩ => ⟨v, e1, hk _ _ e2⟩
      | exact ⟨h.1, hk _ _ h.2⟩
      | exact h.elim
structure Walk (P : Program) (ops : Array Oper) (rc : Bool) (Q : Act → World → Prop) (W : List Nat → Act → World → Prop) : Prop where
  nil : ∀ a w, Q a w → W [] a w
  skip : ∀ i o rest a w, ops[i]? = some o → Region.wanted o (yielded ops a.tmps) = false → W rest (a.put o.dst undef) w → W (i :: rest) a w
  step : ∀ i o rest a w, ops[i]? = some o → Region.wanted o (yielded ops a.tmps) = true → Step P rc o a w (W rest) → W (i :: rest) a w
theorem walk_plain (ops : Array Oper) (Q : Exit → Act → World → Prop) : Walk P ops false (Q .normal) (wpOps P ops Q) := by
  refine ⟨fun a w h => h, fun i o rest a w ho hw h => ?_, fun i o rest a w ho hw h => ?_⟩
  · simp only [wpOps, ho, hw, Bool.false_eq_true, if_false]; exact h
  · simp only [wpOps, ho, hw, if_true]
    refine .inl ?_
    unfold Oper.wp
    unfold Step at h
    generalize (execOp a.eval o).run P w = r at h ⊢
    cases r with
    | halt x w' => exact h.elim
    | ok x w' =>
      cases x <;> first
        | exact h
        | exact Calls.mono h (fun e w' ⟨v, e1, e2⟩ => by subst e1; exact e2)
        | exact absurd h.1 (by simp)
        | exact h.elim
theorem walk_deferred (ops : Array Oper) (Q : Exit → Act → List Frame → World → Prop) {cs : List Frame} (hcs : recoverD cs = none) :
    Walk P ops true (fun a w => Q .normal a cs w) (fun l a w => wpOpsS P ops Q l a cs w) := by
  refine ⟨fun a w h => h, fun i o rest a w ho hw h => ?_, fun i o rest a w ho hw h => ?_⟩
  · simp only [wpOpsS, ho, hw, Bool.false_eq_true, if_false]; exact h
  · simp only [wpOpsS, ho, hw, if_true]
    unfold Step at h
    generalize (execOp a.eval o).run P w = r at h ⊢
    cases r with
    | halt x w' => exact h.elim
    | ok x w' =>
      cases x <;> first
        | exact h
        | exact Calls.mono h (fun e w' ⟨v, e1, e2⟩ => by subst e1; exact e2)
        | (simp only [hcs]; exact h.2)
        | exact h.elim
def CXRel : CX → Exit → Prop
  | .normal, .normal => True
  | .exit i, .exit j => i = j
  | .ret, .ret => True
  | _, _ => False
section
variable {F N : Nat} {call : CallF} {ψ : Psi} {tm : Tm} {ds : Defs} {h : Heap} {n : Key} {a : Act} {w : World} {dl : List (Option Nat)} {es : List CV}
def Next1 (P : Program) (F N : Nat) (ψ : Psi) (h : Heap) (n : Key) (w : World) (dl : List (Option Nat)) (k : KE) (r : R) (a' : Act) (w' : World) : Prop :=
  ∃ es' tm' ds' h' n' ψ', St P F N ψ' tm' ds' h' n' a' w' ∧ EnvOk ψ' dl es' a' ∧ Post ψ (Heap.fam h) n w ψ' (Heap.fam h') n' w' ∧ Clean (k es' tm' ds' h' n') ∧
    ∀ (O : R → Prop), (∀ x y, O x → O (.fork x y)) → (∀ x y, O y → O (.fork x y)) → O (k es' tm' ds' h' n') → O r
theorem Next1.forkL {k : KE} {r s : R} {a' : Act} {w' : World} (hx : Next1 P F N ψ h n w dl k r a' w') : Next1 P F N ψ h n w dl k (.fork r s) a' w' := by
  obtain ⟨es', tm', ds', h', n', ψ', h1, h2, h3, h4, h5⟩ := hx
  exact ⟨es', tm', ds', h', n', ψ', h1, h2, h3, h4, fun O f1 f2 ho => f1 _ _ (h5 O f1 f2 ho)⟩
theorem Next1.forkR {k : KE} {r s : R} {a' : Act} {w' : World} (hx : Next1 P F N ψ h n w dl k s a' w') : Next1 P F N ψ h n w dl k (.fork r s) a' w' := by
  obtain ⟨es', tm', ds', h', n', ψ', h1, h2, h3, h4, h5⟩ := hx
  exact ⟨es', tm', ds', h', n', ψ', h1, h2, h3, h4, fun O f1 f2 ho => f2 _ _ (h5 O f1 f2 ho)⟩
theorem next_put {k : KE} {o : Oper} {d : Option Loc} {v : CV} {x : Value} {ψ' : Psi} {h' : Heap} {n' : Key} {w' : World} (hst : St P F N ψ tm ds h n a w) (hev : EnvOk ψ dl es a) (hd : compDst F N o.dst = some d)
    (hp : Post ψ (Heap.fam h) n w ψ' (Heap.fam h') n' w') (hv : VRel ψ' v x) (hc : Clean (withT d v tm fun tm => k (v :: es) tm ds h' n')) :
    Next1 P F N ψ h n w (o.dst :: dl) k (withT d v tm fun tm => k (v :: es) tm ds h' n') (a.put o.dst x) w' := by
  rw [withT_eq] at hc ⊢
  refine ⟨v :: es, _, ds, h', n', ψ', ⟨frame_put (hst.frame.mono hp.ext) hd hv, ?_, hp.rel, hst.glob.mono hp.ext, hp.fresh hst.fresh⟩, env_put hst.frame.size (hev.mono hp.ext) hd hv, hp, hc, fun O _ _ ho => ho⟩
  rw [put_defers]
  exact hst.dfr.mono hp.ext
theorem next_ret {k : KE} {o : Oper} {d : Option Loc} {x : Value} {w' : World} (hst : St P F N ψ tm ds h n a w) (hev : EnvOk ψ dl es a) (hd : compDst F N o.dst = some d) :
    ∀ {r : R}, RetOut ψ (Heap.fam h) n w r x w' → Clean (thenRet (fun v h n => withT d v tm fun tm => k (v :: es) tm ds h n) r) →
      Next1 P F N ψ h n w (o.dst :: dl) k (thenRet (fun v h n => withT d v tm fun tm => k (v :: es) tm ds h n) r) (a.put o.dst x) w'
  | .ok .., hr, _ => hr.elim
  | .err _, hr, _ => hr.elim
  | .ret cv h' n', hr, hc => by
    obtain ⟨ψ', hp, hv⟩ := hr
    exact next_put hst hev hd hp hv hc
  | .fork r s, hr, hc => by
    rcases hr with hr | hr
    · exact Next1.forkL (next_ret hst hev hd hr hc.1)
    · exact Next1.forkR (next_ret hst hev hd hr hc.2)
theorem valOut_run {o : Oper} {w' : World} {x : Value} (hv : ValOut P a.eval o.op o.type w w' x) {K : Act → World → Prop} {rc : Bool} (hk : K (a.put o.dst x) w') : Step P rc o a w K := by
  obtain ⟨nx, h1, h2⟩ := hv
  have h1 : (execOp a.eval o).run P w = .ok nx w' := h1
  unfold Step
  rw [h1]
  rcases h2 with rfl | ⟨rfl, rfl⟩
  · exact hk
  · exact hk
theorem after_sim (hcall : CallOk P call) {k : KE} (hk : ∀ es tm ds h n, Above n (k es tm ds h n)) {o : Oper} {d : Option Loc} (hst : St P F N ψ tm ds h n a w) (hev : EnvOk ψ dl es a)
    (hd : compDst F N o.dst = some d) {rc : Bool} (hrc : isRec o.op = true → rc = true) : ∀ (r : OR), SimAt P ψ h n a.eval o.op o.type w r → OAbove n r → Clean (after r call k d es tm ds h n) →
      Step P rc o a w (Next1 P F N ψ h n w (o.dst :: dl) k (after r call k d es tm ds h n))
  | .val v, hs, _, hc => by
    obtain ⟨x, h1, h2⟩ := hs
    exact valOut_run h1 (next_put hst hev hd (Post.refl hst.rel) h2 hc)
  | .read v, hs, _, hc => by
    obtain ⟨x, h1, h2⟩ := hs hst.rel.on
    exact valOut_run h1 (next_put hst hev hd (Post.refl hst.rel) h2 hc)
  | .alloc ob v, hs, _, hc => by
    obtain ⟨w', x, sz, h1, h2, h3, _⟩ := hs
    have hroom : n.succ.room := by
      have hc' : Clean (withT d v tm fun tm => k (v :: es) tm ds (putH (some ob) n h) n.succ) := hc
      rw [withT_eq] at hc'
      exact room_of hc' (hk _ _ _ _ _)
    have hr := Key.room_of_succ hroom
    have hnone := hst.fresh n (Nat.le_refl _)
    have hle := Psi.le_upd (ψ := ψ) (k := n) ⟨w.heap.size, 0, sz, fun n => n⟩ hnone
    obtain ⟨h4, h5⟩ := h3 _ hle (Psi.upd_same _ _ _)
    have hp := post_alloc hst.rel hr hnone h2 h5
    rw [← fam_putH] at hp
    exact valOut_run h1 (next_put hst hev hd hp h4 hc)
  | .eff v h' n', hs, ha, hc => by
    have hroom : n'.room := by
      have hc' : Clean (withT d v tm fun tm => k (v :: es) tm ds h' n') := hc
      rw [withT_eq] at hc'
      exact room_of hc' (hk _ _ _ _ _)
    obtain ⟨w', x, ψ', h1, h2, h3⟩ := hs hst.rel (fun q hq _ => hst.fresh q hq) hroom
    exact valOut_run h1 (next_put hst hev hd h2 h3 hc)
  | .call f args, hs, _, hc => by
    obtain ⟨args', h1, h2⟩ := hs hst.rel.on
    have hc' : Clean (thenRet (fun v h n => withT d v tm fun tm => k (v :: es) tm ds h n) (call false f args h n)) := hc
    have hcl := clean_thenRet (fun v h n => by rw [withT_eq]; exact hk _ _ _ _ _) hc'
    have hcalls := hcall.calls f args h n ψ w args' h2 hst.glob hst.rel hst.fresh hcl
    have hn := fun (x : Value) (w' : World) hr => next_ret (k := k) (o := o) (x := x) (w' := w') hst hev hd (r := call false f args h n) hr hc'
    have h1 : (execOp a.eval o).run P w = (callFunc f args').run P w := h1
    unfold Step
    rw [h1]
    unfold CallsTo' at hcalls
    generalize (callFunc f args').run P w = r at hcalls ⊢
    cases r with
    | halt x w' => exact hcalls.elim
    | ok x w' =>
      cases x <;> first
        | exact hn _ _ hcalls
        | exact Calls.mono hcalls fun e w' ⟨v, e1, e2⟩ => ⟨v, e1, hn v w' e2⟩
        | exact hcalls.elim
  | .dfr f args, hs, _, hc => by
    obtain ⟨dd, fv, cap, args', h1, h2, h3, h4⟩ := hs
    have h1 : (execOp a.eval o).run P w = .ok (.defer dd) w := h1
    unfold Step
    rw [h1]
    have hc' : Clean (withT d .undef tm fun tm => k (.undef :: es) tm ((f, args) :: ds) h n) := hc
    show Next1 P F N ψ h n w (o.dst :: dl) k (withT d .undef tm fun tm => k (.undef :: es) tm ((f, args) :: ds) h n) ({ a with defers := dd :: a.defers }.put o.dst undef) w
    refine next_put (a := { a with defers := dd :: a.defers }) (ds := (f, args) :: ds) ⟨⟨hst.frame.size, hst.frame.tmp⟩, ⟨dd, a.defers, rfl, ⟨fv, cap, args', h2, h3, h4⟩, hst.dfr⟩, hst.rel, hst.glob, hst.fresh⟩ hev hd (Post.refl hst.rel) vrel_undef hc'
  | .recov, hs, _, hc => by
    obtain ⟨h0, h1⟩ := hs
    have h1 : (execOp a.eval o).run P w = .ok .recover w := h1
    unfold Step
    rw [h1]
    exact ⟨hrc h0, next_put hst hev hd (Post.refl hst.rel) (vrel_niliface.2 rfl) hc⟩
  | .err _, _, _, hc => hc.elim
  | .fork r s, hs, ha, hc => by
    rcases hs hst.rel with hs | hs
    · exact Step.mono (fun _ _ h => Next1.forkL h) (after_sim hcall hk hst hev hd hrc r hs ha.1 hc.1)
    · exact Step.mono (fun _ _ h => Next1.forkR h) (after_sim hcall hk hst hev hd hrc s hs ha.2 hc.2)
end
end
end Go.Ev

namespace Go.Ev
variable [Sym]
noncomputable section
variable {P : Program}
variable [SymFact P]
theorem wanted_of {ψ : Psi} {ops : Array Oper} {o : Oper} {j t : Nat} {wnt : Bool} {a : Act} {c : CV} (hg : o.guard = some (j, wnt)) (ht : (ops[j]?).bind (·.dst) = some t) (hc : VRel ψ c (a.tmps.getD t undef)) :
    (boolIs wnt c = true → Region.wanted o (yielded ops a.tmps) = true) ∧ (boolIs wnt c = false → notAny c = true → Region.wanted o (yielded ops a.tmps) = false) := by
  have hw : Region.wanted o (yielded ops a.tmps) = (yielded ops a.tmps j == some wnt) := by unfold Region.wanted; rw [hg]
  have hy : yielded ops a.tmps j = (match a.tmps[t]? with | some (.bool b) => some b | _ => none) := by unfold yielded; rw [ht]; rfl
  have hget : ∀ b, a.tmps.getD t undef = .bool b → a.tmps[t]? = some (.bool b) := by
    intro b h
    rw [Array.getD_eq_getD_getElem?] at h
    cases hq : a.tmps[t]? with
    | none => rw [hq] at h; cases h
    | some v => rw [hq] at h; exact congrArg some h
  rw [hw, hy]
  constructor
  · intro hb
    unfold boolIs at hb
    split at hb
    · rename_i b
      rw [vrel_bool] at hc
      rw [hget _ hc]
      cases b <;> cases wnt <;> simp_all
    · cases hb
  · intro hb hn
    cases hq : a.tmps[t]? with
    | none => rfl
    | some v =>
      have hv : a.tmps.getD t undef = v := by rw [Array.getD_eq_getD_getElem?, hq]; rfl
      rw [hv] at hc
      cases v <;> try rfl
      rename_i b
      have hb' : c = .bool b ∨ c = .any := by
        cases c
        case bool b' => rw [vrel_bool] at hc; injection hc with hc; subst hc; exact .inl rfl
        case any => exact .inr rfl
        case nat => rw [vrel_nat] at hc; cases hc
        case int => rw [vrel_int] at hc; cases hc
        case anyi => rw [vrel_anyi] at hc; obtain ⟨_, hc⟩ := hc; cases hc
        case str => rw [vrel_str] at hc; obtain ⟨_, hc, _⟩ := hc; cases hc
        case big => rw [vrel_big] at hc; obtain ⟨_, hc, _⟩ := hc; cases hc
        case nilptr => rw [vrel_nilptr] at hc; cases hc
        case ptr => rw [vrel_ptr] at hc; obtain ⟨_, _, hc⟩ := hc; cases hc
        case nilsl => rw [vrel_nilsl] at hc; cases hc
        case sl => rw [vrel_sl] at hc; obtain ⟨_, _, _, _, hc, _⟩ := hc; cases hc
        case sst => rw [vrel_sst] at hc; obtain ⟨_, hc, _⟩ := hc; cases hc
        case win => rw [vrel_win] at hc; obtain ⟨_, _, _, _, _, hc, _⟩ := hc; cases hc
        case nilmap => rw [vrel_nilmap] at hc; cases hc
        case map => rw [vrel_map] at hc; obtain ⟨_, _, hc⟩ := hc; cases hc
        case func => rw [vrel_func] at hc; obtain ⟨_, _, hc, _⟩ := hc; cases hc
        case nilfunc => rw [vrel_nilfunc] at hc; cases hc
        case iface => rw [vrel_iface] at hc; obtain ⟨_, hc, _⟩ := hc; cases hc
        case niliface => rw [vrel_niliface] at hc; cases hc
        case agg => rw [vrel_agg] at hc; obtain ⟨_, hc, _⟩ := hc; cases hc
        case sym i => rw [vrel_sym] at hc; rcases Sym.one i with ⟨_, _, e⟩ | ⟨_, e⟩ <;> rw [e] at hc <;> cases hc
        case tup => rw [vrel_tup] at hc; obtain ⟨_, hc, _⟩ := hc; cases hc
      rcases hb' with rfl | rfl
      · cases b <;> cases wnt <;> first | rfl | cases hb
      · cases hn
section
variable {F N : Nat} {call : CallF} {ops : Array Oper} {rc : Bool} {Q : Act → World → Prop} {W : List Nat → Act → World → Prop}
theorem nth_dst {j : Nat} : (nth ops.toList j).bind (·.dst) = (ops[j]?).bind (·.dst) := by rw [nth_eq, Array.getElem?_toList]
theorem ins_sim (hcall : CallOk P call) (walk : Walk P ops rc Q W) {k : KE} (hk : ∀ es tm ds h n, Above n (k es tm ds h n)) {ψ : Psi} {tm : Tm} {ds : Defs} {h : Heap} {n : Key} {a : Act} {w : World} {dl : List (Option Nat)} {es : List CV}
    (hst : St P F N ψ tm ds h n a w) (hev : EnvOk ψ dl es a) {i : Nat} {o : Oper} {rest : List Nat} (ho : ops[i]? = some o) (hrc : isRec o.op = true → rc = true)
    (hc : Clean (evIn P call (compIns P F N ops.toList dl o) k es tm ds h n))
    (hnext : ∀ a' w', Next1 P F N ψ h n w (o.dst :: dl) k (evIn P call (compIns P F N ops.toList dl o) k es tm ds h n) a' w' → W rest a' w') : W (i :: rest) a w := by
  unfold compIns at hc hnext
  cases hd : compDst F N o.dst with
  | none => simp only [hd] at hc; exact hc.elim
  | some d =>
    simp only [hd] at hc hnext
    have hsim := fun (w : World) => sim_op (ψ := ψ) (h := h) (n := n) (es := es) (tm := tm) (ty := o.type) (w := w) (act_rho a) o.op (args_ok hst hev _)
    cases hg : o.guard with
    | none =>
      have hw : Region.wanted o (yielded ops a.tmps) = true := by unfold Region.wanted; rw [hg]
      simp only [hg] at hc hnext
      refine walk.step i o rest a w ho hw ?_
      cases d with
      | none =>
        have := after_sim hcall hk hst hev hd hrc _ (hsim w) (oa_exec _) hc
        exact Step.mono hnext this
      | some p =>
        have := after_sim hcall hk hst hev hd hrc _ (hsim w) (oa_exec _) hc
        exact Step.mono hnext this
    | some jw =>
      obtain ⟨j, wnt⟩ := jw
      simp only [hg] at hc hnext
      cases ht : (nth ops.toList j).bind (·.dst) with
      | none => simp only [ht] at hc; exact hc.elim
      | some t =>
        simp only [ht] at hc hnext
        cases hx : compArg P ⟨F, N, dl⟩ (.tmp t) with
        | none => simp only [hx] at hc; exact hc.elim
        | some x =>
          simp only [hx] at hc hnext
          have hv := args_ok hst hev [.tmp t] _ (by simp) _ hx
          have hv : VRel ψ (aV es tm x) (a.tmps.getD t undef) := hv
          rw [nth_dst] at ht
          obtain ⟨w1, w2⟩ := wanted_of hg ht hv
          have hc' : Clean (Bool.rec (motive := fun _ => R)
            (Bool.rec (motive := fun _ => R) (.err 299) (withT d .undef tm fun tm => k (.undef :: es) tm ds h n) (notAny (aV es tm x)))
            (after (exec P (compOp P ⟨F, N, dl⟩ o.op) es tm h n) call k d es tm ds h n) (boolIs wnt (aV es tm x))) := hc
          have hnext' : ∀ a' w', Next1 P F N ψ h n w (o.dst :: dl) k (Bool.rec (motive := fun _ => R)
            (Bool.rec (motive := fun _ => R) (.err 299) (withT d .undef tm fun tm => k (.undef :: es) tm ds h n) (notAny (aV es tm x)))
            (after (exec P (compOp P ⟨F, N, dl⟩ o.op) es tm h n) call k d es tm ds h n) (boolIs wnt (aV es tm x))) a' w' → W rest a' w' := hnext
          cases hb : boolIs wnt (aV es tm x) with
          | true =>
            rw [hb] at hc' hnext'
            refine walk.step i o rest a w ho (w1 hb) ?_
            exact Step.mono hnext' (after_sim hcall hk hst hev hd hrc _ (hsim w) (oa_exec _) hc')
          | false =>
            rw [hb] at hc' hnext'
            cases hn : notAny (aV es tm x) with
            | false => rw [hn] at hc'; exact hc'.elim
            | true =>
              rw [hn] at hc' hnext'
              exact walk.skip i o rest a w ho (w2 hb hn) (hnext' _ _ (next_put hst hev hd (Post.refl hst.rel) vrel_undef hc'))
theorem ops_sim (hcall : CallOk P call) (walk : Walk P ops rc Q W) : ∀ (rest : List Oper) (i : Nat) {ψ : Psi} {tm : Tm} {ds : Defs} {h : Heap} {n : Key} {a : Act} {w : World} {dl : List (Option Nat)} {es : List CV},
    ops.toList.drop i = rest → (∀ o ∈ rest, isRec o.op = true → rc = true) → St P F N ψ tm ds h n a w → EnvOk ψ dl es a →
    Clean (evIns P call (compOps P F N ops.toList dl rest) es tm ds h n) →
    (∀ tm' ds' h' n' ψ' a' w', St P F N ψ' tm' ds' h' n' a' w' → Post ψ (Heap.fam h) n w ψ' (Heap.fam h') n' w' → n'.room →
      (∀ (O : R → Prop), (∀ x y, O x → O (.fork x y)) → (∀ x y, O y → O (.fork x y)) → O (.ok .normal tm' ds' h' n') → O (evIns P call (compOps P F N ops.toList dl rest) es tm ds h n)) → Q a' w') →
    W (List.range' i rest.length) a w
  | [], i, ψ, tm, ds, h, n, a, w, dl, es, _, _, hst, hev, hc, hQ => walk.nil a w (hQ tm ds h n ψ a w hst (Post.refl hst.rel) hc fun O _ _ ho => ho)
  | o :: rest, i, ψ, tm, ds, h, n, a, w, dl, es, hi, hrc, hst, hev, hc, hQ => by
    have ho : ops[i]? = some o := by
      rw [← Array.getElem?_toList]
      have : (ops.toList.drop i)[0]? = some o := by rw [hi]; rfl
      rw [List.getElem?_drop] at this
      exact this
    have hrest : ops.toList.drop (i + 1) = rest := by
      have := congrArg (List.drop 1) hi
      rw [List.drop_drop] at this
      exact this
    rw [List.length_cons, List.range'_succ]
    refine ins_sim hcall walk (k := evIns P call (compOps P F N ops.toList (o.dst :: dl) rest)) (fun es tm ds h n => above_ins hcall.above _ es tm ds h n) hst hev ho (hrc o (by simp)) hc fun a' w' hn => ?_
    obtain ⟨es', tm', ds', h', n', ψ', h1, h2, h3, h4, h5⟩ := hn
    refine ops_sim hcall walk rest (i + 1) hrest (fun o ho => hrc o (by simp [ho])) h1 h2 h4 fun tm'' ds'' h'' n'' ψ'' a'' w'' g1 g2 g3 g4 => ?_
    exact hQ tm'' ds'' h'' n'' ψ'' a'' w'' g1 (h3.trans g2) g3 fun O f1 f2 ho => h5 O f1 f2 (g4 O f1 f2 ho)
end
end
end Go.Ev

namespace Go.Ev
variable [Sym]
noncomputable section
variable {P : Program}
variable [SymFact P]
theorem above_thenK {n : Key} {k : K} (hk : ∀ tm ds h n, Above n (k tm ds h n)) : ∀ {r : R}, Above n r → Above n (thenK k r)
  | .ok .normal tm ds h n', ha => Above.le ha (hk tm ds h n')
  | .ok (.exit _) _ _ _ _, ha => ha
  | .ok .ret _ _ _ _, ha => ha
  | .ret .., _ => trivial
  | .err _, _ => trivial
  | .fork _ _, h => ⟨above_thenK hk h.1, above_thenK hk h.2⟩
theorem clean_thenK {k : K} (hk : ∀ tm ds h n, Above n (k tm ds h n)) : ∀ {r : R}, Clean (thenK k r) → Clean r
  | .ok .normal tm ds h n', hc => room_of hc (hk tm ds h n')
  | .ok (.exit _) _ _ _ _, hc => hc
  | .ok .ret _ _ _ _, hc => hc
  | .ret .., hc => hc.elim
  | .err _, hc => hc.elim
  | .fork _ _, h => ⟨clean_thenK hk h.1, clean_thenK hk h.2⟩
theorem blockK_exit (id i : Nat) (tm : Tm) (ds : Defs) (h : Heap) (n : Key) : blockK id (.ok (.exit i) tm ds h n) = if i = id then .ok .normal tm ds h n else .ok (.exit i) tm ds h n := by
  show Bool.rec (motive := fun _ => R) (.ok (.exit i) tm ds h n) (.ok .normal tm ds h n) (Nat.beq i id) = _
  by_cases e : i = id
  · subst e; rw [beq_self, if_pos rfl]
  · rw [beq_no e, if_neg e]
theorem above_blockK {n : Key} (id : Nat) : ∀ {r : R}, Above n r → Above n (blockK id r)
  | .ok .normal _ _ _ _, ha => ha
  | .ok (.exit i) _ _ _ _, ha => by rw [blockK_exit]; split <;> exact ha
  | .ok .ret _ _ _ _, ha => ha
  | .ret .., _ => trivial
  | .err _, _ => trivial
  | .fork _ _, h => ⟨above_blockK id h.1, above_blockK id h.2⟩
theorem clean_blockK (id : Nat) : ∀ {r : R}, Clean (blockK id r) → Clean r
  | .ok .normal _ _ _ _, ha => ha
  | .ok (.exit i) _ _ _ _, ha => by rw [blockK_exit] at ha; split at ha <;> exact ha
  | .ok .ret _ _ _ _, ha => ha
  | .ret .., h => h.elim
  | .err _, h => h.elim
  | .fork _ _, h => ⟨clean_blockK id h.1, clean_blockK id h.2⟩
theorem condK_elim {C : K → Prop} {a b : K} (v : CV) (ht : v = .bool true → C a) (hf : v = .bool false → C b) (he : C fun _ _ _ _ => .err 302) : C (condK a b v) := by
  unfold condK
  split
  · exact ht rfl
  · exact hf rfl
  · exact he
section
variable {call : CallF} (hcall : CallAbove call)
include hcall
theorem above_dEff {k : KD} (hk : ∀ es hs tm ds h n, Above n (k es hs tm ds h n)) (d : Option Loc) (es : List CV) (hs : List Heap) (tm : Tm) (ds : Defs) (h : Heap) (n : Key) (r : OR) (ho : OAbove n r) :
    Above n (dEff call d k r es hs tm ds h n) := by
  cases r with
  | val v => show Above n (withT _ _ _ _); rw [withT_eq]; exact hk _ _ _ _ _ _
  | read v => show Above n (withT _ _ _ _); rw [withT_eq]; exact hk _ _ _ _ _ _
  | alloc o v => show Above n (withT _ _ _ _); rw [withT_eq]; exact Above.le (Key.ix_le_succ n) (hk _ _ _ _ _ _)
  | eff v h' n' => show Above n (withT _ _ _ _); rw [withT_eq]; exact Above.le ho (hk _ _ _ _ _ _)
  | call f args => exact above_thenRet (k := fun v h' n' => withT d v tm fun tm => k (v :: es) (h :: hs) tm ds h' n') (fun v h n => by rw [withT_eq]; exact hk _ _ _ _ _ _) (hcall _ _ _ _ _)
  | dfr f args => trivial
  | recov => trivial
  | err _ => trivial
  | fork a b => trivial
omit hcall in
theorem above_dNo {k : KD} (hk : ∀ es hs tm ds h n, Above n (k es hs tm ds h n)) (op : COp) (d : Option Loc) (chk : Nat) (es : List CV) (hs : List Heap) (tm : Tm) (ds : Defs) (h : Heap) (n : Key) (r : OR) :
    Above n (dNo P op d chk k r es hs tm ds h n) := by
  cases r with
  | val v => show Above n (withT _ _ _ _); rw [withT_eq]; exact hk _ _ _ _ _ _
  | read v =>
    show Above n (match sameRead P op es tm n v chk hs with
      | true => withT d v tm fun tm => k (v :: es) hs tm ds h n
      | false => .err 311)
    split
    · rw [withT_eq]; exact hk _ _ _ _ _ _
    · trivial
  | alloc o v => show Above n (withT _ _ _ _); rw [withT_eq]; exact Above.le (Key.ix_le_succ n) (hk _ _ _ _ _ _)
  | eff v h' n' => trivial
  | call f args => trivial
  | dfr f args => trivial
  | recov => trivial
  | err _ => trivial
  | fork a b => trivial
theorem above_dOp {k : KD} (hk : ∀ es hs tm ds h n, Above n (k es hs tm ds h n)) (op : COp) (d : Option Loc) (e : Bool) (chk : Nat) (es : List CV) (hs : List Heap) (tm : Tm) (ds : Defs) (h : Heap) (n : Key) :
    Above n (dOp P call op d e chk k es hs tm ds h n) := by
  unfold dOp
  split
  · exact above_dEff hcall hk d es hs tm ds h n _ (oa_exec op)
  · exact above_dNo hk op d chk es hs tm ds h n _
theorem above_D : ∀ (l : List DIns) (es : List CV) (hs : List Heap) (tm : Tm) (ds : Defs) (h : Heap) (n : Key), Above n (evD P call l es hs tm ds h n)
  | [], _, _, _, _, _, _ => Nat.le_refl _
  | i :: l, es, hs, tm, ds, h, n => by
    unfold evD
    have ih := fun es hs tm ds h n => above_D l es hs tm ds h n
    split
    · exact above_dOp hcall ih _ _ _ _ _ _ _ _ _ _
    · exact above_dOp hcall ih _ _ _ _ _ _ _ _ _ _
    · split
      · exact above_dOp hcall ih _ _ _ _ _ _ _ _ _ _
      · split
        · unfold dSkip
          rw [withT_eq]; exact ih _ _ _ _ _ _
        · trivial
theorem above_code : ∀ (c : CCode) (tm : Tm) (ds : Defs) (h : Heap) (n : Key), Above n (evCode P call c tm ds h n)
  | .skip, _, _, _, _ => Nat.le_refl _
  | .region ops, tm, ds, h, n => above_ins hcall ops [] tm ds h n
  | .dregion ops, tm, ds, h, n => above_D hcall ops [] [] tm ds h n
  | .seq a b, tm, ds, h, n => above_thenK (fun tm ds h n => above_code b tm ds h n) (above_code a tm ds h n)
  | .cond x a b, tm, ds, h, n => by
    exact condK_elim (C := fun k => Above n (k tm ds h n)) _ (fun _ => above_code a tm ds h n) (fun _ => above_code b tm ds h n) trivial
  | .block id b, tm, ds, h, n => above_blockK id (above_code b tm ds h n)
  | .loop b, tm, ds, h, n => by
    show Above n (loopK loopFuel (evCode P call b) tm ds h n)
    have : ∀ (fuel : Nat) (tm : Tm) (ds : Defs) (h : Heap) (n : Key), Above n (loopK fuel (evCode P call b) tm ds h n) := by
      intro fuel
      induction fuel with
      | zero => intros; trivial
      | succ m ih => intro tm ds h n; exact above_thenK ih (above_code b tm ds h n)
    exact this _ _ _ _ _
  | .exit _, _, _, _, _ => Nat.le_refl _
  | .ret, _, _, _, _ => Nat.le_refl _
  | .scope b, tm, ds, h, n => above_code b tm ds h n
  | .bad _, _, _, _, _ => trivial
end
def OutOk (P : Program) (F N : Nat) (ψ₀ : Psi) (g₀ : Fam) (n₀ : Key) (w₀ : World) : R → Exit → Act → World → Prop
  | .ok cx tm ds h n, e, a, w => CXRel cx e ∧ ∃ ψ, St P F N ψ tm ds h n a w ∧ Post ψ₀ g₀ n₀ w₀ ψ (Heap.fam h) n w ∧ n.room
  | .fork r s, e, a, w => OutOk P F N ψ₀ g₀ n₀ w₀ r e a w ∨ OutOk P F N ψ₀ g₀ n₀ w₀ s e a w
  | _, _, _, _ => False
section
variable {F N : Nat} {ψ₀ ψ₁ : Psi} {g₀ g₁ : Fam} {n₀ n₁ : Key} {w₀ w₁ : World}
theorem OutOk.trans (hp : Post ψ₀ g₀ n₀ w₀ ψ₁ g₁ n₁ w₁) {e : Exit} {a : Act} {w : World} : ∀ {r : R}, OutOk P F N ψ₁ g₁ n₁ w₁ r e a w → OutOk P F N ψ₀ g₀ n₀ w₀ r e a w
  | .ok .., ⟨h1, ψ, h2, h3, h4⟩ => ⟨h1, ψ, h2, hp.trans h3, h4⟩
  | .ret .., h => h
  | .err _, h => h
  | .fork _ _, h => h.imp (OutOk.trans hp) (OutOk.trans hp)
theorem thenK_out {k : K} {e : Exit} {a : Act} {w : World} : ∀ {r : R}, Clean (thenK k r) → OutOk P F N ψ₀ g₀ n₀ w₀ r e a w →
    (e = .normal ∧ ∃ tm ds h n ψ, St P F N ψ tm ds h n a w ∧ Post ψ₀ g₀ n₀ w₀ ψ (Heap.fam h) n w ∧ Clean (k tm ds h n) ∧
      ∀ e' a' w', OutOk P F N ψ₀ g₀ n₀ w₀ (k tm ds h n) e' a' w' → OutOk P F N ψ₀ g₀ n₀ w₀ (thenK k r) e' a' w') ∨
    (e ≠ .normal ∧ OutOk P F N ψ₀ g₀ n₀ w₀ (thenK k r) e a w)
  | .ok .normal tm ds h n, hc, ⟨h1, ψ, h2, h3, h4⟩ => by
    cases e <;> first | exact h1.elim | skip
    exact .inl ⟨rfl, tm, ds, h, n, ψ, h2, h3, hc, fun e' a' w' ho => ho⟩
  | .ok (.exit i) tm ds h n, hc, ⟨h1, ψ, h2, h3, h4⟩ => .inr ⟨by rintro rfl; exact h1.elim, h1, ψ, h2, h3, h4⟩
  | .ok .ret tm ds h n, hc, ⟨h1, ψ, h2, h3, h4⟩ => .inr ⟨by rintro rfl; exact h1.elim, h1, ψ, h2, h3, h4⟩
  | .ret .., hc, _ => hc.elim
  | .err _, hc, _ => hc.elim
  | .fork r s, hc, ho => by
    rcases ho with ho | ho
    · rcases thenK_out hc.1 ho with ⟨h1, tm, ds, h, n, ψ, h2, h3, h4, h5⟩ | ⟨h1, h2⟩
      · exact .inl ⟨h1, tm, ds, h, n, ψ, h2, h3, h4, fun e' a' w' q => .inl (h5 e' a' w' q)⟩
      · exact .inr ⟨h1, .inl h2⟩
    · rcases thenK_out hc.2 ho with ⟨h1, tm, ds, h, n, ψ, h2, h3, h4, h5⟩ | ⟨h1, h2⟩
      · exact .inl ⟨h1, tm, ds, h, n, ψ, h2, h3, h4, fun e' a' w' q => .inr (h5 e' a' w' q)⟩
      · exact .inr ⟨h1, .inr h2⟩
theorem blockK_out {id : Nat} {e : Exit} {a : Act} {w : World} {Q : Exit → Act → World → Prop} : ∀ {r : R}, (∀ e a w, OutOk P F N ψ₀ g₀ n₀ w₀ (blockK id r) e a w → Q e a w) → OutOk P F N ψ₀ g₀ n₀ w₀ r e a w → Exit.inBlock id Q e a w
  | .ok .normal tm ds h n, hq, ⟨h1, ψ, h2, h3, h4⟩ => by
    cases e <;> first | exact h1.elim | skip
    exact hq .normal a w ⟨trivial, ψ, h2, h3, h4⟩
  | .ok (.exit i) tm ds h n, hq, ⟨h1, ψ, h2, h3, h4⟩ => by
    cases e <;> first | exact h1.elim | skip
    rename_i j
    have h1 : i = j := h1
    subst h1
    rw [blockK_exit] at hq
    unfold Exit.inBlock
    simp only
    split
    · rename_i e
      rw [if_pos e] at hq
      exact hq .normal a w ⟨trivial, ψ, h2, h3, h4⟩
    · rename_i e
      rw [if_neg e] at hq
      exact hq (.exit i) a w ⟨rfl, ψ, h2, h3, h4⟩
  | .ok .ret tm ds h n, hq, ⟨h1, ψ, h2, h3, h4⟩ => by
    cases e <;> first | exact h1.elim | skip
    exact hq .ret a w ⟨trivial, ψ, h2, h3, h4⟩
  | .ret .., _, ho => ho.elim
  | .err _, _, ho => ho.elim
  | .fork r s, hq, ho => by
    rcases ho with ho | ho
    · exact blockK_out (fun e a w h => hq e a w (.inl h)) ho
    · exact blockK_out (fun e a w h => hq e a w (.inr h)) ho
theorem out_noGoto {Q : Exit → Act → World → Prop} {e : Exit} {a : Act} {w : World} : ∀ {r : R}, (OutOk P F N ψ₀ g₀ n₀ w₀ r e a w → Q e a w) → OutOk P F N ψ₀ g₀ n₀ w₀ r e a w → Exit.noGoto Q e a w
  | .ok cx tm ds h n, hq, ho => by
    cases e <;> first | exact hq ho | (cases cx <;> exact ho.1.elim)
  | .ret .., _, ho => ho.elim
  | .err _, _, ho => ho.elim
  | .fork r s, hq, ho => by
    rcases ho with ho | ho
    · exact out_noGoto (fun h => hq (.inl h)) ho
    · exact out_noGoto (fun h => hq (.inr h)) ho
end
theorem evCode_loop (call : CallF) (b : CCode) : evCode P call (.loop b) = loopK loopFuel (evCode P call b) := rfl
theorem compCode_loop (F N : Nat) (b : Code) : compCode P F N (.loop b) = .loop (compCode P F N b) := rfl
def LoopAt (P : Program) (c : Code) (Q : Exit → Act → World → Prop) (a : Act) (w : World) : Prop :=
  ∀ (b : Frame) (k : List Item) (cs : List Frame), ∃ e a' w', Q e a' w' ∧ Arrives P (lone (b.at a (.code c :: .inLoop c :: k)) cs w) b k cs e a' w'
theorem loopAt_of {c : Code} {Q : Exit → Act → World → Prop} {a : Act} {w : World} (h : c.wp P (Exit.then (LoopAt P c Q) Q) a w) : LoopAt P c Q a w := by
  intro b k cs
  obtain ⟨e, a₁, w₁, hq, harr⟩ := h b (.inLoop c :: k) cs
  cases e with
  | normal =>
    obtain ⟨e₂, a₂, w₂, hq₂, harr₂⟩ := hq b k cs
    exact ⟨e₂, a₂, w₂, hq₂, .of_steps (Steps.trans harr (.one step_inLoop)) harr₂⟩
  | exit id => exact ⟨_, a₁, w₁, hq, .pass (x := .inLoop c) rfl (fun _ _ => .inl (by simp)) harr⟩
  | goto l => exact ⟨_, a₁, w₁, hq, .pass (x := .inLoop c) rfl (fun _ _ => .inl (by simp)) harr⟩
  | ret => exact ⟨_, a₁, w₁, hq, .pass (x := .inLoop c) rfl (fun _ _ => .inl (by simp)) harr⟩
  | panic ch => exact ⟨_, a₁, w₁, hq, .pass (x := .inLoop c) rfl (fun _ _ => .inl (by simp)) harr⟩
  | outgrown => exact ⟨_, a₁, w₁, hq, .pass (x := .inLoop c) rfl (fun _ _ => .inl (by simp)) harr⟩
theorem wp_loop_of {c : Code} {Q : Exit → Act → World → Prop} {a : Act} {w : World} (h : LoopAt P c Q a w) : (Code.loop c).wp P Q a w := by
  intro b k cs
  obtain ⟨e, a', w', hq, harr⟩ := h b k cs
  exact ⟨e, a', w', hq, .of_steps (.one step_loop) harr⟩
def DrawSim (P : Program) (F N : Nat) (call : CallF) : Prop := ∀ (id : Nat) (ops : Array Oper) (ψ : Psi) (tm : Tm) (ds : Defs) (h : Heap) (n : Key) (a : Act) (w : World), noRecL ops.toList = true →
  St P F N ψ tm ds h n a w → Clean (evCode P call (compDR P F N ops.toList) tm ds h n) →
  (Code.region id ops true).wp P (OutOk P F N ψ (Heap.fam h) n w (evCode P call (compDR P F N ops.toList) tm ds h n)) a w
theorem noRecL_spec (l : List Oper) (h : noRecL l = true) : ∀ o ∈ l, isRec o.op = false := by
  induction l with
  | nil => intro o ho; cases ho
  | cons x l ih =>
    intro o ho
    unfold noRecL at h
    rw [Bool.and_eq_true] at h
    rcases List.mem_cons.1 ho with rfl | ho
    · have := h.1
      cases hr : isRec o.op with
      | false => rfl
      | true => rw [hr] at this; cases this
    · exact ih h.2 o ho
theorem code_sim {F N : Nat} {call : CallF} (hcall : CallOk P call) (hdraw : DrawSim P F N call) : ∀ (c : Code) {ψ : Psi} {tm : Tm} {ds : Defs} {h : Heap} {n : Key} {a : Act} {w : World},
    noRec c = true → St P F N ψ tm ds h n a w → Clean (evCode P call (compCode P F N c) tm ds h n) → c.wp P (OutOk P F N ψ (Heap.fam h) n w (evCode P call (compCode P F N c) tm ds h n)) a w := by
  intro c
  induction c with
  | skip => intro ψ tm ds h n a w _ hst hc; exact wp_skip ⟨trivial, ψ, hst, Post.refl hst.rel, hc⟩
  | label l => intro ψ tm ds h n a w _ hst hc; exact wp_label ⟨trivial, ψ, hst, Post.refl hst.rel, hc⟩
  | region id ops dr =>
    intro ψ tm ds h n a w hnr hst hc
    cases dr with
    | true => exact hdraw id ops ψ tm ds h n a w hnr hst hc
    | false =>
      refine wp_region ?_
      have hc' : Clean (evIns P call (compOps P F N ops.toList [] ops.toList) [] tm ds h n) := hc
      have := ops_sim (F := F) (N := N) hcall (walk_plain (P := P) ops (OutOk P F N ψ (Heap.fam h) n w (evIns P call (compOps P F N ops.toList [] ops.toList) [] tm ds h n)))
        ops.toList 0 rfl (fun o ho hr => by rw [noRecL_spec _ hnr o ho] at hr; cases hr) hst (dl := []) (es := []) (fun t i hi => by cases hi) hc'
        (fun tm' ds' h' n' ψ' a' w' g1 g2 g3 g4 => g4 (fun r => OutOk P F N ψ (Heap.fam h) n w r .normal a' w') (fun _ _ h => .inl h) (fun _ _ h => .inr h) ⟨trivial, ψ', g1, g2, g3⟩)
      rw [Array.length_toList] at this
      rw [List.range_eq_range']
      exact this
  | seq x y ihx ihy =>
    intro ψ tm ds h n a w hnr hst hc
    have hnr : noRec x = true ∧ noRec y = true := by simpa [noRec] using hnr
    have hc : Clean (thenK (evCode P call (compCode P F N y)) (evCode P call (compCode P F N x) tm ds h n)) := hc
    have hab := fun tm ds h n => above_code (P := P) hcall.above (compCode P F N y) tm ds h n
    refine wp_seq (wp_mono (ihx hnr.1 hst (clean_thenK hab hc)) fun e a' w' ho => ?_)
    rcases thenK_out hc ho with ⟨rfl, tm', ds', h', n', ψ', h2, h3, h4, h5⟩ | ⟨h1, h2⟩
    · exact wp_mono (ihy hnr.2 h2 h4) fun e'' a'' w'' ho' => h5 e'' a'' w'' (OutOk.trans h3 ho')
    · cases e <;> first | exact absurd rfl h1 | exact h2
  | cond x p q ihp ihq =>
    intro ψ tm ds h n a w hnr hst hc
    have hnr : noRec p = true ∧ noRec q = true := by simpa [noRec] using hnr
    unfold compCode at hc ⊢
    cases hx : compArg P ⟨F, N, []⟩ x with
    | none => simp only [hx] at hc; exact hc.elim
    | some cx =>
      simp only [hx] at hc ⊢
      have hv := args_ok hst (dl := []) (es := []) (fun t i hi => by cases hi) [x] x (by simp) cx hx
      have hc : Clean (condK (evCode P call (compCode P F N p)) (evCode P call (compCode P F N q)) (aV [] tm cx) tm ds h n) := hc
      show (Code.cond x p q).wp P (OutOk P F N ψ (Heap.fam h) n w (condK (evCode P call (compCode P F N p)) (evCode P call (compCode P F N q)) (aV [] tm cx) tm ds h n)) a w
      revert hc
      refine condK_elim (C := fun k => Clean (k tm ds h n) → (Code.cond x p q).wp P (OutOk P F N ψ (Heap.fam h) n w (k tm ds h n)) a w) _ (fun e hc => ?_) (fun e hc => ?_) (fun hc => hc.elim)
      · rw [e] at hv
        exact wp_cond_true (vrel_bool.1 hv) (ihp hnr.1 hst hc)
      · rw [e] at hv
        exact wp_cond_false (vrel_bool.1 hv) (ihq hnr.2 hst hc)
  | block id b ih =>
    intro ψ tm ds h n a w hnr hst hc
    have hc : Clean (blockK id (evCode P call (compCode P F N b) tm ds h n)) := hc
    refine wp_block (wp_mono (ih hnr hst (clean_blockK id hc)) fun e a' w' ho => ?_)
    exact blockK_out (fun _ _ _ h => h) ho
  | loop b ih =>
    intro ψ tm ds h n a w hnr hst hc
    rw [compCode_loop, evCode_loop] at hc ⊢
    have main : ∀ (fuel : Nat) {ψ : Psi} {tm : Tm} {ds : Defs} {h : Heap} {n : Key} {a : Act} {w : World}, St P F N ψ tm ds h n a w → Clean (loopK fuel (evCode P call (compCode P F N b)) tm ds h n) →
        LoopAt P b (OutOk P F N ψ (Heap.fam h) n w (loopK fuel (evCode P call (compCode P F N b)) tm ds h n)) a w := by
      intro fuel
      induction fuel with
      | zero => intro ψ tm ds h n a w _ hc; exact hc.elim
      | succ m ihm =>
        intro ψ tm ds h n a w hst hc
        have hc : Clean (thenK (loopK m (evCode P call (compCode P F N b))) (evCode P call (compCode P F N b) tm ds h n)) := hc
        have hab : ∀ tm ds h n, Above n (loopK m (evCode P call (compCode P F N b)) tm ds h n) := by
          have : ∀ (fuel : Nat) (tm : Tm) (ds : Defs) (h : Heap) (n : Key), Above n (loopK fuel (evCode P call (compCode P F N b)) tm ds h n) := by
            intro fuel
            induction fuel with
            | zero => intros; trivial
            | succ m ih => intro tm ds h n; exact above_thenK ih (above_code hcall.above _ tm ds h n)
          exact this m
        refine loopAt_of (wp_mono (ih hnr hst (clean_thenK hab hc)) fun e a' w' ho => ?_)
        rcases thenK_out hc ho with ⟨rfl, tm', ds', h', n', ψ', h2, h3, h4, h5⟩ | ⟨h1, h2⟩
        · intro b' k cs
          obtain ⟨e, a'', w'', hq, harr⟩ := ihm h2 h4 b' k cs
          exact ⟨e, a'', w'', h5 e a'' w'' (OutOk.trans h3 hq), harr⟩
        · cases e <;> first | exact absurd rfl h1 | exact h2
    exact wp_loop_of (main loopFuel hst hc)
  | exit id => intro ψ tm ds h n a w _ hst hc; exact wp_exit ⟨rfl, ψ, hst, Post.refl hst.rel, hc⟩
  | ret => intro ψ tm ds h n a w _ hst hc; exact wp_ret ⟨trivial, ψ, hst, Post.refl hst.rel, hc⟩
  | scope b ih =>
    intro ψ tm ds h n a w hnr hst hc
    exact wp_scope_straight (wp_mono (ih hnr hst hc) fun e a' w' ho => out_noGoto (fun h => h) ho)
  | _ => intro ψ tm ds h n a w _ hst hc; exact hc.elim
end
end Go.Ev

namespace Go.Ev
variable [Sym]
noncomputable section
variable {P : Program}
variable [SymFact P]
theorem compTmp_rel {F N : Nat} {ψ : Psi} {tm : Tm} {a : Act} {t : Nat} {x : CArg} (hf : FrameRel ψ F N tm a) (hx : compArg P ⟨F, N, []⟩ (.tmp t) = some x) : VRel ψ (aV [] tm x) (a.tmps.getD t undef) := by
  unfold compArg whereIs at hx
  simp only at hx
  split at hx
  · rename_i hb
    injection hx with hx; subst hx
    rw [Bool.and_eq_true, Bool.and_eq_true] at hb
    exact hf.tmp t hb.1.1 (ble_yes hb.1.2) (ble_yes hb.2)
  · cases hx
theorem cellsAt_rel {ψ : Psi} {h : Heap} {w : World} (hrel : RelOn ψ (Heap.fam h) w) {b : Key} {p : Pl} {vs : List CV} (hp : ψ b = some p) (hv : cellsAt h b = some vs) : RoAt ψ w p vs := by
  unfold cellsAt at hv
  split at hv
  · rename_i q hq; injection hv with hv; subst hv; exact CellsAt.toRo (hrel b _ p hq hp)
  · rename_i q hq; injection hv with hv; subst hv; exact hrel b _ p hq hp
  · cases hv
def res1 (tmps : Array Value) : ResultVar → Sem Value
  | .tmp t => pure (tmps.getD t undef)
  | .cell a t => do loadVar t (← asAddr (tmps.getD a undef))
theorem res1_rel {F N : Nat} {ψ : Psi} {tm : Tm} {a : Act} {h : Heap} {w : World} (hf : FrameRel ψ F N tm a) (hrel : RelOn ψ (Heap.fam h) w) {r : ResultVar} {c : CRes} {v : CV} (hc : compRes P F N r = some c)
    (hv : resV h tm c = some v) : ∃ x, (res1 a.tmps r).run P w = .ok x w ∧ VRel ψ v x := by
  unfold compRes at hc
  split at hc
  · rename_i t
    cases hx : compArg P ⟨F, N, []⟩ (.tmp t) with
    | none => rw [hx] at hc; cases hc
    | some x =>
      rw [hx] at hc
      injection hc with hc; subst hc
      injection hv with hv; subst hv
      exact ⟨_, rfl, compTmp_rel hf hx⟩
  · rename_i t ty
    split at hc
    · rename_i s x ha hs hx
      injection hc with hc; subst hc
      have hr := compTmp_rel hf hx
      unfold resV at hv
      simp only at hv
      split at hv
      · rename_i b off he
        rw [he, vrel_ptr] at hr
        obtain ⟨p, hp, hr⟩ := hr
        split at hv
        · rename_i cs hcs
          have hcells := cellsAt_rel hrel hp hcs
          cases hl : subV cs off s with
          | none => rw [hl] at hv; cases hv
          | some l =>
            rw [hl] at hv
            injection hv with hv; subst hv
            obtain ⟨xs, hrun, hxs⟩ := run_loadMany (P := P) hcells hl
            exact ⟨.agg xs.toArray, by simp only [res1, hr, asAddr, Sem.run_bind, Sem.run_pure, Result.andThen_ok, loadVar, run_isAgg ha, if_true, run_szOf hs, hrun], vrel_agg.2 ⟨_, rfl, by simpa using hxs⟩⟩
        · cases hv
      · cases hv
    · rename_i s x ha hs hx
      injection hc with hc; subst hc
      have hr := compTmp_rel hf hx
      unfold resV at hv
      simp only at hv
      split at hv
      · rename_i b off he
        rw [he, vrel_ptr] at hr
        obtain ⟨p, hp, hr⟩ := hr
        split at hv
        · rename_i cs hcs
          have hcells := cellsAt_rel hrel hp hcs
          rw [nthV_eq] at hv
          obtain ⟨y, hrun, hy⟩ := run_load1 (P := P) hcells hv
          exact ⟨y, by simp only [res1, hr, asAddr, Sem.run_bind, Sem.run_pure, Result.andThen_ok, loadVar, run_isAgg ha, Bool.false_eq_true, if_false, hrun], hy⟩
        · cases hv
      · cases hv
    · cases hc
theorem resL_rel {F N : Nat} {ψ : Psi} {tm : Tm} {a : Act} {h : Heap} {w : World} (hf : FrameRel ψ F N tm a) (hrel : RelOn ψ (Heap.fam h) w) : ∀ {l : List ResultVar} {cs : List CRes} {vs : List CV},
    optMap (compRes P F N) l = some cs → loadRes h tm cs = some vs → ∃ xs, (l.mapM (res1 a.tmps)).run P w = .ok xs w ∧ VRels ψ vs xs
  | [], cs, vs, hc, hv => by
    injection hc with hc; subst hc
    injection hv with hv; subst hv
    exact ⟨[], rfl, vrels_nil.2 rfl⟩
  | r :: l, cs, vs, hc, hv => by
    unfold optMap at hc
    cases h1 : compRes P F N r with
    | none => rw [h1] at hc; cases hc
    | some c =>
      simp only [h1] at hc
      cases h2 : optMap (compRes P F N) l with
      | none => rw [h2] at hc; cases hc
      | some cs' =>
        simp only [h2] at hc
        injection hc with hc; subst hc
        unfold loadRes at hv
        cases h3 : resV h tm c with
        | none => rw [h3] at hv; cases hv
        | some v =>
          simp only [h3] at hv
          cases h4 : loadRes h tm cs' with
          | none => rw [h4] at hv; cases hv
          | some vs' =>
            simp only [h4] at hv
            injection hv with hv; subst hv
            obtain ⟨x, g1, g2⟩ := res1_rel hf hrel h1 h3
            obtain ⟨xs, g3, g4⟩ := resL_rel hf hrel h2 h4
            exact ⟨x :: xs, by simp only [List.mapM_cons, Sem.run_bind, g1, Result.andThen_ok, g3, Sem.run_pure], vrels_cons'.2 ⟨g2, g4⟩⟩
theorem results_rel {F N : Nat} {ψ : Psi} {tm : Tm} {a : Act} {h : Heap} {w : World} {fn : Func} (hf : FrameRel ψ F N tm a) (hrel : RelOn ψ (Heap.fam h) w) {cs : List CRes} {v : CV}
    (hc : optMap (compRes P F N) fn.results.toList = some cs) (hv : resultC h tm cs = some v) : ∃ x, (results fn a.tmps).run P w = .ok x w ∧ VRel ψ v x := by
  have hm : ∀ {xs : List Value}, (fn.results.toList.mapM (res1 a.tmps)).run P w = .ok xs w → (fn.results.mapM (res1 a.tmps)).run P w = .ok xs.toArray w := by
    intro xs hx
    rw [Array.mapM_eq_mapM_toList, Sem.run_map, hx]; rfl
  have hres : (results fn a.tmps).run P w = ((fn.results.mapM (res1 a.tmps)).run P w).andThen fun vs w => .ok (if h : vs.size = 1 then vs[0] else .tuple vs) w := by
    have : results fn a.tmps = (fn.results.mapM (res1 a.tmps) >>= fun vs => pure (if h : vs.size = 1 then vs[0] else .tuple vs)) := by
      unfold results
      congr 1
    rw [this, Sem.run_bind]; rfl
  unfold resultC at hv
  split at hv
  · rename_i u hl
    injection hv with hv; subst hv
    obtain ⟨xs, h1, h2⟩ := resL_rel hf hrel hc hl
    obtain ⟨x, r, rfl, h3, h4⟩ := vrels_cons.1 h2
    rw [vrels_nil] at h4; subst h4
    exact ⟨x, by rw [hres, hm h1, Result.andThen_ok]; rfl, h3⟩
  · rename_i vs hne hl
    injection hv with hv; subst hv
    obtain ⟨xs, h1, h2⟩ := resL_rel hf hrel hc hl
    refine ⟨.tuple xs.toArray, ?_, vrel_tup.2 ⟨_, rfl, h2⟩⟩
    rw [hres, hm h1, Result.andThen_ok]
    have : ¬ (xs.toArray.size = 1) := by
      intro h
      have hl := h2.length
      have : vs.length = 1 := by simp at h; omega
      match vs, this with
      | [u], _ => exact hne u rfl
    rw [dif_neg this]
  · cases hv
theorem ofNat_ne {i j : Nat} (hi : i ≤ 271) (hj : j ≤ 271) (h : i ≠ j) : Loc.ofNat i ≠ Loc.ofNat j := fun e => h (Loc.ofNat_inj hi hj e)
theorem argsT_rel {ψ : Psi} : ∀ (args : List CV) (as : List Value) (i : Nat) (tm : Tm) (t : Nat) (v : Value), VRels ψ args as → t ≤ 271 → (t < i ∨ i + as.length ≤ t → VRel ψ (getL (Loc.ofNat t) tm) v) → (∀ u, i ≤ t → as[t - i]? = some u → u = v) →
    (i ≤ t → getL (Loc.ofNat t) tm = .any) → VRel ψ (getL (Loc.ofNat t) (argsT args i tm)) v
  | [], as, i, tm, t, v, ha, ht, h1, h2, h3 => by
    rw [vrels_nil] at ha; subst ha
    show VRel ψ (getL (Loc.ofNat t) tm) v
    rcases Nat.lt_or_ge t i with h | h
    · exact h1 (.inl h)
    · exact h1 (.inr (by simpa using h))
  | c :: args, as, i, tm, t, v, ha, ht, h1, h2, h3 => by
    obtain ⟨x, r, rfl, hx, hr⟩ := vrels_cons.1 ha
    unfold argsT
    split
    · rename_i hle
      have hle := ble_yes hle
      refine argsT_rel args r (i + 1) (putL c (Loc.ofNat i) tm) t v hr ht (fun h => ?_) (fun u hu hg => ?_) (fun hu => ?_)
      · by_cases e : t = i
        · subst e
          rw [getL_putL_same]
          have : x = v := h2 x (Nat.le_refl _) (by simp)
          rw [← this]; exact hx
        · rw [getL_putL_other _ _ _ _ (ofNat_ne ht hle e)]
          refine h1 ?_
          rcases h with h | h
          · exact .inl (by omega)
          · exact .inr (by simp; omega)
      · refine h2 u (by omega) ?_
        have : t - i = (t - (i + 1)) + 1 := by omega
        rw [this]; simpa using hg
      · rw [getL_putL_other _ _ _ _ (ofNat_ne ht hle (by omega))]
        exact h3 (by omega)
    · rename_i hle
      have hlt : ¬ i ≤ 271 := fun h => by rw [Nat.ble_eq_true_of_le h] at hle; cases hle
      exact h1 (.inl (by omega))
theorem frame_in {ψ : Psi} {F N : Nat} {args : List CV} {as : Array Value} (ha : VRels ψ args as.toList) : FrameRel ψ F N (argsT args 0 .nil) { tmps := as ++ Array.replicate (N - as.size) undef, defers := [] } := by
  refine ⟨by simp; omega, fun t _ ht hN => ?_⟩
  refine argsT_rel args as.toList 0 .nil t _ ha ht (fun _ => by rw [getL_nil]; exact vrel_any) (fun u _ hu => ?_) (fun _ => getL_nil _)
  simp only [Nat.sub_zero, Array.getElem?_toList] at hu
  have hlt : t < as.size := by
    rcases Nat.lt_or_ge t as.size with h | h
    · exact h
    · rw [Array.getElem?_eq_none h] at hu; cases hu
  rw [Array.getD_eq_getD_getElem?, Array.getElem?_append_left hlt, hu]; rfl
theorem above_resR {rs : List CRes} {tm : Tm} {h : Heap} {n : Key} : Above n (resR rs tm h n) := by
  unfold resR; split
  · exact Nat.le_refl _
  · trivial
theorem runDefs_cons {call : CallF} {k : Heap → Key → R} {f : FuncId} {args : List CV} {r : Defs} {h : Heap} {n : Key} :
    runDefs call k ((f, args) :: r) h n = thenRet (fun _ h n => runDefs call k r h n) (call true f args h n) := rfl
theorem above_runDefs {call : CallF} (hcall : CallAbove call) {k : Heap → Key → R} (hk : ∀ h n, Above n (k h n)) : ∀ (ds : Defs) (h : Heap) (n : Key), Above n (runDefs call k ds h n)
  | [], h, n => hk h n
  | (f, args) :: r, h, n => by
    rw [runDefs_cons]
    exact above_thenRet (fun _ h n => above_runDefs hcall hk r h n) (hcall _ _ _ _ _)
theorem above_leave {call : CallF} (hcall : CallAbove call) (d : Bool) (rs : List CRes) (tm : Tm) (ds : Defs) (h : Heap) (n : Key) : Above n (leaveFn d call rs tm ds h n) := by
  unfold leaveFn
  split
  · exact above_resR
  · split
    · exact above_runDefs hcall (fun _ _ => above_resR) _ _ _
    · trivial
theorem above_afterFn {call : CallF} (hcall : CallAbove call) {n : Key} (d : Bool) (rs : List CRes) : ∀ {r : R}, Above n r → Above n (afterFn d call rs r)
  | .ok .normal tm ds h n', ha => Above.le ha (above_leave hcall d rs tm ds h n')
  | .ok (.exit _) .., _ => trivial
  | .ok .ret tm ds h n', ha => Above.le ha (above_leave hcall d rs tm ds h n')
  | .ret .., _ => trivial
  | .err _, _ => trivial
  | .fork _ _, h => ⟨above_afterFn hcall d rs h.1, above_afterFn hcall d rs h.2⟩
theorem clean_afterFn {call : CallF} (hcall : CallAbove call) (d : Bool) (rs : List CRes) : ∀ {r : R}, Clean (afterFn d call rs r) → Clean r
  | .ok .normal tm ds h n', hc => room_of hc (above_leave hcall d rs tm ds h n')
  | .ok (.exit _) .., hc => hc.elim
  | .ok .ret tm ds h n', hc => room_of hc (above_leave hcall d rs tm ds h n')
  | .ret .., hc => hc.elim
  | .err _, hc => hc.elim
  | .fork _ _, h => ⟨clean_afterFn hcall d rs h.1, clean_afterFn hcall d rs h.2⟩
section
variable {F N : Nat} {call : CallF} {fn : Func} {ψ₀ : Psi} {g₀ : Fam} {n₀ : Key} {w₀ : World}
theorem RetOut.trans {ψ₁ : Psi} {g₁ : Fam} {n₁ : Key} {w₁ : World} (hp : Post ψ₀ g₀ n₀ w₀ ψ₁ g₁ n₁ w₁) {v : Value} {w : World} : ∀ {r : R}, RetOut ψ₁ g₁ n₁ w₁ r v w → RetOut ψ₀ g₀ n₀ w₀ r v w
  | .ok .., h => h
  | .ret .., ⟨ψ, h1, h2⟩ => ⟨ψ, hp.trans h1, h2⟩
  | .err _, h => h
  | .fork _ _, h => h.imp (RetOut.trans hp) (RetOut.trans hp)
theorem ret_thenRet {k : CV → Heap → Key → R} {v : Value} {w : World} {Z : Prop} : ∀ {r : R}, Clean (thenRet k r) → RetOut ψ₀ g₀ n₀ w₀ r v w →
    (∀ cv h n ψ, Post ψ₀ g₀ n₀ w₀ ψ (Heap.fam h) n w → VRel ψ cv v → Clean (k cv h n) → (∀ u w', RetOut ψ₀ g₀ n₀ w₀ (k cv h n) u w' → RetOut ψ₀ g₀ n₀ w₀ (thenRet k r) u w') → Z) → Z
  | .ok .., _, h, _ => h.elim
  | .err _, _, h, _ => h.elim
  | .ret cv h n, hc, ⟨ψ, h1, h2⟩, hz => hz cv h n ψ h1 h2 hc fun _ _ h => h
  | .fork r s, hc, h, hz => by
    rcases h with h | h
    · exact ret_thenRet hc.1 h fun cv h n ψ a b c d => hz cv h n ψ a b c fun u w' q => .inl (d u w' q)
    · exact ret_thenRet hc.2 h fun cv h n ψ a b c d => hz cv h n ψ a b c fun u w' q => .inr (d u w' q)
theorem leaves_mono' {tmps : Array Value} {R R' : Ending → World → Prop} (hR : ∀ e w, R e w → R' e w) : ∀ (ds : List Deferred) (u : FrameMode) (w : World), Leaves P fn tmps R ds u w → Leaves P fn tmps R' ds u w
  | [], .returning, w, ⟨v, h1, h2⟩ => ⟨v, h1, hR _ _ h2⟩
  | [], .panicking _, w, h => hR _ _ h
  | [], .run, w, h => h
  | d :: ds, u, w, ⟨h0, fv, cap, f, args, h1, h2, h3⟩ => ⟨h0, fv, cap, f, args, h1, h2, CallsD.mono h3 fun e u' w' he => by
      cases e with
      | returned v => exact leaves_mono' hR ds _ _ he
      | panicked c => exact leaves_mono' hR ds _ _ he
      | outgrown => exact hR _ _ he⟩
theorem runDefs_sim (hcall : CallOk P call) {rs : List CRes} {tm : Tm} (hrs : optMap (compRes P F N) fn.results.toList = some rs) : ∀ (ds : Defs) {ψ : Psi} {h : Heap} {n : Key} {a : Act} {w : World} {l : List Deferred},
    FrameRel ψ F N tm a → DfrRels P ψ ds l → Rel ψ (Heap.fam h) w → Glob P ψ → Fresh ψ n → Clean (runDefs call (fun h n => resR rs tm h n) ds h n) →
    Leaves P fn a.tmps (fun e w' => ∃ v, e = .returned v ∧ RetOut ψ (Heap.fam h) n w (runDefs call (fun h n => resR rs tm h n) ds h n) v w') l .returning w
  | [], ψ, h, n, a, w, l, hf, hd, hrel, hg, hfr, hc => by
    unfold DfrRels at hd; subst hd
    have hc : Clean (resR rs tm h n) := hc
    show ∃ v, (results fn a.tmps).run P w = .ok v w ∧ ∃ v', Ending.returned v = .returned v' ∧ RetOut ψ (Heap.fam h) n w (resR rs tm h n) v' w
    unfold resR at hc ⊢
    cases hv : resultC h tm rs with
    | none => rw [hv] at hc; exact hc.elim
    | some v =>
      obtain ⟨x, h1, h2⟩ := results_rel hf hrel.on hrs hv
      exact ⟨x, h1, x, rfl, ψ, Post.refl hrel, h2⟩
  | (f, args) :: r, ψ, h, n, a, w, l, hf, hd, hrel, hg, hfr, hc => by
    obtain ⟨d, l', rfl, ⟨fv, cap, args', e1, e2, e3⟩, hd'⟩ := hd
    rw [runDefs_cons] at hc ⊢
    have hcl := clean_thenRet (fun _ h n => above_runDefs hcall.above (fun _ _ => above_resR) r h n) hc
    obtain ⟨h1, h2⟩ := hcall.defers f args h n ψ w args' e3 hg hrel hfr hcl
    refine ⟨by simp, fv, cap, f, args', e1, by rw [e2, h1], CallsD.mono h2 fun e u w' ⟨hu, v, he, v', hr⟩ => ?_⟩
    subst hu he
    show Leaves P fn a.tmps _ l' (settle .returning) w'
    refine ret_thenRet hc hr fun cv h' n' ψ' q1 q2 q3 q4 => ?_
    have := runDefs_sim hcall hrs r (hf.mono q1.ext) (hd'.mono q1.ext) q1.rel (hg.mono q1.ext) (q1.fresh hfr) q3
    refine leaves_mono' (fun e w'' ⟨v, he, hr⟩ => ⟨v, he, q4 _ _ (RetOut.trans q1 hr)⟩) _ _ _ this
theorem leave_sim (hcall : CallOk P call) {rs : List CRes} (hrs : optMap (compRes P F N) fn.results.toList = some rs) {ψ : Psi} {tm : Tm} {ds : Defs} {h : Heap} {n : Key} {a : Act} {w : World}
    (hst : St P F N ψ tm ds h n a w) (hc : Clean (leaveFn false call rs tm ds h n)) :
    Leaves P fn a.tmps (fun e w' => ∃ v, e = .returned v ∧ RetOut ψ (Heap.fam h) n w (leaveFn false call rs tm ds h n) v w') a.defers .returning w := by
  have e : leaveFn false call rs tm ds h n = runDefs call (fun h n => resR rs tm h n) ds h n := by cases ds <;> rfl
  rw [e] at hc ⊢
  exact runDefs_sim hcall hrs ds hst.frame hst.dfr hst.rel hst.glob hst.fresh hc
theorem leaveD_sim {rs : List CRes} (hrs : optMap (compRes P F N) fn.results.toList = some rs) {ψ : Psi} {tm : Tm} {ds : Defs} {h : Heap} {n : Key} {a : Act} {w : World}
    (hst : St P F N ψ tm ds h n a w) (hc : Clean (leaveFn true call rs tm ds h n)) :
    a.defers = [] ∧ ∃ v, (results fn a.tmps).run P w = .ok v w ∧ RetOut ψ (Heap.fam h) n w (leaveFn true call rs tm ds h n) v w := by
  cases ds with
  | cons f ds => exact hc.elim
  | nil =>
    have hd := hst.dfr
    unfold DfrRels at hd
    refine ⟨hd, ?_⟩
    have hc : Clean (resR rs tm h n) := hc
    show ∃ v, _ ∧ RetOut ψ (Heap.fam h) n w (resR rs tm h n) v w
    unfold resR at hc ⊢
    cases hv : resultC h tm rs with
    | none => rw [hv] at hc; exact hc.elim
    | some v =>
      obtain ⟨x, h1, h2⟩ := results_rel hst.frame hst.rel.on hrs hv
      exact ⟨x, h1, ψ, Post.refl hst.rel, h2⟩
theorem after_out (d : Bool) (rs : List CRes) {e : Exit} {a : Act} {w : World} {Z : Prop} : ∀ {r : R}, Clean (afterFn d call rs r) → OutOk P F N ψ₀ g₀ n₀ w₀ r e a w →
    (∀ tm ds h n ψ, (e = .normal ∨ e = .ret) → St P F N ψ tm ds h n a w → Post ψ₀ g₀ n₀ w₀ ψ (Heap.fam h) n w → Clean (leaveFn d call rs tm ds h n) →
      (∀ u w', RetOut ψ₀ g₀ n₀ w₀ (leaveFn d call rs tm ds h n) u w' → RetOut ψ₀ g₀ n₀ w₀ (afterFn d call rs r) u w') → Z) → Z
  | .ok .normal tm ds h n, hc, ⟨h1, ψ, h2, h3, h4⟩, hz => hz tm ds h n ψ (by cases e <;> first | exact .inl rfl | exact h1.elim) h2 h3 hc fun _ _ h => h
  | .ok (.exit _) .., hc, _, _ => hc.elim
  | .ok .ret tm ds h n, hc, ⟨h1, ψ, h2, h3, h4⟩, hz => hz tm ds h n ψ (by cases e <;> first | exact .inr rfl | exact h1.elim) h2 h3 hc fun _ _ h => h
  | .ret .., hc, _, _ => hc.elim
  | .err _, hc, _, _ => hc.elim
  | .fork r s, hc, ho, hz => by
    rcases ho with ho | ho
    · exact after_out d rs hc.1 ho fun tm ds h n ψ a b c d e => hz tm ds h n ψ a b c d fun u w' q => .inl (e u w' q)
    · exact after_out d rs hc.2 ho fun tm ds h n ψ a b c d e => hz tm ds h n ψ a b c d fun u w' q => .inr (e u w' q)
end
end
end Go.Ev

namespace Go.Ev
variable [Sym]
noncomputable section
variable {P : Program}
variable [SymFact P]
structure NatsOk (P : Program) (nat : Nats) : Prop where
  above : ∀ f g, nat f = some g → ∀ d args h n, Above n (g ‹Sym› d args h n)
  calls : ∀ f g, nat f = some g → ∀ args h n ψ w args', VRels ψ args args'.toList → Glob P ψ → Rel ψ (Heap.fam h) w → Fresh ψ n → Clean (g ‹Sym› false args h n) →
    CallsTo' P f args' w (RetOut ψ (Heap.fam h) n w (g ‹Sym› false args h n))
  defers : ∀ f g, nat f = some g → ∀ args h n ψ w args', VRels ψ args args'.toList → Glob P ψ → Rel ψ (Heap.fam h) w → Fresh ψ n → Clean (g ‹Sym› true args h n) →
    CallsDef P f args' w fun w' => ∃ v, RetOut ψ (Heap.fam h) n w (g ‹Sym› true args h n) v w'
omit [Sym] [SymFact P] in
theorem run_callFunc_enter {f : FuncId} {fn : Func} {c : Code} (hf : P.funcs[f]? = some fn) (hn : (fn.name == "runtime.NumGoroutine") = false) (hb : fn.body = some c) (args : Array Value) (w : World) :
    (callFunc f args).run P w = .ok (.enter f args) w := by
  have h1 : fn.name ≠ "runtime.NumGoroutine" := by simpa using hn
  simp [callFunc, hf, h1, hb]
section
variable {call : CallF} (hcall : CallOk P call) (hdraw : ∀ F N, DrawSim P F N call)
include hcall
theorem above_extR (e : Ext) (args : List CV) (h : Heap) (n : Key) : Above n (extR (xExt e args h n) h n) := by
  have := oa_ext (h := h) (n := n) e args
  generalize xExt e args h n = r at this
  cases r <;> first | exact Nat.le_refl _ | exact this | trivial
theorem above_runFn (d : Bool) (fn : CFn) (args : List CV) (h : Heap) (n : Key) : Above n (runFn P d call fn args h n) := by
  cases fn with
  | mk body res => exact above_afterFn hcall.above d res (above_code hcall.above body _ _ h n)
  | mkD ops body res =>
    show Above n (match d with
      | true => afterFn true call res (thenK (evCode P call body) (evIns P call ops [] (argsT args 0 .nil) [] h n))
      | false => .err 311)
    cases d with
    | true => exact above_afterFn hcall.above true res (above_thenK (fun tm ds h n => above_code hcall.above body tm ds h n) (above_ins hcall.above ops [] _ _ h n))
    | false => trivial
  | ext e =>
    show Above n (match d with
      | true => .err 313
      | false => extR (xExt e args h n) h n)
    cases d with
    | true => trivial
    | false => exact above_extR hcall e args h n
  | bad c => trivial
include hdraw
theorem entry_st {F N : Nat} {args : List CV} {args' : Array Value} {h : Heap} {n : Key} {ψ : Psi} {w : World} (ha : VRels ψ args args'.toList) (hg : Glob P ψ) (hrel : Rel ψ (Heap.fam h) w) (hfr : Fresh ψ n) :
    St P F N ψ (argsT args 0 .nil) [] h n { tmps := args' ++ Array.replicate (N - args'.size) undef, defers := [] } w :=
  ⟨frame_in ha, rfl, hrel, hg, hfr⟩
theorem runFn_calls {f : FuncId} {args : List CV} {args' : Array Value} {h : Heap} {n : Key} {ψ : Psi} {w : World} (ha : VRels ψ args args'.toList) (hg : Glob P ψ) (hrel : Rel ψ (Heap.fam h) w) (hfr : Fresh ψ n)
    (hc : Clean (runFn P false call (compFn P f) args h n)) : CallsTo' P f args' w (RetOut ψ (Heap.fam h) n w (runFn P false call (compFn P f) args h n)) := by
  unfold compFn at hc ⊢
  rw [nth_eq] at hc ⊢
  cases hf : P.funcs.toList[f]? with
  | none => simp only [hf] at hc; exact hc.elim
  | some fn =>
    have hf' : P.funcs[f]? = some fn := by simpa using hf
    simp only [hf] at hc ⊢
    cases hb : fn.body with
    | none =>
      simp only [hb] at hc ⊢
      cases he : extOf P fn with
      | none => simp only [he] at hc; exact hc.elim
      | some e =>
        simp only [he] at hc ⊢
        obtain ⟨en, h1, h2, h3, h4⟩ := extOf_find he
        have hout := ext_sim (P := P) (h := h) (n := n) (w := w) he h1 ha
        have hrun := run_callFunc_extern (P := P) hf' h2 (by rw [hb]; rfl) h3 h4 args' w
        have hc : Clean (extR (xExt e args h n) h n) := hc
        show CallsTo' P f args' w (RetOut ψ (Heap.fam h) n w (extR (xExt e args h n) h n))
        have hoa := oa_ext (h := h) (n := n) e args
        generalize xExt e args h n = r at hout hc hoa
        unfold CallsTo'
        cases r <;> first | exact hout.elim | exact hc.elim | skip
        case val v =>
          obtain ⟨x, g1, g2⟩ := hout
          rw [hrun, g1]
          exact ⟨ψ, Post.refl hrel, g2⟩
        case eff v h' n' =>
          obtain ⟨w', x, ψ', g1, g2, g3⟩ := hout hrel (fun k hk _ => hfr k hk) hc
          rw [hrun, g1]
          exact ⟨ψ', g2, g3⟩
    | some c =>
      simp only [hb] at hc ⊢
      split at hc
      · exact hc.elim
      · rename_i hn
        have hn : (fn.name == "runtime.NumGoroutine") = false := by simpa using hn
        rw [if_neg (by rw [hn]; simp)]
        unfold compWith at hc ⊢
        cases hrs : optMap (compRes P (frameBits fn c) fn.ntmps) fn.results.toList with
        | none => simp only [hrs] at hc; exact hc.elim
        | some rs =>
          simp only [hrs] at hc ⊢
          split at hc
          · rename_i hnr
            rw [if_pos hnr]
            unfold CallsTo'
            rw [run_callFunc_enter hf' hn hb]
            have hc : Clean (afterFn false call rs (evCode P call (compCode P (frameBits fn c) fn.ntmps c) (argsT args 0 .nil) [] h n)) := hc
            show Calls P f args' w fun e w'' => ∃ v, e = .returned v ∧ RetOut ψ (Heap.fam h) n w (afterFn false call rs (evCode P call (compCode P (frameBits fn c) fn.ntmps c) (argsT args 0 .nil) [] h n)) v w''
            refine calls_of_wp_defers hf' hb (wp_mono (code_sim hcall (hdraw _ _) c hnr (entry_st hcall hdraw ha hg hrel hfr) (clean_afterFn hcall.above false rs hc)) fun e a w' ho => ?_)
            refine after_out false rs hc ho fun tm ds h' n' ψ' q1 q2 q3 q4 q5 => ?_
            have hl := leave_sim hcall hrs q2 q4
            have : Leaves P fn a.tmps (fun e w'' => ∃ v, e = .returned v ∧ RetOut ψ (Heap.fam h) n w (afterFn false call rs (evCode P call (compCode P (frameBits fn c) fn.ntmps c) (argsT args 0 .nil) [] h n)) v w'') a.defers .returning w' :=
              leaves_mono' (fun e w'' ⟨v, he, hr⟩ => ⟨v, he, q5 _ _ (RetOut.trans q3 hr)⟩) _ _ _ hl
            rcases q1 with rfl | rfl
            · exact this
            · exact this
          · rename_i hnr
            split at hc
            · split at hc <;> exact hc.elim
            · exact hc.elim
theorem runFn_defers {f : FuncId} {args : List CV} {args' : Array Value} {h : Heap} {n : Key} {ψ : Psi} {w : World} (ha : VRels ψ args args'.toList) (hg : Glob P ψ) (hrel : Rel ψ (Heap.fam h) w) (hfr : Fresh ψ n)
    (hc : Clean (runFn P true call (compFn P f) args h n)) : CallsDef P f args' w fun w' => ∃ v, RetOut ψ (Heap.fam h) n w (runFn P true call (compFn P f) args h n) v w' := by
  unfold compFn at hc ⊢
  rw [nth_eq] at hc ⊢
  cases hf : P.funcs.toList[f]? with
  | none => simp only [hf] at hc; exact hc.elim
  | some fn =>
    have hf' : P.funcs[f]? = some fn := by simpa using hf
    simp only [hf] at hc ⊢
    cases hb : fn.body with
    | none =>
      simp only [hb] at hc
      cases he : extOf P fn with
      | none => simp only [he] at hc; exact hc.elim
      | some e => simp only [he] at hc; exact hc.elim
    | some c =>
      simp only [hb] at hc ⊢
      split at hc
      · exact hc.elim
      · rename_i hn
        have hn : (fn.name == "runtime.NumGoroutine") = false := by simpa using hn
        rw [if_neg (by rw [hn]; simp)]
        unfold compWith at hc ⊢
        cases hrs : optMap (compRes P (frameBits fn c) fn.ntmps) fn.results.toList with
        | none => simp only [hrs] at hc; exact hc.elim
        | some rs =>
          simp only [hrs] at hc ⊢
          refine ⟨run_callFunc_enter hf' hn hb _ _, ?_⟩
          split at hc
          · rename_i hnr
            rw [if_pos hnr]
            have hc : Clean (afterFn true call rs (evCode P call (compCode P (frameBits fn c) fn.ntmps c) (argsT args 0 .nil) [] h n)) := hc
            show CallsD P f args' .returning w fun e u w' => u = .returning ∧ ∃ v, e = .returned v ∧ ∃ v, RetOut ψ (Heap.fam h) n w (afterFn true call rs (evCode P call (compCode P (frameBits fn c) fn.ntmps c) (argsT args 0 .nil) [] h n)) v w'
            refine callsD_of_wp hf' hb (wp_mono (code_sim hcall (hdraw _ _) c hnr (entry_st hcall hdraw ha hg hrel hfr) (clean_afterFn hcall.above true rs hc)) fun e a w' ho => ?_)
            refine after_out true rs hc ho fun tm ds h' n' ψ' q1 q2 q3 q4 q5 => ?_
            obtain ⟨g1, v, g2, g3⟩ := leaveD_sim (call := call) hrs q2 q4
            rcases q1 with rfl | rfl
            · exact ⟨g1, v, g2, v, rfl, v, q5 _ _ (RetOut.trans q3 g3)⟩
            · exact ⟨g1, v, g2, v, rfl, v, q5 _ _ (RetOut.trans q3 g3)⟩
          · rename_i hnr
            rw [if_neg hnr]
            split at hc
            · rename_i c0 id ops r
              split at hc
              · rename_i hnr'
                rw [if_pos hnr']
                have hc : Clean (afterFn true call rs (thenK (evCode P call (compCode P (frameBits fn (.seq (.region id ops false) r)) fn.ntmps r))
                  (evIns P call (compOps P (frameBits fn (.seq (.region id ops false) r)) fn.ntmps ops.toList [] ops.toList) [] (argsT args 0 .nil) [] h n))) := hc
                generalize hF : frameBits fn (.seq (.region id ops false) r) = F at hc hrs
                show CallsD P f args' .returning w fun e u w' => u = .returning ∧ ∃ v, e = .returned v ∧ ∃ v, RetOut ψ (Heap.fam h) n w (afterFn true call rs (thenK (evCode P call (compCode P F fn.ntmps r))
                  (evIns P call (compOps P F fn.ntmps ops.toList [] ops.toList) [] (argsT args 0 .nil) [] h n))) v w'
                have hc1 := clean_afterFn hcall.above true rs hc
                have hab := fun tm ds h n => above_code (P := P) hcall.above (compCode P F fn.ntmps r) tm ds h n
                have hc2 := clean_thenK hab hc1
                refine callsD_of_wpS hf' hb fun c₀ cs hm => wpS_seq (wpS_region ?_)
                have hrec : recoverD (c₀ :: cs) = none := by unfold recoverD; simp [hm]
                have := ops_sim (F := F) (N := fn.ntmps) hcall (walk_deferred (P := P) ops (Exit.thenS (r.wpS P (bodyPostS P fn c₀ cs fun e u w' => u = .returning ∧ ∃ v, e = .returned v ∧ ∃ v, RetOut ψ (Heap.fam h) n w (afterFn true call rs (thenK (evCode P call (compCode P F fn.ntmps r))
                    (evIns P call (compOps P F fn.ntmps ops.toList [] ops.toList) [] (argsT args 0 .nil) [] h n))) v w'))
                    (bodyPostS P fn c₀ cs fun e u w' => u = .returning ∧ ∃ v, e = .returned v ∧ ∃ v, RetOut ψ (Heap.fam h) n w (afterFn true call rs (thenK (evCode P call (compCode P F fn.ntmps r))
                    (evIns P call (compOps P F fn.ntmps ops.toList [] ops.toList) [] (argsT args 0 .nil) [] h n))) v w')) hrec)
                  ops.toList 0 rfl (fun _ _ _ => rfl) (entry_st hcall hdraw (F := F) (N := fn.ntmps) ha hg hrel hfr) (dl := []) (es := []) (fun t i hi => by cases hi) hc2
                  (fun tm' ds' h' n' ψ' a' w' g1 g2 g3 g4 => by
                    have k1 := g4 (fun r0 => Clean (afterFn true call rs (thenK (evCode P call (compCode P F fn.ntmps r)) r0)) → Clean (afterFn true call rs (evCode P call (compCode P F fn.ntmps r) tm' ds' h' n')))
                      (fun x y hx hc => hx hc.1) (fun x y hy hc => hy hc.2) (fun h => h) hc
                    have k2 := g4 (fun r0 => ∀ u w'', RetOut ψ (Heap.fam h) n w (afterFn true call rs (evCode P call (compCode P F fn.ntmps r) tm' ds' h' n')) u w'' →
                        RetOut ψ (Heap.fam h) n w (afterFn true call rs (thenK (evCode P call (compCode P F fn.ntmps r)) r0)) u w'')
                      (fun x y hx u w'' q => .inl (hx u w'' q)) (fun x y hy u w'' q => .inr (hy u w'' q)) (fun u w'' q => q)
                    show r.wpS P _ a' (c₀ :: cs) w'
                    refine wpS_of_wp (wp_mono (code_sim hcall (hdraw F fn.ntmps) r hnr' g1 (clean_afterFn hcall.above true rs k1)) fun e a w'' ho => ?_)
                    refine after_out true rs k1 ho fun tm ds h'' n'' ψ'' q1 q2 q3 q4 q5 => ?_
                    obtain ⟨g1', v, g2', g3'⟩ := leaveD_sim (call := call) hrs q2 q4
                    have hfin := k2 _ _ (RetOut.trans g2 (q5 _ _ (RetOut.trans q3 g3')))
                    have hm' : ({ c₀ with mode := .returning } : Frame) = c₀ := by rw [← hm]
                    rcases q1 with rfl | rfl
                    · exact ⟨g1', .returning, by rw [hm'], v, g2', rfl, v, rfl, v, hfin⟩
                    · exact ⟨g1', .returning, by rw [hm'], v, g2', rfl, v, rfl, v, hfin⟩)
                rw [Array.length_toList] at this
                rw [List.range_eq_range']
                exact this
              · exact hc.elim
            · exact hc.elim
end
def CodeOk (P : Program) (code : FuncId → CFn) : Prop := ∀ f, code f = compFn P f ∨ ∃ c, code f = .bad c
theorem ev_ok (hdraw : ∀ (call : CallF), CallOk P call → ∀ F N, DrawSim P F N call) {code : FuncId → CFn} (hcode : CodeOk P code) {nat : Nats} (hnat : NatsOk P nat) : ∀ (fuel : Nat), CallOk P (ev P code nat fuel)
  | 0 => ⟨fun _ _ _ _ _ => trivial, fun _ _ _ _ _ _ _ _ _ _ _ hc => hc.elim, fun _ _ _ _ _ _ _ _ _ _ _ hc => hc.elim⟩
  | fuel + 1 => by
    have ih := ev_ok hdraw hcode hnat fuel
    have hev : ∀ d f args h n, ev P code nat (fuel + 1) d f args h n = (match nat f with
        | none => runFn P d (ev P code nat fuel) (code f) args h n
        | some g => g ‹Sym› d args h n) := by
      intro d f args h n
      show Option.rec (motive := fun _ => R) (runFn P d (ev P code nat fuel) (code f) args h n) (fun g => g ‹Sym› d args h n) (nat f) = _
      cases nat f <;> rfl
    refine ⟨fun d f args h n => ?_, fun f args h n ψ w args' h1 h2 h3 h4 hc => ?_, fun f args h n ψ w args' h1 h2 h3 h4 hc => ?_⟩
    · rw [hev]
      split
      · exact above_runFn ih d _ args h n
      · rename_i g hg
        exact hnat.above f g hg d args h n
    · rw [hev] at hc ⊢
      split at hc
      · rename_i hn
        rcases hcode f with e | ⟨c, e⟩
        · rw [e] at hc ⊢
          exact runFn_calls ih (hdraw _ ih) h1 h2 h3 h4 hc
        · rw [e] at hc; exact hc.elim
      · rename_i g hg
        exact hnat.calls f g hg args h n ψ w args' h1 h2 h3 h4 hc
    · rw [hev] at hc ⊢
      split at hc
      · rename_i hn
        rcases hcode f with e | ⟨c, e⟩
        · rw [e] at hc ⊢
          exact runFn_defers ih (hdraw _ ih) h1 h2 h3 h4 hc
        · rw [e] at hc; exact hc.elim
      · rename_i g hg
        exact hnat.defers f g hg args h n ψ w args' h1 h2 h3 h4 hc
end
end Go.Ev

