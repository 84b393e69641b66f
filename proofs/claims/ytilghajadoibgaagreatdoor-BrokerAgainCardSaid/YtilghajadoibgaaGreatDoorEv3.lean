/- A verified evaluator for the model's code: EvG, EvH, EvI, EvJ, EvK, EvL, EvM. -/
import Derived.Test.YtilghajadoibgaaGreatDoorEv2
import Derived.Laws.Concat
import Derived.Laws.StructEq
import Derived.Laws.BytesString
set_option linter.unusedSectionVars false
set_option linter.unusedVariables false
set_option linter.unusedSimpArgs false
namespace Go.Ev
variable [Sym]
noncomputable section
variable {P : Program} {ψ : Psi} {es : List CV} {tm : Tm} {h : zD} {n : Key} {ρ : Operand → Value} {E : Env} {ty : TypeId} {w : World}
abbrev xS (o : Op) (ty : TypeId) : Oper := { dst := none, op := o, type := ty, pos := "", after := #[], guard := none }
def zp (P : Program) (ψ : Psi) (es : List CV) (tm : Tm) (E : Env) (ρ : Operand → Value) (L : List Operand) : Prop := ∀ x ∈ L, ∀ c, zc P E x = some c → zH ψ (aV es tm c) (ρ x)
theorem zp.sub {L L' : List Operand} (h : zp P ψ es tm E ρ L) (hs : ∀ x ∈ L', x ∈ L) : zp P ψ es tm E ρ L' := fun x hx c hc => h x (hs x hx) c hc
theorem zL {o : Op} {w w' : World} {x : Value} (hx : (execOp ρ (xS o ty)).run P w = .ok (.value x) w') : jd P ρ o ty w w' x := ⟨_, hx, .inl rfl⟩
theorem vZ {o : Op} {w w' : World} (hx : (execOp ρ (xS o ty)).run P w = .ok .skip w') : jd P ρ o ty w w' undef := ⟨_, hx, .inr ⟨rfl, rfl⟩⟩
section
variable {C : OR → Prop}
theorem zh {f : zS → COp} {x : Operand} (hb : ∀ e, C (.err e)) (hk : ∀ c, zc P E x = some c → C (z6 P (f c) es tm h n)) : C (z6 P (yx P E f x) es tm h n) := by
  unfold yx
  cases hx : zc P E x with
  | none => exact hb _
  | some c => exact hk c hx
theorem yf {f : zS → zS → COp} {x y : Operand} (hb : ∀ e, C (.err e))
    (hk : ∀ c d, zc P E x = some c → zc P E y = some d → C (z6 P (f c d) es tm h n)) : C (z6 P (qR P E f x y) es tm h n) := by
  unfold qR
  cases hx : zc P E x with
  | none => exact hb _
  | some c => cases hy : zc P E y with
    | none => exact hb _
    | some d => exact hk c d hx hy
end
theorem zA {o : Op} (e : Nat) : zC P ψ h n ρ o ty w (.err e) := trivial
theorem jT : ∀ (l : List Operand) {cs : List zS}, zp P ψ es tm E ρ l → xx P E l = some cs → zT ψ (aVs es tm cs) (l.map ρ)
  | [], cs, _, hc => by injection hc with hc; subst hc; exact zM.2 rfl
  | x :: l, cs, ha, hc => by
    unfold xx yq at hc
    cases hx : zc P E x with
    | none => rw [hx] at hc; cases hc
    | some c =>
      rw [hx] at hc
      cases hl : yq (zc P E) l with
      | none => simp [hl] at hc
      | some r =>
        simp [hl] at hc
        subst hc
        exact zW.2 ⟨ha x (by simp) c hx, jT l (ha.sub fun y hy => by simp [hy]) hl⟩
theorem zLF (x : Operand) (ha : zp P ψ es tm E ρ [x]) : zC P ψ h n ρ (.move x) ty w (z6 P (zb P E (.move x)) es tm h n) := by
  refine zh (C := zC P ψ h n ρ (.move x) ty w) zA fun c hc => ⟨ρ x, zL ?_, ha x (by simp) c hc⟩
  simp only [execOp, Sem.run_pure]
theorem zIQ (x : Operand) (ha : zp P ψ es tm E ρ [x]) : zC P ψ h n ρ (.assign x) ty w (z6 P (zb P E (.assign x)) es tm h n) := by
  refine zh (C := zC P ψ h n ρ (.assign x) ty w) zA fun c hc => ⟨ρ x, zL ?_, ha x (by simp) c hc⟩
  simp only [execOp, Sem.run_pure]
theorem zMz (c a b : Operand) (ha : zp P ψ es tm E ρ [c, a, b]) : zC P ψ h n ρ (.pick c a b) ty w (z6 P (zb P E (.pick c a b)) es tm h n) := by
  rw [zb]
  cases hc : zc P E c with
  | none => exact zA _
  | some c' => cases h1 : zc P E a with
    | none => exact zA _
    | some a' => cases h2 : zc P E b with
      | none => exact zA _
      | some b' =>
        refine kS (C := zC P ψ h n ρ (.pick c a b) ty w) _ _ _ (zA _) fun t ht => ?_
        have hv := ha c (by simp) c' hc
        rw [ht, zJ] at hv
        cases t with
        | true => exact ⟨ρ a, zL (by simp [execOp, hv, asBool]), ha a (by simp) a' h1⟩
        | false => exact ⟨ρ b, zL (by simp [execOp, hv, asBool]), ha b (by simp) b' h2⟩
theorem qi (w : World) (ob : Obj) : New w { w with heap := w.heap.push ob } :=
  ⟨by simp, fun B hB => by simp only [Array.getElem?_push]; rw [if_neg (by omega)], rfl, rfl, rfl⟩
theorem zHp (w : World) (ob : Obj) : (w.heap.push ob)[w.heap.size]? = some ob := by simp
theorem zES {ψ' : Psi} (w : World) (arr : Array Value) (elem : TypeId) {cs : List CV} {m : Nat} (hc : zT ψ' cs (arr.toList.take m)) (hm : m ≤ arr.size) :
    xH ψ' { w with heap := w.heap.push (.cells arr elem) } ⟨w.heap.size, 0, arr.size, fun n => n⟩ (.cells cs) := by
  have hl := hc.length
  rw [List.length_take] at hl
  refine ⟨arr, elem, (0, 0), zHp _ _, rfl, by simp at hl ⊢; omega, .inl rfl, fun i c hi => ?_⟩
  obtain ⟨x, hx, hr⟩ := hc.get hi
  rw [List.getElem?_take] at hx
  split at hx
  · exact ⟨x, by simpa using hx, hr⟩
  · cases hx
theorem wb {ψ' : Psi} (w : World) (arr : Array Value) (elem : TypeId) {cs : List CV} (hc : zT ψ' cs arr.toList) :
    xH ψ' { w with heap := w.heap.push (.cells arr elem) } ⟨w.heap.size, 0, arr.size, fun n => n⟩ (.cells cs) :=
  zES w arr elem (m := arr.size) (by rw [List.take_of_length_le (by simp)]; exact hc) (Nat.le_refl _)
theorem zNh {ψ' : Psi} (w : World) (arr : Array Value) (elem : TypeId) {cs : List CV} (hc : zT ψ' cs arr.toList) :
    xH ψ' { w with heap := w.heap.push (.cells arr elem) } ⟨w.heap.size, 0, arr.size, fun n => n⟩ (.full true cs) := by
  have hl := hc.length
  refine ⟨arr, elem, (0, 0), zHp _ _, rfl, by simp at hl ⊢; omega, .inl rfl, fun i c hi => ?_⟩
  obtain ⟨x, hx, hr⟩ := hc.get hi
  exact ⟨x, by simpa using hx, hr⟩
theorem zKF (t : TypeId) : zC P ψ h n ρ (.alloc t) ty w (z6 P (zb P E (.alloc t)) es tm h n) := by
  rw [zb]
  cases hz : qZ P t with
  | none => exact zA _
  | some z =>
    obtain ⟨v, h1, h2⟩ := zI6 hz
    refine ⟨_, .pointer (some ⟨w.heap.size, 0, none⟩), v.cells.size, zL ?_, qi _ (.cells v.cells t), fun ψ' _ hn => ⟨zk.2 ⟨_, hn, rfl⟩, wb w v.cells t (h2 ψ')⟩, by simp [zEb]⟩
    simp [execOp, Instr.alloc, h1, newVar, newRow]
theorem zNX (t : TypeId) (x : Operand) (ha : zp P ψ es tm E ρ [x]) : zC P ψ h n ρ (.box t x) ty w (z6 P (zb P E (.box t x)) es tm h n) := by
  refine zh (C := zC P ψ h n ρ (.box t x) ty w) zA fun c hc => ?_
  refine yP (C := zC P ψ h n ρ (.box t x) ty w) _ _ _ (zA _) fun cs hcs => ?_
  have hv := wA (ha x (by simp) c hc) hcs
  refine ⟨_, .pointer (some ⟨w.heap.size, 0, none⟩), (ρ x).cells.size, zL ?_, qi _ (.cells (ρ x).cells t), fun ψ' hle hn => ⟨zk.2 ⟨_, hn, rfl⟩, wb w _ t (hv.mono hle)⟩, by simp [zEb]⟩
  simp [execOp, Instr.box, newVar, newRow]
theorem zMC (t : TypeId) (x : Operand) (ha : zp P ψ es tm E ρ [x]) : zC P ψ h n ρ (.load t x) ty w (z6 P (zb P E (.load t x)) es tm h n) := by
  rw [zb]
  cases h1 : xj P t with
  | none => exact zA _
  | some b => cases h2 : xX P t with
    | none => cases b <;> exact zA _
    | some s =>
      cases b with
      | true =>
        refine zh (C := zC P ψ h n ρ (.load t x) ty w) zA fun c hc => ?_
        refine yX (C := zC P ψ h n ρ (.load t x) ty w) _ _ _ (zA _) fun b off hv => ?_
        refine xF (C := zC P ψ h n ρ (.load t x) ty w) _ _ _ (zA _) fun vs hvs => ?_
        refine zDP (C := zC P ψ h n ρ (.load t x) ty w) _ _ (zA _) fun l hl hrel => ?_
        have hx := ha x (by simp) c hc
        rw [hv, zk] at hx
        obtain ⟨p, hp, hx⟩ := hx
        have hcells : zA6 ψ w p vs := by
          rcases hvs with hvs | hvs | ⟨u, hvs⟩
          · exact yS.toRo (hrel b _ p hvs hp)
          · exact hrel b _ p hvs hp
          · exact yS.toRo (jg.toCells (hrel b _ p hvs hp))
        obtain ⟨xs, hrun, hxs⟩ := xN (P := P) hcells hl
        refine ⟨.agg xs.toArray, zL ?_, yc.2 ⟨_, rfl, by simpa using hxs⟩⟩
        simp [execOp, Instr.loadAt, hx, Instr.sureAddr, loadVar, qc h1, yT h2, hrun]
      | false =>
        refine zh (C := zC P ψ h n ρ (.load t x) ty w) zA fun c hc => ?_
        refine yX (C := zC P ψ h n ρ (.load t x) ty w) _ _ _ (zA _) fun b off hv => ?_
        refine xF (C := zC P ψ h n ρ (.load t x) ty w) _ _ _ (zA _) fun vs hvs => ?_
        refine zCV (C := zC P ψ h n ρ (.load t x) ty w) _ _ (zA _) fun l hl hrel => ?_
        have hx := ha x (by simp) c hc
        rw [hv, zk] at hx
        obtain ⟨p, hp, hx⟩ := hx
        have hcells : zA6 ψ w p vs := by
          rcases hvs with hvs | hvs | ⟨u, hvs⟩
          · exact yS.toRo (hrel b _ p hvs hp)
          · exact hrel b _ p hvs hp
          · exact yS.toRo (jg.toCells (hrel b _ p hvs hp))
        rw [kj] at hl
        obtain ⟨y, hrun, hy⟩ := zBu (P := P) hcells hl
        refine ⟨y, zL ?_, hy⟩
        have hrun' : ∀ m, (load ⟨p.blk, p.off + off, none⟩ m).run P w = .ok y w ∨ m ≠ .plain := fun m => by
          cases m
          · exact .inl hrun
          · exact .inr (by decide)
        simp only [execOp, Instr.loadAt, hx, Instr.sureAddr, loadVar, Sem.run_bind, Sem.run_pure, Result.andThen_ok, qc h1, Bool.false_eq_true, if_false, hrun]
theorem zLq (t : TypeId) (a x : Operand) (ha : zp P ψ es tm E ρ [a, x]) : zC P ψ h n ρ (.store t a x) ty w (z6 P (zb P E (.store t a x)) es tm h n) := by
  rw [zb]
  cases h2 : xX P t with
  | none => exact zA _
  | some s =>
    refine yf (C := zC P ψ h n ρ (.store t a x) ty w) zA fun c d hc hd => ?_
    refine yX (C := zC P ψ h n ρ (.store t a x) ty w) _ _ _ (zA _) fun b off hv => ?_
    refine yE (C := zC P ψ h n ρ (.store t a x) ty w) _ _ _ (zA _) fun vs hvs => ?_
    refine yP (C := zC P ψ h n ρ (.store t a x) ty w) _ _ _ (zA _) fun cs hcs => ?_
    refine zG (C := zC P ψ h n ρ (.store t a x) ty w) _ _ _ (zA _) fun hs => ?_
    refine yP (C := zC P ψ h n ρ (.store t a x) ty w) _ _ _ (zA _) fun l hl hrel _ _ => ?_
    have hx := ha a (by simp) c hc
    rw [hv, zk] at hx
    obtain ⟨p, hp, hx⟩ := hx
    have hval := wA (ha x (by simp) d hd) hcs
    obtain ⟨w', hrun, hpost⟩ := jP (P := P) n hrel hvs hp hl hval hs
    refine ⟨w', undef, ψ, vZ ?_, ?_, qX⟩
    · have hsz : (ρ x).cells.size = s := by
        have := hval.length
        rw [(wT hl).1] at this
        simpa using this
      simp [execOp, Instr.storeAt, hx, Instr.sureAddr, storeVar, yT h2, hsz, hrun]
    · rw [zz]; exact hpost
theorem zLd (x : Operand) (ha : zp P ψ es tm E ρ [x]) : zC P ψ h n ρ (.nilCheck x) ty w (z6 P (zb P E (.nilCheck x)) es tm h n) := by
  refine zh (C := zC P ψ h n ρ (.nilCheck x) ty w) zA fun c hc => ?_
  have hx := ha x (by simp) c hc
  have key : ∀ {v : Value}, ρ x = v → (∀ w, (execOp ρ (xS (.nilCheck x) ty)).run P w = .ok (.value v) w) → zC P ψ h n ρ (.nilCheck x) ty w (.val (aV es tm c)) := by
    intro v e hr
    exact ⟨v, zL (hr w), e ▸ hx⟩
  refine zFl (C := zC P ψ h n ρ (.nilCheck x) ty w) _ _ _ ?_ fun b o hv => ?_
  · show zC P ψ h n ρ (.nilCheck x) ty w (zDG (aV es tm c))
    generalize aV es tm c = v at *
    cases v <;> simp only [zDG] <;> try exact trivial
    case bool => rw [zJ] at hx; exact ⟨_, zL (by simp [execOp, hx]), zJ.2 rfl⟩
    case nat => rw [zZ] at hx; exact ⟨_, zL (by simp [execOp, hx]), zZ.2 rfl⟩
    case int => rw [zd] at hx; exact ⟨_, zL (by simp [execOp, hx]), zd.2 rfl⟩
    case anyi => rw [yQ] at hx; obtain ⟨m, hx⟩ := hx; exact ⟨_, zL (by simp [execOp, hx]), yQ.2 ⟨m, rfl⟩⟩
    case str => rw [zl] at hx; obtain ⟨b, hx, e⟩ := hx; exact ⟨_, zL (by simp [execOp, hx]), zl.2 ⟨b, rfl, e⟩⟩
    case big => have := hx; rw [jZ] at hx; obtain ⟨m, hx, _⟩ := hx; exact ⟨ρ x, zL (by simp [execOp, hx]), this⟩
    case ptr => have := hx; rw [zk] at hx; obtain ⟨p, hp, hx⟩ := hx; exact ⟨ρ x, zL (by simp [execOp, hx]), this⟩
    case nilsl => rw [zo] at hx; exact ⟨_, zL (by simp [execOp, hx]), zo.2 rfl⟩
    case sl => have := hx; rw [z7] at hx; obtain ⟨p, x', c', hp, hx, _⟩ := hx; exact ⟨ρ x, zL (by simp [execOp, hx]), this⟩
    case sst => have := hx; rw [xU] at hx; obtain ⟨b, hx, e⟩ := hx; exact ⟨ρ x, zL (by simp [execOp, hx]), this⟩
    case win => have := hx; rw [jb] at hx; obtain ⟨_, base, l, c', i, hx, _⟩ := hx; exact ⟨ρ x, zL (by cases base <;> simp [execOp, hx]), this⟩
    case nilmap => rw [yB] at hx; exact ⟨_, zL (by simp [execOp, hx]), yB.2 rfl⟩
    case map => have := hx; rw [yh] at hx; obtain ⟨p, hp, hx⟩ := hx; exact ⟨ρ x, zL (by simp [execOp, hx]), this⟩
    case func fn a b =>
      have h0 := hx
      rw [yv] at hx; obtain ⟨a', b', hx, _⟩ := hx
      cases fn <;> simp only [] <;> first | exact trivial | exact ⟨ρ x, zL (by simp [execOp, hx]), h0⟩
    case iface => have := hx; rw [yI] at hx; obtain ⟨y, hx, _⟩ := hx; exact ⟨ρ x, zL (by simp [execOp, hx]), this⟩
    case sym i =>
      have h0 := hx
      rw [ym] at hx
      rcases Sym.one i with ⟨k, m, e⟩ | ⟨b, e⟩ <;> rw [e] at hx <;> exact ⟨ρ x, zL (by simp [execOp, hx]), h0⟩
    case agg => have := hx; rw [yc] at hx; obtain ⟨y, hx, _⟩ := hx; exact ⟨ρ x, zL (by simp [execOp, hx]), this⟩
    case tup => have := hx; rw [yF] at hx; obtain ⟨y, hx, _⟩ := hx; exact ⟨ρ x, zL (by simp [execOp, hx]), this⟩
  · have h0 := hx
    rw [hv] at h0 hx
    rw [zk] at hx; obtain ⟨p, hp, hx⟩ := hx
    exact ⟨ρ x, zL (by simp [execOp, hx]), h0⟩
end
end Go.Ev

namespace Go.Ev
variable [Sym]
noncomputable section
variable {P : Program} {ψ : Psi} {es : List CV} {tm : Tm} {h : zD} {n : Key} {ρ : Operand → Value} {E : Env} {ty : TypeId} {w : World}
theorem zBK {a b : Bool} (h : a = true ↔ b = true) : Value.bool a = .bool b := by rw [Bool.eq_iff_iff.2 h]
theorem xc (n : Nat) : zH ψ (jY n) (.int .i64 (Int.ofNat n)) := by cases n <;> exact zZ.2 rfl
theorem jv (k : IntKind) (n : Nat) : zH ψ (qb k n) (.int k (Int.ofNat n)) := by
  cases k <;> first | exact zd.2 rfl | exact xc n
theorem yb (k : IntKind) (n : Int) : zH ψ (zU k n) (.int k n) := by
  cases n with
  | ofNat m => cases m <;> exact jv k _
  | negSucc m => cases m <;> exact zd.2 rfl
theorem zIK (n : Int) : zKm n = IntKind.i64.wrap n := by
  have hb : ∀ m : Nat, Nat.ble m 9223372036854775807 = true → (Int.ofNat m) = IntKind.i64.wrap (Int.ofNat m) ∧ (Int.negSucc m) = IntKind.i64.wrap (Int.negSucc m) := by
    intro m hm
    have := Nat.le_of_ble_eq_true hm
    rw [Int.negSucc_eq]
    simp only [IntKind.wrap, IntKind.signed, IntKind.bits, Int.ofNat_eq_natCast]
    constructor <;> simp <;> omega
  cases n with
  | ofNat m =>
    show Bool.rec (motive := fun _ => Int) (IntKind.i64.wrap (.ofNat m)) (.ofNat m) (Nat.ble m 9223372036854775807) = _
    cases hm : Nat.ble m 9223372036854775807 with
    | true => exact (hb m hm).1
    | false => rfl
  | negSucc m =>
    show Bool.rec (motive := fun _ => Int) (IntKind.i64.wrap (.negSucc m)) (.negSucc m) (Nat.ble m 9223372036854775807) = _
    cases hm : Nat.ble m 9223372036854775807 with
    | true => exact (hb m hm).2
    | false => rfl
theorem yj (k : IntKind) (n : Int) : yW k n = k.wrap n := by
  cases k with
  | i64 => exact zIK n
  | u8 => cases n with
    | ofNat m => show Int.ofNat (m % 256) = _; simp [IntKind.wrap, IntKind.signed, IntKind.bits]
    | negSucc m => rfl
  | _ => rfl
theorem j4 (k : IntKind) (n : Int) : toU k n = (BitVec.ofInt k.bits n).toNat := by
  rw [BitVec.toNat_ofInt]
  cases n with
  | ofNat m => rfl
  | negSucc m =>
    have hp : 0 < 2 ^ k.bits := Nat.two_pow_pos _
    have hlt : m % 2 ^ k.bits < 2 ^ k.bits := Nat.mod_lt _ hp
    show 2 ^ k.bits - 1 - m % 2 ^ k.bits = _
    rw [Int.negSucc_emod _ (by omega)]
    omega
theorem jD {op : BinOp} {k j : IntKind} {a b : Int} {c : CV} (t : TypeId) (w : World) (hk : k = j ∨ yk op = true) (hc : yH op k a b = some c) :
    ∃ v, (binOp op t (.int k a) (.int j b)).run P w = .ok v w ∧ zH ψ c v := by
  cases op with
  | shl =>
    rw [binOp_shl]
    show ∃ v, _
    cases b with
    | negSucc b => cases hc
    | ofNat b =>
      injection hc with hc; subst hc
      refine ⟨_, ?_, yb _ _⟩
      rw [yj]
      have : ¬ (Int.ofNat b < 0) := by simp
      simp only [Op.shift, if_neg this, Sem.run_pure]
      simp
  | shr =>
    rw [binOp_shr]
    cases b with
    | negSucc b => cases hc
    | ofNat b =>
      have : ¬ (Int.ofNat b < 0) := by simp
      cases a with
      | ofNat a =>
        injection hc with hc; subst hc
        refine ⟨_, ?_, jv _ _⟩
        simp only [Op.shift, if_neg this, Sem.run_pure]
        have e : (Int.ofNat a).fdiv (2 ^ min (Int.ofNat b).toNat k.bits) = Int.ofNat (a / 2 ^ min b k.bits) := by
          have := Int.ofNat_fdiv a (2 ^ min b k.bits)
          simp only [Int.ofNat_eq_natCast, Int.toNat_natCast]
          rw [this]; push_cast; rfl
        rw [e]; rfl
      | negSucc a =>
        injection hc with hc; subst hc
        refine ⟨_, ?_, yb _ _⟩
        simp only [Op.shift, if_neg this, Sem.run_pure]
        simp
  | quo =>
    rcases hk with rfl | hk
    · rw [binOp_quo]
      unfold Op.intDiv
      have hc' : Bool.rec (motive := fun _ => Option CV) (some (zU k (yW k (a.tdiv b)))) none (yw b (.ofNat 0)) = some c := hc
      rw [zj] at hc'
      by_cases h0 : b = 0
      · subst h0; simp at hc'
      · have : decide (b = Int.ofNat 0) = false := by simpa using h0
        rw [this] at hc'
        injection hc' with hc'; subst hc'
        refine ⟨_, ?_, yb _ _⟩
        rw [if_neg h0, yj, Sem.run_pure]
    · cases hk
  | rem =>
    rcases hk with rfl | hk
    · rw [binOp_rem]
      unfold Op.intDiv
      have hc' : Bool.rec (motive := fun _ => Option CV) (some (zU k (a.tmod b))) none (yw b (.ofNat 0)) = some c := hc
      rw [zj] at hc'
      by_cases h0 : b = 0
      · subst h0; simp at hc'
      · have : decide (b = Int.ofNat 0) = false := by simpa using h0
        rw [this] at hc'
        injection hc' with hc'; subst hc'
        refine ⟨_, ?_, yb _ _⟩
        rw [if_neg h0, Sem.run_pure]
    · cases hk
  | add =>
    rcases hk with rfl | hk
    · injection hc with hc; subst hc
      exact ⟨_, by rw [binOp_add, Op.intArith, Sem.run_pure, yj]; rfl, yb _ _⟩
    · cases hk
  | sub =>
    rcases hk with rfl | hk
    · injection hc with hc; subst hc
      exact ⟨_, by rw [binOp_sub, Op.intArith, Sem.run_pure, yj]; rfl, yb _ _⟩
    · cases hk
  | mul =>
    rcases hk with rfl | hk
    · injection hc with hc; subst hc
      exact ⟨_, by rw [binOp_mul, Op.intArith, Sem.run_pure, yj]; rfl, yb _ _⟩
    · cases hk
  | and =>
    rcases hk with rfl | hk
    · injection hc with hc; subst hc
      refine ⟨_, ?_, yb _ _⟩
      rw [binOp_and, Op.intBits, Sem.run_pure, yj, BitVec.toNat_and, j4, j4]; rfl
    · cases hk
  | or =>
    rcases hk with rfl | hk
    · injection hc with hc; subst hc
      refine ⟨_, ?_, yb _ _⟩
      rw [binOp_or, Op.intBits, Sem.run_pure, yj, BitVec.toNat_or, j4, j4]; rfl
    · cases hk
  | xor =>
    rcases hk with rfl | hk
    · injection hc with hc; subst hc
      refine ⟨_, ?_, yb _ _⟩
      rw [binOp_xor, Op.intBits, Sem.run_pure, yj, BitVec.toNat_xor, j4, j4]; rfl
    · cases hk
  | andNot =>
    rcases hk with rfl | hk
    · injection hc with hc; subst hc
      refine ⟨_, ?_, yb _ _⟩
      rw [binOp_andNot, Op.intBits, Sem.run_pure, yj, BitVec.toNat_and, BitVec.toNat_not, j4, j4]; rfl
    · cases hk
  | eql =>
    rcases hk with rfl | hk
    · injection hc with hc; subst hc
      refine ⟨_, by rw [binOp_eql, Sem.run_pure], zJ.2 ?_⟩
      rw [zj]; rfl
    · cases hk
  | neq =>
    rcases hk with rfl | hk
    · injection hc with hc; subst hc
      refine ⟨_, by rw [binOp_neq, Sem.run_pure], zJ.2 ?_⟩
      rw [zj, kc]; rfl
    · cases hk
  | lss =>
    rcases hk with rfl | hk
    · injection hc with hc; subst hc
      refine ⟨_, by rw [binOp_lss, Sem.run_pure], zJ.2 ?_⟩
      rw [xn]
    · cases hk
  | leq =>
    rcases hk with rfl | hk
    · injection hc with hc; subst hc
      refine ⟨_, by rw [binOp_leq, Sem.run_pure], zJ.2 ?_⟩
      rw [xn, kc]; exact zBK (by simp)
    · cases hk
  | gtr =>
    rcases hk with rfl | hk
    · injection hc with hc; subst hc
      refine ⟨_, by rw [binOp_gtr, Sem.run_pure], zJ.2 ?_⟩
      rw [xn]
    · cases hk
  | geq =>
    rcases hk with rfl | hk
    · injection hc with hc; subst hc
      refine ⟨_, by rw [binOp_geq, Sem.run_pure], zJ.2 ?_⟩
      rw [xn, kc]; exact zBK (by simp)
    · cases hk
theorem zHz {n : Nat} {c : CV} (h : okN n = some c) : n ≤ 9223372036854775807 ∧ c = jY n := by
  have h' : Bool.rec (motive := fun _ => Option CV) none (some (jY n)) (Nat.ble n 9223372036854775807) = some c := h
  cases hb : Nat.ble n 9223372036854775807 with
  | false => rw [hb] at h'; cases h'
  | true => rw [hb] at h'; injection h' with h'; exact ⟨zP hb, h'.symm⟩
theorem v6 {n : Nat} (h : n ≤ 9223372036854775807) : IntKind.i64.wrap (n : Int) = (n : Int) := by
  simp only [IntKind.wrap, IntKind.signed, IntKind.bits]; simp; omega
theorem zLs {op : BinOp} {a b : Nat} {c : CV} (t : TypeId) (w : World) (hc : zEv op a b = some c) :
    ∃ v, (binOp op t (.int .i64 (Int.ofNat a)) (.int .i64 (Int.ofNat b))).run P w = .ok v w ∧ zH ψ c v := by
  cases op with
  | add =>
    obtain ⟨h1, rfl⟩ := zHz (n := a + b) hc
    refine ⟨_, ?_, xc _⟩
    rw [binOp_add, Op.intArith, Sem.run_pure]
    have := v6 h1
    simp only [Int.ofNat_eq_natCast] at *
    rw [← Int.natCast_add, this]
  | sub =>
    have hc' : Bool.rec (motive := fun _ => Option CV) none (Bool.rec (motive := fun _ => Option CV) none (some (jY (Nat.sub a b))) (Nat.ble a 9223372036854775807)) (Nat.ble b a) = some c := hc
    cases h1 : Nat.ble b a with
    | false => rw [h1] at hc'; cases hc'
    | true => cases h2 : Nat.ble a 9223372036854775807 with
      | false => rw [h1, h2] at hc'; cases hc'
      | true =>
        rw [h1, h2] at hc'
        injection hc' with hc'; subst hc'
        have h1 := zP h1
        have h2 := zP h2
        refine ⟨_, ?_, xc _⟩
        rw [binOp_sub, Op.intArith, Sem.run_pure]
        have := v6 (n := a - b) (by omega)
        simp only [Int.ofNat_eq_natCast] at *
        rw [← Int.natCast_sub h1, this]; rfl
  | mul =>
    obtain ⟨h1, rfl⟩ := zHz (n := a * b) hc
    refine ⟨_, ?_, xc _⟩
    rw [binOp_mul, Op.intArith, Sem.run_pure]
    have := v6 h1
    simp only [Int.ofNat_eq_natCast] at *
    rw [← Int.natCast_mul, this]
  | and =>
    have hc' : Bool.rec (motive := fun _ => Option CV) none (Bool.rec (motive := fun _ => Option CV) none (some (jY (Nat.land a b))) (Nat.ble b 9223372036854775807)) (Nat.ble a 9223372036854775807) = some c := hc
    cases h1 : Nat.ble a 9223372036854775807 with
    | false => rw [h1] at hc'; cases hc'
    | true => cases h2 : Nat.ble b 9223372036854775807 with
      | false => rw [h1, h2] at hc'; cases hc'
      | true =>
        rw [h1, h2] at hc'
        injection hc' with hc'; subst hc'
        have h1 := zP h1
        have h2 := zP h2
        refine ⟨_, ?_, xc _⟩
        rw [binOp_and, Op.intBits, Sem.run_pure, BitVec.toNat_and, ← j4, ← j4]
        have e : ∀ {m : Nat}, m ≤ 9223372036854775807 → toU .i64 (Int.ofNat m) = m := fun {m} hm => Nat.mod_eq_of_lt (show m < 2 ^ 64 by omega)
        rw [e h1, e h2]
        have : (a &&& b) ≤ 9223372036854775807 := Nat.le_trans Nat.and_le_left h1
        rw [v6 this]; rfl
  | eql => injection hc with hc; subst hc; exact ⟨_, by rw [binOp_eql, Sem.run_pure], zJ.2 (zBK (by simp; omega))⟩
  | neq => injection hc with hc; subst hc; exact ⟨_, by rw [binOp_neq, Sem.run_pure], zJ.2 (by rw [kc]; exact zBK (by have := @Nat.beq_eq a b; cases hb : Nat.beq a b <;> simp_all <;> omega))⟩
  | lss => injection hc with hc; subst hc; exact ⟨_, by rw [binOp_lss, Sem.run_pure], zJ.2 (zBK (by simp; omega))⟩
  | leq => injection hc with hc; subst hc; exact ⟨_, by rw [binOp_leq, Sem.run_pure], zJ.2 (zBK (by simp))⟩
  | gtr => injection hc with hc; subst hc; exact ⟨_, by rw [binOp_gtr, Sem.run_pure], zJ.2 (zBK (by simp; omega))⟩
  | geq => injection hc with hc; subst hc; exact ⟨_, by rw [binOp_geq, Sem.run_pure], zJ.2 (zBK (by simp))⟩
  | _ => cases hc
theorem y6 (b : ByteArray) : (zi b).length = b.size := by unfold zi; rw [List.length_map]; rfl
theorem zPr {a b : List UInt8} (h : a.map UInt8.toNat = b.map UInt8.toNat) : a = b := by
  induction a generalizing b with
  | nil => cases b with
    | nil => rfl
    | cons y b => cases h
  | cons x a ih => cases b with
    | nil => cases h
    | cons y b =>
      simp only [List.map_cons, List.cons.injEq] at h
      rw [UInt8.toNat_inj.1 h.1, ih h.2]
theorem qC (a b : ByteArray) : x6 (zi a) (zi b) = (a.toList == b.toList) := by
  rw [k8, ByteArray.toList_eq, ByteArray.toList_eq, Bool.eq_iff_iff]
  simp only [decide_eq_true_eq, beq_iff_eq]
  constructor
  · exact zPr
  · intro e; unfold zi; rw [e]
theorem zEF (a b : List UInt8) : vh (a.map UInt8.toNat) (b.map UInt8.toNat) = Op.bytesLess a b := by
  induction a generalizing b with
  | nil => cases b <;> rfl
  | cons x a ih => cases b with
    | nil => rfl
    | cons y b =>
      show Bool.rec (motive := fun _ => Bool) (Bool.rec (motive := fun _ => Bool) false (vh (a.map UInt8.toNat) (b.map UInt8.toNat)) (Nat.beq x.toNat y.toNat)) true (Nat.ble (Nat.succ x.toNat) y.toNat) = _
      rw [Op.bytesLess, ih]
      by_cases h1 : x < y
      · have : Nat.ble (Nat.succ x.toNat) y.toNat = true := Nat.ble_eq_true_of_le (UInt8.lt_iff_toNat_lt.1 h1)
        rw [this]; simp [h1]
      · have hn : Nat.ble (Nat.succ x.toNat) y.toNat = false := by
          cases hb : Nat.ble (Nat.succ x.toNat) y.toNat with
          | false => rfl
          | true => exact absurd (UInt8.lt_iff_toNat_lt.2 (zP hb)) h1
        rw [hn]
        by_cases h2 : x = y
        · subst h2; simp
        · have : Nat.beq x.toNat y.toNat = false := kI fun e => h2 (UInt8.toNat_inj.1 e)
          rw [this]; simp [h1, h2]
theorem jU (a b : ByteArray) : vh (zi a) (zi b) = Op.bytesLess a.toList b.toList := by
  rw [ByteArray.toList_eq, ByteArray.toList_eq]; exact zEF _ _
theorem zEf (a b : ByteArray) : zi (a ++ b) = zi a ++ zi b := by
  obtain ⟨⟨x⟩⟩ := a
  obtain ⟨⟨y⟩⟩ := b
  rw [ByteArray.mk_append_mk]
  simp [zi]
theorem zBj {op : BinOp} {a b : ByteArray} {c : CV} (t : TypeId) (w : World) (hc : zO0 op (zi a) (zi b) = some c) :
    ∃ v, (binOp op t (.string a) (.string b)).run P w = .ok v w ∧ zH ψ c v := by
  have hb : binOp op t (.string a) (.string b) = Op.stringOp op a b := by cases op <;> simp [binOp]
  rw [hb]
  cases op with
  | add =>
    have hc' : Bool.rec (motive := fun _ => Option CV) none (some (.str (zPd (zi a) (zi b)))) (Nat.ble (Nat.add (zAu (zi a)) (zAu (zi b))) 1000000) = some c := hc
    cases h1 : Nat.ble (Nat.add (zAu (zi a)) (zAu (zi b))) 1000000 with
    | false => rw [h1] at hc'; cases hc'
    | true =>
      rw [h1] at hc'
      injection hc' with hc'; subst hc'
      have h1 := zP h1
      rw [wX, wX, y6, y6] at h1
      have h1 : a.size + b.size ≤ 1000000 := h1
      exact ⟨_, run_string_add_sum w a b (by omega), zl.2 ⟨_, rfl, by rw [zOG, zEf]⟩⟩
  | eql => injection hc with hc; subst hc; exact ⟨_, by rw [Op.stringOp]; rfl, zJ.2 (by rw [qC])⟩
  | neq => injection hc with hc; subst hc; exact ⟨_, by rw [Op.stringOp]; rfl, zJ.2 (by rw [kc, qC])⟩
  | lss => injection hc with hc; subst hc; exact ⟨_, by rw [Op.stringOp]; rfl, zJ.2 (by rw [jU])⟩
  | leq => injection hc with hc; subst hc; exact ⟨_, by rw [Op.stringOp]; rfl, zJ.2 (by rw [qC, jU])⟩
  | gtr => injection hc with hc; subst hc; exact ⟨_, by rw [Op.stringOp]; rfl, zJ.2 (by rw [kc, qC, jU])⟩
  | geq => injection hc with hc; subst hc; exact ⟨_, by rw [Op.stringOp]; rfl, zJ.2 (by rw [kc, jU])⟩
  | _ => cases hc
end
end Go.Ev

namespace Go.Ev
variable [Sym]
noncomputable section
variable {P : Program} {ψ : Psi} {es : List CV} {tm : Tm} {h : zD} {n : Key} {ρ : Operand → Value} {E : Env} {ty : TypeId} {w : World}
theorem qE {op : BinOp} {t : TypeId} {x y : Operand} {c : TypeId} {v : Value} (hg : eqGuard op t x y (ρ x) (ρ y) = pure ()) (hr : (binOp op t (ρ x) (ρ y)).run P w = .ok v w) :
    (execOp ρ (xS (.binOp op t x y c) ty)).run P w = .ok (.value v) w := by
  simp [execOp, hg, hr]
def Has (ψ : Psi) : OR → Value → Prop
  | .val c, v => zH ψ c v
  | .fork a b, v => Has ψ a v ∨ Has ψ b v
  | _, _ => False
theorem zFS {o : Op} {x : Value} (hv : jd P ρ o ty w w x) {r : OR} (hh : Has ψ r x) : zC P ψ h n ρ o ty w r := by
  induction r with
  | val c => exact ⟨x, hv, hh⟩
  | fork a b iha ihb => exact fun _ => Or.imp (fun q => iha q) (fun q => ihb q) hh
  | _ => exact False.elim hh
theorem vy {k : IntKind} {m : Nat} {v : Value} (hv : zH ψ (qb k m) v) : v = .int k (Int.ofNat m) := by
  cases k <;> first | exact zd.1 hv | (cases m <;> exact zZ.1 hv)
theorem qF {k : IntKind} {m : Int} {v : Value} (hv : zH ψ (zU k m) v) : v = .int k m := by
  cases m with
  | ofNat m => cases m <;> exact vy hv
  | negSucc m => cases m <;> exact zd.1 hv
theorem zLv (b : Bool) : Has ψ wM (.bool b) := by
  cases b
  · exact .inr (zJ.2 rfl)
  · exact .inl (zJ.2 rfl)
theorem zDc (k : IntKind) {j : Nat} : ∀ {m : Nat}, j ≤ m → Has ψ (zIM k m) (.int k (Int.ofNat j))
  | 0, hj => by
    obtain rfl : j = 0 := by omega
    exact jv k 0
  | m + 1, hj => by
    by_cases e : j = m + 1
    · subst e; exact .inr (jv k (m + 1))
    · exact .inl (zDc k (m := m) (by omega))
theorem zDL (k : IntKind) {z : Int} : ∀ {m : Nat}, z.natAbs ≤ m → Has ψ (zIA k m) (.int k z)
  | 0, hj => by
    obtain rfl : z = 0 := by omega
    exact jv k 0
  | m + 1, hj => by
    by_cases e : z.natAbs = m + 1
    · refine .inr ?_
      cases z with
      | ofNat p =>
        obtain rfl : p = m + 1 := by simpa using e
        exact .inl (jv k (m + 1))
      | negSucc p =>
        obtain rfl : p = m := by simpa [Int.natAbs_negSucc] using e
        exact .inr (zd.2 rfl)
    · exact .inl (zDL k (m := m) (by omega))
theorem jO {op : BinOp} {k j : IntKind} {a b : Int} {c : CV} {t : TypeId} {x y : Operand} {m : TypeId} {r : OR} (hx : ρ x = .int k a) (hy : ρ y = .int j b)
    (hk : k = j ∨ yk op = true) (hc : yH op k a b = some c) (hr : ∀ v, zH ψ c v → Has ψ r v) : zC P ψ h n ρ (.binOp op t x y m) ty w r := by
  obtain ⟨v, h1, h2⟩ := jD (P := P) (ψ := ψ) t w hk hc
  exact zFS (zL (qE (by rw [hx]; exact eqGuard_at_int _ _ _ _ _ _ _) (by rw [hx, hy]; exact h1))) (hr v h2)
theorem wK {k : IntKind} {m : Int} : ∀ v, zH ψ (zU k m) v → Has ψ (.val (.anyi k)) v := fun _ hv => yQ.2 ⟨_, qF hv⟩
theorem zOz {b : Bool} : ∀ v, zH ψ (.bool b) v → Has ψ wM v := fun v hv => by rw [zJ] at hv; subst hv; exact zLv b
theorem wV {op : BinOp} {j k : IntKind} {a b : Int} {t : TypeId} {x y : Operand} {c : TypeId} (hx : ρ x = .int j a) (hy : ρ y = .int k b) :
    zC P ψ h n ρ (.binOp op t x y c) ty w (qP op j k) := by
  refine zG (C := zC P ψ h n ρ (.binOp op t x y c) ty w) _ _ _ (zA _) fun hk => ?_
  rw [xB] at hk
  have hk : j = k := by simpa using hk
  subst hk
  cases op <;> first | exact zA _ | exact jO hx hy (.inl rfl) rfl wK | exact jO hx hy (.inl rfl) rfl zOz
theorem zDI {k : IntKind} {a : Int} {m : Nat} (hm : m ≤ 127) : ∃ j, j ≤ m ∧ yW k (.ofNat (Nat.land (toU k a) (toU k (.ofNat m)))) = .ofNat j := by
  have h1 : toU k (.ofNat m) = m := by
    show m % 2 ^ k.bits = m
    exact Nat.mod_eq_of_lt (by cases k <;> simp [IntKind.bits] <;> omega)
  refine ⟨Nat.land (toU k a) m, Nat.and_le_right, ?_⟩
  rw [h1, yj]
  have h2 : Nat.land (toU k a) m ≤ 127 := Nat.le_trans Nat.and_le_right hm
  generalize Nat.land (toU k a) m = q at h2
  cases k <;> simp [IntKind.wrap, IntKind.signed, IntKind.bits] <;> omega
theorem zDC {a : Int} {m : Nat} : (a.tmod (.ofNat (m + 1))).natAbs ≤ m := by
  have := Int.natAbs_tmod a (.ofNat (m + 1))
  have h2 : (Int.ofNat (m + 1)).natAbs = m + 1 := rfl
  rw [this, h2]
  have := Nat.mod_lt a.natAbs (show 0 < m + 1 by omega)
  omega
theorem zIU {op : BinOp} {k j : IntKind} {a b : Int} {t : TypeId} {x y : Operand} {c : TypeId} (hx : ρ x = .int k a) (hy : ρ y = .int j b) (hk : k = j ∨ yk op = true) :
    zC P ψ h n ρ (.binOp op t x y c) ty w (zC7 op k b) := by
  have plain : ∀ op', op = op' → yk op' = false → zC P ψ h n ρ (.binOp op t x y c) ty w (qP op' k k) := by
    intro op' e hs
    subst e
    rcases hk with rfl | hk
    · exact wV hx hy
    · rw [hs] at hk; cases hk
  have eqk : yk op = false → k = j := fun hs => hk.resolve_right (by rw [hs]; simp)
  cases op <;> first
    | exact plain _ rfl rfl
    | skip
  case quo =>
    obtain rfl := eqk rfl
    cases b with
    | ofNat m =>
      cases m with
      | zero => exact zA _
      | succ m =>
        refine jO hx hy (.inl rfl) (c := zU k (yW k (a.tdiv (.ofNat (m + 1))))) ?_ wK
        show Bool.rec (motive := fun _ => Option CV) (some (zU k (yW k (a.tdiv (.ofNat (m + 1)))))) none (yw (.ofNat (m + 1)) (.ofNat 0)) = _
        rw [zj, decide_eq_false (by intro h; injection h with h; cases h)]
    | negSucc m =>
      refine jO hx hy (.inl rfl) (c := zU k (yW k (a.tdiv (.negSucc m)))) ?_ wK
      show Bool.rec (motive := fun _ => Option CV) (some (zU k (yW k (a.tdiv (.negSucc m))))) none (yw (.negSucc m) (.ofNat 0)) = _
      rw [zj, decide_eq_false (by intro h; cases h)]
  case rem =>
    obtain rfl := eqk rfl
    cases b with
    | negSucc m => exact zA _
    | ofNat m =>
      cases m with
      | zero => exact zA _
      | succ m =>
        refine zG (C := zC P ψ h n ρ (.binOp .rem t x y c) ty w) _ _ _ (zA _) fun hm => ?_
        have hc : yH .rem k a (.ofNat (m + 1)) = some (zU k (a.tmod (.ofNat (m + 1)))) := by
          show Bool.rec (motive := fun _ => Option CV) (some (zU k (a.tmod (.ofNat (m + 1))))) none (yw (.ofNat (m + 1)) (.ofNat 0)) = _
          rw [zj, decide_eq_false (by intro h; injection h with h; cases h)]
        refine jO hx hy (.inl rfl) hc fun v hv => ?_
        have hv := qF hv
        subst hv
        have hs := zDC (a := a) (m := m)
        split
        · exact zDL k hs
        · exact yQ.2 ⟨_, rfl⟩
  case and =>
    obtain rfl := eqk rfl
    cases b with
    | negSucc m => exact jO hx hy (.inl rfl) rfl wK
    | ofNat m =>
      refine zG (C := zC P ψ h n ρ (.binOp .and t x y c) ty w) _ _ _ (zA _) fun hm => ?_
      obtain ⟨q, h1, h2⟩ := zDI (k := k) (a := a) (zP hm)
      refine jO hx hy (.inl rfl) rfl fun v hv => ?_
      rw [h2] at hv
      rw [qF hv]
      exact zDc k h1
  case shl =>
    cases b with
    | negSucc m => exact zA _
    | ofNat m => exact jO hx hy hk rfl wK
  case shr =>
    cases b with
    | negSucc m => exact zA _
    | ofNat m =>
      cases a with
      | ofNat a => exact jO hx hy hk rfl fun v hv => yQ.2 ⟨_, vy hv⟩
      | negSucc a => exact jO hx hy hk rfl wK
theorem zM0 {op : BinOp} {k j : IntKind} {a b : Int} {c : CV} {t : TypeId} {x y : Operand} {m : TypeId} (hx : ρ x = .int k a) (hy : ρ y = .int j b)
    (hk : k = j ∨ yk op = true) (hc : yH op k a b = some c) : zC P ψ h n ρ (.binOp op t x y m) ty w (.val c) := by
  obtain ⟨v, h1, h2⟩ := jD (P := P) (ψ := ψ) t w hk hc
  exact ⟨v, zL (qE (by rw [hx]; exact eqGuard_at_int _ _ _ _ _ _ _) (by rw [hx, hy]; exact h1)), h2⟩
def zPT [Sym] (P : Program) : Prop :=
  (∀ op x y l, Sym.bin op x y = some l → ∀ (ψ : Psi) t u v w, zH ψ x u → zH ψ y v → ((∃ k m, u = .int k m) ∨ ∃ b, u = .string b) ∧ ∃ z, (binOp op t u v).run P w = .ok z w ∧ ∃ c ∈ l, zH ψ c z) ∧
  (∀ k x l, Sym.cv k x = some l → ∀ (ψ : Psi) u, zH ψ x u → ∃ j m, u = .int j m ∧ ∃ c ∈ l, zH ψ c (.int k (k.wrap m)))
class SymFact (P : Program) : Prop where
  ok : zPT P
theorem zE9 {v : Value} : ∀ {l : List CV} {d c : CV}, c ∈ d :: l → zH ψ c v → Has ψ (forkL d l) v
  | [], d, c, hc, hv => by
    obtain rfl : c = d := by simpa using hc
    exact hv
  | e :: l, d, c, hc, hv => by
    rcases List.mem_cons.1 hc with rfl | hc
    · exact .inl hv
    · exact .inr (zE9 hc hv)
theorem zH6 {v : Value} {o : Option (List CV)} {l : List CV} {c : CV} {e : Nat} (ho : o = some l) (hc : c ∈ l) (hv : zH ψ c v) : Has ψ (zOj o e) v := by
  subst ho
  cases l with
  | nil => cases hc
  | cons d l => exact zE9 hc hv
theorem zIy {op : BinOp} {t : TypeId} {x y : Operand} {m : TypeId} {u v : CV} (hx : zH ψ u (ρ x)) (hy : zH ψ v (ρ y)) :
    zC P ψ h n ρ (.binOp op t x y m) ty w (zIw op u v) := by
  have two : ∀ (k : IntKind) (a : Int), ρ x = .int k a → zC P ψ h n ρ (.binOp op t x y m) ty w
      (zMu v (fun j b => yY (kEq k j || yk op) (zCH (yH op k a b) 117) 118) (fun j => qP op j k) 119) := by
    intro k a hx
    have known : ∀ (j : IntKind) (b : Int), ρ y = .int j b → zC P ψ h n ρ (.binOp op t x y m) ty w (yY (kEq k j || yk op) (zCH (yH op k a b) 117) 118) := by
      intro j b hy
      refine zG (C := zC P ψ h n ρ (.binOp op t x y m) ty w) _ _ _ (zA _) fun hk => ?_
      refine jA (C := zC P ψ h n ρ (.binOp op t x y m) ty w) _ _ (zA _) fun c hc => ?_
      refine zM0 hx hy ?_ hc
      rw [xB] at hk
      simpa using hk
    refine qw (C := zC P ψ h n ρ (.binOp op t x y m) ty w) _ _ _ _ (zA _) (fun b hv => ?_) (fun j b hv => ?_) (fun j hv => ?_)
    · rw [hv, zZ] at hy; exact known _ _ hy
    · rw [hv, zd] at hy; exact known _ _ hy
    · rw [hv, yQ] at hy; obtain ⟨b, hy⟩ := hy
      by_cases e : j = k
      · subst e; exact wV hx hy
      · unfold qP; rw [xB, decide_eq_false e]; exact zA _
  refine zE4 (C := zC P ψ h n ρ (.binOp op t x y m) ty w) _ _ _ _ _ (zA _) (fun a hu => ?_) (fun k a hu => ?_) (fun k hu => ?_) (fun s hu => ?_)
  · rw [hu, zZ] at hx; exact two _ _ hx
  · rw [hu, zd] at hx; exact two _ _ hx
  · rw [hu, yQ] at hx; obtain ⟨a, hx⟩ := hx
    have any : ∀ (j : IntKind) (b : Int), ρ y = .int j b → zC P ψ h n ρ (.binOp op t x y m) ty w (qP op j k) := by
      intro j b hy
      by_cases e : j = k
      · subst e; exact wV hx hy
      · unfold qP; rw [xB, decide_eq_false e]; exact zA _
    have right : ∀ (j : IntKind) (b : Int), ρ y = .int j b → zC P ψ h n ρ (.binOp op t x y m) ty w (yY (kEq k j || yk op) (zC7 op k b) 118) := by
      intro j b hy
      refine zG (C := zC P ψ h n ρ (.binOp op t x y m) ty w) _ _ _ (zA _) fun hk => ?_
      refine zIU hx hy ?_
      rw [xB] at hk
      simpa using hk
    refine qw (C := zC P ψ h n ρ (.binOp op t x y m) ty w) _ _ _ _ (zA _) (fun b hv => ?_) (fun j b hv => ?_) (fun j hv => ?_)
    · rw [hv, zZ] at hy; exact right _ _ hy
    · rw [hv, zd] at hy; exact right _ _ hy
    · rw [hv, yQ] at hy; obtain ⟨b, hy⟩ := hy; exact any _ _ hy
  · rw [hu, zl] at hx; obtain ⟨a, hx, rfl⟩ := hx
    refine zx (C := zC P ψ h n ρ (.binOp op t x y m) ty w) _ _ _ (zA _) fun l hl => ?_
    rw [hl, zl] at hy; obtain ⟨b, hy, rfl⟩ := hy
    refine jA (C := zC P ψ h n ρ (.binOp op t x y m) ty w) _ _ (zA _) fun c hc => ?_
    obtain ⟨v, h1, h2⟩ := zBj (P := P) (ψ := ψ) t w hc
    exact ⟨v, zL (qE (by rw [hx]; exact eqGuard_at_string _ _ _ _ _ _) (by rw [hx, hy]; exact h1)), h2⟩
theorem zIF [SymFact P] {op : BinOp} {t : TypeId} {x y : Operand} {m : TypeId} {u v : CV} (hx : zH ψ u (ρ x)) (hy : zH ψ v (ρ y)) :
    zC P ψ h n ρ (.binOp op t x y m) ty w (jC op u v) := by
  unfold jC
  split
  · rename_i a m'
    rw [zZ] at hx
    rw [jZ] at hy
    obtain ⟨b, hy, hle⟩ := hy
    have hg : eqGuard op t x y (ρ x) (ρ y) = pure () := by rw [hx]; exact eqGuard_at_int _ _ _ _ _ _ _
    have hv : ∀ {c : Bool}, (binOp op t (ρ x) (ρ y)).run P w = .ok (.bool c) w → jd P ρ (.binOp op t x y m) ty w w (.bool c) := fun h => zL (qE hg h)
    have hf : ∀ {c : Bool}, (binOp op t (ρ x) (ρ y)).run P w = .ok (.bool c) w → zC P ψ h n ρ (.binOp op t x y m) ty w wM := by
      intro c hc _
      cases c
      · exact .inr ⟨_, hv hc, zJ.2 rfl⟩
      · exact .inl ⟨_, hv hc, zJ.2 rfl⟩
    cases op <;> first | exact zA _ | skip
    · -- <
      have hr : (binOp .lss t (ρ x) (ρ y)).run P w = .ok (.bool (decide ((a : Int) < b))) w := by rw [hx, hy]; simp [binOp, Op.intCmp]
      show zC P ψ h n ρ _ ty w (ifB (Nat.ble (Nat.succ a) m') _ _)
      rw [qY]
      split
      · rename_i hb
        have := zP hb
        exact ⟨_, hv hr, zJ.2 (by rw [decide_eq_true (by omega)])⟩
      · exact hf hr
    · -- <=
      have hr : (binOp .leq t (ρ x) (ρ y)).run P w = .ok (.bool (decide ((a : Int) ≤ b))) w := by rw [hx, hy]; simp [binOp, Op.intCmp]
      show zC P ψ h n ρ _ ty w (ifB (Nat.ble a m') _ _)
      rw [qY]
      split
      · rename_i hb
        have := zP hb
        exact ⟨_, hv hr, zJ.2 (by rw [decide_eq_true (by omega)])⟩
      · exact hf hr
    · -- >
      have hr : (binOp .gtr t (ρ x) (ρ y)).run P w = .ok (.bool (decide ((b : Int) < a))) w := by rw [hx, hy]; simp [binOp, Op.intCmp]
      show zC P ψ h n ρ _ ty w (ifB (Nat.ble a m') _ _)
      rw [qY]
      split
      · rename_i hb
        have := zP hb
        exact ⟨_, hv hr, zJ.2 (by rw [decide_eq_false (by omega)])⟩
      · exact hf hr
    · -- >=
      have hr : (binOp .geq t (ρ x) (ρ y)).run P w = .ok (.bool (decide ((b : Int) ≤ a))) w := by rw [hx, hy]; simp [binOp, Op.intCmp]
      show zC P ψ h n ρ _ ty w (ifB (Nat.ble (Nat.succ a) m') _ _)
      rw [qY]
      split
      · rename_i hb
        have := zP hb
        exact ⟨_, hv hr, zJ.2 (by rw [decide_eq_false (by omega)])⟩
      · exact hf hr
  split
  · cases hb : Sym.bin op u v with
    | none => exact zA _
    | some l =>
      obtain ⟨h1, z, h2, c, h3, h4⟩ := (SymFact.ok (P := P)).1 op u v l hb ψ t _ _ w hx hy
      refine zFS (zL (qE ?_ h2)) (zH6 rfl h3 h4)
      rcases h1 with ⟨k, q, e⟩ | ⟨b, e⟩ <;> rw [e]
      · exact eqGuard_at_int _ _ _ _ _ _ _
      · exact eqGuard_at_string _ _ _ _ _ _
  · exact zIy hx hy
theorem zE0 [SymFact P] {op : BinOp} {t : TypeId} {x y : Operand} {m : TypeId} {c d : zS} (hx : zH ψ (aV es tm c) (ρ x)) (hy : zH ψ (aV es tm d) (ρ y)) :
    zC P ψ h n ρ (.binOp op t x y m) ty w (z6 P (.arith op c d) es tm h n) := by
  show zC P ψ h n ρ (.binOp op t x y m) ty w (zKD (aV es tm c) (fun a => zKD (aV es tm d) (fun b => zJd op a b (aV es tm c) (aV es tm d)) (jC op (aV es tm c) (aV es tm d))) (jC op (aV es tm c) (aV es tm d)))
  have gen := zIF (P := P) (h := h) (n := n) (op := op) (t := t) (m := m) (ty := ty) (w := w) hx hy
  cases hc : aV es tm c <;> try (rw [hc] at gen; exact gen)
  case nat a =>
    rw [hc] at gen
    cases hd : aV es tm d <;> try (rw [hd] at gen; exact gen)
    case nat b =>
      rw [hd] at gen
      rw [hc, zZ] at hx
      rw [hd, zZ] at hy
      show zC P ψ h n ρ (.binOp op t x y m) ty w (Option.rec (motive := fun _ => BinOp → CV → CV → OR) (fun op x y => jC op x y) (fun v _ _ _ => .val v) (zEv op a b) op (.nat a) (.nat b))
      cases ho : zEv op a b with
      | none => exact gen
      | some v =>
        obtain ⟨v', h1, h2⟩ := zLs (P := P) (ψ := ψ) t w ho
        exact ⟨v', zL (qE (by rw [hx]; exact eqGuard_at_int _ _ _ _ _ _ _) (by rw [hx, hy]; exact h1)), h2⟩
theorem kF {k : EqK} {x y : CV} {b : Bool} {u v : Value} (hx : zH ψ x u) (hy : zH ψ y v) (hc : vX k x y = some b) :
    (k = .bool ∧ ∃ p q, u = .bool p ∧ v = .bool q ∧ b = (p == q)) ∨ (k = .int ∧ ∃ j p q, u = .int j p ∧ v = .int j q ∧ b = (p == q)) ∨
    (k = .str ∧ ∃ p q, u = .string p ∧ v = .string q ∧ b = (p == q)) := by
  unfold vX at hc
  split at hc
  · injection hc with hc; rw [zJ] at hx hy; exact .inl ⟨rfl, _, _, hx, hy, hc.symm⟩
  · injection hc with hc; rw [zZ] at hx hy
    refine .inr (.inl ⟨rfl, _, _, _, hx, hy, ?_⟩)
    subst hc; rename_i a b; have := @Nat.beq_eq a b; cases hb : Nat.beq a b <;> simp_all <;> omega
  · rw [zd] at hx hy
    rename_i k a j b'
    cases hk : kEq k j with
    | false => rw [hk] at hc; cases hc
    | true =>
      rw [hk] at hc; injection hc with hc
      rw [xB] at hk
      have hk : k = j := by simpa using hk
      subst hk
      refine .inr (.inl ⟨rfl, _, _, _, hx, hy, ?_⟩)
      rw [← hc, zj]; rfl
  · injection hc with hc; rw [zZ] at hx; rw [zd] at hy
    refine .inr (.inl ⟨rfl, _, _, _, hx, hy, ?_⟩)
    subst hc; rename_i a b; simp only [Int.negSucc_eq]; symm; simp only [beq_eq_false_iff_ne, ne_eq]; simp; omega
  · injection hc with hc; rw [zZ] at hy; rw [zd] at hx
    refine .inr (.inl ⟨rfl, _, _, _, hx, hy, ?_⟩)
    subst hc; rename_i a b; simp only [Int.negSucc_eq]; symm; simp only [beq_eq_false_iff_ne, ne_eq]; simp; omega
  · injection hc with hc; rw [zl] at hx hy
    obtain ⟨p, hx, rfl⟩ := hx
    obtain ⟨q, hy, rfl⟩ := hy
    refine .inr (.inr ⟨rfl, _, _, hx, hy, ?_⟩)
    rw [← hc, qC, beq_toListBytes]
  · cases hc
end
end Go.Ev

namespace Go.Ev
variable [Sym]
noncomputable section
variable {P : Program} {ψ : Psi} {es : List CV} {tm : Tm} {h : zD} {n : Key} {ρ : Operand → Value} {E : Env} {ty : TypeId} {w : World}
variable [SymFact P]
theorem xQ {t : TypeId} {cs : Array Value} {off : Nat} {v : Value} (ha : xj P t = some false) (hv : cs[off]? = some v) (w : World) : (part t cs off).run P w = .ok v w := by
  simp [part, qc ha, hv]
theorem zGn {t : TypeId} {cs : Array Value} {off s : Nat} (ha : xj P t = some true) (hs : xX P t = some s) (w : World) :
    (part t cs off).run P w = .ok (.agg (cs.extract off (off + s))) w := by
  simp [part, qc ha, yT hs]
theorem zIz {t : TypeId} (ht : P.underlying t = some .bool) : xj P t = some false := by unfold xj; rw [ht]
theorem vq {t : TypeId} {k : IntKind} (ht : P.underlying t = some (.int k)) : xj P t = some false := by unfold xj; rw [ht]
theorem zGx {t : TypeId} (ht : P.underlying t = some .string) : xj P t = some false := by unfold xj; rw [ht]
theorem zAP {xs ys : List CV} {us vs : Array Value} (hx : zT ψ xs us.toList) (hy : zT ψ ys vs.toList) (d : Nat) (w : World) :
    ∀ (fs : List Field) {l : List (Nat × EqK)} {b : Bool}, jx P fs = some l → eqFields xs ys l = some b → (Op.eqFields (d + 1) us vs fs).run P w = .ok b w
  | [], l, b, hl, hb => by
    injection hl with hl; subst hl
    injection hb with hb; subst hb
    rfl
  | f :: fs, l, b, hl, hb => by
    unfold jx at hl
    split at hl
    · cases hl
    · rename_i hname
      have hname : f.name ≠ "_" := by simpa using hname
      cases hr : jx P fs with
      | none => rw [hr] at hl; cases hl
      | some r =>
        simp only [hr] at hl
        have one : ∀ {k : EqK}, xj P f.type = some false → l = (f.offset, k) :: r →
            (∀ {x y : CV} {u v : Value} {c : Bool}, zH ψ x u → zH ψ y v → vX k x y = some c → (Op.equalIn (d + 1) f.type u v).run P w = .ok c w) →
            (Op.eqFields (d + 1) us vs (f :: fs)).run P w = .ok b w := by
          intro k ha hl hk
          subst hl
          unfold eqFields at hb
          rw [kj, kj] at hb
          cases h1 : xs[f.offset]? with
          | none => rw [h1] at hb; cases hb
          | some x => cases h2 : ys[f.offset]? with
            | none => rw [h1, h2] at hb; cases hb
            | some y =>
              simp only [h1, h2] at hb
              obtain ⟨u, hu, hxu⟩ := hx.get h1
              obtain ⟨v, hv, hyv⟩ := hy.get h2
              have hu : us[f.offset]? = some u := by simpa using hu
              have hv : vs[f.offset]? = some v := by simpa using hv
              cases hc : vX k x y with
              | none => simp only [hc] at hb; cases hb
              | some c =>
                simp only [hc] at hb
                have he := hk hxu hyv hc
                cases c with
                | false =>
                  injection hb with hb; subst hb
                  simp [Op.eqFields, hname, xQ ha hu, xQ ha hv, he]
                | true =>
                  have := zAP hx hy d w fs hr hb
                  simp [Op.eqFields, hname, xQ ha hu, xQ ha hv, he, this]
        unfold und at hl
        split at hl
        · rename_i ht
          injection hl with hl
          refine one (zIz ht) hl.symm fun hx hy hc => ?_
          rcases kF hx hy hc with ⟨_, p, q, rfl, rfl, rfl⟩ | ⟨e, _⟩ | ⟨e, _⟩
          · exact run_equalIn_bool' w d _ p q ht
          · cases e
          · cases e
        · rename_i k ht
          injection hl with hl
          refine one (vq ht) hl.symm fun hx hy hc => ?_
          rcases kF hx hy hc with ⟨e, _⟩ | ⟨_, j, p, q, rfl, rfl, rfl⟩ | ⟨e, _⟩
          · cases e
          · exact run_equalIn_int w d _ j k p q ht
          · cases e
        · rename_i ht
          injection hl with hl
          refine one (zGx ht) hl.symm fun hx hy hc => ?_
          rcases kF hx hy hc with ⟨e, _⟩ | ⟨e, _⟩ | ⟨_, p, q, rfl, rfl, rfl⟩
          · cases e
          · cases e
          · rw [run_equalIn_string w d _ p q ht, beq_toListBytes]
        · cases hl
theorem zAh {x : Operand} (h : xV x = true) : ∃ v, x = .const v := by
  cases x <;> first | exact ⟨_, rfl⟩ | cases h
section
variable {t e e' D : TypeId} {a : Addr} {v : Value} {n1 n2 m1 m2 r : Nat} {f : Fn} {xs ys : Array Value} (d : Nat) (w : World)
theorem zMj (ht : P.underlying t = some (.pointer e)) : (Op.equalIn (d + 1) t (.pointer none) (.pointer none)).run P w = .ok true w := by
  rw [Op.equalIn, Sem.run_bind, run_underlying ht, Result.andThen_ok]; rfl
theorem zMT (ht : P.underlying t = some (.pointer e)) : (Op.equalIn (d + 1) t (.pointer none) (.pointer (some a))).run P w = .ok false w := by
  rw [Op.equalIn, Sem.run_bind, run_underlying ht, Result.andThen_ok]; rfl
theorem zMc (ht : P.underlying t = some (.pointer e)) : (Op.equalIn (d + 1) t (.pointer (some a)) (.pointer none)).run P w = .ok false w := by
  rw [Op.equalIn, Sem.run_bind, run_underlying ht, Result.andThen_ok]; rfl
theorem zNz {ms} (ht : P.underlying t = some (.interface ms)) : (Op.equalIn (d + 1) t .nilIface .nilIface).run P w = .ok true w := by
  rw [Op.equalIn, Sem.run_bind, run_underlying ht, Result.andThen_ok]; rfl
theorem zLT {ms} (ht : P.underlying t = some (.interface ms)) : (Op.equalIn (d + 1) t .nilIface (.iface D v)).run P w = .ok false w := by
  rw [Op.equalIn, Sem.run_bind, run_underlying ht, Result.andThen_ok]; rfl
theorem zMZ {ms} (ht : P.underlying t = some (.interface ms)) : (Op.equalIn (d + 1) t (.iface D v) .nilIface).run P w = .ok false w := by
  rw [Op.equalIn, Sem.run_bind, run_underlying ht, Result.andThen_ok]; rfl
theorem zOl (ht : P.underlying t = some (.slice e)) : (Op.equalIn (d + 1) t (.slice none n1 m1) (.slice none n2 m2)).run P w = .ok true w := by
  rw [Op.equalIn, Sem.run_bind, run_underlying ht, Result.andThen_ok]; rfl
theorem zOC (ht : P.underlying t = some (.slice e)) : (Op.equalIn (d + 1) t (.slice none n1 m1) (.slice (some a) n2 m2)).run P w = .ok false w := by
  rw [Op.equalIn, Sem.run_bind, run_underlying ht, Result.andThen_ok]; rfl
theorem zN0 (ht : P.underlying t = some (.slice e)) : (Op.equalIn (d + 1) t (.slice (some a) n1 m1) (.slice none n2 m2)).run P w = .ok false w := by
  rw [Op.equalIn, Sem.run_bind, run_underlying ht, Result.andThen_ok]; rfl
theorem zNx (ht : P.underlying t = some (.map e e')) : (Op.equalIn (d + 1) t (.map none) (.map none)).run P w = .ok true w := by
  rw [Op.equalIn, Sem.run_bind, run_underlying ht, Result.andThen_ok]; rfl
theorem zMA (ht : P.underlying t = some (.map e e')) : (Op.equalIn (d + 1) t (.map none) (.map (some r))).run P w = .ok false w := by
  rw [Op.equalIn, Sem.run_bind, run_underlying ht, Result.andThen_ok]; rfl
theorem zMV (ht : P.underlying t = some (.map e e')) : (Op.equalIn (d + 1) t (.map (some r)) (.map none)).run P w = .ok false w := by
  rw [Op.equalIn, Sem.run_bind, run_underlying ht, Result.andThen_ok]; rfl
theorem zOb {fa fb fc} (ht : P.underlying t = some (.func fa fb fc)) : (Op.equalIn (d + 1) t .nilFunc .nilFunc).run P w = .ok true w := by
  rw [Op.equalIn, Sem.run_bind, run_underlying ht, Result.andThen_ok]; rfl
theorem zN7 {fa fb fc} (ht : P.underlying t = some (.func fa fb fc)) : (Op.equalIn (d + 1) t .nilFunc (.func f xs ys)).run P w = .ok false w := by
  rw [Op.equalIn, Sem.run_bind, run_underlying ht, Result.andThen_ok]; rfl
theorem zNZ {fa fb fc} (ht : P.underlying t = some (.func fa fb fc)) : (Op.equalIn (d + 1) t (.func f xs ys) .nilFunc).run P w = .ok false w := by
  rw [Op.equalIn, Sem.run_bind, run_underlying ht, Result.andThen_ok]; rfl
end
theorem zPm {t : TypeId} {x y : Operand} {k : EqK} {u v : CV} {b : Bool} (op : BinOp) (hk : zF3 P t = some k) (hx : zH ψ u (ρ x)) (hy : zH ψ v (ρ y))
    (hc : eqC k (xV x || xV y) u v = some b) (hop : op = .eql ∨ op = .neq) (w : World) :
    (eqGuard op t x y (ρ x) (ρ y)).run P w = .ok () w ∧ (Op.equal t (ρ x) (ρ y)).run P w = .ok b w ∧
      (∀ k' a j c, ¬ (ρ x = .int k' a ∧ ρ y = .int j c)) ∧ (∀ s r, ¬ (ρ x = .string s ∧ ρ y = .string r)) ∧ (∀ s c, ρ x ≠ .float s c) ∧ (∀ s c d, ρ x ≠ .complex s c d) := by
  obtain ⟨dd, hd⟩ : ∃ dd, ∀ a b, Op.equal t a b = Op.equalIn (dd + 1 + 1) t a b := ⟨9998, fun _ _ => rfl⟩
  unfold zF3 und at hk
  split at hk
  · rename_i ht
    injection hk with hk; subst hk
    rcases kF hx hy hc with ⟨_, p, q, h1, h2, rfl⟩ | ⟨e, _⟩ | ⟨e, _⟩
    · rw [h1, h2, hd]
      exact ⟨by rw [eqGuard_at_bool]; rfl, run_equalIn_bool' w _ _ p q ht, by simp, by simp, by simp, by simp⟩
    · cases e
    · cases e
  · rename_i e ht
    injection hk with hk; subst hk
    unfold eqC at hc
    simp only at hc
    split at hc
    · injection hc with hc; subst hc
      rw [xE] at hx hy
      rw [hx, hy, hd]
      exact ⟨by rw [eqGuard_at_pointer]; rfl, zMj _ w ht, by simp, by simp, by simp, by simp⟩
    · injection hc with hc; subst hc
      rw [xE] at hx
      rw [zk] at hy
      obtain ⟨p, _, hy⟩ := hy
      rw [hx, hy, hd]
      exact ⟨by rw [eqGuard_at_pointer]; rfl, zMT _ w ht, by simp, by simp, by simp, by simp⟩
    · injection hc with hc; subst hc
      rw [xE] at hy
      rw [zk] at hx
      obtain ⟨p, _, hx⟩ := hx
      rw [hx, hy, hd]
      exact ⟨by rw [eqGuard_at_pointer]; rfl, zMc _ w ht, by simp, by simp, by simp, by simp⟩
    · cases hc
  · rename_i ms ht
    injection hk with hk; subst hk
    unfold eqC at hc
    simp only at hc
    split at hc
    · split at hc
      · rename_i hcst
        injection hc with hc; subst hc
        rw [yM] at hx hy
        rw [hx, hy, hd]
        refine ⟨?_, zNz _ w ht, by simp, by simp, by simp, by simp⟩
        rcases Bool.or_eq_true_iff.1 hcst with h1 | h1
        · obtain ⟨c, rfl⟩ := zAh h1
          rw [eqGuard_nil_constL]; rfl
        · obtain ⟨c, rfl⟩ := zAh h1
          rw [eqGuard_nil_constR]; rfl
      · cases hc
    · injection hc with hc; subst hc
      rw [yM] at hx
      rw [yI] at hy
      obtain ⟨p, hy, _⟩ := hy
      rw [hx, hy, hd]
      exact ⟨by rw [eqGuard_nil_iface]; rfl, zLT _ w ht, by simp, by simp, by simp, by simp⟩
    · injection hc with hc; subst hc
      rw [yM] at hy
      rw [yI] at hx
      obtain ⟨p, hx, _⟩ := hx
      rw [hx, hy, hd]
      exact ⟨by rw [eqGuard_at_iface]; rfl, zMZ _ w ht, by simp, by simp, by simp, by simp⟩
    · cases hc
  · rename_i e ht
    injection hk with hk; subst hk
    unfold eqC at hc
    simp only at hc
    split at hc
    · injection hc with hc; subst hc
      rw [zo] at hx hy
      rw [hx, hy, hd]
      exact ⟨by rw [eqGuard_at_slice]; rfl, zOl _ w ht, by simp, by simp, by simp, by simp⟩
    · injection hc with hc; subst hc
      rw [zo] at hx
      rw [z7] at hy
      obtain ⟨p, _, _, _, hy, _⟩ := hy
      rw [hx, hy, hd]
      exact ⟨by rw [eqGuard_at_slice]; rfl, zOC _ w ht, by simp, by simp, by simp, by simp⟩
    · injection hc with hc; subst hc
      rw [zo] at hy
      rw [z7] at hx
      obtain ⟨p, _, _, _, hx, _⟩ := hx
      rw [hx, hy, hd]
      exact ⟨by rw [eqGuard_at_slice]; rfl, zN0 _ w ht, by simp, by simp, by simp, by simp⟩
    · cases hc
  · rename_i e e' ht
    injection hk with hk; subst hk
    unfold eqC at hc
    simp only at hc
    split at hc
    · injection hc with hc; subst hc
      rw [yB] at hx hy
      rw [hx, hy, hd]
      exact ⟨by rw [eqGuard_at_map]; rfl, zNx _ w ht, by simp, by simp, by simp, by simp⟩
    · injection hc with hc; subst hc
      rw [yB] at hx
      rw [yh] at hy
      obtain ⟨p, _, hy⟩ := hy
      rw [hx, hy, hd]
      exact ⟨by rw [eqGuard_at_map]; rfl, zMA _ w ht, by simp, by simp, by simp, by simp⟩
    · injection hc with hc; subst hc
      rw [yB] at hy
      rw [yh] at hx
      obtain ⟨p, _, hx⟩ := hx
      rw [hx, hy, hd]
      exact ⟨by rw [eqGuard_at_map]; rfl, zMV _ w ht, by simp, by simp, by simp, by simp⟩
    · cases hc
  · rename_i a1 a2 a3 ht
    injection hk with hk; subst hk
    unfold eqC at hc
    simp only at hc
    split at hc
    · injection hc with hc; subst hc
      rw [yz] at hx hy
      rw [hx, hy, hd]
      exact ⟨by rw [eqGuard_at_nilFunc]; rfl, zOb _ w ht, by simp, by simp, by simp, by simp⟩
    · injection hc with hc; subst hc
      rw [yz] at hx
      rw [yv] at hy
      obtain ⟨_, _, hy, _⟩ := hy
      rw [hx, hy, hd]
      exact ⟨by rw [eqGuard_at_nilFunc]; rfl, zN7 _ w ht, by simp, by simp, by simp, by simp⟩
    · injection hc with hc; subst hc
      rw [yz] at hy
      rw [yv] at hx
      obtain ⟨_, _, hx, _⟩ := hx
      rw [hx, hy, hd]
      exact ⟨by rw [eqGuard_at_func]; rfl, zNZ _ w ht, by simp, by simp, by simp, by simp⟩
    · cases hc
  · rename_i fs ht
    split at hk
    · cases hk
    · rename_i hg
      rw [Bool.not_eq_true, Bool.or_eq_false_iff] at hg
      cases hf : jx P fs.toList with
      | none => rw [hf] at hk; cases hk
      | some l =>
        rw [hf] at hk
        injection hk with hk; subst hk
        unfold eqC at hc
        simp only at hc
        split at hc
        · rw [yc] at hx hy
          obtain ⟨us, h1, hx⟩ := hx
          obtain ⟨vs, h2, hy⟩ := hy
          have hfo : P.fieldsOf t = fs := by unfold Program.fieldsOf; rw [ht]
          rw [h1, h2, hd]
          refine ⟨run_eqGuard_agg w op t x y us vs hg.1, ?_, by simp, by simp, by simp, by simp⟩
          rw [run_equalIn_struct w (dd + 1) t us vs (by rw [hfo]; exact ht) hg.2, hfo]
          exact zAP hx hy dd w fs.toList hf hc
        · cases hc
  · cases hk
theorem zN5 {t : TypeId} {u v : Value} {b : Bool} (w : World) (he : (Op.equal t u v).run P w = .ok b w) (h1 : ∀ k' a j c, ¬ (u = .int k' a ∧ v = .int j c)) (h2 : ∀ s r, ¬ (u = .string s ∧ v = .string r))
    (h3 : ∀ s c, u ≠ .float s c) (h4 : ∀ s c d, u ≠ .complex s c d) : (binOp .eql t u v).run P w = .ok (.bool b) w ∧ (binOp .neq t u v).run P w = .ok (.bool (!b)) w := by
  have e1 : binOp .eql t u v = (do pure (.bool (← Op.equal t u v))) := by
    unfold binOp
    split <;> first | rfl | exact absurd ⟨rfl, rfl⟩ (h1 _ _ _ _) | exact absurd ⟨rfl, rfl⟩ (h2 _ _) | exact absurd rfl (h3 _ _) | exact absurd rfl (h4 _ _ _) | (simp_all; done)
  have e2 : binOp .neq t u v = (do pure (.bool (!(← Op.equal t u v)))) := by
    unfold binOp
    split <;> first | rfl | exact absurd ⟨rfl, rfl⟩ (h1 _ _ _ _) | exact absurd ⟨rfl, rfl⟩ (h2 _ _) | exact absurd rfl (h3 _ _) | exact absurd rfl (h4 _ _ _) | (simp_all; done)
  rw [e1, e2]
  simp [he]
theorem zMD {neg : Bool} {t : TypeId} {x y : Operand} {k : EqK} {m : TypeId} {c d : zS} (hk : zF3 P t = some k) (hx : zH ψ (aV es tm c) (ρ x)) (hy : zH ψ (aV es tm d) (ρ y)) :
    zC P ψ h n ρ (.binOp (match neg with | true => .neq | false => .eql) t x y m) ty w (z6 P (.eq neg k (xV x || xV y) c d) es tm h n) := by
  show zC P ψ h n ρ _ ty w (match eqC k (xV x || xV y) (aV es tm c) (aV es tm d) with
    | some b => .val (.bool (xor neg b))
    | none => .err 123)
  cases hc : eqC k (xV x || xV y) (aV es tm c) (aV es tm d) with
  | none => exact zA _
  | some b =>
    obtain ⟨h1, h2, h3, h4, h5, h6⟩ := zPm (match neg with | true => .neq | false => .eql) hk hx hy hc (by cases neg <;> simp) w
    obtain ⟨e1, e2⟩ := zN5 w h2 h3 h4 h5 h6
    cases neg with
    | false =>
      refine ⟨.bool b, zL ?_, zJ.2 (by cases b <;> rfl)⟩
      have h1 := h1
      simp only at h1
      simp [execOp, h1, e1]
    | true =>
      refine ⟨.bool (!b), zL ?_, zJ.2 (by cases b <;> rfl)⟩
      have h1 := h1
      simp only at h1
      simp [execOp, h1, e2]
theorem zLf (op : BinOp) (t : TypeId) (x y : Operand) (m : TypeId) (ha : zp P ψ es tm E ρ [x, y]) :
    zC P ψ h n ρ (.binOp op t x y m) ty w (z6 P (zb P E (.binOp op t x y m)) es tm h n) := by
  rw [zb]
  unfold zKl
  split
  · exact yf (C := zC P ψ h n ρ (.binOp op t x y m) ty w) zA fun c d hc hd => zE0 (ha x (by simp) c hc) (ha y (by simp) d hd)
  · exact yf (C := zC P ψ h n ρ (.binOp op t x y m) ty w) zA fun c d hc hd => zE0 (ha x (by simp) c hc) (ha y (by simp) d hd)
  · split
    · rename_i k hk
      exact yf (C := zC P ψ h n ρ (.binOp .eql t x y m) ty w) zA fun c d hc hd => zMD (neg := false) hk (ha x (by simp) c hc) (ha y (by simp) d hd)
    · rename_i k hk
      exact yf (C := zC P ψ h n ρ (.binOp .neq t x y m) ty w) zA fun c d hc hd => zMD (neg := true) hk (ha x (by simp) c hc) (ha y (by simp) d hd)
    · exact zA _
end
end Go.Ev

namespace Go.Ev
variable [Sym]
noncomputable section
variable {P : Program} {ψ : Psi} {es : List CV} {tm : Tm} {h : zD} {n : Key} {ρ : Operand → Value} {E : Env} {ty : TypeId} {w : World}
variable [SymFact P]
theorem zMQ (op : UnOp) (t : TypeId) (x : Operand) (ha : zp P ψ es tm E ρ [x]) : zC P ψ h n ρ (.unOp op t x) ty w (z6 P (zb P E (.unOp op t x)) es tm h n) := by
  refine zh (C := zC P ψ h n ρ (.unOp op t x) ty w) zA fun c hc => ?_
  have hx := ha x (by simp) c hc
  cases op with
  | neg =>
    have main : ∀ k m, ρ x = .int k m → zC P ψ h n ρ (.unOp .neg t x) ty w (.val (zU k (yW k (Int.sub (.ofNat 0) m)))) := by
      intro k m e
      refine ⟨_, zL ?_, yb _ _⟩
      simp only [execOp, e, Op.unary, Op.intArith, yj]
      rfl
    refine w7 (C := zC P ψ h n ρ (.unOp .neg t x) ty w) _ _ _ (zA _) (fun m hm => ?_) (fun k m hm => ?_)
    · rw [hm, zZ] at hx; exact main _ _ hx
    · rw [hm, zd] at hx; exact main _ _ hx
  | xor =>
    have main : ∀ k m, ρ x = .int k m → zC P ψ h n ρ (.unOp .xor t x) ty w (zCH (zPj k (if k.signed then -1 else k.max) m) 125) := by
      intro k m e
      refine ⟨_, zL ?_, yb _ _⟩
      simp only [execOp, e, Op.unary, Op.intBits, yj, j4]
      simp only [Sem.run_bind, Sem.run_pure, Result.andThen_ok, BitVec.toNat_xor]
      rfl
    refine w7 (C := zC P ψ h n ρ (.unOp .xor t x) ty w) _ _ _ (zA _) (fun m hm => ?_) (fun k m hm => ?_)
    · rw [hm, zZ] at hx; exact main _ _ hx
    · rw [hm, zd] at hx; exact main _ _ hx
  | not =>
    refine kS (C := zC P ψ h n ρ (.unOp .not t x) ty w) _ _ _ (zA _) fun b hb => ?_
    rw [hb, zJ] at hx
    exact ⟨.bool (!b), zL (by simp [execOp, hx, Op.unary]), zJ.2 (by rw [kc])⟩
  | plus => exact zA _
theorem zAW (t : TypeId) (x : Operand) (ha : zp P ψ es tm E ρ [x]) : zC P ψ h n ρ (.makeInterface t x) ty w (z6 P (zb P E (.makeInterface t x)) es tm h n) := by
  rw [zb]
  unfold und
  split
  · exact zA _
  · rename_i d hd ht
    refine zh (C := zC P ψ h n ρ (.makeInterface t x) ty w) zA fun c hc => ⟨.iface t (ρ x), zL ?_, yI.2 ⟨_, rfl, ha x (by simp) c hc⟩⟩
    simp only [execOp, Instr.makeInterface, Sem.run_bind, run_underlying ht, Result.andThen_ok]
    cases d <;> first | rfl | exact absurd ht (hd _)
  · exact zA _
theorem zFG (fn : Fn) (a b : Array Operand) (ha : zp P ψ es tm E ρ (a.toList ++ b.toList)) : zC P ψ h n ρ (.makeFunc fn a b) ty w (z6 P (zb P E (.makeFunc fn a b)) es tm h n) := by
  rw [zb]
  split
  · rename_i a' b' h1 h2
    refine ⟨.func fn (a.map ρ) (b.map ρ), zL ?_, yv.2 ⟨_, _, rfl, ?_, ?_⟩⟩
    · simp [execOp, Instr.makeFunc]
    · rw [Array.toList_map]; exact jT _ (ha.sub fun y hy => by simp; exact .inl (by simpa using hy)) h1
    · rw [Array.toList_map]; exact jT _ (ha.sub fun y hy => by simp; exact .inr (by simpa using hy)) h2
  · exact zA _
theorem zDH (t : TypeId) (r : Option Operand) : zb P E (.makeMap t r) = (match und P t, r with
    | some (.map _ _), none => .mkmap
    | some (.map _ _), some (.const (.int _ _)) => .mkmap
    | _, _ => .bad 28) := rfl
theorem zHO (t : TypeId) (r : Option Operand) (hρ : ∀ v, ρ (.const v) = v) : zC P ψ h n ρ (.makeMap t r) ty w (z6 P (zb P E (.makeMap t r)) es tm h n) := by
  have main : (∀ v, r.map ρ = some v → ∃ k m, v = .int k m) → (∃ a b, P.underlying t = some (.map a b)) → zC P ψ h n ρ (.makeMap t r) ty w (z6 P .mkmap es tm h n) := by
    intro hr ⟨a, b, ht⟩
    refine ⟨_, .map (some w.heap.size), 0, zL ?_, qi _ (.map #[] 0), fun ψ' _ hn => ⟨yh.2 ⟨_, hn, rfl⟩, #[], by simp, y8.nil, wm.id 0⟩, by simp [zEb]⟩
    cases r with
    | none => simp [execOp, Instr.makeMap]
    | some x =>
      obtain ⟨k, m, e⟩ := hr (ρ x) rfl
      simp [execOp, Instr.makeMap, e, run_underlying ht, asInt, asIntOf]
  rw [zDH]
  unfold und
  split
  · rename_i a b ht
    exact main (by simp) ⟨a, b, ht⟩
  · rename_i a b k m ht
    refine main (fun v hv => ?_) ⟨a, b, ht⟩
    simp only [Option.map_some, hρ] at hv
    injection hv with hv
    exact ⟨_, _, hv.symm⟩
  · exact zA _
theorem zHQ (x : Operand) (i : Nat) (ha : zp P ψ es tm E ρ [x]) : zC P ψ h n ρ (.extract x i) ty w (z6 P (zb P E (.extract x i)) es tm h n) := by
  refine zh (C := zC P ψ h n ρ (.extract x i) ty w) zA fun c hc => ?_
  have hx := ha x (by simp) c hc
  refine zDV (C := zC P ψ h n ρ (.extract x i) ty w) _ _ _ (zA _) fun cs hcs => ?_
  refine jA (C := zC P ψ h n ρ (.extract x i) ty w) _ _ (zA _) fun v hv => ?_
  rw [hcs, yF] at hx
  obtain ⟨a, hx, hr⟩ := hx
  rw [kj] at hv
  obtain ⟨y, hy, hr⟩ := hr.get hv
  have hy : a[i]? = some y := by simpa using hy
  exact ⟨y, zL (by simp [execOp, hx, Instr.extract, hy]), hr⟩
theorem zCS {a : Bool} {t : TypeId} {s : Nat} {cs : List CV} {vs : Array Value} {off : Nat} (ha : xj P t = some a) (hs : xX P t = some s) (hr : zT ψ cs vs.toList) (w : World) :
    (a = false → ∀ v, zDs cs off = some v → ∃ y, (part t vs off).run P w = .ok y w ∧ zH ψ v y) ∧
    (a = true → ∀ l, uK cs off s = some l → ∃ y, (part t vs off).run P w = .ok y w ∧ zH ψ (.agg l) y) := by
  constructor
  · rintro rfl v hv
    rw [kj] at hv
    obtain ⟨y, hy, hr⟩ := hr.get hv
    exact ⟨y, xQ ha (by simpa using hy) w, hr⟩
  · rintro rfl l hl
    refine ⟨_, zGn ha hs w, yc.2 ⟨_, rfl, ?_⟩⟩
    obtain ⟨h1, rfl⟩ := zFq hl
    have : (vs.extract off (off + s)).toList = (vs.toList.drop off).take s := by
      rw [Array.toList_extract, List.extract_eq_take_drop]; simp
    rw [this]
    exact (hr.drop off).take s
theorem zKT (t : TypeId) (x : Operand) (f : Nat) (ha : zp P ψ es tm E ρ [x]) : zC P ψ h n ρ (.field t x f) ty w (z6 P (zb P E (.field t x f)) es tm h n) := by
  rw [zb]
  unfold und
  split
  · rename_i fs ht
    rw [yV]
    split
    · rename_i fd hfd
      split
      · rename_i a s h1 h2
        refine zh (C := zC P ψ h n ρ (.field t x f) ty w) zA fun c hc => ?_
        have hx := ha x (by simp) c hc
        refine wy (C := zC P ψ h n ρ (.field t x f) ty w) _ _ _ (zA _) fun cs hcs => ?_
        rw [hcs, yc] at hx
        obtain ⟨vs, hx, hr⟩ := hx
        have hp := zCS (off := fd.offset) h1 h2 hr w
        have run : ∀ y, (part fd.type vs fd.offset).run P w = .ok y w → (execOp ρ (xS (.field t x f) ty)).run P w = .ok (.value y) w := by
          intro y hy
          have hfd : fs[f]? = some fd := by simpa using hfd
          simp [execOp, Instr.field, run_underlying ht, hfd, hx, asAgg, hy]
        cases a with
        | false =>
          refine jA (C := zC P ψ h n ρ (.field t x f) ty w) _ _ (zA _) fun v hv => ?_
          obtain ⟨y, hy, hv⟩ := hp.1 rfl v hv
          exact ⟨y, zL (run y hy), hv⟩
        | true =>
          refine jz (C := zC P ψ h n ρ (.field t x f) ty w) _ _ (zA _) fun l hl => ?_
          obtain ⟨y, hy, hv⟩ := hp.2 rfl l hl
          exact ⟨y, zL (run y hy), hv⟩
      · exact zA _
    · exact zA _
  · exact zA _
theorem zEa (t : TypeId) (x : Operand) (f : Nat) (ha : zp P ψ es tm E ρ [x]) : zC P ψ h n ρ (.fieldAddr t x f) ty w (z6 P (zb P E (.fieldAddr t x f)) es tm h n) := by
  rw [zb]
  unfold und
  split
  · rename_i fs ht
    rw [yV]
    split
    · rename_i fd hfd
      split
      · rename_i s h1
        refine zh (C := zC P ψ h n ρ (.fieldAddr t x f) ty w) zA fun c hc => ?_
        have hx := ha x (by simp) c hc
        refine yX (C := zC P ψ h n ρ (.fieldAddr t x f) ty w) _ _ _ (zA _) fun b off hv => ?_
        show zC P ψ h n ρ _ ty w (wU _ _)
        rw [zt]
        rw [hv, zk] at hx
        obtain ⟨p, hp, hx⟩ := hx
        have hfd : fs[f]? = some fd := by simpa using hfd
        refine ⟨.pointer (some ⟨p.blk, p.off + (off + fd.offset), none⟩), zL ?_, zk.2 ⟨p, hp, rfl⟩⟩
        simp [execOp, Instr.fieldAt, run_underlying ht, hfd, hx, Instr.sureAddr, fieldPlace, yT h1, xM, Nat.add_assoc]
      · exact zA _
    · exact zA _
  · exact zA _
end
end Go.Ev

namespace Go.Ev
variable [Sym]
noncomputable section
variable {P : Program} {ψ : Psi} {es : List CV} {tm : Tm} {h : zD} {n : Key} {ρ : Operand → Value} {E : Env} {ty : TypeId} {w : World}
variable [SymFact P]
theorem zK8 (P : Program) [SymFact P] {ψ : Psi} {a : CV} {u : Value} (w : World) (ha : zH ψ a u) : zH ψ (zND a) u := by
  unfold zND
  split
  · rename_i j
    split
    · rename_i k hk
      split
      · rename_i hs
        unfold zDm at hs
        split at hs
        · rename_i l r1 r2 hc he1 he2
          injection hs with hs
          obtain ⟨k', m, rfl, _⟩ := (SymFact.ok (P := P)).2 _ _ _ hc ψ u ha
          obtain ⟨_, z1, hz1, c1, hc1, hr1⟩ := (SymFact.ok (P := P)).1 _ _ _ _ he1 ψ 0 _ (.int .i64 k) w ha (zZ.2 rfl)
          obtain ⟨_, z2, hz2, c2, hc2, hr2⟩ := (SymFact.ok (P := P)).1 _ _ _ _ he2 ψ 0 _ (.int .i64 k) w ha (zZ.2 rfl)
          obtain rfl : c1 = .bool r1 := by simpa using hc1
          obtain rfl : c2 = .bool r2 := by simpa using hc2
          rw [zJ.1 hr1] at hz1
          rw [zJ.1 hr2] at hz2
          rw [Bool.and_eq_true] at hs
          obtain ⟨rfl, rfl⟩ := hs
          by_cases ej : k' = .i64
          · subst ej
            have hz1 : m ≤ k := by simpa [binOp, Op.intCmp] using hz1
            have hz2 : k ≤ m := by simpa [binOp, Op.intCmp] using hz2
            obtain rfl : m = (k : Int) := by omega
            exact zZ.2 rfl
          · simp [binOp, ej] at hz1
        · cases hs
      · exact ha
    · exact ha
  · exact ha
theorem vW {c : CV} {v : Value} (hx : zH ψ c v) {i : Nat} (hc : c = .nat i ∨ ∃ k, c = .int k (.ofNat i)) : ∃ k, v = .int k (Int.ofNat i) := by
  rcases hc with rfl | ⟨k, rfl⟩
  · exact ⟨_, zZ.1 hx⟩
  · exact ⟨_, zd.1 hx⟩
theorem yN {C : OR → Prop} (v : CV) (k : Nat → OR) (e : Nat) (he : C (.err e)) (hk : ∀ i, (v = .nat i ∨ ∃ j, v = .int j (.ofNat i)) → C (k i)) : C (vB v k e) :=
  zIi v k e he (fun i h => hk i (.inl h)) (fun j i h => hk i (.inr ⟨j, h⟩))
theorem wx : ∀ {a b : List (Nat × Int)}, uY a b = true → a = b
  | [], [], _ => rfl
  | [], _ :: _, h => by cases h
  | _ :: _, [], h => by cases h
  | (i, x) :: l, (j, y) :: m, h => by
    unfold uY at h
    rw [Bool.and_eq_true, Bool.and_eq_true, zj, decide_eq_true_eq] at h
    rw [yD h.1.1, h.1.2, wx h.2]
theorem zJK {a b : SE} (h : zNV a b = true) : a = b := by
  unfold zNV at h
  rw [Bool.and_eq_true, Bool.and_eq_true, xB, zj, decide_eq_true_eq, decide_eq_true_eq] at h
  obtain ⟨k1, c1, l1⟩ := a
  obtain ⟨k2, c2, l2⟩ := b
  simp only at h
  rw [h.1.1, h.1.2, wx h.2]
theorem zEg (t : TypeId) (x i : Operand) (ha : zp P ψ es tm E ρ [x, i]) : zC P ψ h n ρ (.indexAddr t x i) ty w (z6 P (zb P E (.indexAddr t x i)) es tm h n) := by
  rw [zb]
  unfold und
  split
  · rename_i len e ht
    split
    · rename_i s hs
      refine yf (C := zC P ψ h n ρ (.indexAddr t x i) ty w) zA fun c d hc hd => ?_
      have hx := ha x (by simp) c hc
      have hi := ha i (by simp) d hd
      refine yX (C := zC P ψ h n ρ (.indexAddr t x i) ty w) _ _ _ (zA _) fun b off hv => ?_
      refine yN (C := zC P ψ h n ρ (.indexAddr t x i) ty w) _ _ _ (zA _) fun j hj => ?_
      refine zG (C := zC P ψ h n ρ (.indexAddr t x i) ty w) _ _ _ (zA _) fun hlt => ?_
      rw [zt]
      have hlt : j < len := zP hlt
      obtain ⟨k, hi⟩ := vW hi hj
      rw [hv, zk] at hx
      obtain ⟨p, hp, hx⟩ := hx
      refine ⟨.pointer (some ⟨p.blk, p.off + (off + j * s), none⟩), zL ?_, zk.2 ⟨p, hp, rfl⟩⟩
      have h1 : (0 : Int) ≤ Int.ofNat j ∧ Int.ofNat j < (len : Int) := by simp; omega
      simp [execOp, Instr.indexAt, hi, hx, asIntOf, run_underlying ht, Instr.sureAddr, hlt, yT hs, xM, Nat.add_assoc]
    · exact zA _
  · rename_i e ht
    split
    · rename_i s hs
      refine yf (C := zC P ψ h n ρ (.indexAddr t x i) ty w) zA fun c d hc hd => ?_
      have hx := ha x (by simp) c hc
      have hi := ha i (by simp) d hd
      refine we (C := zC P ψ h n ρ (.indexAddr t x i) ty w) _ _ _ ?_ fun b s0 e0 n0 hv => ?_
      case refine_2 =>
        rw [hv, jb] at hx
        obtain ⟨_, base, len, cap, iv, hx, hn, he, hoff⟩ := hx
        unfold zLO
        split
        · rename_i j hj
          split
          · rename_i hq
            rw [Bool.and_eq_true] at hq
            obtain rfl := zJK hq.1
            obtain rfl := yD hq.2
            split
            · rename_i h1 h2
              obtain ⟨_, z1, hz1, c1, hc1, hr1⟩ := (SymFact.ok (P := P)).1 _ _ _ _ h1 ψ 0 (.int .i64 0) (.int .i64 iv) w (zZ.2 rfl) (ym.2 he.symm)
              obtain ⟨_, z2, hz2, c2, hc2, hr2⟩ := (SymFact.ok (P := P)).1 _ _ _ _ h2 ψ 0 (.int .i64 iv) (.int .i64 len) w (ym.2 he.symm) (ym.2 hn.symm)
              obtain rfl : c1 = .bool true := by simpa using hc1
              obtain rfl : c2 = .bool true := by simpa using hc2
              rw [zJ.1 hr1] at hz1
              rw [zJ.1 hr2] at hz2
              have g1 : 0 ≤ iv := by simpa [binOp, Op.intCmp] using hz1
              have g2 : iv < len := by simpa [binOp, Op.intCmp] using hz2
              rw [hj, ym, he] at hi
              obtain ⟨m, rfl⟩ : ∃ m : Nat, iv = (m : Int) := ⟨iv.toNat, by omega⟩
              have hm : m < len := by omega
              obtain ⟨p, x', hp, hbase, hof2⟩ := hoff (by omega) g2
              subst hbase
              rw [Int.toNat_natCast] at hof2
              refine ⟨.pointer (some ⟨p.blk, p.off + 0, none⟩), zL ?_, zk.2 ⟨p, hp, rfl⟩⟩
              simp [execOp, Instr.indexAt, hi, hx, asIntOf, run_underlying ht, hm, yT hs, xM]
              exact hof2.symm
            · exact zA _
          · exact zA _
        · exact zA _
      refine z8 (C := zC P ψ h n ρ (.indexAddr t x i) ty w) _ _ _ _ (zA _) (fun _ => zA _) fun b off len cap s' ex hv => ?_
      refine yN (C := zC P ψ h n ρ (.indexAddr t x i) ty w) _ _ _ (zA _) fun j hj => ?_
      refine zG (C := zC P ψ h n ρ (.indexAddr t x i) ty w) _ _ _ (zA _) fun hlt => ?_
      rw [zt]
      have hlt : j < len := zP hlt
      obtain ⟨k, hi⟩ := vW (zK8 P w hi) hj
      rw [hv, z7] at hx
      obtain ⟨p, x', cap', hp, hx, _, hl, _, hor⟩ := hx
      have hx' : x' = p.off + off := by
        rcases hor with h | h
        · exact h.1
        · omega
      subst hx'
      refine ⟨.pointer (some ⟨p.blk, p.off + (off + j * s), none⟩), zL ?_, zk.2 ⟨p, hp, rfl⟩⟩
      simp [execOp, Instr.indexAt, hi, hx, asIntOf, run_underlying ht, hlt, yT hs, xM, Nat.add_assoc]
    · exact zA _
  · exact zA _
theorem zLB (t : TypeId) (x i : Operand) (ha : zp P ψ es tm E ρ [x, i]) : zC P ψ h n ρ (.index t x i) ty w (z6 P (zb P E (.index t x i)) es tm h n) := by
  rw [zb]
  unfold und
  split
  · rename_i len e ht
    split
    · rename_i s a hs hag
      refine yf (C := zC P ψ h n ρ (.index t x i) ty w) zA fun c d hc hd => ?_
      have hx := ha x (by simp) c hc
      have hi := ha i (by simp) d hd
      refine wy (C := zC P ψ h n ρ (.index t x i) ty w) _ _ _ (zA _) fun cs hcs => ?_
      refine yN (C := zC P ψ h n ρ (.index t x i) ty w) _ _ _ (zA _) fun j hj => ?_
      refine zG (C := zC P ψ h n ρ (.index t x i) ty w) _ _ _ (zA _) fun hlt => ?_
      have hlt : j < len := zP hlt
      obtain ⟨k, hi⟩ := vW hi hj
      rw [hcs, yc] at hx
      obtain ⟨vs, hx, hr⟩ := hx
      have hp := zCS (off := j * s) hag hs hr w
      have run : ∀ y, (part e vs (j * s)).run P w = .ok y w → (execOp ρ (xS (.index t x i) ty)).run P w = .ok (.value y) w := by
        intro y hy
        simp [execOp, Instr.index, hi, hx, asIntOf, run_underlying ht, hlt, yT hs, hy]
      cases a with
      | false =>
        refine jA (C := zC P ψ h n ρ (.index t x i) ty w) _ _ (zA _) fun v hv => ?_
        obtain ⟨y, hy, hv⟩ := hp.1 rfl v hv
        exact ⟨y, zL (run y hy), hv⟩
      | true =>
        refine jz (C := zC P ψ h n ρ (.index t x i) ty w) _ _ (zA _) fun l hl => ?_
        obtain ⟨y, hy, hv⟩ := hp.2 rfl l hl
        exact ⟨y, zL (run y hy), hv⟩
    · exact zA _
  · rename_i ht
    refine yf (C := zC P ψ h n ρ (.index t x i) ty w) zA fun c d hc hd => ?_
    have hx := ha x (by simp) c hc
    have hi := ha i (by simp) d hd
    refine zx (C := zC P ψ h n ρ (.index t x i) ty w) _ _ _ (zA _) fun l hl => ?_
    refine yN (C := zC P ψ h n ρ (.index t x i) ty w) _ _ _ (zA _) fun j hj => ?_
    refine wR (C := zC P ψ h n ρ (.index t x i) ty w) _ _ _ (zA _) fun q hq => ?_
    obtain ⟨k, hi⟩ := vW hi hj
    rw [hl, zl] at hx
    obtain ⟨s, hx, rfl⟩ := hx
    rw [zF5] at hq
    unfold zi at hq
    rw [List.getElem?_map] at hq
    cases hg : s.data.toList[j]? with
    | none => rw [hg] at hq; cases hq
    | some u =>
      rw [hg] at hq
      injection hq with hq
      subst hq
      have hs : s[j]? = some u := by
        have hj : j < s.size := by
          rcases Nat.lt_or_ge j s.data.toList.length with h | h
          · exact h
          · rw [List.getElem?_eq_none h] at hg; cases hg
        rw [getElem?_pos s j hj]
        have := hg
        rw [List.getElem?_eq_getElem (show j < s.data.toList.length from hj)] at this
        exact this
      refine ⟨.int .u8 (u.toNat : Int), zL ?_, zd.2 rfl⟩
      simp [execOp, Instr.index, hi, hx, asIntOf, run_underlying ht, hs]
  · exact zA _
def zEy (ψ : Psi) (es : List CV) (tm : Tm) (ρ : Operand → Value) (c : Option zS) (x : Option Operand) : Prop := match c, x with
  | none, none => True
  | some c, some x => zH ψ (aV es tm c) (ρ x)
  | _, _ => False
theorem zDB {x : Option Operand} {c : Option zS} (hc : zHW P E x = some c) (ha : zp P ψ es tm E ρ x.toList) : zEy ψ es tm ρ c x := by
  unfold zHW at hc
  split at hc
  · injection hc with hc; subst hc; exact trivial
  · rename_i y
    cases h1 : zc P E y with
    | none => rw [h1] at hc; cases hc
    | some d => rw [h1] at hc; injection hc with hc; subst hc; exact ha y (by simp) d h1
theorem qx {v : Value} {k : IntKind} {i y : Nat} {code : BoundsCode} (hv : v = .int k (Int.ofNat i)) (h : i ≤ y) (w : World) : (Instr.sliceBound v y code).run P w = .ok i w := by
  subst hv
  have := run_sliceBound (P := P) (w := w) k (Int.ofNat i) y code (by simp) (by simpa using h)
  simpa using this
theorem qe {C : OR → Prop} (c : Option zS) (x : Option Operand) (hok : zEy ψ es tm ρ c x) (y d : Nat) (k : Nat → OR) (e : Nat) (he : C (.err e))
    (hn : c = none → x = none → C (k d)) (hs : ∀ i o, c ≠ none → x = some o → i ≤ y → (∃ j, ρ o = .int j (Int.ofNat i)) → C (k i)) : C (uj es tm c y d k e) := by
  cases c with
  | none => cases x with
    | none => exact hn rfl rfl
    | some x => exact hok.elim
  | some c => cases x with
    | none => exact hok.elim
    | some x =>
      refine yN (C := C) _ _ _ he fun i hi => ?_
      refine zG (C := C) _ _ _ he fun hle => ?_
      exact hs i x (by simp) rfl (zP hle) (vW hok hi)
theorem jo {C : OR → Prop} (isSl : Bool) (len cap cap' : Nat) (lo hi mx : Option zS) (xl xh xm : Option Operand) (h1 : zEy ψ es tm ρ lo xl) (h2 : zEy ψ es tm ρ hi xh)
    (h3 : zEy ψ es tm ρ mx xm) (hcap : cap ≤ cap') (k : Nat → Nat → Nat → OR) (e : Nat) (he : C (.err e)) (hno : xm.isSome = true → xh.isSome = true)
    (hk : ∀ l h m m', (∀ w, (Instr.sliceBounds isSl len cap' (xl.map ρ) (xh.map ρ) (xm.map ρ)).run P w = .ok (l, h, m') w) → m ≤ m' → m' ≤ cap' → (mx ≠ none → m' = m) →
      (mx = none → m = cap ∧ m' = cap') → (h = len ∨ h ≤ m') → C (k l h m)) : C (qT es tm len cap lo hi mx k e) := by
  refine qe (C := C) mx xm h3 _ _ _ _ he (fun hm hxm => ?_) (fun m om hm hxm hmle ⟨jm, hjm⟩ => ?_)
  · subst hm hxm
    refine qe (C := C) hi xh h2 _ _ _ _ he (fun hh hxh => ?_) (fun h oh hh hxh hhle ⟨jh, hjh⟩ => ?_)
    · subst hh hxh
      refine qe (C := C) lo xl h1 _ _ _ _ he (fun hl hxl => ?_) (fun l ol hl hxl hlle ⟨jl, hjl⟩ => ?_)
      · subst hl hxl
        exact hk _ _ _ cap' (fun w => by simp [Instr.sliceBounds]) hcap (Nat.le_refl _) (by simp) (by simp) (.inl rfl)
      · subst hxl
        exact hk _ _ _ cap' (fun w => by simp [Instr.sliceBounds, qx hjl hlle]) hcap (Nat.le_refl _) (by simp) (by simp) (.inl rfl)
    · subst hxh
      have hr := fun (w : World) (code : BoundsCode) => qx (P := P) (code := code) hjh (Nat.le_trans hhle hcap) w
      refine qe (C := C) lo xl h1 _ _ _ _ he (fun hl hxl => ?_) (fun l ol hl hxl hlle ⟨jl, hjl⟩ => ?_)
      · subst hl hxl
        exact hk _ _ _ cap' (fun w => by simp [Instr.sliceBounds, hr]) hcap (Nat.le_refl _) (by simp) (by simp) (.inr (Nat.le_trans hhle hcap))
      · subst hxl
        exact hk _ _ _ cap' (fun w => by simp [Instr.sliceBounds, hr, qx hjl hlle]) hcap (Nat.le_refl _) (by simp) (by simp) (.inr (Nat.le_trans hhle hcap))
  · subst hxm
    refine qe (C := C) hi xh h2 _ _ _ _ he (fun hh hxh => ?_) (fun h oh hh hxh hhle ⟨jh, hjh⟩ => ?_)
    · subst hxh; exact absurd (hno rfl) (by simp)
    · subst hxh
      have hr := fun (w : World) (code : BoundsCode) => qx (P := P) (code := code) hjh hhle w
      have hr' := fun (w : World) (code : BoundsCode) => qx (P := P) (code := code) hjm (Nat.le_trans hmle hcap) w
      refine qe (C := C) lo xl h1 _ _ _ _ he (fun hl hxl => ?_) (fun l ol hl hxl hlle ⟨jl, hjl⟩ => ?_)
      · subst hl hxl
        exact hk _ _ _ m (fun w => by simp [Instr.sliceBounds, hr, hr']) (Nat.le_refl _) (Nat.le_trans hmle hcap) (by simp) (fun e => absurd e hm) (.inr hhle)
      · subst hxl
        exact hk _ _ _ m (fun w => by simp [Instr.sliceBounds, hr, hr', qx hjl hlle]) (Nat.le_refl _) (Nat.le_trans hmle hcap) (by simp) (fun e => absurd e hm) (.inr hhle)
theorem zKN (t : TypeId) (x : Operand) (xl xh xm : Option Operand) (ha : zp P ψ es tm E ρ ([x] ++ xl.toList ++ xh.toList ++ xm.toList)) :
    zC P ψ h n ρ (.slice t x xl xh xm) ty w (z6 P (zb P E (.slice t x xl xh xm)) es tm h n) := by
  rw [zb]
  unfold zFA und
  split
  · exact zA _
  rename_i hno
  have hno : xm.isSome = true → xh.isSome = true := by
    intro h1; cases xh <;> simp_all
  split
  · rename_i c lo hi mx hc hlo hhi hmx
    have hx := ha x (by simp) c hc
    have o1 := zDB hlo (ha.sub fun y hy => by simp at hy ⊢; exact .inr (.inl hy))
    have o2 := zDB hhi (ha.sub fun y hy => by simp at hy ⊢; exact .inr (.inr (.inl hy)))
    have o3 := zDB hmx (ha.sub fun y hy => by simp at hy ⊢; exact .inr (.inr (.inr hy)))
    split
    · rename_i k e ht
      split
      · rename_i s hs
        refine yX (C := zC P ψ h n ρ (.slice t x xl xh xm) ty w) _ _ _ (zA _) fun b off hv => ?_
        rw [hv, zk] at hx
        obtain ⟨p, hp, hx⟩ := hx
        refine jo (C := zC P ψ h n ρ (.slice t x xl xh xm) ty w) (P := P) false k k k lo hi mx xl xh xm o1 o2 o3 (Nat.le_refl _) _ _ (zA _) hno fun l hh m m' hrun hm hm' hmx1 hmx2 hhm => ?_
        refine zG (C := zC P ψ h n ρ (.slice t x xl xh xm) ty w) _ _ _ (zA _) fun hok => ?_
        rw [Bool.and_eq_true] at hok
        have g1 := zP hok.1
        have g2 := zP hok.2
        have hmm : m' = m := by
          cases mx with
          | none => have := hmx2 rfl; omega
          | some _ => exact hmx1 (by simp)
        rw [zt, zt, zt]
        refine ⟨.slice (some (if m' = l then ⟨p.blk, p.off + off, none⟩ else ⟨p.blk, p.off + off + l * (s + 1), none⟩)) (hh - l) (m' - l), zL ?_, ?_⟩
        · simp only [execOp, Instr.sliceAt, Sem.run_bind, run_underlying ht, Result.andThen_ok, hx, Instr.sureAddr, Sem.run_pure, hrun, yT hs, xM]
        · refine z7.2 ⟨p, if m' = l then p.off + off else p.off + off + l * (s + 1), m' - l, hp, ?_, ?_, ?_, ?_, ?_⟩
          · split <;> rfl
          · subst hmm; exact Nat.le_refl _
          · show hh - l ≤ m' - l; omega
          · intro _; subst hmm; rfl
          · by_cases e : m' = l
            · right; omega
            · left
              refine ⟨by rw [if_neg e]; show p.off + off + l * (s + 1) = p.off + (off + l * (s + 1)); omega, by simp⟩
      · exact zA _
    · rename_i e ht
      split
      · rename_i s hs
        refine z8 (C := zC P ψ h n ρ (.slice t x xl xh xm) ty w) _ _ _ _ (zA _) (fun hv => ?_) fun b off len cap s' ex hv => ?_
        · rw [hv, zo] at hx
          refine jo (C := zC P ψ h n ρ (.slice t x xl xh xm) ty w) (P := P) true 0 0 0 lo hi mx xl xh xm o1 o2 o3 (Nat.le_refl _) _ _ (zA _) hno fun l hh m m' hrun hm hm' hmx1 hmx2 hhm => ?_
          refine ⟨.slice (if m' = l then none else none) (hh - l) (m' - l), zL ?_, zo.2 ?_⟩
          · simp only [execOp, Instr.sliceAt, Sem.run_bind, run_underlying ht, Result.andThen_ok, hx, Instr.slice, hrun, yT hs, Option.map_none, Sem.run_pure]
          · have e1 : m' - l = 0 := by omega
            have e2 : hh - l = 0 := by omega
            rw [e1, e2, ite_self]
        · refine zG (C := zC P ψ h n ρ (.slice t x xl xh xm) ty w) _ _ _ (zA _) fun hs' => ?_
          have hs' : s' = s + 1 := yD hs'
          subst hs'
          rw [hv, z7] at hx
          obtain ⟨p, x', cap', hp, hx, hcap, hlen, hex, hor⟩ := hx
          have hmain : zC P ψ h n ρ (.slice t x xl xh xm) ty w (qT es tm len cap lo hi mx (zJ3 b off (s + 1) (ex || mx.isSome)) 146) := by
            refine jo (C := zC P ψ h n ρ (.slice t x xl xh xm) ty w) (P := P) true len cap cap' lo hi mx xl xh xm o1 o2 o3 hcap _ _ (zA _) hno fun l hh m m' hrun hm hm' hmx1 hmx2 hhm => ?_
            refine zG (C := zC P ψ h n ρ (.slice t x xl xh xm) ty w) _ _ _ (zA _) fun hok => ?_
            rw [Bool.and_eq_true] at hok
            have g1 := zP hok.1
            have g2 := zP hok.2
            rw [zt, zt, zt]
            refine ⟨.slice (some (if m' = l then ⟨p.blk, x', none⟩ else ⟨p.blk, x' + l * (s + 1), none⟩)) (hh - l) (m' - l), zL ?_, ?_⟩
            · simp only [execOp, Instr.sliceAt, Sem.run_bind, run_underlying ht, Result.andThen_ok, hx, Instr.slice, hrun, yT hs, xM, Option.map_some, Sem.run_pure]
              by_cases e : m' = l
              · rw [if_pos e, if_pos e]
              · rw [if_neg e, if_neg e]
            · refine z7.2 ⟨p, if m' = l then x' else x' + l * (s + 1), m' - l, hp, ?_, ?_, ?_, ?_, ?_⟩
              · split <;> rfl
              · show m - l ≤ m' - l; omega
              · show hh - l ≤ m' - l; omega
              · intro hx2
                rw [Bool.or_eq_true] at hx2
                cases mx with
                | none =>
                  have h2 := hmx2 rfl
                  have := hex (by simpa using hx2)
                  show m' - l = m - l; omega
                | some _ => have := hmx1 (by simp); show m' - l = m - l; omega
              · by_cases e : m' = l
                · right; omega
                · rcases hor with ⟨e1, e2⟩ | e0
                  · left
                    rw [if_neg e]
                    refine ⟨by show x' + l * (s + 1) = p.off + (off + l * (s + 1)); omega, fun hf => ?_⟩
                    rw [Bool.or_eq_false_iff] at hf
                    have h3 := e2 hf.1
                    have hm2 : m' = cap' := by
                      cases mx with
                      | none => exact (hmx2 rfl).2
                      | some _ => have := hf.2; simp at this
                    have : l * (s + 1) + (m' - l) * (s + 1) = m' * (s + 1) := by rw [← Nat.add_mul]; congr 1; omega
                    rw [← hm2] at h3
                    omega
                  · right; omega
          unfold uH
          split
          · rename_i y
            have o2' := o2
            split
            · rename_i m hm
              split
              · rename_i hlt0 _
                refine yE (C := zC P ψ h n ρ (.slice t x xl xh xm) ty w) _ _ _ (zA _) fun vs hvs => ?_
                refine zG (C := zC P ψ h n ρ (.slice t x xl xh xm) ty w) _ _ _ (zA _) fun hle => ?_
                have hle : off + m * (s + 1) ≤ uM vs := zP hle
                rw [zt]
                intro hrel
                have hcells : yS ψ w p vs := hrel b _ p hvs hp
                have hsz : p.off + vs.length ≤ p.sz := by
                  obtain ⟨_, _, _, _, _, h3, _⟩ := hcells
                  exact h3
                have hll := zA4 vs
                have e : x' = p.off + off ∧ x' + cap' * (s + 1) = p.sz := by
                  rcases hor with ⟨e, h⟩ | e
                  · exact ⟨e, h rfl⟩
                  · omega
                have hm' : m ≤ cap' := by
                  rcases Nat.lt_or_ge cap' m with h | h
                  · have := Nat.mul_le_mul_right (s + 1) h
                    rw [Nat.succ_mul] at this
                    omega
                  · exact h
                have hxl : xl = none := by cases xl with
                  | none => rfl
                  | some y => exact o1.elim
                have hxm : xm = none := by cases xm with
                  | none => rfl
                  | some y => exact o3.elim
                subst hxl hxm
                obtain ⟨z, rfl⟩ : ∃ z, xh = some z := by cases xh with
                  | none => exact o2.elim
                  | some z => exact ⟨z, rfl⟩
                have hz : ρ z = .int .i64 (Int.ofNat m) := by
                  have := (show zH ψ (aV es tm y) (ρ z) from o2')
                  rw [hm, zZ] at this
                  exact this
                have hbr := fun (w : World) (code : BoundsCode) => qx (P := P) (code := code) hz hm' w
                refine ⟨.slice (some ⟨p.blk, x', none⟩) m cap', zL ?_, z7.2 ⟨p, x', cap', hp, rfl, hm', hm', by simp, .inl ⟨e.1, fun _ => e.2⟩⟩⟩
                have hc0 : cap' ≠ 0 := by omega
                simp [execOp, Instr.sliceAt, run_underlying ht, hx, Instr.slice, Instr.sliceBounds, hbr, yT hs, xM]
              · exact hmain
            · exact hmain
          · exact hmain
      · exact zA _
    · rename_i ht
      split
      · refine zx (C := zC P ψ h n ρ (.slice t x xl xh _) ty w) _ _ _ (zA _) fun q hq => ?_
        rw [zt]
        rw [hq, zl] at hx
        obtain ⟨b, hx, rfl⟩ := hx
        rw [wX, y6]
        have hxm : xm = none := by cases xm with
          | none => rfl
          | some y => exact absurd o3 (by simp [zEy])
        subst hxm
        refine jo (C := zC P ψ h n ρ (.slice t x xl xh none) ty w) (P := P) false b.size b.size b.size lo hi none xl xh none o1 o2 trivial (Nat.le_refl _) _ _ (zA _) hno fun l hh m m' hrun hm hm' hmx1 hmx2 hhm => ?_
        refine zG (C := zC P ψ h n ρ (.slice t x xl xh none) ty w) _ _ _ (zA _) fun hok => ?_
        have hok := zP hok
        refine zE1 (C := zC P ψ h n ρ (.slice t x xl xh none) ty w) _ _ (zA _) fun r hr => ?_
        refine ⟨.string (b.extract l hh), zL ?_, zl.2 ⟨_, rfl, ?_⟩⟩
        · simp only [execOp, Instr.sliceAt, Sem.run_bind, run_underlying ht, Result.andThen_ok, hx, Instr.slice, Option.map_none, Option.isSome_none, Bool.false_eq_true, if_false, hrun, Sem.run_pure]
          have hrun' := hrun w
          simp only [Option.map_none] at hrun'
          simp [hrun']
        · obtain ⟨_, rfl⟩ := zKz hr
          unfold zi
          rw [ByteArray.data_extract, Array.toList_extract, List.extract_eq_take_drop, List.map_take, List.map_drop]
          rfl
      · exact zA _
    · exact zA _
  · exact zA _
end
end Go.Ev

namespace Go.Ev
variable [Sym]
noncomputable section
variable {P : Program} {ψ : Psi} {es : List CV} {tm : Tm} {h : zD} {n : Key} {ρ : Operand → Value} {E : Env} {ty : TypeId} {w : World}
variable [SymFact P]
theorem qN {s d : TypeId} {x : Operand} {v : Value} {w' : World} (hr : (convert s d (ρ x)).run P w = .ok v w') : (execOp ρ (xS (.convert s d x) ty)).run P w = .ok (.value v) w' := by
  simp only [execOp, Sem.run_bind, hr, Result.andThen_ok]; rfl
theorem w4 (l : List Nat) : wD l = l.map fun b => CV.int .u8 (.ofNat b) := by
  induction l with
  | nil => rfl
  | cons x l ih => show _ :: wD l = _; rw [ih]; rfl
theorem zEq (s : ByteArray) : zT ψ (wD (zi s)) (s.data.map fun b => Value.int .u8 b.toNat).toList := by
  rw [w4]
  unfold zi
  rw [Array.toList_map]
  induction s.data.toList with
  | nil => exact zM.2 rfl
  | cons x l ih => exact zW.2 ⟨zd.2 rfl, ih⟩
theorem zEP {B sz : Nat} {arr : Array Value} {e : TypeId} {fz : Nat × Nat} (hb : w.heap[B]? = some (.cells arr e fz)) (hsz : arr.size = sz) (hfz : fz.1 = fz.2 ∨ sz ≤ fz.1) :
    ∃ fz' : Nat × Nat, w.freeze ⟨B, sz, none⟩ 1 = w.upB B (.cells arr e fz') ∧ (fz'.1 = fz'.2 ∨ sz ≤ fz'.1) := by
  obtain ⟨lo, hi⟩ := fz
  refine ⟨if lo == hi then (sz, sz + 1) else (min lo sz, max hi (sz + 1)), ?_, ?_⟩
  · unfold World.freeze World.upB
    simp only [Nat.one_ne_zero, if_false]
    congr 1
    apply Array.ext_getElem?
    intro i
    rw [Array.getElem?_modify, Array.getElem?_setIfInBounds]
    by_cases hi : B = i
    · subst hi
      have hlt : B < w.heap.size := by
        rcases Nat.lt_or_ge B w.heap.size with h | h
        · exact h
        · rw [Array.getElem?_eq_none h] at hb; cases hb
      rw [if_pos rfl, if_pos rfl, if_pos hlt, hb]
      rfl
    · rw [if_neg hi, if_neg hi]
  · simp only at hfz
    split
    · right; simp
    · rename_i hne
      rcases hfz with h | h
      · exact absurd (by simpa using h) hne
      · right; simp; omega
theorem zAc {B off sz : Nat} {arr : Array Value} {e : TypeId} {fz : Nat × Nat} (hb : w.heap[B]? = some (.cells arr e fz)) (hsz : arr.size = sz) :
    (markStringish ⟨B, off, none⟩).run P w = .ok () (w.freeze ⟨B, sz, none⟩ 1) := by
  have : w.shape? B = some (e, sz) := by unfold World.shape?; rw [hb, ← hsz]
  simp [markStringish, this]
theorem vE : ∀ {l : List CV} {r : List Nat}, jn l = some r → l = r.map (fun b => CV.int .u8 (.ofNat b)) ∧ ∀ b ∈ r, b ≤ 255
  | [], r, hr => by injection hr with hr; subst hr; exact ⟨rfl, by simp⟩
  | c :: l, r, hr => by
    have hr' : Option.rec (motive := fun _ => Option (List Nat) → Option (List Nat)) (fun _ => none) (fun b r => zKp b r) (kR c) (jn l) = some r := hr
    cases h1 : kR c with
    | none => rw [h1] at hr'; cases hr'
    | some b => cases h2 : jn l with
      | none => rw [h1, h2] at hr'; cases hr'
      | some q =>
        rw [h1, h2] at hr'
        injection hr' with hr'; subst hr'
        obtain ⟨rfl, h3⟩ := vE h2
        unfold kR at h1
        split at h1
        · split at h1
          · rename_i hle
            injection h1 with h1; subst h1
            exact ⟨rfl, by simp; exact ⟨zP hle, h3⟩⟩
          · cases h1
        · cases h1
theorem vm : ∀ (r : List Nat) (s : ByteArray), (∀ b ∈ r, b ≤ 255) → zi ((r.map Int.ofNat).foldl (fun r n => r.push (UInt8.ofNat n.toNat)) s) = zi s ++ r
  | [], s, _ => by simp
  | b :: r, s, hb => by
    rw [List.map_cons, List.foldl_cons, vm r _ fun c hc => hb c (by simp [hc])]
    have hb := hb b (by simp)
    have : zi (s.push (UInt8.ofNat (Int.ofNat b).toNat)) = zi s ++ [b] := by
      unfold zi
      show (s.data.push _).toList.map _ = _
      rw [Array.toList_push, List.map_append]
      simp
      omega
    rw [this]; simp
theorem zG0 (P : Program) [SymFact P] {c : CV} {x : Value} {w : World} (hb : zFY c = true) (hx : zH ψ c x) : ∃ n : Nat, x = .int .u8 (Int.ofNat n) ∧ n ≤ 255 := by
  unfold zFY at hb
  split at hb
  · rename_i k m
    rw [Bool.and_eq_true, xB, decide_eq_true_eq] at hb
    obtain ⟨rfl, hb⟩ := hb
    exact ⟨m, zd.1 hx, zP hb⟩
  · rename_i e
    rw [Bool.and_eq_true, xB, decide_eq_true_eq] at hb
    obtain ⟨hk, hb⟩ := hb
    split at hb
    · rename_i h1 h2
      have hu : x = Sym.val e := ym.1 hx
      obtain ⟨_, z1, hz1, c1, hc1, hr1⟩ := (SymFact.ok (P := P)).1 _ _ _ _ h1 ψ 0 x (.int .u8 (.ofNat 255)) w hx (zd.2 rfl)
      obtain ⟨_, z2, hz2, c2, hc2, hr2⟩ := (SymFact.ok (P := P)).1 _ _ _ _ h2 ψ 0 x (.int .u8 (.ofNat 0)) w hx (zd.2 rfl)
      obtain rfl : c1 = .bool true := by simpa using hc1
      obtain rfl : c2 = .bool true := by simpa using hc2
      rw [zJ.1 hr1] at hz1
      rw [zJ.1 hr2] at hz2
      cases x with
      | int j m =>
        by_cases ej : j = .u8
        · subst ej
          have g1 : m ≤ 255 := by simpa [binOp, Op.intCmp] using hz1
          have g2 : 0 ≤ m := by simpa [binOp, Op.intCmp] using hz2
          exact ⟨m.toNat, by rw [Int.ofNat_eq_natCast, Int.toNat_of_nonneg g2], by omega⟩
        · simp [binOp, ej] at hz1
      | _ => simp [binOp] at hz1
    · cases hb
  · cases hb
theorem zAV (P : Program) [SymFact P] {w : World} : ∀ {cs : List CV} {xs : List Value}, u9 cs = true → zT ψ cs xs → ∃ r : List Nat, xs = (r.map Int.ofNat).map (Value.int .u8) ∧ ∀ n ∈ r, n ≤ 255
  | [], xs, _, hx => by
    rw [zM] at hx
    subst hx
    exact ⟨[], rfl, by simp⟩
  | c :: cs, xs, hb, hx => by
    unfold u9 at hb
    rw [Bool.and_eq_true] at hb
    obtain ⟨v, q, rfl, h1, h2⟩ := za.1 hx
    obtain ⟨n, rfl, hn⟩ := zG0 P (w := w) hb.1 h1
    obtain ⟨r, rfl, hr⟩ := zAV P (w := w) hb.2 h2
    exact ⟨n :: r, rfl, fun m hm => by
      rcases List.mem_cons.1 hm with rfl | hm
      · exact hn
      · exact hr m hm⟩
theorem zBN : ∀ {r : List Nat} {l : List Value}, zT ψ (r.map (fun b => CV.int .u8 (.ofNat b))) l → l = (r.map Int.ofNat).map (Value.int .u8)
  | [], l, h => zM.1 h
  | b :: r, l, h => by
    obtain ⟨v, q, rfl, h1, h2⟩ := za.1 h
    rw [zd.1 h1, zBN h2]; rfl
theorem zHb (s d : TypeId) (x : Operand) (ha : zp P ψ es tm E ρ [x]) : zC P ψ h n ρ (.convert s d x) ty w (z6 P (zb P E (.convert s d x)) es tm h n) := by
  rw [zb]
  unfold zGM und
  split
  · rename_i k0 k hs hd
    refine zh (C := zC P ψ h n ρ (.convert s d x) ty w) zA fun c hc => ?_
    have hx := ha x (by simp) c hc
    have run : ∀ j a, ρ x = .int j a → (convert s d (ρ x)).run P w = .ok (.int k (k.wrap a)) w := by
      intro j a e
      rw [e]; simp [convert, run_underlying hs, run_underlying hd, Conv.intToInt]
    show zC P ψ h n ρ (.convert s d x) ty w (zCN k (aV es tm c))
    unfold zCN
    split
    · cases hb : Sym.cv k (aV es tm c) with
      | none => exact zA _
      | some l =>
        obtain ⟨j, a, e, c', h3, h4⟩ := (SymFact.ok (P := P)).2 k _ l hb ψ _ hx
        exact zFS (zL (qN (run j a e))) (zH6 rfl h3 h4)
    refine qw (C := zC P ψ h n ρ (.convert s d x) ty w) _ _ _ _ (zA _) (fun b hv => ?_) (fun j b hv => ?_) (fun j hv => ?_)
    · rw [hv, zZ] at hx
      exact ⟨_, zL (qN (run _ _ hx)), by rw [yj]; exact yb _ _⟩
    · rw [hv, zd] at hx
      exact ⟨_, zL (qN (run _ _ hx)), by rw [yj]; exact yb _ _⟩
    · rw [hv, yQ] at hx
      obtain ⟨b, hx⟩ := hx
      exact ⟨_, zL (qN (run _ _ hx)), yQ.2 ⟨_, rfl⟩⟩
  · rename_i hs hd
    refine zh (C := zC P ψ h n ρ (.convert s d x) ty w) zA fun c hc => ?_
    have hx := ha x (by simp) c hc
    refine zx (C := zC P ψ h n ρ (.convert s d x) ty w) _ _ _ (zA _) fun l hl => ?_
    rw [hl, zl] at hx
    obtain ⟨b, hx, e⟩ := hx
    exact ⟨.string b, zL (qN (by rw [hx]; simp [convert, run_underlying hs, run_underlying hd])), zl.2 ⟨b, rfl, e⟩⟩
  · rename_i e hs hd
    split
    · rename_i he
      refine zh (C := zC P ψ h n ρ (.convert s d x) ty w) zA fun c hc => ?_
      have hx := ha x (by simp) c hc
      refine zx (C := zC P ψ h n ρ (.convert s d x) ty w) _ _ _ (zA _) fun l hl => ?_
      rw [zt]
      rw [hl, zl] at hx
      obtain ⟨b, hx, rfl⟩ := hx
      rw [wX, y6]
      obtain ⟨cap, hcut, hcap⟩ : ∃ cap, cap = (Question.appendCap b.size 0 e).cut (w.tape w.drawn (Question.appendCap b.size 0 e)) ∧ b.size ≤ cap := ⟨_, rfl, Nat.le_add_right _ _⟩
      let arr : Array Value := (b.data.map fun (b : UInt8) => Value.int .u8 b.toNat) ++ Array.replicate (cap - b.size) (Value.int .u8 0)
      have hbs : (b.data.map fun (b : UInt8) => Value.int .u8 b.toNat).size = b.size := by rw [Array.size_map]; rfl
      have harr : arr.size = cap := by
        show ((b.data.map fun (b : UInt8) => Value.int .u8 b.toNat) ++ Array.replicate (cap - b.size) (Value.int .u8 0)).size = cap
        rw [Array.size_append, hbs, Array.size_replicate]; omega
      let w1 : World := { w with drawn := w.drawn + 1, heap := w.heap.push (.cells arr e) }
      have hb1 : w1.heap[w.heap.size]? = some (.cells arr e (0, 0)) := by simp [w1]
      obtain ⟨fz', hfz, hfz'⟩ := zEP (w := w1) hb1 harr (.inl rfl)
      have hsize1 : w.heap.size < w1.heap.size := by simp [w1]
      refine ⟨w1.upB w.heap.size (.cells arr e fz'), .slice (some ⟨w.heap.size, 0, none⟩) b.size cap, cap, zL (qN ?_), ?_, fun ψ' _ hn => ⟨?_, ?_⟩, by unfold zEb; rw [xd _ hsize1]; exact harr.symm⟩
      · rw [hx, ← hfz]
        have hm : (markStringish ⟨w.heap.size, 0, none⟩).run P w1 = .ok () (w1.freeze ⟨w.heap.size, cap, none⟩ 1) := zAc hb1 harr
        simp only [convert, Sem.run_bind, run_underlying hs, run_underlying hd, run_underlying he, Result.andThen_ok, Conv.stringToBytes, run_choose, Question.forced, Bool.false_eq_true, if_false, newRow, run_newObj, Sem.run_pure, ← hcut]
        exact (by
          show (((markStringish ⟨w.heap.size, 0, none⟩).run P w1).andThen fun _ w' => Result.ok (Value.slice (some ⟨w.heap.size, 0, none⟩) b.size cap) w') = _
          rw [hm]; rfl)
      · refine ⟨by rw [zCz]; simp [w1], fun B hB => ?_, rfl, rfl, rfl⟩
        rw [k9 _ (by omega)]
        simp only [w1, Array.getElem?_push]
        rw [if_neg (by omega)]
      · exact z7.2 ⟨_, 0, cap, hn, rfl, hcap, hcap, by simp, .inl ⟨rfl, fun _ => by simp⟩⟩
      · refine ⟨arr, e, fz', xd _ hsize1, harr, ?_, hfz', fun i c hi => ?_⟩
        · rw [w4, List.length_map, y6]; simpa using hcap
        · obtain ⟨v, hv, hr⟩ := (zEq (ψ := ψ') b).get hi
          have hv : (b.data.map fun (b : UInt8) => Value.int .u8 b.toNat)[i]? = some v := by simpa using hv
          have hi' : i < (b.data.map fun (b : UInt8) => Value.int .u8 b.toNat).size := by
            rcases Nat.lt_or_ge i (b.data.map fun (b : UInt8) => Value.int .u8 b.toNat).size with h | h
            · exact h
            · rw [Array.getElem?_eq_none h] at hv; cases hv
          refine ⟨v, ?_, hr⟩
          show ((b.data.map fun (b : UInt8) => Value.int .u8 b.toNat) ++ Array.replicate (cap - b.size) (Value.int .u8 0))[0 + i]? = some v
          rw [Nat.zero_add, Array.getElem?_append_left hi']; exact hv
    · exact zA _
  · rename_i e0 e hs hd
    split
    · rename_i hsd he
      have hsd : s = d := yD hsd
      refine zh (C := zC P ψ h n ρ (.convert s d x) ty w) zA fun c hc => ?_
      have hx := ha x (by simp) c hc
      refine z8 (C := zC P ψ h n ρ (.convert s d x) ty w) _ _ _ _ (zA _) (fun _ => zA _) fun b off len cap s' ex hv => ?_
      refine yE (C := zC P ψ h n ρ (.convert s d x) ty w) _ _ _ (zA _) fun vs hvs hrel _ _ => ?_
      rw [hv] at hx
      have hx0 := hx
      rw [z7] at hx
      obtain ⟨p, x', cap', hp, hx, _⟩ := hx
      have hvs : zD.fam h b = some (.cells vs) := hvs
      obtain ⟨arr, el, fz, h1, h2, h3, h4, h5⟩ := hrel.on b _ p hvs hp
      obtain ⟨fz', hfz, hfz'⟩ := zEP h1 h2 h4
      have hlt : p.blk < w.heap.size := (hrel.on b _ p hvs hp).lt
      have hpost := ql (n := n) hrel hvs rfl hp (o' := .cells vs) (ob := .cells arr el fz') ⟨arr, el, fz', xd _ hlt, h2, h3, hfz', h5⟩
      have hsame : (zD.fam h).upd b (some (.cells vs)) = zD.fam h := by
        funext j; unfold Fam.upd; split
        · rename_i e; subst e; exact hvs.symm
        · rfl
      rw [hsame] at hpost
      refine ⟨_, ρ x, ψ, zL (qN ?_), hpost, hx0⟩
      rw [hx, ← hfz]
      have hm := zAc (P := P) (off := x') h1 h2
      subst hsd
      have he0 : e0 = e := by rw [hs] at hd; injection hd with hd; injection hd
      subst he0
      simp [convert, run_underlying hs, run_underlying he, hm]
    · exact zA _
  · rename_i e hs hd
    split
    · rename_i he
      refine zh (C := zC P ψ h n ρ (.convert s d x) ty w) zA fun c hc => ?_
      have hx := ha x (by simp) c hc
      refine z8 (C := zC P ψ h n ρ (.convert s d x) ty w) _ _ _ _ (zA _) (fun hv => ?_) fun b off len cap s' ex hv => ?_
      · rw [hv, zo] at hx
        refine ⟨.string .empty, zL (qN ?_), zl.2 ⟨_, rfl, rfl⟩⟩
        rw [hx, run_convert_bytes_string w s d e none 0 0 hs he hd]
        simp [Conv.bytesToString]
      · refine xF (C := zC P ψ h n ρ (.convert s d x) ty w) _ _ _ (zA _) fun vs hvs => ?_
        refine yP (C := zC P ψ h n ρ (.convert s d x) ty w) _ _ _ (zA _) fun cs hcs => ?_
        unfold zIT
        split
        · rename_i r hr
          intro hrel
          rw [hv, z7] at hx
          obtain ⟨p, x', cap', hp, hx, _, hl, _, hor⟩ := hx
          have hcells : zA6 ψ w p vs := by
            rcases hvs with hvs | hvs | ⟨u, hvs⟩
            · exact yS.toRo (hrel b _ p hvs hp)
            · exact hrel b _ p hvs hp
            · exact yS.toRo (jg.toCells (hrel b _ p hvs hp))
          obtain ⟨xs, hrun, hxs⟩ := xN (P := P) hcells hcs
          obtain ⟨rfl, hle⟩ := vE hr
          have hxs := zBN hxs
          have hrun : (loadCells ⟨p.blk, x', none⟩ len).run P w = .ok ((r.map Int.ofNat).map (Value.int .u8)).toArray w := by
            rcases hor with ⟨e, _⟩ | e
            · rw [e, ← hxs]; exact hrun
            · have : len = 0 := by omega
              subst this
              have := (xu hcs).1
              have hr0 : r = [] := by cases r <;> simp_all
              subst hr0
              rfl
          refine ⟨.string ((r.map Int.ofNat).foldl (fun r n => r.push (UInt8.ofNat n.toNat)) ByteArray.empty), zL (qN ?_), zl.2 ⟨_, rfl, ?_⟩⟩
          · rw [hx, run_convert_bytes_string w s d e _ _ _ hs he hd]
            exact run_bytesToString w _ _ _ _ hrun
          · rw [vm r _ hle]; rfl
        · split
          · rename_i hbs
            intro hrel
            rw [hv, z7] at hx
            obtain ⟨p, x', cap', hp, hx, _, hl, _, hor⟩ := hx
            have hcells : zA6 ψ w p vs := by
              rcases hvs with hvs | hvs | ⟨u, hvs⟩
              · exact yS.toRo (hrel b _ p hvs hp)
              · exact hrel b _ p hvs hp
              · exact yS.toRo (jg.toCells (hrel b _ p hvs hp))
            obtain ⟨xs, hrun, hxs⟩ := xN (P := P) hcells hcs
            obtain ⟨r, hr, hle⟩ := zAV P (w := w) hbs hxs
            have hrun : (loadCells ⟨p.blk, x', none⟩ len).run P w = .ok ((r.map Int.ofNat).map (Value.int .u8)).toArray w := by
              rcases hor with ⟨e, _⟩ | e
              · rw [e, ← hr]; exact hrun
              · have : len = 0 := by omega
                subst this
                have h1 := (xu hcs).1
                have h2 := hxs.length
                have hr0 : r = [] := by
                  have : r.length = 0 := by
                    have := congrArg List.length hr
                    simp at this; omega
                  exact List.length_eq_zero_iff.1 this
                subst hr0
                rfl
            have hb := vm r ByteArray.empty hle
            refine ⟨.string ((r.map Int.ofNat).foldl (fun r n => r.push (UInt8.ofNat n.toNat)) ByteArray.empty), zL (qN ?_), xU.2 ⟨_, rfl, ?_⟩⟩
            · rw [hx, run_convert_bytes_string w s d e _ _ _ hs he hd]
              exact run_bytesToString w _ _ _ _ hrun
            · generalize (r.map Int.ofNat).foldl (fun r n => r.push (UInt8.ofNat n.toNat)) ByteArray.empty = z at hb
              have hz : zi z = r := by rw [hb]; rfl
              have : (z.data.toList.map fun x => Value.int .u8 (Int.ofNat x.toNat)) = xs := by
                rw [hr, ← hz]
                unfold zi
                rw [List.map_map, List.map_map]
                rfl
              rw [this]; exact hxs
          · exact zA _
    · exact zA _
  · exact zA _
end
end Go.Ev


