/- A verified evaluator for the model's code: EvG, EvH, EvI, EvJ, EvK, EvL, EvM. -/
import Derived.Test.YtpcoeilcgjaddaaGreatDoorEv2
import Derived.Laws.Concat
import Derived.Laws.StructEq
import Derived.Laws.BytesString
set_option linter.unusedSectionVars false
set_option linter.unusedVariables false
set_option linter.unusedSimpArgs false
namespace Go.Ev
variable [Sym]
noncomputable section
variable {P : Program} {ψ : Psi} {es : List CV} {tm : Tm} {h : Heap} {n : Key} {ρ : Operand → Value} {E : Env} {ty : TypeId} {w : World}
abbrev xS (o : Op) (ty : TypeId) : Oper := { dst := none, op := o, type := ty, pos := "", after := #[], guard := none }
def zo (P : Program) (ψ : Psi) (es : List CV) (tm : Tm) (E : Env) (ρ : Operand → Value) (L : List Operand) : Prop := ∀ x ∈ L, ∀ c, zb P E x = some c → zJ ψ (aV es tm c) (ρ x)
theorem zo.sub {L L' : List Operand} (h : zo P ψ es tm E ρ L) (hs : ∀ x ∈ L', x ∈ L) : zo P ψ es tm E ρ L' := fun x hx c hc => h x (hs x hx) c hc
theorem zP {o : Op} {w w' : World} {x : Value} (hx : (execOp ρ (xS o ty)).run P w = .ok (.value x) w') : jj P ρ o ty w w' x := ⟨_, hx, .inl rfl⟩
theorem vy {o : Op} {w w' : World} (hx : (execOp ρ (xS o ty)).run P w = .ok .skip w') : jj P ρ o ty w w' undef := ⟨_, hx, .inr ⟨rfl, rfl⟩⟩
section
variable {C : OR → Prop}
theorem zg {f : zR → COp} {x : Operand} (hb : ∀ e, C (.err e)) (hk : ∀ c, zb P E x = some c → C (yA P (f c) es tm h n)) : C (yA P (yz P E f x) es tm h n) := by
  unfold yz
  cases hx : zb P E x with
  | none => exact hb _
  | some c => exact hk c hx
theorem yj {f : zR → zR → COp} {x y : Operand} (hb : ∀ e, C (.err e))
    (hk : ∀ c d, zb P E x = some c → zb P E y = some d → C (yA P (f c d) es tm h n)) : C (yA P (qR P E f x y) es tm h n) := by
  unfold qR
  cases hx : zb P E x with
  | none => exact hb _
  | some c => cases hy : zb P E y with
    | none => exact hb _
    | some d => exact hk c d hx hy
end
theorem zA {o : Op} (e : Nat) : zC P ψ h n ρ o ty w (.err e) := trivial
theorem ji : ∀ (l : List Operand) {cs : List zR}, zo P ψ es tm E ρ l → xu P E l = some cs → zS ψ (aVs es tm cs) (l.map ρ)
  | [], cs, _, hc => by injection hc with hc; subst hc; exact zL.2 rfl
  | x :: l, cs, ha, hc => by
    unfold xu yo at hc
    cases hx : zb P E x with
    | none => rw [hx] at hc; cases hc
    | some c =>
      rw [hx] at hc
      cases hl : yo (zb P E) l with
      | none => simp [hl] at hc
      | some r =>
        simp [hl] at hc
        subst hc
        exact zT.2 ⟨ha x (by simp) c hx, ji l (ha.sub fun y hy => by simp [hy]) hl⟩
theorem zMk (x : Operand) (ha : zo P ψ es tm E ρ [x]) : zC P ψ h n ρ (.move x) ty w (yA P (za P E (.move x)) es tm h n) := by
  refine zg (C := zC P ψ h n ρ (.move x) ty w) zA fun c hc => ⟨ρ x, zP ?_, ha x (by simp) c hc⟩
  simp only [execOp, Sem.run_pure]
theorem zJK (x : Operand) (ha : zo P ψ es tm E ρ [x]) : zC P ψ h n ρ (.assign x) ty w (yA P (za P E (.assign x)) es tm h n) := by
  refine zg (C := zC P ψ h n ρ (.assign x) ty w) zA fun c hc => ⟨ρ x, zP ?_, ha x (by simp) c hc⟩
  simp only [execOp, Sem.run_pure]
theorem zNN (c a b : Operand) (ha : zo P ψ es tm E ρ [c, a, b]) : zC P ψ h n ρ (.pick c a b) ty w (yA P (za P E (.pick c a b)) es tm h n) := by
  rw [za]
  cases hc : zb P E c with
  | none => exact zA _
  | some c' => cases h1 : zb P E a with
    | none => exact zA _
    | some a' => cases h2 : zb P E b with
      | none => exact zA _
      | some b' =>
        refine ki (C := zC P ψ h n ρ (.pick c a b) ty w) _ _ _ (zA _) fun t ht => ?_
        have hv := ha c (by simp) c' hc
        rw [ht, zH] at hv
        cases t with
        | true => exact ⟨ρ a, zP (by simp [execOp, hv, asBool]), ha a (by simp) a' h1⟩
        | false => exact ⟨ρ b, zP (by simp [execOp, hv, asBool]), ha b (by simp) b' h2⟩
theorem qx (w : World) (ob : Obj) : New w { w with heap := w.heap.push ob } :=
  ⟨by simp, fun B hB => by simp only [Array.getElem?_push]; rw [if_neg (by omega)], rfl, rfl, rfl⟩
theorem zHH (w : World) (ob : Obj) : (w.heap.push ob)[w.heap.size]? = some ob := by simp
theorem zFA {ψ' : Psi} (w : World) (arr : Array Value) (elem : TypeId) {cs : List CV} {m : Nat} (hc : zS ψ' cs (arr.toList.take m)) (hm : m ≤ arr.size) :
    xE ψ' { w with heap := w.heap.push (.cells arr elem) } ⟨w.heap.size, 0, arr.size, fun n => n⟩ (.cells cs) := by
  have hl := hc.length
  rw [List.length_take] at hl
  refine ⟨arr, elem, (0, 0), zHH _ _, rfl, by simp at hl ⊢; omega, .inl rfl, fun i c hi => ?_⟩
  obtain ⟨x, hx, hr⟩ := hc.get hi
  rw [List.getElem?_take] at hx
  split at hx
  · exact ⟨x, by simpa using hx, hr⟩
  · cases hx
theorem wz {ψ' : Psi} (w : World) (arr : Array Value) (elem : TypeId) {cs : List CV} (hc : zS ψ' cs arr.toList) :
    xE ψ' { w with heap := w.heap.push (.cells arr elem) } ⟨w.heap.size, 0, arr.size, fun n => n⟩ (.cells cs) :=
  zFA w arr elem (m := arr.size) (by rw [List.take_of_length_le (by simp)]; exact hc) (Nat.le_refl _)
theorem zNo {ψ' : Psi} (w : World) (arr : Array Value) (elem : TypeId) {cs : List CV} (hc : zS ψ' cs arr.toList) :
    xE ψ' { w with heap := w.heap.push (.cells arr elem) } ⟨w.heap.size, 0, arr.size, fun n => n⟩ (.full true cs) := by
  have hl := hc.length
  refine ⟨arr, elem, (0, 0), zHH _ _, rfl, by simp at hl ⊢; omega, .inl rfl, fun i c hi => ?_⟩
  obtain ⟨x, hx, hr⟩ := hc.get hi
  exact ⟨x, by simpa using hx, hr⟩
theorem zLz (t : TypeId) : zC P ψ h n ρ (.alloc t) ty w (yA P (za P E (.alloc t)) es tm h n) := by
  rw [za]
  cases hz : qc P t with
  | none => exact zA _
  | some z =>
    obtain ⟨v, h1, h2⟩ := zIZ hz
    refine ⟨_, .pointer (some ⟨w.heap.size, 0, none⟩), v.cells.size, zP ?_, qx _ (.cells v.cells t), fun ψ' _ hn => ⟨zj.2 ⟨_, hn, rfl⟩, wz w v.cells t (h2 ψ')⟩, by simp [zEG]⟩
    simp [execOp, Instr.alloc, h1, newVar, newRow]
theorem zOP (t : TypeId) (x : Operand) (ha : zo P ψ es tm E ρ [x]) : zC P ψ h n ρ (.box t x) ty w (yA P (za P E (.box t x)) es tm h n) := by
  refine zg (C := zC P ψ h n ρ (.box t x) ty w) zA fun c hc => ?_
  refine yO (C := zC P ψ h n ρ (.box t x) ty w) _ _ _ (zA _) fun cs hcs => ?_
  have hv := wQ (ha x (by simp) c hc) hcs
  refine ⟨_, .pointer (some ⟨w.heap.size, 0, none⟩), (ρ x).cells.size, zP ?_, qx _ (.cells (ρ x).cells t), fun ψ' hle hn => ⟨zj.2 ⟨_, hn, rfl⟩, wz w _ t (hv.mono hle)⟩, by simp [zEG]⟩
  simp [execOp, Instr.box, newVar, newRow]
theorem zNv (t : TypeId) (x : Operand) (ha : zo P ψ es tm E ρ [x]) : zC P ψ h n ρ (.load t x) ty w (yA P (za P E (.load t x)) es tm h n) := by
  rw [za]
  cases h1 : xg P t with
  | none => exact zA _
  | some b => cases h2 : xV P t with
    | none => cases b <;> exact zA _
    | some s =>
      cases b with
      | true =>
        refine zg (C := zC P ψ h n ρ (.load t x) ty w) zA fun c hc => ?_
        refine yb (C := zC P ψ h n ρ (.load t x) ty w) _ _ _ (zA _) fun b off hv => ?_
        refine xF (C := zC P ψ h n ρ (.load t x) ty w) _ _ _ (zA _) fun vs hvs => ?_
        refine zEv (C := zC P ψ h n ρ (.load t x) ty w) _ _ (zA _) fun l hl hrel => ?_
        have hx := ha x (by simp) c hc
        rw [hv, zj] at hx
        obtain ⟨p, hp, hx⟩ := hx
        have hcells : zBT ψ w p vs := by
          rcases hvs with hvs | hvs | ⟨u, hvs⟩
          · exact yR.toRo (hrel b _ p hvs hp)
          · exact hrel b _ p hvs hp
          · exact yR.toRo (jp.toCells (hrel b _ p hvs hp))
        obtain ⟨xs, hrun, hxs⟩ := xN (P := P) hcells hl
        refine ⟨.agg xs.toArray, zP ?_, yU.2 ⟨_, rfl, by simpa using hxs⟩⟩
        simp [execOp, Instr.loadAt, hx, Instr.sureAddr, loadVar, qj h1, yT h2, hrun]
      | false =>
        refine zg (C := zC P ψ h n ρ (.load t x) ty w) zA fun c hc => ?_
        refine yb (C := zC P ψ h n ρ (.load t x) ty w) _ _ _ (zA _) fun b off hv => ?_
        refine xF (C := zC P ψ h n ρ (.load t x) ty w) _ _ _ (zA _) fun vs hvs => ?_
        refine zDi (C := zC P ψ h n ρ (.load t x) ty w) _ _ (zA _) fun l hl hrel => ?_
        have hx := ha x (by simp) c hc
        rw [hv, zj] at hx
        obtain ⟨p, hp, hx⟩ := hx
        have hcells : zBT ψ w p vs := by
          rcases hvs with hvs | hvs | ⟨u, hvs⟩
          · exact yR.toRo (hrel b _ p hvs hp)
          · exact hrel b _ p hvs hp
          · exact yR.toRo (jp.toCells (hrel b _ p hvs hp))
        rw [k8] at hl
        obtain ⟨y, hrun, hy⟩ := zBL (P := P) hcells hl
        refine ⟨y, zP ?_, hy⟩
        have hrun' : ∀ m, (load ⟨p.blk, p.off + off, none⟩ m).run P w = .ok y w ∨ m ≠ .plain := fun m => by
          cases m
          · exact .inl hrun
          · exact .inr (by decide)
        simp only [execOp, Instr.loadAt, hx, Instr.sureAddr, loadVar, Sem.run_bind, Sem.run_pure, Result.andThen_ok, qj h1, Bool.false_eq_true, if_false, hrun]
theorem zLM (t : TypeId) (a x : Operand) (ha : zo P ψ es tm E ρ [a, x]) : zC P ψ h n ρ (.store t a x) ty w (yA P (za P E (.store t a x)) es tm h n) := by
  rw [za]
  cases h2 : xV P t with
  | none => exact zA _
  | some s =>
    refine yj (C := zC P ψ h n ρ (.store t a x) ty w) zA fun c d hc hd => ?_
    refine yb (C := zC P ψ h n ρ (.store t a x) ty w) _ _ _ (zA _) fun b off hv => ?_
    refine yF (C := zC P ψ h n ρ (.store t a x) ty w) _ _ _ (zA _) fun vs hvs => ?_
    refine yO (C := zC P ψ h n ρ (.store t a x) ty w) _ _ _ (zA _) fun cs hcs => ?_
    refine zE (C := zC P ψ h n ρ (.store t a x) ty w) _ _ _ (zA _) fun hs => ?_
    refine yO (C := zC P ψ h n ρ (.store t a x) ty w) _ _ _ (zA _) fun l hl hrel _ _ => ?_
    have hx := ha a (by simp) c hc
    rw [hv, zj] at hx
    obtain ⟨p, hp, hx⟩ := hx
    have hval := wQ (ha x (by simp) d hd) hcs
    obtain ⟨w', hrun, hpost⟩ := jW (P := P) n hrel hvs hp hl hval hs
    refine ⟨w', undef, ψ, vy ?_, ?_, qd⟩
    · have hsz : (ρ x).cells.size = s := by
        have := hval.length
        rw [(ww hl).1] at this
        simpa using this
      simp [execOp, Instr.storeAt, hx, Instr.sureAddr, storeVar, yT h2, hsz, hrun]
    · rw [zz]; exact hpost
theorem zL2 (x : Operand) (ha : zo P ψ es tm E ρ [x]) : zC P ψ h n ρ (.nilCheck x) ty w (yA P (za P E (.nilCheck x)) es tm h n) := by
  refine zg (C := zC P ψ h n ρ (.nilCheck x) ty w) zA fun c hc => ?_
  have hx := ha x (by simp) c hc
  have key : ∀ {v : Value}, ρ x = v → (∀ w, (execOp ρ (xS (.nilCheck x) ty)).run P w = .ok (.value v) w) → zC P ψ h n ρ (.nilCheck x) ty w (.val (aV es tm c)) := by
    intro v e hr
    exact ⟨v, zP (hr w), e ▸ hx⟩
  refine zF2 (C := zC P ψ h n ρ (.nilCheck x) ty w) _ _ _ ?_ fun b o hv => ?_
  · show zC P ψ h n ρ (.nilCheck x) ty w (zD1 (aV es tm c))
    generalize aV es tm c = v at *
    cases v <;> simp only [zD1] <;> try exact trivial
    case bool => rw [zH] at hx; exact ⟨_, zP (by simp [execOp, hx]), zH.2 rfl⟩
    case nat => rw [zU] at hx; exact ⟨_, zP (by simp [execOp, hx]), zU.2 rfl⟩
    case int => rw [zc] at hx; exact ⟨_, zP (by simp [execOp, hx]), zc.2 rfl⟩
    case anyi => rw [yC] at hx; obtain ⟨m, hx⟩ := hx; exact ⟨_, zP (by simp [execOp, hx]), yC.2 ⟨m, rfl⟩⟩
    case str => rw [zh] at hx; obtain ⟨b, hx, e⟩ := hx; exact ⟨_, zP (by simp [execOp, hx]), zh.2 ⟨b, rfl, e⟩⟩
    case big => have := hx; rw [qN] at hx; obtain ⟨m, hx, _⟩ := hx; exact ⟨ρ x, zP (by simp [execOp, hx]), this⟩
    case ptr => have := hx; rw [zj] at hx; obtain ⟨p, hp, hx⟩ := hx; exact ⟨ρ x, zP (by simp [execOp, hx]), this⟩
    case nilsl => rw [zl] at hx; exact ⟨_, zP (by simp [execOp, hx]), zl.2 rfl⟩
    case sl => have := hx; rw [zw] at hx; obtain ⟨p, x', c', hp, hx, _⟩ := hx; exact ⟨ρ x, zP (by simp [execOp, hx]), this⟩
    case sst => have := hx; rw [xI] at hx; obtain ⟨b, hx, e⟩ := hx; exact ⟨ρ x, zP (by simp [execOp, hx]), this⟩
    case win => have := hx; rw [qV] at hx; obtain ⟨_, base, l, c', i, hx, _⟩ := hx; exact ⟨ρ x, zP (by cases base <;> simp [execOp, hx]), this⟩
    case nilmap => rw [zt] at hx; exact ⟨_, zP (by simp [execOp, hx]), zt.2 rfl⟩
    case map => have := hx; rw [yY] at hx; obtain ⟨p, hp, hx⟩ := hx; exact ⟨ρ x, zP (by simp [execOp, hx]), this⟩
    case func fn a b =>
      have h0 := hx
      rw [yk] at hx; obtain ⟨a', b', hx, _⟩ := hx
      cases fn <;> simp only [] <;> first | exact trivial | exact ⟨ρ x, zP (by simp [execOp, hx]), h0⟩
    case iface => have := hx; rw [z7] at hx; obtain ⟨y, hx, _⟩ := hx; exact ⟨ρ x, zP (by simp [execOp, hx]), this⟩
    case sym i =>
      have h0 := hx
      rw [yh] at hx
      rcases Sym.one i with ⟨k, m, e⟩ | ⟨b, e⟩ <;> rw [e] at hx <;> exact ⟨ρ x, zP (by simp [execOp, hx]), h0⟩
    case agg => have := hx; rw [yU] at hx; obtain ⟨y, hx, _⟩ := hx; exact ⟨ρ x, zP (by simp [execOp, hx]), this⟩
    case tup => have := hx; rw [z6] at hx; obtain ⟨y, hx, _⟩ := hx; exact ⟨ρ x, zP (by simp [execOp, hx]), this⟩
  · have h0 := hx
    rw [hv] at h0 hx
    rw [zj] at hx; obtain ⟨p, hp, hx⟩ := hx
    exact ⟨ρ x, zP (by simp [execOp, hx]), h0⟩
end
end Go.Ev

namespace Go.Ev
variable [Sym]
noncomputable section
variable {P : Program} {ψ : Psi} {es : List CV} {tm : Tm} {h : Heap} {n : Key} {ρ : Operand → Value} {E : Env} {ty : TypeId} {w : World}
theorem zCF {a b : Bool} (h : a = true ↔ b = true) : Value.bool a = .bool b := by rw [Bool.eq_iff_iff.2 h]
theorem xH (n : Nat) : zJ ψ (qq n) (.int .i64 (Int.ofNat n)) := by cases n <;> exact zU.2 rfl
theorem kF (k : IntKind) (n : Nat) : zJ ψ (ql k n) (.int k (Int.ofNat n)) := by
  cases k <;> first | exact zc.2 rfl | exact xH n
theorem yf (k : IntKind) (n : Int) : zJ ψ (mkInt k n) (.int k n) := by
  cases n with
  | ofNat m => cases m <;> exact kF k _
  | negSucc m => cases m <;> exact zc.2 rfl
theorem zJL (n : Int) : zKv n = IntKind.i64.wrap n := by
  have hb : ∀ m : Nat, Nat.ble m 9223372036854775807 = true → (Int.ofNat m) = IntKind.i64.wrap (Int.ofNat m) ∧ (Int.negSucc m) = IntKind.i64.wrap (Int.negSucc m) := by
    intro m hm
    have := Nat.le_of_ble_eq_true hm
    rw [Int.negSucc_eq]
    simp only [IntKind.wrap, IntKind.signed, IntKind.bits, Int.ofNat_eq_natCast]
    constructor <;> simp <;> omega
  cases n with
  | ofNat m =>
    show Bool.rec (motive := fun _ => Int) (IntKind.i64.wrap (.ofNat m)) (.ofNat m) (Nat.ble m 9223372036854775807) = _
    cases hm : Nat.ble m 9223372036854775807 with
    | true => exact (hb m hm).1
    | false => rfl
  | negSucc m =>
    show Bool.rec (motive := fun _ => Int) (IntKind.i64.wrap (.negSucc m)) (.negSucc m) (Nat.ble m 9223372036854775807) = _
    cases hm : Nat.ble m 9223372036854775807 with
    | true => exact (hb m hm).2
    | false => rfl
theorem yl (k : IntKind) (n : Int) : yZ k n = k.wrap n := by
  cases k with
  | i64 => exact zJL n
  | u8 => cases n with
    | ofNat m => show Int.ofNat (m % 256) = _; simp [IntKind.wrap, IntKind.signed, IntKind.bits]
    | negSucc m => rfl
  | _ => rfl
theorem kZ (k : IntKind) (n : Int) : toU k n = (BitVec.ofInt k.bits n).toNat := by
  rw [BitVec.toNat_ofInt]
  cases n with
  | ofNat m => rfl
  | negSucc m =>
    have hp : 0 < 2 ^ k.bits := Nat.two_pow_pos _
    have hlt : m % 2 ^ k.bits < 2 ^ k.bits := Nat.mod_lt _ hp
    show 2 ^ k.bits - 1 - m % 2 ^ k.bits = _
    rw [Int.negSucc_emod _ (by omega)]
    omega
theorem jG {op : BinOp} {k j : IntKind} {a b : Int} {c : CV} (t : TypeId) (w : World) (hk : k = j ∨ yn op = true) (hc : yH op k a b = some c) :
    ∃ v, (binOp op t (.int k a) (.int j b)).run P w = .ok v w ∧ zJ ψ c v := by
  cases op with
  | shl =>
    rw [binOp_shl]
    show ∃ v, _
    cases b with
    | negSucc b => cases hc
    | ofNat b =>
      injection hc with hc; subst hc
      refine ⟨_, ?_, yf _ _⟩
      rw [yl]
      have : ¬ (Int.ofNat b < 0) := by simp
      simp only [Op.shift, if_neg this, Sem.run_pure]
      simp
  | shr =>
    rw [binOp_shr]
    cases b with
    | negSucc b => cases hc
    | ofNat b =>
      have : ¬ (Int.ofNat b < 0) := by simp
      cases a with
      | ofNat a =>
        injection hc with hc; subst hc
        refine ⟨_, ?_, kF _ _⟩
        simp only [Op.shift, if_neg this, Sem.run_pure]
        have e : (Int.ofNat a).fdiv (2 ^ min (Int.ofNat b).toNat k.bits) = Int.ofNat (a / 2 ^ min b k.bits) := by
          have := Int.ofNat_fdiv a (2 ^ min b k.bits)
          simp only [Int.ofNat_eq_natCast, Int.toNat_natCast]
          rw [this]; push_cast; rfl
        rw [e]; rfl
      | negSucc a =>
        injection hc with hc; subst hc
        refine ⟨_, ?_, yf _ _⟩
        simp only [Op.shift, if_neg this, Sem.run_pure]
        simp
  | quo =>
    rcases hk with rfl | hk
    · rw [binOp_quo]
      unfold Op.intDiv
      have hc' : Bool.rec (motive := fun _ => Option CV) (some (mkInt k (yZ k (a.tdiv b)))) none (yy b (.ofNat 0)) = some c := hc
      rw [zk] at hc'
      by_cases h0 : b = 0
      · subst h0; simp at hc'
      · have : decide (b = Int.ofNat 0) = false := by simpa using h0
        rw [this] at hc'
        injection hc' with hc'; subst hc'
        refine ⟨_, ?_, yf _ _⟩
        rw [if_neg h0, yl, Sem.run_pure]
    · cases hk
  | rem =>
    rcases hk with rfl | hk
    · rw [binOp_rem]
      unfold Op.intDiv
      have hc' : Bool.rec (motive := fun _ => Option CV) (some (mkInt k (a.tmod b))) none (yy b (.ofNat 0)) = some c := hc
      rw [zk] at hc'
      by_cases h0 : b = 0
      · subst h0; simp at hc'
      · have : decide (b = Int.ofNat 0) = false := by simpa using h0
        rw [this] at hc'
        injection hc' with hc'; subst hc'
        refine ⟨_, ?_, yf _ _⟩
        rw [if_neg h0, Sem.run_pure]
    · cases hk
  | add =>
    rcases hk with rfl | hk
    · injection hc with hc; subst hc
      exact ⟨_, by rw [binOp_add, Op.intArith, Sem.run_pure, yl]; rfl, yf _ _⟩
    · cases hk
  | sub =>
    rcases hk with rfl | hk
    · injection hc with hc; subst hc
      exact ⟨_, by rw [binOp_sub, Op.intArith, Sem.run_pure, yl]; rfl, yf _ _⟩
    · cases hk
  | mul =>
    rcases hk with rfl | hk
    · injection hc with hc; subst hc
      exact ⟨_, by rw [binOp_mul, Op.intArith, Sem.run_pure, yl]; rfl, yf _ _⟩
    · cases hk
  | and =>
    rcases hk with rfl | hk
    · injection hc with hc; subst hc
      refine ⟨_, ?_, yf _ _⟩
      rw [binOp_and, Op.intBits, Sem.run_pure, yl, BitVec.toNat_and, kZ, kZ]; rfl
    · cases hk
  | or =>
    rcases hk with rfl | hk
    · injection hc with hc; subst hc
      refine ⟨_, ?_, yf _ _⟩
      rw [binOp_or, Op.intBits, Sem.run_pure, yl, BitVec.toNat_or, kZ, kZ]; rfl
    · cases hk
  | xor =>
    rcases hk with rfl | hk
    · injection hc with hc; subst hc
      refine ⟨_, ?_, yf _ _⟩
      rw [binOp_xor, Op.intBits, Sem.run_pure, yl, BitVec.toNat_xor, kZ, kZ]; rfl
    · cases hk
  | andNot =>
    rcases hk with rfl | hk
    · injection hc with hc; subst hc
      refine ⟨_, ?_, yf _ _⟩
      rw [binOp_andNot, Op.intBits, Sem.run_pure, yl, BitVec.toNat_and, BitVec.toNat_not, kZ, kZ]; rfl
    · cases hk
  | eql =>
    rcases hk with rfl | hk
    · injection hc with hc; subst hc
      refine ⟨_, by rw [binOp_eql, Sem.run_pure], zH.2 ?_⟩
      rw [zk]; rfl
    · cases hk
  | neq =>
    rcases hk with rfl | hk
    · injection hc with hc; subst hc
      refine ⟨_, by rw [binOp_neq, Sem.run_pure], zH.2 ?_⟩
      rw [zk, kw]; rfl
    · cases hk
  | lss =>
    rcases hk with rfl | hk
    · injection hc with hc; subst hc
      refine ⟨_, by rw [binOp_lss, Sem.run_pure], zH.2 ?_⟩
      rw [xk]
    · cases hk
  | leq =>
    rcases hk with rfl | hk
    · injection hc with hc; subst hc
      refine ⟨_, by rw [binOp_leq, Sem.run_pure], zH.2 ?_⟩
      rw [xk, kw]; exact zCF (by simp)
    · cases hk
  | gtr =>
    rcases hk with rfl | hk
    · injection hc with hc; subst hc
      refine ⟨_, by rw [binOp_gtr, Sem.run_pure], zH.2 ?_⟩
      rw [xk]
    · cases hk
  | geq =>
    rcases hk with rfl | hk
    · injection hc with hc; subst hc
      refine ⟨_, by rw [binOp_geq, Sem.run_pure], zH.2 ?_⟩
      rw [xk, kw]; exact zCF (by simp)
    · cases hk
theorem zIx {n : Nat} {c : CV} (h : okN n = some c) : n ≤ 9223372036854775807 ∧ c = qq n := by
  have h' : Bool.rec (motive := fun _ => Option CV) none (some (qq n)) (Nat.ble n 9223372036854775807) = some c := h
  cases hb : Nat.ble n 9223372036854775807 with
  | false => rw [hb] at h'; cases h'
  | true => rw [hb] at h'; injection h' with h'; exact ⟨zM hb, h'.symm⟩
theorem uP {n : Nat} (h : n ≤ 9223372036854775807) : IntKind.i64.wrap (n : Int) = (n : Int) := by
  simp only [IntKind.wrap, IntKind.signed, IntKind.bits]; simp; omega
theorem zLt {op : BinOp} {a b : Nat} {c : CV} (t : TypeId) (w : World) (hc : zFh op a b = some c) :
    ∃ v, (binOp op t (.int .i64 (Int.ofNat a)) (.int .i64 (Int.ofNat b))).run P w = .ok v w ∧ zJ ψ c v := by
  cases op with
  | add =>
    obtain ⟨h1, rfl⟩ := zIx (n := a + b) hc
    refine ⟨_, ?_, xH _⟩
    rw [binOp_add, Op.intArith, Sem.run_pure]
    have := uP h1
    simp only [Int.ofNat_eq_natCast] at *
    rw [← Int.natCast_add, this]
  | sub =>
    have hc' : Bool.rec (motive := fun _ => Option CV) none (Bool.rec (motive := fun _ => Option CV) none (some (qq (Nat.sub a b))) (Nat.ble a 9223372036854775807)) (Nat.ble b a) = some c := hc
    cases h1 : Nat.ble b a with
    | false => rw [h1] at hc'; cases hc'
    | true => cases h2 : Nat.ble a 9223372036854775807 with
      | false => rw [h1, h2] at hc'; cases hc'
      | true =>
        rw [h1, h2] at hc'
        injection hc' with hc'; subst hc'
        have h1 := zM h1
        have h2 := zM h2
        refine ⟨_, ?_, xH _⟩
        rw [binOp_sub, Op.intArith, Sem.run_pure]
        have := uP (n := a - b) (by omega)
        simp only [Int.ofNat_eq_natCast] at *
        rw [← Int.natCast_sub h1, this]; rfl
  | mul =>
    obtain ⟨h1, rfl⟩ := zIx (n := a * b) hc
    refine ⟨_, ?_, xH _⟩
    rw [binOp_mul, Op.intArith, Sem.run_pure]
    have := uP h1
    simp only [Int.ofNat_eq_natCast] at *
    rw [← Int.natCast_mul, this]
  | and =>
    have hc' : Bool.rec (motive := fun _ => Option CV) none (Bool.rec (motive := fun _ => Option CV) none (some (qq (Nat.land a b))) (Nat.ble b 9223372036854775807)) (Nat.ble a 9223372036854775807) = some c := hc
    cases h1 : Nat.ble a 9223372036854775807 with
    | false => rw [h1] at hc'; cases hc'
    | true => cases h2 : Nat.ble b 9223372036854775807 with
      | false => rw [h1, h2] at hc'; cases hc'
      | true =>
        rw [h1, h2] at hc'
        injection hc' with hc'; subst hc'
        have h1 := zM h1
        have h2 := zM h2
        refine ⟨_, ?_, xH _⟩
        rw [binOp_and, Op.intBits, Sem.run_pure, BitVec.toNat_and, ← kZ, ← kZ]
        have e : ∀ {m : Nat}, m ≤ 9223372036854775807 → toU .i64 (Int.ofNat m) = m := fun {m} hm => Nat.mod_eq_of_lt (show m < 2 ^ 64 by omega)
        rw [e h1, e h2]
        have : (a &&& b) ≤ 9223372036854775807 := Nat.le_trans Nat.and_le_left h1
        rw [uP this]; rfl
  | eql => injection hc with hc; subst hc; exact ⟨_, by rw [binOp_eql, Sem.run_pure], zH.2 (zCF (by simp; omega))⟩
  | neq => injection hc with hc; subst hc; exact ⟨_, by rw [binOp_neq, Sem.run_pure], zH.2 (by rw [kw]; exact zCF (by have := @Nat.beq_eq a b; cases hb : Nat.beq a b <;> simp_all <;> omega))⟩
  | lss => injection hc with hc; subst hc; exact ⟨_, by rw [binOp_lss, Sem.run_pure], zH.2 (zCF (by simp; omega))⟩
  | leq => injection hc with hc; subst hc; exact ⟨_, by rw [binOp_leq, Sem.run_pure], zH.2 (zCF (by simp))⟩
  | gtr => injection hc with hc; subst hc; exact ⟨_, by rw [binOp_gtr, Sem.run_pure], zH.2 (zCF (by simp; omega))⟩
  | geq => injection hc with hc; subst hc; exact ⟨_, by rw [binOp_geq, Sem.run_pure], zH.2 (zCF (by simp))⟩
  | _ => cases hc
theorem y7 (b : ByteArray) : (zm b).length = b.size := by unfold zm; rw [List.length_map]; rfl
theorem zQf {a b : List UInt8} (h : a.map UInt8.toNat = b.map UInt8.toNat) : a = b := by
  induction a generalizing b with
  | nil => cases b with
    | nil => rfl
    | cons y b => cases h
  | cons x a ih => cases b with
    | nil => cases h
    | cons y b =>
      simp only [List.map_cons, List.cons.injEq] at h
      rw [UInt8.toNat_inj.1 h.1, ih h.2]
theorem x6 (a b : ByteArray) : xw (zm a) (zm b) = (a.toList == b.toList) := by
  rw [wZ, ByteArray.toList_eq, ByteArray.toList_eq, Bool.eq_iff_iff]
  simp only [decide_eq_true_eq, beq_iff_eq]
  constructor
  · exact zQf
  · intro e; unfold zm; rw [e]
theorem zEV (a b : List UInt8) : ve (a.map UInt8.toNat) (b.map UInt8.toNat) = Op.bytesLess a b := by
  induction a generalizing b with
  | nil => cases b <;> rfl
  | cons x a ih => cases b with
    | nil => rfl
    | cons y b =>
      show Bool.rec (motive := fun _ => Bool) (Bool.rec (motive := fun _ => Bool) false (ve (a.map UInt8.toNat) (b.map UInt8.toNat)) (Nat.beq x.toNat y.toNat)) true (Nat.ble (Nat.succ x.toNat) y.toNat) = _
      rw [Op.bytesLess, ih]
      by_cases h1 : x < y
      · have : Nat.ble (Nat.succ x.toNat) y.toNat = true := Nat.ble_eq_true_of_le (UInt8.lt_iff_toNat_lt.1 h1)
        rw [this]; simp [h1]
      · have hn : Nat.ble (Nat.succ x.toNat) y.toNat = false := by
          cases hb : Nat.ble (Nat.succ x.toNat) y.toNat with
          | false => rfl
          | true => exact absurd (UInt8.lt_iff_toNat_lt.2 (zM hb)) h1
        rw [hn]
        by_cases h2 : x = y
        · subst h2; simp
        · have : Nat.beq x.toNat y.toNat = false := kS fun e => h2 (UInt8.toNat_inj.1 e)
          rw [this]; simp [h1, h2]
theorem je (a b : ByteArray) : ve (zm a) (zm b) = Op.bytesLess a.toList b.toList := by
  rw [ByteArray.toList_eq, ByteArray.toList_eq]; exact zEV _ _
theorem zEP (a b : ByteArray) : zm (a ++ b) = zm a ++ zm b := by
  obtain ⟨⟨x⟩⟩ := a
  obtain ⟨⟨y⟩⟩ := b
  rw [ByteArray.mk_append_mk]
  simp [zm]
theorem zBP {op : BinOp} {a b : ByteArray} {c : CV} (t : TypeId) (w : World) (hc : zPp op (zm a) (zm b) = some c) :
    ∃ v, (binOp op t (.string a) (.string b)).run P w = .ok v w ∧ zJ ψ c v := by
  have hb : binOp op t (.string a) (.string b) = Op.stringOp op a b := by cases op <;> simp [binOp]
  rw [hb]
  cases op with
  | add =>
    have hc' : Bool.rec (motive := fun _ => Option CV) none (some (.str (zQg (zm a) (zm b)))) (Nat.ble (Nat.add (zAZ (zm a)) (zAZ (zm b))) 1000000) = some c := hc
    cases h1 : Nat.ble (Nat.add (zAZ (zm a)) (zAZ (zm b))) 1000000 with
    | false => rw [h1] at hc'; cases hc'
    | true =>
      rw [h1] at hc'
      injection hc' with hc'; subst hc'
      have h1 := zM h1
      rw [vN, vN, y7, y7] at h1
      have h1 : a.size + b.size ≤ 1000000 := h1
      exact ⟨_, run_string_add_sum w a b (by omega), zh.2 ⟨_, rfl, by rw [zOA, zEP]⟩⟩
  | eql => injection hc with hc; subst hc; exact ⟨_, by rw [Op.stringOp]; rfl, zH.2 (by rw [x6])⟩
  | neq => injection hc with hc; subst hc; exact ⟨_, by rw [Op.stringOp]; rfl, zH.2 (by rw [kw, x6])⟩
  | lss => injection hc with hc; subst hc; exact ⟨_, by rw [Op.stringOp]; rfl, zH.2 (by rw [je])⟩
  | leq => injection hc with hc; subst hc; exact ⟨_, by rw [Op.stringOp]; rfl, zH.2 (by rw [x6, je])⟩
  | gtr => injection hc with hc; subst hc; exact ⟨_, by rw [Op.stringOp]; rfl, zH.2 (by rw [kw, x6, je])⟩
  | geq => injection hc with hc; subst hc; exact ⟨_, by rw [Op.stringOp]; rfl, zH.2 (by rw [kw, je])⟩
  | _ => cases hc
end
end Go.Ev

namespace Go.Ev
variable [Sym]
noncomputable section
variable {P : Program} {ψ : Psi} {es : List CV} {tm : Tm} {h : Heap} {n : Key} {ρ : Operand → Value} {E : Env} {ty : TypeId} {w : World}
theorem qJ {op : BinOp} {t : TypeId} {x y : Operand} {c : TypeId} {v : Value} (hg : eqGuard op t x y (ρ x) (ρ y) = pure ()) (hr : (binOp op t (ρ x) (ρ y)).run P w = .ok v w) :
    (execOp ρ (xS (.binOp op t x y c) ty)).run P w = .ok (.value v) w := by
  simp [execOp, hg, hr]
def Has (ψ : Psi) : OR → Value → Prop
  | .val c, v => zJ ψ c v
  | .fork a b, v => Has ψ a v ∨ Has ψ b v
  | _, _ => False
theorem zGi {o : Op} {x : Value} (hv : jj P ρ o ty w w x) {r : OR} (hh : Has ψ r x) : zC P ψ h n ρ o ty w r := by
  induction r with
  | val c => exact ⟨x, hv, hh⟩
  | fork a b iha ihb => exact fun _ => Or.imp (fun q => iha q) (fun q => ihb q) hh
  | _ => exact False.elim hh
theorem ug {k : IntKind} {m : Nat} {v : Value} (hv : zJ ψ (ql k m) v) : v = .int k (Int.ofNat m) := by
  cases k <;> first | exact zc.1 hv | (cases m <;> exact zU.1 hv)
theorem qG {k : IntKind} {m : Int} {v : Value} (hv : zJ ψ (mkInt k m) v) : v = .int k m := by
  cases m with
  | ofNat m => cases m <;> exact ug hv
  | negSucc m => cases m <;> exact zc.1 hv
theorem zLC (b : Bool) : Has ψ wd (.bool b) := by
  cases b
  · exact .inr (zH.2 rfl)
  · exact .inl (zH.2 rfl)
theorem zEd (k : IntKind) {j : Nat} : ∀ {m : Nat}, j ≤ m → Has ψ (zJk k m) (.int k (Int.ofNat j))
  | 0, hj => by
    obtain rfl : j = 0 := by omega
    exact kF k 0
  | m + 1, hj => by
    by_cases e : j = m + 1
    · subst e; exact .inr (kF k (m + 1))
    · exact .inl (zEd k (m := m) (by omega))
theorem zDm (k : IntKind) {z : Int} : ∀ {m : Nat}, z.natAbs ≤ m → Has ψ (zIW k m) (.int k z)
  | 0, hj => by
    obtain rfl : z = 0 := by omega
    exact kF k 0
  | m + 1, hj => by
    by_cases e : z.natAbs = m + 1
    · refine .inr ?_
      cases z with
      | ofNat p =>
        obtain rfl : p = m + 1 := by simpa using e
        exact .inl (kF k (m + 1))
      | negSucc p =>
        obtain rfl : p = m := by simpa [Int.natAbs_negSucc] using e
        exact .inr (zc.2 rfl)
    · exact .inl (zDm k (m := m) (by omega))
theorem jS {op : BinOp} {k j : IntKind} {a b : Int} {c : CV} {t : TypeId} {x y : Operand} {m : TypeId} {r : OR} (hx : ρ x = .int k a) (hy : ρ y = .int j b)
    (hk : k = j ∨ yn op = true) (hc : yH op k a b = some c) (hr : ∀ v, zJ ψ c v → Has ψ r v) : zC P ψ h n ρ (.binOp op t x y m) ty w r := by
  obtain ⟨v, h1, h2⟩ := jG (P := P) (ψ := ψ) t w hk hc
  exact zGi (zP (qJ (by rw [hx]; exact eqGuard_at_int _ _ _ _ _ _ _) (by rw [hx, hy]; exact h1))) (hr v h2)
theorem wg {k : IntKind} {m : Int} : ∀ v, zJ ψ (mkInt k m) v → Has ψ (.val (.anyi k)) v := fun _ hv => yC.2 ⟨_, qG hv⟩
theorem zOD {b : Bool} : ∀ v, zJ ψ (.bool b) v → Has ψ wd v := fun v hv => by rw [zH] at hv; subst hv; exact zLC b
theorem vJ {op : BinOp} {j k : IntKind} {a b : Int} {t : TypeId} {x y : Operand} {c : TypeId} (hx : ρ x = .int j a) (hy : ρ y = .int k b) :
    zC P ψ h n ρ (.binOp op t x y c) ty w (qQ op j k) := by
  refine zE (C := zC P ψ h n ρ (.binOp op t x y c) ty w) _ _ _ (zA _) fun hk => ?_
  rw [xB] at hk
  have hk : j = k := by simpa using hk
  subst hk
  cases op <;> first | exact zA _ | exact jS hx hy (.inl rfl) rfl wg | exact jS hx hy (.inl rfl) rfl zOD
theorem zDM {k : IntKind} {a : Int} {m : Nat} (hm : m ≤ 127) : ∃ j, j ≤ m ∧ yZ k (.ofNat (Nat.land (toU k a) (toU k (.ofNat m)))) = .ofNat j := by
  have h1 : toU k (.ofNat m) = m := by
    show m % 2 ^ k.bits = m
    exact Nat.mod_eq_of_lt (by cases k <;> simp [IntKind.bits] <;> omega)
  refine ⟨Nat.land (toU k a) m, Nat.and_le_right, ?_⟩
  rw [h1, yl]
  have h2 : Nat.land (toU k a) m ≤ 127 := Nat.le_trans Nat.and_le_right hm
  generalize Nat.land (toU k a) m = q at h2
  cases k <;> simp [IntKind.wrap, IntKind.signed, IntKind.bits] <;> omega
theorem zEj {a : Int} {m : Nat} : (a.tmod (.ofNat (m + 1))).natAbs ≤ m := by
  have := Int.natAbs_tmod a (.ofNat (m + 1))
  have h2 : (Int.ofNat (m + 1)).natAbs = m + 1 := rfl
  rw [this, h2]
  have := Nat.mod_lt a.natAbs (show 0 < m + 1 by omega)
  omega
theorem zJN {op : BinOp} {k j : IntKind} {a b : Int} {t : TypeId} {x y : Operand} {c : TypeId} (hx : ρ x = .int k a) (hy : ρ y = .int j b) (hk : k = j ∨ yn op = true) :
    zC P ψ h n ρ (.binOp op t x y c) ty w (zDc op k b) := by
  have plain : ∀ op', op = op' → yn op' = false → zC P ψ h n ρ (.binOp op t x y c) ty w (qQ op' k k) := by
    intro op' e hs
    subst e
    rcases hk with rfl | hk
    · exact vJ hx hy
    · rw [hs] at hk; cases hk
  have eqk : yn op = false → k = j := fun hs => hk.resolve_right (by rw [hs]; simp)
  cases op <;> first
    | exact plain _ rfl rfl
    | skip
  case quo =>
    obtain rfl := eqk rfl
    cases b with
    | ofNat m =>
      cases m with
      | zero => exact zA _
      | succ m =>
        refine jS hx hy (.inl rfl) (c := mkInt k (yZ k (a.tdiv (.ofNat (m + 1))))) ?_ wg
        show Bool.rec (motive := fun _ => Option CV) (some (mkInt k (yZ k (a.tdiv (.ofNat (m + 1)))))) none (yy (.ofNat (m + 1)) (.ofNat 0)) = _
        rw [zk, decide_eq_false (by intro h; injection h with h; cases h)]
    | negSucc m =>
      refine jS hx hy (.inl rfl) (c := mkInt k (yZ k (a.tdiv (.negSucc m)))) ?_ wg
      show Bool.rec (motive := fun _ => Option CV) (some (mkInt k (yZ k (a.tdiv (.negSucc m))))) none (yy (.negSucc m) (.ofNat 0)) = _
      rw [zk, decide_eq_false (by intro h; cases h)]
  case rem =>
    obtain rfl := eqk rfl
    cases b with
    | negSucc m => exact zA _
    | ofNat m =>
      cases m with
      | zero => exact zA _
      | succ m =>
        refine zE (C := zC P ψ h n ρ (.binOp .rem t x y c) ty w) _ _ _ (zA _) fun hm => ?_
        have hc : yH .rem k a (.ofNat (m + 1)) = some (mkInt k (a.tmod (.ofNat (m + 1)))) := by
          show Bool.rec (motive := fun _ => Option CV) (some (mkInt k (a.tmod (.ofNat (m + 1))))) none (yy (.ofNat (m + 1)) (.ofNat 0)) = _
          rw [zk, decide_eq_false (by intro h; injection h with h; cases h)]
        refine jS hx hy (.inl rfl) hc fun v hv => ?_
        have hv := qG hv
        subst hv
        have hs := zEj (a := a) (m := m)
        split
        · exact zDm k hs
        · exact yC.2 ⟨_, rfl⟩
  case and =>
    obtain rfl := eqk rfl
    cases b with
    | negSucc m => exact jS hx hy (.inl rfl) rfl wg
    | ofNat m =>
      refine zE (C := zC P ψ h n ρ (.binOp .and t x y c) ty w) _ _ _ (zA _) fun hm => ?_
      obtain ⟨q, h1, h2⟩ := zDM (k := k) (a := a) (zM hm)
      refine jS hx hy (.inl rfl) rfl fun v hv => ?_
      rw [h2] at hv
      rw [qG hv]
      exact zEd k h1
  case shl =>
    cases b with
    | negSucc m => exact zA _
    | ofNat m => exact jS hx hy hk rfl wg
  case shr =>
    cases b with
    | negSucc m => exact zA _
    | ofNat m =>
      cases a with
      | ofNat a => exact jS hx hy hk rfl fun v hv => yC.2 ⟨_, ug hv⟩
      | negSucc a => exact jS hx hy hk rfl wg
theorem zNY {op : BinOp} {k j : IntKind} {a b : Int} {c : CV} {t : TypeId} {x y : Operand} {m : TypeId} (hx : ρ x = .int k a) (hy : ρ y = .int j b)
    (hk : k = j ∨ yn op = true) (hc : yH op k a b = some c) : zC P ψ h n ρ (.binOp op t x y m) ty w (.val c) := by
  obtain ⟨v, h1, h2⟩ := jG (P := P) (ψ := ψ) t w hk hc
  exact ⟨v, zP (qJ (by rw [hx]; exact eqGuard_at_int _ _ _ _ _ _ _) (by rw [hx, hy]; exact h1)), h2⟩
def zQG [Sym] (P : Program) : Prop :=
  (∀ op x y l, Sym.bin op x y = some l → ∀ (ψ : Psi) t u v w, zJ ψ x u → zJ ψ y v → ((∃ k m, u = .int k m) ∨ ∃ b, u = .string b) ∧ ∃ z, (binOp op t u v).run P w = .ok z w ∧ ∃ c ∈ l, zJ ψ c z) ∧
  (∀ k x l, Sym.cv k x = some l → ∀ (ψ : Psi) u, zJ ψ x u → ∃ j m, u = .int j m ∧ ∃ c ∈ l, zJ ψ c (.int k (k.wrap m)))
class SymFact (P : Program) : Prop where
  ok : zQG P
theorem zFj {v : Value} : ∀ {l : List CV} {d c : CV}, c ∈ d :: l → zJ ψ c v → Has ψ (forkL d l) v
  | [], d, c, hc, hv => by
    obtain rfl : c = d := by simpa using hc
    exact hv
  | e :: l, d, c, hc, hv => by
    rcases List.mem_cons.1 hc with rfl | hc
    · exact .inl hv
    · exact .inr (zFj hc hv)
theorem zIl {v : Value} {o : Option (List CV)} {l : List CV} {c : CV} {e : Nat} (ho : o = some l) (hc : c ∈ l) (hv : zJ ψ c v) : Has ψ (zOU o e) v := by
  subst ho
  cases l with
  | nil => cases hc
  | cons d l => exact zFj hc hv
theorem zI3 {op : BinOp} {t : TypeId} {x y : Operand} {m : TypeId} {u v : CV} (hx : zJ ψ u (ρ x)) (hy : zJ ψ v (ρ y)) :
    zC P ψ h n ρ (.binOp op t x y m) ty w (zJu op u v) := by
  have two : ∀ (k : IntKind) (a : Int), ρ x = .int k a → zC P ψ h n ρ (.binOp op t x y m) ty w
      (zMp v (fun j b => yc (kEq k j || yn op) (zDt (yH op k a b) 117) 118) (fun j => qQ op j k) 119) := by
    intro k a hx
    have known : ∀ (j : IntKind) (b : Int), ρ y = .int j b → zC P ψ h n ρ (.binOp op t x y m) ty w (yc (kEq k j || yn op) (zDt (yH op k a b) 117) 118) := by
      intro j b hy
      refine zE (C := zC P ψ h n ρ (.binOp op t x y m) ty w) _ _ _ (zA _) fun hk => ?_
      refine jH (C := zC P ψ h n ρ (.binOp op t x y m) ty w) _ _ (zA _) fun c hc => ?_
      refine zNY hx hy ?_ hc
      rw [xB] at hk
      simpa using hk
    refine jE (C := zC P ψ h n ρ (.binOp op t x y m) ty w) _ _ _ _ (zA _) (fun b hv => ?_) (fun j b hv => ?_) (fun j hv => ?_)
    · rw [hv, zU] at hy; exact known _ _ hy
    · rw [hv, zc] at hy; exact known _ _ hy
    · rw [hv, yC] at hy; obtain ⟨b, hy⟩ := hy
      by_cases e : j = k
      · subst e; exact vJ hx hy
      · unfold qQ; rw [xB, decide_eq_false e]; exact zA _
  refine zE9 (C := zC P ψ h n ρ (.binOp op t x y m) ty w) _ _ _ _ _ (zA _) (fun a hu => ?_) (fun k a hu => ?_) (fun k hu => ?_) (fun s hu => ?_)
  · rw [hu, zU] at hx; exact two _ _ hx
  · rw [hu, zc] at hx; exact two _ _ hx
  · rw [hu, yC] at hx; obtain ⟨a, hx⟩ := hx
    have any : ∀ (j : IntKind) (b : Int), ρ y = .int j b → zC P ψ h n ρ (.binOp op t x y m) ty w (qQ op j k) := by
      intro j b hy
      by_cases e : j = k
      · subst e; exact vJ hx hy
      · unfold qQ; rw [xB, decide_eq_false e]; exact zA _
    have right : ∀ (j : IntKind) (b : Int), ρ y = .int j b → zC P ψ h n ρ (.binOp op t x y m) ty w (yc (kEq k j || yn op) (zDc op k b) 118) := by
      intro j b hy
      refine zE (C := zC P ψ h n ρ (.binOp op t x y m) ty w) _ _ _ (zA _) fun hk => ?_
      refine zJN hx hy ?_
      rw [xB] at hk
      simpa using hk
    refine jE (C := zC P ψ h n ρ (.binOp op t x y m) ty w) _ _ _ _ (zA _) (fun b hv => ?_) (fun j b hv => ?_) (fun j hv => ?_)
    · rw [hv, zU] at hy; exact right _ _ hy
    · rw [hv, zc] at hy; exact right _ _ hy
    · rw [hv, yC] at hy; obtain ⟨b, hy⟩ := hy; exact any _ _ hy
  · rw [hu, zh] at hx; obtain ⟨a, hx, rfl⟩ := hx
    refine zx (C := zC P ψ h n ρ (.binOp op t x y m) ty w) _ _ _ (zA _) fun l hl => ?_
    rw [hl, zh] at hy; obtain ⟨b, hy, rfl⟩ := hy
    refine jH (C := zC P ψ h n ρ (.binOp op t x y m) ty w) _ _ (zA _) fun c hc => ?_
    obtain ⟨v, h1, h2⟩ := zBP (P := P) (ψ := ψ) t w hc
    exact ⟨v, zP (qJ (by rw [hx]; exact eqGuard_at_string _ _ _ _ _ _) (by rw [hx, hy]; exact h1)), h2⟩
theorem zJq [SymFact P] {op : BinOp} {t : TypeId} {x y : Operand} {m : TypeId} {u v : CV} (hx : zJ ψ u (ρ x)) (hy : zJ ψ v (ρ y)) :
    zC P ψ h n ρ (.binOp op t x y m) ty w (jD op u v) := by
  unfold jD
  split
  · rename_i a m'
    rw [zU] at hx
    rw [qN] at hy
    obtain ⟨b, hy, hle⟩ := hy
    have hg : eqGuard op t x y (ρ x) (ρ y) = pure () := by rw [hx]; exact eqGuard_at_int _ _ _ _ _ _ _
    have hv : ∀ {c : Bool}, (binOp op t (ρ x) (ρ y)).run P w = .ok (.bool c) w → jj P ρ (.binOp op t x y m) ty w w (.bool c) := fun h => zP (qJ hg h)
    have hf : ∀ {c : Bool}, (binOp op t (ρ x) (ρ y)).run P w = .ok (.bool c) w → zC P ψ h n ρ (.binOp op t x y m) ty w wd := by
      intro c hc _
      cases c
      · exact .inr ⟨_, hv hc, zH.2 rfl⟩
      · exact .inl ⟨_, hv hc, zH.2 rfl⟩
    cases op <;> first | exact zA _ | skip
    · -- <
      have hr : (binOp .lss t (ρ x) (ρ y)).run P w = .ok (.bool (decide ((a : Int) < b))) w := by rw [hx, hy]; simp [binOp, Op.intCmp]
      show zC P ψ h n ρ _ ty w (ifB (Nat.ble (Nat.succ a) m') _ _)
      rw [qf]
      split
      · rename_i hb
        have := zM hb
        exact ⟨_, hv hr, zH.2 (by rw [decide_eq_true (by omega)])⟩
      · exact hf hr
    · -- <=
      have hr : (binOp .leq t (ρ x) (ρ y)).run P w = .ok (.bool (decide ((a : Int) ≤ b))) w := by rw [hx, hy]; simp [binOp, Op.intCmp]
      show zC P ψ h n ρ _ ty w (ifB (Nat.ble a m') _ _)
      rw [qf]
      split
      · rename_i hb
        have := zM hb
        exact ⟨_, hv hr, zH.2 (by rw [decide_eq_true (by omega)])⟩
      · exact hf hr
    · -- >
      have hr : (binOp .gtr t (ρ x) (ρ y)).run P w = .ok (.bool (decide ((b : Int) < a))) w := by rw [hx, hy]; simp [binOp, Op.intCmp]
      show zC P ψ h n ρ _ ty w (ifB (Nat.ble a m') _ _)
      rw [qf]
      split
      · rename_i hb
        have := zM hb
        exact ⟨_, hv hr, zH.2 (by rw [decide_eq_false (by omega)])⟩
      · exact hf hr
    · -- >=
      have hr : (binOp .geq t (ρ x) (ρ y)).run P w = .ok (.bool (decide ((b : Int) ≤ a))) w := by rw [hx, hy]; simp [binOp, Op.intCmp]
      show zC P ψ h n ρ _ ty w (ifB (Nat.ble (Nat.succ a) m') _ _)
      rw [qf]
      split
      · rename_i hb
        have := zM hb
        exact ⟨_, hv hr, zH.2 (by rw [decide_eq_false (by omega)])⟩
      · exact hf hr
  split
  · cases hb : Sym.bin op u v with
    | none => exact zA _
    | some l =>
      obtain ⟨h1, z, h2, c, h3, h4⟩ := (SymFact.ok (P := P)).1 op u v l hb ψ t _ _ w hx hy
      refine zGi (zP (qJ ?_ h2)) (zIl rfl h3 h4)
      rcases h1 with ⟨k, q, e⟩ | ⟨b, e⟩ <;> rw [e]
      · exact eqGuard_at_int _ _ _ _ _ _ _
      · exact eqGuard_at_string _ _ _ _ _ _
  · exact zI3 hx hy
theorem zFU [SymFact P] {op : BinOp} {t : TypeId} {x y : Operand} {m : TypeId} {c d : zR} (hx : zJ ψ (aV es tm c) (ρ x)) (hy : zJ ψ (aV es tm d) (ρ y)) :
    zC P ψ h n ρ (.binOp op t x y m) ty w (yA P (.arith op c d) es tm h n) := by
  show zC P ψ h n ρ (.binOp op t x y m) ty w (zLE (aV es tm c) (fun a => zLE (aV es tm d) (fun b => zJJ op a b (aV es tm c) (aV es tm d)) (jD op (aV es tm c) (aV es tm d))) (jD op (aV es tm c) (aV es tm d)))
  have gen := zJq (P := P) (h := h) (n := n) (op := op) (t := t) (m := m) (ty := ty) (w := w) hx hy
  cases hc : aV es tm c <;> try (rw [hc] at gen; exact gen)
  case nat a =>
    rw [hc] at gen
    cases hd : aV es tm d <;> try (rw [hd] at gen; exact gen)
    case nat b =>
      rw [hd] at gen
      rw [hc, zU] at hx
      rw [hd, zU] at hy
      show zC P ψ h n ρ (.binOp op t x y m) ty w (Option.rec (motive := fun _ => BinOp → CV → CV → OR) (fun op x y => jD op x y) (fun v _ _ _ => .val v) (zFh op a b) op (.nat a) (.nat b))
      cases ho : zFh op a b with
      | none => exact gen
      | some v =>
        obtain ⟨v', h1, h2⟩ := zLt (P := P) (ψ := ψ) t w ho
        exact ⟨v', zP (qJ (by rw [hx]; exact eqGuard_at_int _ _ _ _ _ _ _) (by rw [hx, hy]; exact h1)), h2⟩
theorem kK {k : EqK} {x y : CV} {b : Bool} {u v : Value} (hx : zJ ψ x u) (hy : zJ ψ y v) (hc : uE k x y = some b) :
    (k = .bool ∧ ∃ p q, u = .bool p ∧ v = .bool q ∧ b = (p == q)) ∨ (k = .int ∧ ∃ j p q, u = .int j p ∧ v = .int j q ∧ b = (p == q)) ∨
    (k = .str ∧ ∃ p q, u = .string p ∧ v = .string q ∧ b = (p == q)) := by
  unfold uE at hc
  split at hc
  · injection hc with hc; rw [zH] at hx hy; exact .inl ⟨rfl, _, _, hx, hy, hc.symm⟩
  · injection hc with hc; rw [zU] at hx hy
    refine .inr (.inl ⟨rfl, _, _, _, hx, hy, ?_⟩)
    subst hc; rename_i a b; have := @Nat.beq_eq a b; cases hb : Nat.beq a b <;> simp_all <;> omega
  · rw [zc] at hx hy
    rename_i k a j b'
    cases hk : kEq k j with
    | false => rw [hk] at hc; cases hc
    | true =>
      rw [hk] at hc; injection hc with hc
      rw [xB] at hk
      have hk : k = j := by simpa using hk
      subst hk
      refine .inr (.inl ⟨rfl, _, _, _, hx, hy, ?_⟩)
      rw [← hc, zk]; rfl
  · injection hc with hc; rw [zU] at hx; rw [zc] at hy
    refine .inr (.inl ⟨rfl, _, _, _, hx, hy, ?_⟩)
    subst hc; rename_i a b; simp only [Int.negSucc_eq]; symm; simp only [beq_eq_false_iff_ne, ne_eq]; simp; omega
  · injection hc with hc; rw [zU] at hy; rw [zc] at hx
    refine .inr (.inl ⟨rfl, _, _, _, hx, hy, ?_⟩)
    subst hc; rename_i a b; simp only [Int.negSucc_eq]; symm; simp only [beq_eq_false_iff_ne, ne_eq]; simp; omega
  · injection hc with hc; rw [zh] at hx hy
    obtain ⟨p, hx, rfl⟩ := hx
    obtain ⟨q, hy, rfl⟩ := hy
    refine .inr (.inr ⟨rfl, _, _, hx, hy, ?_⟩)
    rw [← hc, x6, beq_toListBytes]
  · cases hc
end
end Go.Ev

namespace Go.Ev
variable [Sym]
noncomputable section
variable {P : Program} {ψ : Psi} {es : List CV} {tm : Tm} {h : Heap} {n : Key} {ρ : Operand → Value} {E : Env} {ty : TypeId} {w : World}
variable [SymFact P]
theorem xM {t : TypeId} {cs : Array Value} {off : Nat} {v : Value} (ha : xg P t = some false) (hv : cs[off]? = some v) (w : World) : (part t cs off).run P w = .ok v w := by
  simp [part, qj ha, hv]
theorem zG4 {t : TypeId} {cs : Array Value} {off s : Nat} (ha : xg P t = some true) (hs : xV P t = some s) (w : World) :
    (part t cs off).run P w = .ok (.agg (cs.extract off (off + s))) w := by
  simp [part, qj ha, yT hs]
theorem zJg {t : TypeId} (ht : P.underlying t = some .bool) : xg P t = some false := by unfold xg; rw [ht]
theorem uX {t : TypeId} {k : IntKind} (ht : P.underlying t = some (.int k)) : xg P t = some false := by unfold xg; rw [ht]
theorem zGv {t : TypeId} (ht : P.underlying t = some .string) : xg P t = some false := by unfold xg; rw [ht]
theorem zA7 {xs ys : List CV} {us vs : Array Value} (hx : zS ψ xs us.toList) (hy : zS ψ ys vs.toList) (d : Nat) (w : World) :
    ∀ (fs : List Field) {l : List (Nat × EqK)} {b : Bool}, kG P fs = some l → eqFields xs ys l = some b → (Op.eqFields (d + 1) us vs fs).run P w = .ok b w
  | [], l, b, hl, hb => by
    injection hl with hl; subst hl
    injection hb with hb; subst hb
    rfl
  | f :: fs, l, b, hl, hb => by
    unfold kG at hl
    split at hl
    · cases hl
    · rename_i hname
      have hname : f.name ≠ "_" := by simpa using hname
      cases hr : kG P fs with
      | none => rw [hr] at hl; cases hl
      | some r =>
        simp only [hr] at hl
        have one : ∀ {k : EqK}, xg P f.type = some false → l = (f.offset, k) :: r →
            (∀ {x y : CV} {u v : Value} {c : Bool}, zJ ψ x u → zJ ψ y v → uE k x y = some c → (Op.equalIn (d + 1) f.type u v).run P w = .ok c w) →
            (Op.eqFields (d + 1) us vs (f :: fs)).run P w = .ok b w := by
          intro k ha hl hk
          subst hl
          unfold eqFields at hb
          rw [k8, k8] at hb
          cases h1 : xs[f.offset]? with
          | none => rw [h1] at hb; cases hb
          | some x => cases h2 : ys[f.offset]? with
            | none => rw [h1, h2] at hb; cases hb
            | some y =>
              simp only [h1, h2] at hb
              obtain ⟨u, hu, hxu⟩ := hx.get h1
              obtain ⟨v, hv, hyv⟩ := hy.get h2
              have hu : us[f.offset]? = some u := by simpa using hu
              have hv : vs[f.offset]? = some v := by simpa using hv
              cases hc : uE k x y with
              | none => simp only [hc] at hb; cases hb
              | some c =>
                simp only [hc] at hb
                have he := hk hxu hyv hc
                cases c with
                | false =>
                  injection hb with hb; subst hb
                  simp [Op.eqFields, hname, xM ha hu, xM ha hv, he]
                | true =>
                  have := zA7 hx hy d w fs hr hb
                  simp [Op.eqFields, hname, xM ha hu, xM ha hv, he, this]
        unfold und at hl
        split at hl
        · rename_i ht
          injection hl with hl
          refine one (zJg ht) hl.symm fun hx hy hc => ?_
          rcases kK hx hy hc with ⟨_, p, q, rfl, rfl, rfl⟩ | ⟨e, _⟩ | ⟨e, _⟩
          · exact run_equalIn_bool' w d _ p q ht
          · cases e
          · cases e
        · rename_i k ht
          injection hl with hl
          refine one (uX ht) hl.symm fun hx hy hc => ?_
          rcases kK hx hy hc with ⟨e, _⟩ | ⟨_, j, p, q, rfl, rfl, rfl⟩ | ⟨e, _⟩
          · cases e
          · exact run_equalIn_int w d _ j k p q ht
          · cases e
        · rename_i ht
          injection hl with hl
          refine one (zGv ht) hl.symm fun hx hy hc => ?_
          rcases kK hx hy hc with ⟨e, _⟩ | ⟨e, _⟩ | ⟨_, p, q, rfl, rfl, rfl⟩
          · cases e
          · cases e
          · rw [run_equalIn_string w d _ p q ht, beq_toListBytes]
        · cases hl
theorem zBs {x : Operand} (h : xX x = true) : ∃ v, x = .const v := by
  cases x <;> first | exact ⟨_, rfl⟩ | cases h
section
variable {t e e' D : TypeId} {a : Addr} {v : Value} {n1 n2 m1 m2 r : Nat} {f : Fn} {xs ys : Array Value} (d : Nat) (w : World)
theorem zM9 (ht : P.underlying t = some (.pointer e)) : (Op.equalIn (d + 1) t (.pointer none) (.pointer none)).run P w = .ok true w := by
  rw [Op.equalIn, Sem.run_bind, run_underlying ht, Result.andThen_ok]; rfl
theorem zNy (ht : P.underlying t = some (.pointer e)) : (Op.equalIn (d + 1) t (.pointer none) (.pointer (some a))).run P w = .ok false w := by
  rw [Op.equalIn, Sem.run_bind, run_underlying ht, Result.andThen_ok]; rfl
theorem zMG (ht : P.underlying t = some (.pointer e)) : (Op.equalIn (d + 1) t (.pointer (some a)) (.pointer none)).run P w = .ok false w := by
  rw [Op.equalIn, Sem.run_bind, run_underlying ht, Result.andThen_ok]; rfl
theorem zML {ms} (ht : P.underlying t = some (.interface ms)) : (Op.equalIn (d + 1) t .nilIface .nilIface).run P w = .ok true w := by
  rw [Op.equalIn, Sem.run_bind, run_underlying ht, Result.andThen_ok]; rfl
theorem zMT {ms} (ht : P.underlying t = some (.interface ms)) : (Op.equalIn (d + 1) t .nilIface (.iface D v)).run P w = .ok false w := by
  rw [Op.equalIn, Sem.run_bind, run_underlying ht, Result.andThen_ok]; rfl
theorem zOo {ms} (ht : P.underlying t = some (.interface ms)) : (Op.equalIn (d + 1) t (.iface D v) .nilIface).run P w = .ok false w := by
  rw [Op.equalIn, Sem.run_bind, run_underlying ht, Result.andThen_ok]; rfl
theorem zOC (ht : P.underlying t = some (.slice e)) : (Op.equalIn (d + 1) t (.slice none n1 m1) (.slice none n2 m2)).run P w = .ok true w := by
  rw [Op.equalIn, Sem.run_bind, run_underlying ht, Result.andThen_ok]; rfl
theorem zOT (ht : P.underlying t = some (.slice e)) : (Op.equalIn (d + 1) t (.slice none n1 m1) (.slice (some a) n2 m2)).run P w = .ok false w := by
  rw [Op.equalIn, Sem.run_bind, run_underlying ht, Result.andThen_ok]; rfl
theorem zOH (ht : P.underlying t = some (.slice e)) : (Op.equalIn (d + 1) t (.slice (some a) n1 m1) (.slice none n2 m2)).run P w = .ok false w := by
  rw [Op.equalIn, Sem.run_bind, run_underlying ht, Result.andThen_ok]; rfl
theorem zMo (ht : P.underlying t = some (.map e e')) : (Op.equalIn (d + 1) t (.map none) (.map none)).run P w = .ok true w := by
  rw [Op.equalIn, Sem.run_bind, run_underlying ht, Result.andThen_ok]; rfl
theorem zMP (ht : P.underlying t = some (.map e e')) : (Op.equalIn (d + 1) t (.map none) (.map (some r))).run P w = .ok false w := by
  rw [Op.equalIn, Sem.run_bind, run_underlying ht, Result.andThen_ok]; rfl
theorem zOg (ht : P.underlying t = some (.map e e')) : (Op.equalIn (d + 1) t (.map (some r)) (.map none)).run P w = .ok false w := by
  rw [Op.equalIn, Sem.run_bind, run_underlying ht, Result.andThen_ok]; rfl
theorem zOG {fa fb fc} (ht : P.underlying t = some (.func fa fb fc)) : (Op.equalIn (d + 1) t .nilFunc .nilFunc).run P w = .ok true w := by
  rw [Op.equalIn, Sem.run_bind, run_underlying ht, Result.andThen_ok]; rfl
theorem zOy {fa fb fc} (ht : P.underlying t = some (.func fa fb fc)) : (Op.equalIn (d + 1) t .nilFunc (.func f xs ys)).run P w = .ok false w := by
  rw [Op.equalIn, Sem.run_bind, run_underlying ht, Result.andThen_ok]; rfl
theorem zOV {fa fb fc} (ht : P.underlying t = some (.func fa fb fc)) : (Op.equalIn (d + 1) t (.func f xs ys) .nilFunc).run P w = .ok false w := by
  rw [Op.equalIn, Sem.run_bind, run_underlying ht, Result.andThen_ok]; rfl
end
theorem zP3 {t : TypeId} {x y : Operand} {k : EqK} {u v : CV} {b : Bool} (op : BinOp) (hk : zGW P t = some k) (hx : zJ ψ u (ρ x)) (hy : zJ ψ v (ρ y))
    (hc : eqC k (xX x || xX y) u v = some b) (hop : op = .eql ∨ op = .neq) (w : World) :
    (eqGuard op t x y (ρ x) (ρ y)).run P w = .ok () w ∧ (Op.equal t (ρ x) (ρ y)).run P w = .ok b w ∧
      (∀ k' a j c, ¬ (ρ x = .int k' a ∧ ρ y = .int j c)) ∧ (∀ s r, ¬ (ρ x = .string s ∧ ρ y = .string r)) ∧ (∀ s c, ρ x ≠ .float s c) ∧ (∀ s c d, ρ x ≠ .complex s c d) := by
  obtain ⟨dd, hd⟩ : ∃ dd, ∀ a b, Op.equal t a b = Op.equalIn (dd + 1 + 1) t a b := ⟨9998, fun _ _ => rfl⟩
  unfold zGW und at hk
  split at hk
  · rename_i ht
    injection hk with hk; subst hk
    rcases kK hx hy hc with ⟨_, p, q, h1, h2, rfl⟩ | ⟨e, _⟩ | ⟨e, _⟩
    · rw [h1, h2, hd]
      exact ⟨by rw [eqGuard_at_bool]; rfl, run_equalIn_bool' w _ _ p q ht, by simp, by simp, by simp, by simp⟩
    · cases e
    · cases e
  · rename_i e ht
    injection hk with hk; subst hk
    unfold eqC at hc
    simp only at hc
    split at hc
    · injection hc with hc; subst hc
      rw [yx] at hx hy
      rw [hx, hy, hd]
      exact ⟨by rw [eqGuard_at_pointer]; rfl, zM9 _ w ht, by simp, by simp, by simp, by simp⟩
    · injection hc with hc; subst hc
      rw [yx] at hx
      rw [zj] at hy
      obtain ⟨p, _, hy⟩ := hy
      rw [hx, hy, hd]
      exact ⟨by rw [eqGuard_at_pointer]; rfl, zNy _ w ht, by simp, by simp, by simp, by simp⟩
    · injection hc with hc; subst hc
      rw [yx] at hy
      rw [zj] at hx
      obtain ⟨p, _, hx⟩ := hx
      rw [hx, hy, hd]
      exact ⟨by rw [eqGuard_at_pointer]; rfl, zMG _ w ht, by simp, by simp, by simp, by simp⟩
    · cases hc
  · rename_i ms ht
    injection hk with hk; subst hk
    unfold eqC at hc
    simp only at hc
    split at hc
    · split at hc
      · rename_i hcst
        injection hc with hc; subst hc
        rw [z8] at hx hy
        rw [hx, hy, hd]
        refine ⟨?_, zML _ w ht, by simp, by simp, by simp, by simp⟩
        rcases Bool.or_eq_true_iff.1 hcst with h1 | h1
        · obtain ⟨c, rfl⟩ := zBs h1
          rw [eqGuard_nil_constL]; rfl
        · obtain ⟨c, rfl⟩ := zBs h1
          rw [eqGuard_nil_constR]; rfl
      · cases hc
    · injection hc with hc; subst hc
      rw [z8] at hx
      rw [z7] at hy
      obtain ⟨p, hy, _⟩ := hy
      rw [hx, hy, hd]
      exact ⟨by rw [eqGuard_nil_iface]; rfl, zMT _ w ht, by simp, by simp, by simp, by simp⟩
    · injection hc with hc; subst hc
      rw [z8] at hy
      rw [z7] at hx
      obtain ⟨p, hx, _⟩ := hx
      rw [hx, hy, hd]
      exact ⟨by rw [eqGuard_at_iface]; rfl, zOo _ w ht, by simp, by simp, by simp, by simp⟩
    · cases hc
  · rename_i e ht
    injection hk with hk; subst hk
    unfold eqC at hc
    simp only at hc
    split at hc
    · injection hc with hc; subst hc
      rw [zl] at hx hy
      rw [hx, hy, hd]
      exact ⟨by rw [eqGuard_at_slice]; rfl, zOC _ w ht, by simp, by simp, by simp, by simp⟩
    · injection hc with hc; subst hc
      rw [zl] at hx
      rw [zw] at hy
      obtain ⟨p, _, _, _, hy, _⟩ := hy
      rw [hx, hy, hd]
      exact ⟨by rw [eqGuard_at_slice]; rfl, zOT _ w ht, by simp, by simp, by simp, by simp⟩
    · injection hc with hc; subst hc
      rw [zl] at hy
      rw [zw] at hx
      obtain ⟨p, _, _, _, hx, _⟩ := hx
      rw [hx, hy, hd]
      exact ⟨by rw [eqGuard_at_slice]; rfl, zOH _ w ht, by simp, by simp, by simp, by simp⟩
    · cases hc
  · rename_i e e' ht
    injection hk with hk; subst hk
    unfold eqC at hc
    simp only at hc
    split at hc
    · injection hc with hc; subst hc
      rw [zt] at hx hy
      rw [hx, hy, hd]
      exact ⟨by rw [eqGuard_at_map]; rfl, zMo _ w ht, by simp, by simp, by simp, by simp⟩
    · injection hc with hc; subst hc
      rw [zt] at hx
      rw [yY] at hy
      obtain ⟨p, _, hy⟩ := hy
      rw [hx, hy, hd]
      exact ⟨by rw [eqGuard_at_map]; rfl, zMP _ w ht, by simp, by simp, by simp, by simp⟩
    · injection hc with hc; subst hc
      rw [zt] at hy
      rw [yY] at hx
      obtain ⟨p, _, hx⟩ := hx
      rw [hx, hy, hd]
      exact ⟨by rw [eqGuard_at_map]; rfl, zOg _ w ht, by simp, by simp, by simp, by simp⟩
    · cases hc
  · rename_i a1 a2 a3 ht
    injection hk with hk; subst hk
    unfold eqC at hc
    simp only at hc
    split at hc
    · injection hc with hc; subst hc
      rw [yi] at hx hy
      rw [hx, hy, hd]
      exact ⟨by rw [eqGuard_at_nilFunc]; rfl, zOG _ w ht, by simp, by simp, by simp, by simp⟩
    · injection hc with hc; subst hc
      rw [yi] at hx
      rw [yk] at hy
      obtain ⟨_, _, hy, _⟩ := hy
      rw [hx, hy, hd]
      exact ⟨by rw [eqGuard_at_nilFunc]; rfl, zOy _ w ht, by simp, by simp, by simp, by simp⟩
    · injection hc with hc; subst hc
      rw [yi] at hy
      rw [yk] at hx
      obtain ⟨_, _, hx, _⟩ := hx
      rw [hx, hy, hd]
      exact ⟨by rw [eqGuard_at_func]; rfl, zOV _ w ht, by simp, by simp, by simp, by simp⟩
    · cases hc
  · rename_i fs ht
    split at hk
    · cases hk
    · rename_i hg
      rw [Bool.not_eq_true, Bool.or_eq_false_iff] at hg
      cases hf : kG P fs.toList with
      | none => rw [hf] at hk; cases hk
      | some l =>
        rw [hf] at hk
        injection hk with hk; subst hk
        unfold eqC at hc
        simp only at hc
        split at hc
        · rw [yU] at hx hy
          obtain ⟨us, h1, hx⟩ := hx
          obtain ⟨vs, h2, hy⟩ := hy
          have hfo : P.fieldsOf t = fs := by unfold Program.fieldsOf; rw [ht]
          rw [h1, h2, hd]
          refine ⟨run_eqGuard_agg w op t x y us vs hg.1, ?_, by simp, by simp, by simp, by simp⟩
          rw [run_equalIn_struct w (dd + 1) t us vs (by rw [hfo]; exact ht) hg.2, hfo]
          exact zA7 hx hy dd w fs.toList hf hc
        · cases hc
  · cases hk
theorem zPi {t : TypeId} {u v : Value} {b : Bool} (w : World) (he : (Op.equal t u v).run P w = .ok b w) (h1 : ∀ k' a j c, ¬ (u = .int k' a ∧ v = .int j c)) (h2 : ∀ s r, ¬ (u = .string s ∧ v = .string r))
    (h3 : ∀ s c, u ≠ .float s c) (h4 : ∀ s c d, u ≠ .complex s c d) : (binOp .eql t u v).run P w = .ok (.bool b) w ∧ (binOp .neq t u v).run P w = .ok (.bool (!b)) w := by
  have e1 : binOp .eql t u v = (do pure (.bool (← Op.equal t u v))) := by
    unfold binOp
    split <;> first | rfl | exact absurd ⟨rfl, rfl⟩ (h1 _ _ _ _) | exact absurd ⟨rfl, rfl⟩ (h2 _ _) | exact absurd rfl (h3 _ _) | exact absurd rfl (h4 _ _ _) | (simp_all; done)
  have e2 : binOp .neq t u v = (do pure (.bool (!(← Op.equal t u v)))) := by
    unfold binOp
    split <;> first | rfl | exact absurd ⟨rfl, rfl⟩ (h1 _ _ _ _) | exact absurd ⟨rfl, rfl⟩ (h2 _ _) | exact absurd rfl (h3 _ _) | exact absurd rfl (h4 _ _ _) | (simp_all; done)
  rw [e1, e2]
  simp [he]
theorem zMK {neg : Bool} {t : TypeId} {x y : Operand} {k : EqK} {m : TypeId} {c d : zR} (hk : zGW P t = some k) (hx : zJ ψ (aV es tm c) (ρ x)) (hy : zJ ψ (aV es tm d) (ρ y)) :
    zC P ψ h n ρ (.binOp (match neg with | true => .neq | false => .eql) t x y m) ty w (yA P (.eq neg k (xX x || xX y) c d) es tm h n) := by
  show zC P ψ h n ρ _ ty w (match eqC k (xX x || xX y) (aV es tm c) (aV es tm d) with
    | some b => .val (.bool (xor neg b))
    | none => .err 123)
  cases hc : eqC k (xX x || xX y) (aV es tm c) (aV es tm d) with
  | none => exact zA _
  | some b =>
    obtain ⟨h1, h2, h3, h4, h5, h6⟩ := zP3 (match neg with | true => .neq | false => .eql) hk hx hy hc (by cases neg <;> simp) w
    obtain ⟨e1, e2⟩ := zPi w h2 h3 h4 h5 h6
    cases neg with
    | false =>
      refine ⟨.bool b, zP ?_, zH.2 (by cases b <;> rfl)⟩
      have h1 := h1
      simp only at h1
      simp [execOp, h1, e1]
    | true =>
      refine ⟨.bool (!b), zP ?_, zH.2 (by cases b <;> rfl)⟩
      have h1 := h1
      simp only at h1
      simp [execOp, h1, e2]
theorem zLY (op : BinOp) (t : TypeId) (x y : Operand) (m : TypeId) (ha : zo P ψ es tm E ρ [x, y]) :
    zC P ψ h n ρ (.binOp op t x y m) ty w (yA P (za P E (.binOp op t x y m)) es tm h n) := by
  rw [za]
  unfold zKg
  split
  · exact yj (C := zC P ψ h n ρ (.binOp op t x y m) ty w) zA fun c d hc hd => zFU (ha x (by simp) c hc) (ha y (by simp) d hd)
  · exact yj (C := zC P ψ h n ρ (.binOp op t x y m) ty w) zA fun c d hc hd => zFU (ha x (by simp) c hc) (ha y (by simp) d hd)
  · split
    · rename_i k hk
      exact yj (C := zC P ψ h n ρ (.binOp .eql t x y m) ty w) zA fun c d hc hd => zMK (neg := false) hk (ha x (by simp) c hc) (ha y (by simp) d hd)
    · rename_i k hk
      exact yj (C := zC P ψ h n ρ (.binOp .neq t x y m) ty w) zA fun c d hc hd => zMK (neg := true) hk (ha x (by simp) c hc) (ha y (by simp) d hd)
    · exact zA _
end
end Go.Ev

namespace Go.Ev
variable [Sym]
noncomputable section
variable {P : Program} {ψ : Psi} {es : List CV} {tm : Tm} {h : Heap} {n : Key} {ρ : Operand → Value} {E : Env} {ty : TypeId} {w : World}
variable [SymFact P]
theorem zMY (op : UnOp) (t : TypeId) (x : Operand) (ha : zo P ψ es tm E ρ [x]) : zC P ψ h n ρ (.unOp op t x) ty w (yA P (za P E (.unOp op t x)) es tm h n) := by
  refine zg (C := zC P ψ h n ρ (.unOp op t x) ty w) zA fun c hc => ?_
  have hx := ha x (by simp) c hc
  cases op with
  | neg =>
    have main : ∀ k m, ρ x = .int k m → zC P ψ h n ρ (.unOp .neg t x) ty w (.val (mkInt k (yZ k (Int.sub (.ofNat 0) m)))) := by
      intro k m e
      refine ⟨_, zP ?_, yf _ _⟩
      simp only [execOp, e, Op.unary, Op.intArith, yl]
      rfl
    refine vF (C := zC P ψ h n ρ (.unOp .neg t x) ty w) _ _ _ (zA _) (fun m hm => ?_) (fun k m hm => ?_)
    · rw [hm, zU] at hx; exact main _ _ hx
    · rw [hm, zc] at hx; exact main _ _ hx
  | xor =>
    have main : ∀ k m, ρ x = .int k m → zC P ψ h n ρ (.unOp .xor t x) ty w (zDt (zQc k (if k.signed then -1 else k.max) m) 125) := by
      intro k m e
      refine ⟨_, zP ?_, yf _ _⟩
      simp only [execOp, e, Op.unary, Op.intBits, yl, kZ]
      simp only [Sem.run_bind, Sem.run_pure, Result.andThen_ok, BitVec.toNat_xor]
      rfl
    refine vF (C := zC P ψ h n ρ (.unOp .xor t x) ty w) _ _ _ (zA _) (fun m hm => ?_) (fun k m hm => ?_)
    · rw [hm, zU] at hx; exact main _ _ hx
    · rw [hm, zc] at hx; exact main _ _ hx
  | not =>
    refine ki (C := zC P ψ h n ρ (.unOp .not t x) ty w) _ _ _ (zA _) fun b hb => ?_
    rw [hb, zH] at hx
    exact ⟨.bool (!b), zP (by simp [execOp, hx, Op.unary]), zH.2 (by rw [kw])⟩
  | plus => exact zA _
theorem zAL (t : TypeId) (x : Operand) (ha : zo P ψ es tm E ρ [x]) : zC P ψ h n ρ (.makeInterface t x) ty w (yA P (za P E (.makeInterface t x)) es tm h n) := by
  rw [za]
  unfold und
  split
  · exact zA _
  · rename_i d hd ht
    refine zg (C := zC P ψ h n ρ (.makeInterface t x) ty w) zA fun c hc => ⟨.iface t (ρ x), zP ?_, z7.2 ⟨_, rfl, ha x (by simp) c hc⟩⟩
    simp only [execOp, Instr.makeInterface, Sem.run_bind, run_underlying ht, Result.andThen_ok]
    cases d <;> first | rfl | exact absurd ht (hd _)
  · exact zA _
theorem zG0 (fn : Fn) (a b : Array Operand) (ha : zo P ψ es tm E ρ (a.toList ++ b.toList)) : zC P ψ h n ρ (.makeFunc fn a b) ty w (yA P (za P E (.makeFunc fn a b)) es tm h n) := by
  rw [za]
  split
  · rename_i a' b' h1 h2
    refine ⟨.func fn (a.map ρ) (b.map ρ), zP ?_, yk.2 ⟨_, _, rfl, ?_, ?_⟩⟩
    · simp [execOp, Instr.makeFunc]
    · rw [Array.toList_map]; exact ji _ (ha.sub fun y hy => by simp; exact .inl (by simpa using hy)) h1
    · rw [Array.toList_map]; exact ji _ (ha.sub fun y hy => by simp; exact .inr (by simpa using hy)) h2
  · exact zA _
theorem zDS (t : TypeId) (r : Option Operand) : za P E (.makeMap t r) = (match und P t, r with
    | some (.map _ _), none => .mkmap
    | some (.map _ _), some (.const (.int _ _)) => .mkmap
    | _, _ => .bad 28) := rfl
theorem zIr (t : TypeId) (r : Option Operand) (hρ : ∀ v, ρ (.const v) = v) : zC P ψ h n ρ (.makeMap t r) ty w (yA P (za P E (.makeMap t r)) es tm h n) := by
  have main : (∀ v, r.map ρ = some v → ∃ k m, v = .int k m) → (∃ a b, P.underlying t = some (.map a b)) → zC P ψ h n ρ (.makeMap t r) ty w (yA P .mkmap es tm h n) := by
    intro hr ⟨a, b, ht⟩
    refine ⟨_, .map (some w.heap.size), 0, zP ?_, qx _ (.map #[] 0), fun ψ' _ hn => ⟨yY.2 ⟨_, hn, rfl⟩, #[], by simp, xA.nil, wt.id 0⟩, by simp [zEG]⟩
    cases r with
    | none => simp [execOp, Instr.makeMap]
    | some x =>
      obtain ⟨k, m, e⟩ := hr (ρ x) rfl
      simp [execOp, Instr.makeMap, e, run_underlying ht, asInt, asIntOf]
  rw [zDS]
  unfold und
  split
  · rename_i a b ht
    exact main (by simp) ⟨a, b, ht⟩
  · rename_i a b k m ht
    refine main (fun v hv => ?_) ⟨a, b, ht⟩
    simp only [Option.map_some, hρ] at hv
    injection hv with hv
    exact ⟨_, _, hv.symm⟩
  · exact zA _
theorem zIv (x : Operand) (i : Nat) (ha : zo P ψ es tm E ρ [x]) : zC P ψ h n ρ (.extract x i) ty w (yA P (za P E (.extract x i)) es tm h n) := by
  refine zg (C := zC P ψ h n ρ (.extract x i) ty w) zA fun c hc => ?_
  have hx := ha x (by simp) c hc
  refine zEi (C := zC P ψ h n ρ (.extract x i) ty w) _ _ _ (zA _) fun cs hcs => ?_
  refine jH (C := zC P ψ h n ρ (.extract x i) ty w) _ _ (zA _) fun v hv => ?_
  rw [hcs, z6] at hx
  obtain ⟨a, hx, hr⟩ := hx
  rw [k8] at hv
  obtain ⟨y, hy, hr⟩ := hr.get hv
  have hy : a[i]? = some y := by simpa using hy
  exact ⟨y, zP (by simp [execOp, hx, Instr.extract, hy]), hr⟩
theorem zDa {a : Bool} {t : TypeId} {s : Nat} {cs : List CV} {vs : Array Value} {off : Nat} (ha : xg P t = some a) (hs : xV P t = some s) (hr : zS ψ cs vs.toList) (w : World) :
    (a = false → ∀ v, zD8 cs off = some v → ∃ y, (part t vs off).run P w = .ok y w ∧ zJ ψ v y) ∧
    (a = true → ∀ l, uj cs off s = some l → ∃ y, (part t vs off).run P w = .ok y w ∧ zJ ψ (.agg l) y) := by
  constructor
  · rintro rfl v hv
    rw [k8] at hv
    obtain ⟨y, hy, hr⟩ := hr.get hv
    exact ⟨y, xM ha (by simpa using hy) w, hr⟩
  · rintro rfl l hl
    refine ⟨_, zG4 ha hs w, yU.2 ⟨_, rfl, ?_⟩⟩
    obtain ⟨h1, rfl⟩ := zF8 hl
    have : (vs.extract off (off + s)).toList = (vs.toList.drop off).take s := by
      rw [Array.toList_extract, List.extract_eq_take_drop]; simp
    rw [this]
    exact (hr.drop off).take s
theorem zLx (t : TypeId) (x : Operand) (f : Nat) (ha : zo P ψ es tm E ρ [x]) : zC P ψ h n ρ (.field t x f) ty w (yA P (za P E (.field t x f)) es tm h n) := by
  rw [za]
  unfold und
  split
  · rename_i fs ht
    rw [yV]
    split
    · rename_i fd hfd
      split
      · rename_i a s h1 h2
        refine zg (C := zC P ψ h n ρ (.field t x f) ty w) zA fun c hc => ?_
        have hx := ha x (by simp) c hc
        refine vE (C := zC P ψ h n ρ (.field t x f) ty w) _ _ _ (zA _) fun cs hcs => ?_
        rw [hcs, yU] at hx
        obtain ⟨vs, hx, hr⟩ := hx
        have hp := zDa (off := fd.offset) h1 h2 hr w
        have run : ∀ y, (part fd.type vs fd.offset).run P w = .ok y w → (execOp ρ (xS (.field t x f) ty)).run P w = .ok (.value y) w := by
          intro y hy
          have hfd : fs[f]? = some fd := by simpa using hfd
          simp [execOp, Instr.field, run_underlying ht, hfd, hx, asAgg, hy]
        cases a with
        | false =>
          refine jH (C := zC P ψ h n ρ (.field t x f) ty w) _ _ (zA _) fun v hv => ?_
          obtain ⟨y, hy, hv⟩ := hp.1 rfl v hv
          exact ⟨y, zP (run y hy), hv⟩
        | true =>
          refine kI (C := zC P ψ h n ρ (.field t x f) ty w) _ _ (zA _) fun l hl => ?_
          obtain ⟨y, hy, hv⟩ := hp.2 rfl l hl
          exact ⟨y, zP (run y hy), hv⟩
      · exact zA _
    · exact zA _
  · exact zA _
theorem zEM (t : TypeId) (x : Operand) (f : Nat) (ha : zo P ψ es tm E ρ [x]) : zC P ψ h n ρ (.fieldAddr t x f) ty w (yA P (za P E (.fieldAddr t x f)) es tm h n) := by
  rw [za]
  unfold und
  split
  · rename_i fs ht
    rw [yV]
    split
    · rename_i fd hfd
      split
      · rename_i s h1
        refine zg (C := zC P ψ h n ρ (.fieldAddr t x f) ty w) zA fun c hc => ?_
        have hx := ha x (by simp) c hc
        refine yb (C := zC P ψ h n ρ (.fieldAddr t x f) ty w) _ _ _ (zA _) fun b off hv => ?_
        show zC P ψ h n ρ _ ty w (vA _ _)
        rw [zr]
        rw [hv, zj] at hx
        obtain ⟨p, hp, hx⟩ := hx
        have hfd : fs[f]? = some fd := by simpa using hfd
        refine ⟨.pointer (some ⟨p.blk, p.off + (off + fd.offset), none⟩), zP ?_, zj.2 ⟨p, hp, rfl⟩⟩
        simp [execOp, Instr.fieldAt, run_underlying ht, hfd, hx, Instr.sureAddr, fieldPlace, yT h1, xL, Nat.add_assoc]
      · exact zA _
    · exact zA _
  · exact zA _
end
end Go.Ev

namespace Go.Ev
variable [Sym]
noncomputable section
variable {P : Program} {ψ : Psi} {es : List CV} {tm : Tm} {h : Heap} {n : Key} {ρ : Operand → Value} {E : Env} {ty : TypeId} {w : World}
variable [SymFact P]
theorem zL6 (P : Program) [SymFact P] {ψ : Psi} {a : CV} {u : Value} (w : World) (ha : zJ ψ a u) : zJ ψ (zMC a) u := by
  unfold zMC
  split
  · rename_i j
    split
    · rename_i k hk
      split
      · rename_i hs
        unfold zC3 at hs
        split at hs
        · rename_i l r1 r2 hc he1 he2
          injection hs with hs
          obtain ⟨k', m, rfl, _⟩ := (SymFact.ok (P := P)).2 _ _ _ hc ψ u ha
          obtain ⟨_, z1, hz1, c1, hc1, hr1⟩ := (SymFact.ok (P := P)).1 _ _ _ _ he1 ψ 0 _ (.int .i64 k) w ha (zU.2 rfl)
          obtain ⟨_, z2, hz2, c2, hc2, hr2⟩ := (SymFact.ok (P := P)).1 _ _ _ _ he2 ψ 0 _ (.int .i64 k) w ha (zU.2 rfl)
          obtain rfl : c1 = .bool r1 := by simpa using hc1
          obtain rfl : c2 = .bool r2 := by simpa using hc2
          rw [zH.1 hr1] at hz1
          rw [zH.1 hr2] at hz2
          rw [Bool.and_eq_true] at hs
          obtain ⟨rfl, rfl⟩ := hs
          by_cases ej : k' = .i64
          · subst ej
            have hz1 : m ≤ k := by simpa [binOp, Op.intCmp] using hz1
            have hz2 : k ≤ m := by simpa [binOp, Op.intCmp] using hz2
            obtain rfl : m = (k : Int) := by omega
            exact zU.2 rfl
          · simp [binOp, ej] at hz1
        · cases hs
      · exact ha
    · exact ha
  · exact ha
theorem vq {c : CV} {v : Value} (hx : zJ ψ c v) {i : Nat} (hc : c = .nat i ∨ ∃ k, c = .int k (.ofNat i)) : ∃ k, v = .int k (Int.ofNat i) := by
  rcases hc with rfl | ⟨k, rfl⟩
  · exact ⟨_, zU.1 hx⟩
  · exact ⟨_, zc.1 hx⟩
theorem yL {C : OR → Prop} (v : CV) (k : Nat → OR) (e : Nat) (he : C (.err e)) (hk : ∀ i, (v = .nat i ∨ ∃ j, v = .int j (.ofNat i)) → C (k i)) : C (vV v k e) :=
  zJQ v k e he (fun i h => hk i (.inl h)) (fun j i h => hk i (.inr ⟨j, h⟩))
theorem w8 : ∀ {a b : List (Nat × Int)}, uy a b = true → a = b
  | [], [], _ => rfl
  | [], _ :: _, h => by cases h
  | _ :: _, [], h => by cases h
  | (i, x) :: l, (j, y) :: m, h => by
    unfold uy at h
    rw [Bool.and_eq_true, Bool.and_eq_true, zk, decide_eq_true_eq] at h
    rw [yG h.1.1, h.1.2, w8 h.2]
theorem zKw {a b : SE} (h : zOx a b = true) : a = b := by
  unfold zOx at h
  rw [Bool.and_eq_true, Bool.and_eq_true, xB, zk, decide_eq_true_eq, decide_eq_true_eq] at h
  obtain ⟨k1, c1, l1⟩ := a
  obtain ⟨k2, c2, l2⟩ := b
  simp only at h
  rw [h.1.1, h.1.2, w8 h.2]
theorem zEK (t : TypeId) (x i : Operand) (ha : zo P ψ es tm E ρ [x, i]) : zC P ψ h n ρ (.indexAddr t x i) ty w (yA P (za P E (.indexAddr t x i)) es tm h n) := by
  rw [za]
  unfold und
  split
  · rename_i len e ht
    split
    · rename_i s hs
      refine yj (C := zC P ψ h n ρ (.indexAddr t x i) ty w) zA fun c d hc hd => ?_
      have hx := ha x (by simp) c hc
      have hi := ha i (by simp) d hd
      refine yb (C := zC P ψ h n ρ (.indexAddr t x i) ty w) _ _ _ (zA _) fun b off hv => ?_
      refine yL (C := zC P ψ h n ρ (.indexAddr t x i) ty w) _ _ _ (zA _) fun j hj => ?_
      refine zE (C := zC P ψ h n ρ (.indexAddr t x i) ty w) _ _ _ (zA _) fun hlt => ?_
      rw [zr]
      have hlt : j < len := zM hlt
      obtain ⟨k, hi⟩ := vq hi hj
      rw [hv, zj] at hx
      obtain ⟨p, hp, hx⟩ := hx
      refine ⟨.pointer (some ⟨p.blk, p.off + (off + j * s), none⟩), zP ?_, zj.2 ⟨p, hp, rfl⟩⟩
      have h1 : (0 : Int) ≤ Int.ofNat j ∧ Int.ofNat j < (len : Int) := by simp; omega
      simp [execOp, Instr.indexAt, hi, hx, asIntOf, run_underlying ht, Instr.sureAddr, hlt, yT hs, xL, Nat.add_assoc]
    · exact zA _
  · rename_i e ht
    split
    · rename_i s hs
      refine yj (C := zC P ψ h n ρ (.indexAddr t x i) ty w) zA fun c d hc hd => ?_
      have hx := ha x (by simp) c hc
      have hi := ha i (by simp) d hd
      refine w4 (C := zC P ψ h n ρ (.indexAddr t x i) ty w) _ _ _ ?_ fun b s0 e0 n0 hv => ?_
      case refine_2 =>
        rw [hv, qV] at hx
        obtain ⟨_, base, len, cap, iv, hx, hn, he, hoff⟩ := hx
        unfold zMu
        split
        · rename_i j hj
          split
          · rename_i hq
            rw [Bool.and_eq_true] at hq
            obtain rfl := zKw hq.1
            obtain rfl := yG hq.2
            split
            · rename_i h1 h2
              obtain ⟨_, z1, hz1, c1, hc1, hr1⟩ := (SymFact.ok (P := P)).1 _ _ _ _ h1 ψ 0 (.int .i64 0) (.int .i64 iv) w (zU.2 rfl) (yh.2 he.symm)
              obtain ⟨_, z2, hz2, c2, hc2, hr2⟩ := (SymFact.ok (P := P)).1 _ _ _ _ h2 ψ 0 (.int .i64 iv) (.int .i64 len) w (yh.2 he.symm) (yh.2 hn.symm)
              obtain rfl : c1 = .bool true := by simpa using hc1
              obtain rfl : c2 = .bool true := by simpa using hc2
              rw [zH.1 hr1] at hz1
              rw [zH.1 hr2] at hz2
              have g1 : 0 ≤ iv := by simpa [binOp, Op.intCmp] using hz1
              have g2 : iv < len := by simpa [binOp, Op.intCmp] using hz2
              rw [hj, yh, he] at hi
              obtain ⟨m, rfl⟩ : ∃ m : Nat, iv = (m : Int) := ⟨iv.toNat, by omega⟩
              have hm : m < len := by omega
              obtain ⟨p, x', hp, hbase, hof2⟩ := hoff (by omega) g2
              subst hbase
              rw [Int.toNat_natCast] at hof2
              refine ⟨.pointer (some ⟨p.blk, p.off + 0, none⟩), zP ?_, zj.2 ⟨p, hp, rfl⟩⟩
              simp [execOp, Instr.indexAt, hi, hx, asIntOf, run_underlying ht, hm, yT hs, xL]
              exact hof2.symm
            · exact zA _
          · exact zA _
        · exact zA _
      refine yB (C := zC P ψ h n ρ (.indexAddr t x i) ty w) _ _ _ _ (zA _) (fun _ => zA _) fun b off len cap s' ex hv => ?_
      refine yL (C := zC P ψ h n ρ (.indexAddr t x i) ty w) _ _ _ (zA _) fun j hj => ?_
      refine zE (C := zC P ψ h n ρ (.indexAddr t x i) ty w) _ _ _ (zA _) fun hlt => ?_
      rw [zr]
      have hlt : j < len := zM hlt
      obtain ⟨k, hi⟩ := vq (zL6 P w hi) hj
      rw [hv, zw] at hx
      obtain ⟨p, x', cap', hp, hx, _, hl, _, hor⟩ := hx
      have hx' : x' = p.off + off := by
        rcases hor with h | h
        · exact h.1
        · omega
      subst hx'
      refine ⟨.pointer (some ⟨p.blk, p.off + (off + j * s), none⟩), zP ?_, zj.2 ⟨p, hp, rfl⟩⟩
      simp [execOp, Instr.indexAt, hi, hx, asIntOf, run_underlying ht, hlt, yT hs, xL, Nat.add_assoc]
    · exact zA _
  · exact zA _
theorem zMd (t : TypeId) (x i : Operand) (ha : zo P ψ es tm E ρ [x, i]) : zC P ψ h n ρ (.index t x i) ty w (yA P (za P E (.index t x i)) es tm h n) := by
  rw [za]
  unfold und
  split
  · rename_i len e ht
    split
    · rename_i s a hs hag
      refine yj (C := zC P ψ h n ρ (.index t x i) ty w) zA fun c d hc hd => ?_
      have hx := ha x (by simp) c hc
      have hi := ha i (by simp) d hd
      refine vE (C := zC P ψ h n ρ (.index t x i) ty w) _ _ _ (zA _) fun cs hcs => ?_
      refine yL (C := zC P ψ h n ρ (.index t x i) ty w) _ _ _ (zA _) fun j hj => ?_
      refine zE (C := zC P ψ h n ρ (.index t x i) ty w) _ _ _ (zA _) fun hlt => ?_
      have hlt : j < len := zM hlt
      obtain ⟨k, hi⟩ := vq hi hj
      rw [hcs, yU] at hx
      obtain ⟨vs, hx, hr⟩ := hx
      have hp := zDa (off := j * s) hag hs hr w
      have run : ∀ y, (part e vs (j * s)).run P w = .ok y w → (execOp ρ (xS (.index t x i) ty)).run P w = .ok (.value y) w := by
        intro y hy
        simp [execOp, Instr.index, hi, hx, asIntOf, run_underlying ht, hlt, yT hs, hy]
      cases a with
      | false =>
        refine jH (C := zC P ψ h n ρ (.index t x i) ty w) _ _ (zA _) fun v hv => ?_
        obtain ⟨y, hy, hv⟩ := hp.1 rfl v hv
        exact ⟨y, zP (run y hy), hv⟩
      | true =>
        refine kI (C := zC P ψ h n ρ (.index t x i) ty w) _ _ (zA _) fun l hl => ?_
        obtain ⟨y, hy, hv⟩ := hp.2 rfl l hl
        exact ⟨y, zP (run y hy), hv⟩
    · exact zA _
  · rename_i ht
    refine yj (C := zC P ψ h n ρ (.index t x i) ty w) zA fun c d hc hd => ?_
    have hx := ha x (by simp) c hc
    have hi := ha i (by simp) d hd
    refine zx (C := zC P ψ h n ρ (.index t x i) ty w) _ _ _ (zA _) fun l hl => ?_
    refine yL (C := zC P ψ h n ρ (.index t x i) ty w) _ _ _ (zA _) fun j hj => ?_
    refine wY (C := zC P ψ h n ρ (.index t x i) ty w) _ _ _ (zA _) fun q hq => ?_
    obtain ⟨k, hi⟩ := vq hi hj
    rw [hl, zh] at hx
    obtain ⟨s, hx, rfl⟩ := hx
    rw [zGU] at hq
    unfold zm at hq
    rw [List.getElem?_map] at hq
    cases hg : s.data.toList[j]? with
    | none => rw [hg] at hq; cases hq
    | some u =>
      rw [hg] at hq
      injection hq with hq
      subst hq
      have hs : s[j]? = some u := by
        have hj : j < s.size := by
          rcases Nat.lt_or_ge j s.data.toList.length with h | h
          · exact h
          · rw [List.getElem?_eq_none h] at hg; cases hg
        rw [getElem?_pos s j hj]
        have := hg
        rw [List.getElem?_eq_getElem (show j < s.data.toList.length from hj)] at this
        exact this
      refine ⟨.int .u8 (u.toNat : Int), zP ?_, zc.2 rfl⟩
      simp [execOp, Instr.index, hi, hx, asIntOf, run_underlying ht, hs]
  · exact zA _
def zFL (ψ : Psi) (es : List CV) (tm : Tm) (ρ : Operand → Value) (c : Option zR) (x : Option Operand) : Prop := match c, x with
  | none, none => True
  | some c, some x => zJ ψ (aV es tm c) (ρ x)
  | _, _ => False
theorem zEr {x : Option Operand} {c : Option zR} (hc : zHp P E x = some c) (ha : zo P ψ es tm E ρ x.toList) : zFL ψ es tm ρ c x := by
  unfold zHp at hc
  split at hc
  · injection hc with hc; subst hc; exact trivial
  · rename_i y
    cases h1 : zb P E y with
    | none => rw [h1] at hc; cases hc
    | some d => rw [h1] at hc; injection hc with hc; subst hc; exact ha y (by simp) d h1
theorem jO {v : Value} {k : IntKind} {i y : Nat} {code : BoundsCode} (hv : v = .int k (Int.ofNat i)) (h : i ≤ y) (w : World) : (Instr.sliceBound v y code).run P w = .ok i w := by
  subst hv
  have := run_sliceBound (P := P) (w := w) k (Int.ofNat i) y code (by simp) (by simpa using h)
  simpa using this
theorem qk {C : OR → Prop} (c : Option zR) (x : Option Operand) (hok : zFL ψ es tm ρ c x) (y d : Nat) (k : Nat → OR) (e : Nat) (he : C (.err e))
    (hn : c = none → x = none → C (k d)) (hs : ∀ i o, c ≠ none → x = some o → i ≤ y → (∃ j, ρ o = .int j (Int.ofNat i)) → C (k i)) : C (zAr es tm c y d k e) := by
  cases c with
  | none => cases x with
    | none => exact hn rfl rfl
    | some x => exact hok.elim
  | some c => cases x with
    | none => exact hok.elim
    | some x =>
      refine yL (C := C) _ _ _ he fun i hi => ?_
      refine zE (C := C) _ _ _ he fun hle => ?_
      exact hs i x (by simp) rfl (zM hle) (vq hok hi)
theorem jy {C : OR → Prop} (isSl : Bool) (len cap cap' : Nat) (lo hi mx : Option zR) (xl xh xm : Option Operand) (h1 : zFL ψ es tm ρ lo xl) (h2 : zFL ψ es tm ρ hi xh)
    (h3 : zFL ψ es tm ρ mx xm) (hcap : cap ≤ cap') (k : Nat → Nat → Nat → OR) (e : Nat) (he : C (.err e)) (hno : xm.isSome = true → xh.isSome = true)
    (hk : ∀ l h m m', (∀ w, (Instr.sliceBounds isSl len cap' (xl.map ρ) (xh.map ρ) (xm.map ρ)).run P w = .ok (l, h, m') w) → m ≤ m' → m' ≤ cap' → (mx ≠ none → m' = m) →
      (mx = none → m = cap ∧ m' = cap') → (h = len ∨ h ≤ m') → C (k l h m)) : C (qZ es tm len cap lo hi mx k e) := by
  refine qk (C := C) mx xm h3 _ _ _ _ he (fun hm hxm => ?_) (fun m om hm hxm hmle ⟨jm, hjm⟩ => ?_)
  · subst hm hxm
    refine qk (C := C) hi xh h2 _ _ _ _ he (fun hh hxh => ?_) (fun h oh hh hxh hhle ⟨jh, hjh⟩ => ?_)
    · subst hh hxh
      refine qk (C := C) lo xl h1 _ _ _ _ he (fun hl hxl => ?_) (fun l ol hl hxl hlle ⟨jl, hjl⟩ => ?_)
      · subst hl hxl
        exact hk _ _ _ cap' (fun w => by simp [Instr.sliceBounds]) hcap (Nat.le_refl _) (by simp) (by simp) (.inl rfl)
      · subst hxl
        exact hk _ _ _ cap' (fun w => by simp [Instr.sliceBounds, jO hjl hlle]) hcap (Nat.le_refl _) (by simp) (by simp) (.inl rfl)
    · subst hxh
      have hr := fun (w : World) (code : BoundsCode) => jO (P := P) (code := code) hjh (Nat.le_trans hhle hcap) w
      refine qk (C := C) lo xl h1 _ _ _ _ he (fun hl hxl => ?_) (fun l ol hl hxl hlle ⟨jl, hjl⟩ => ?_)
      · subst hl hxl
        exact hk _ _ _ cap' (fun w => by simp [Instr.sliceBounds, hr]) hcap (Nat.le_refl _) (by simp) (by simp) (.inr (Nat.le_trans hhle hcap))
      · subst hxl
        exact hk _ _ _ cap' (fun w => by simp [Instr.sliceBounds, hr, jO hjl hlle]) hcap (Nat.le_refl _) (by simp) (by simp) (.inr (Nat.le_trans hhle hcap))
  · subst hxm
    refine qk (C := C) hi xh h2 _ _ _ _ he (fun hh hxh => ?_) (fun h oh hh hxh hhle ⟨jh, hjh⟩ => ?_)
    · subst hxh; exact absurd (hno rfl) (by simp)
    · subst hxh
      have hr := fun (w : World) (code : BoundsCode) => jO (P := P) (code := code) hjh hhle w
      have hr' := fun (w : World) (code : BoundsCode) => jO (P := P) (code := code) hjm (Nat.le_trans hmle hcap) w
      refine qk (C := C) lo xl h1 _ _ _ _ he (fun hl hxl => ?_) (fun l ol hl hxl hlle ⟨jl, hjl⟩ => ?_)
      · subst hl hxl
        exact hk _ _ _ m (fun w => by simp [Instr.sliceBounds, hr, hr']) (Nat.le_refl _) (Nat.le_trans hmle hcap) (by simp) (fun e => absurd e hm) (.inr hhle)
      · subst hxl
        exact hk _ _ _ m (fun w => by simp [Instr.sliceBounds, hr, hr', jO hjl hlle]) (Nat.le_refl _) (Nat.le_trans hmle hcap) (by simp) (fun e => absurd e hm) (.inr hhle)
theorem zLb (t : TypeId) (x : Operand) (xl xh xm : Option Operand) (ha : zo P ψ es tm E ρ ([x] ++ xl.toList ++ xh.toList ++ xm.toList)) :
    zC P ψ h n ρ (.slice t x xl xh xm) ty w (yA P (za P E (.slice t x xl xh xm)) es tm h n) := by
  rw [za]
  unfold zE7 und
  split
  · exact zA _
  rename_i hno
  have hno : xm.isSome = true → xh.isSome = true := by
    intro h1; cases xh <;> simp_all
  split
  · rename_i c lo hi mx hc hlo hhi hmx
    have hx := ha x (by simp) c hc
    have o1 := zEr hlo (ha.sub fun y hy => by simp at hy ⊢; exact .inr (.inl hy))
    have o2 := zEr hhi (ha.sub fun y hy => by simp at hy ⊢; exact .inr (.inr (.inl hy)))
    have o3 := zEr hmx (ha.sub fun y hy => by simp at hy ⊢; exact .inr (.inr (.inr hy)))
    split
    · rename_i k e ht
      split
      · rename_i s hs
        refine yb (C := zC P ψ h n ρ (.slice t x xl xh xm) ty w) _ _ _ (zA _) fun b off hv => ?_
        rw [hv, zj] at hx
        obtain ⟨p, hp, hx⟩ := hx
        refine jy (C := zC P ψ h n ρ (.slice t x xl xh xm) ty w) (P := P) false k k k lo hi mx xl xh xm o1 o2 o3 (Nat.le_refl _) _ _ (zA _) hno fun l hh m m' hrun hm hm' hmx1 hmx2 hhm => ?_
        refine zE (C := zC P ψ h n ρ (.slice t x xl xh xm) ty w) _ _ _ (zA _) fun hok => ?_
        rw [Bool.and_eq_true] at hok
        have g1 := zM hok.1
        have g2 := zM hok.2
        have hmm : m' = m := by
          cases mx with
          | none => have := hmx2 rfl; omega
          | some _ => exact hmx1 (by simp)
        rw [zr, zr, zr]
        refine ⟨.slice (some (if m' = l then ⟨p.blk, p.off + off, none⟩ else ⟨p.blk, p.off + off + l * (s + 1), none⟩)) (hh - l) (m' - l), zP ?_, ?_⟩
        · simp only [execOp, Instr.sliceAt, Sem.run_bind, run_underlying ht, Result.andThen_ok, hx, Instr.sureAddr, Sem.run_pure, hrun, yT hs, xL]
        · refine zw.2 ⟨p, if m' = l then p.off + off else p.off + off + l * (s + 1), m' - l, hp, ?_, ?_, ?_, ?_, ?_⟩
          · split <;> rfl
          · subst hmm; exact Nat.le_refl _
          · show hh - l ≤ m' - l; omega
          · intro _; subst hmm; rfl
          · by_cases e : m' = l
            · right; omega
            · left
              refine ⟨by rw [if_neg e]; show p.off + off + l * (s + 1) = p.off + (off + l * (s + 1)); omega, by simp⟩
      · exact zA _
    · rename_i e ht
      split
      · rename_i s hs
        refine yB (C := zC P ψ h n ρ (.slice t x xl xh xm) ty w) _ _ _ _ (zA _) (fun hv => ?_) fun b off len cap s' ex hv => ?_
        · rw [hv, zl] at hx
          refine jy (C := zC P ψ h n ρ (.slice t x xl xh xm) ty w) (P := P) true 0 0 0 lo hi mx xl xh xm o1 o2 o3 (Nat.le_refl _) _ _ (zA _) hno fun l hh m m' hrun hm hm' hmx1 hmx2 hhm => ?_
          refine ⟨.slice (if m' = l then none else none) (hh - l) (m' - l), zP ?_, zl.2 ?_⟩
          · simp only [execOp, Instr.sliceAt, Sem.run_bind, run_underlying ht, Result.andThen_ok, hx, Instr.slice, hrun, yT hs, Option.map_none, Sem.run_pure]
          · have e1 : m' - l = 0 := by omega
            have e2 : hh - l = 0 := by omega
            rw [e1, e2, ite_self]
        · refine zE (C := zC P ψ h n ρ (.slice t x xl xh xm) ty w) _ _ _ (zA _) fun hs' => ?_
          have hs' : s' = s + 1 := yG hs'
          subst hs'
          rw [hv, zw] at hx
          obtain ⟨p, x', cap', hp, hx, hcap, hlen, hex, hor⟩ := hx
          have hmain : zC P ψ h n ρ (.slice t x xl xh xm) ty w (qZ es tm len cap lo hi mx (zK1 b off (s + 1) (ex || mx.isSome)) 146) := by
            refine jy (C := zC P ψ h n ρ (.slice t x xl xh xm) ty w) (P := P) true len cap cap' lo hi mx xl xh xm o1 o2 o3 hcap _ _ (zA _) hno fun l hh m m' hrun hm hm' hmx1 hmx2 hhm => ?_
            refine zE (C := zC P ψ h n ρ (.slice t x xl xh xm) ty w) _ _ _ (zA _) fun hok => ?_
            rw [Bool.and_eq_true] at hok
            have g1 := zM hok.1
            have g2 := zM hok.2
            rw [zr, zr, zr]
            refine ⟨.slice (some (if m' = l then ⟨p.blk, x', none⟩ else ⟨p.blk, x' + l * (s + 1), none⟩)) (hh - l) (m' - l), zP ?_, ?_⟩
            · simp only [execOp, Instr.sliceAt, Sem.run_bind, run_underlying ht, Result.andThen_ok, hx, Instr.slice, hrun, yT hs, xL, Option.map_some, Sem.run_pure]
              by_cases e : m' = l
              · rw [if_pos e, if_pos e]
              · rw [if_neg e, if_neg e]
            · refine zw.2 ⟨p, if m' = l then x' else x' + l * (s + 1), m' - l, hp, ?_, ?_, ?_, ?_, ?_⟩
              · split <;> rfl
              · show m - l ≤ m' - l; omega
              · show hh - l ≤ m' - l; omega
              · intro hx2
                rw [Bool.or_eq_true] at hx2
                cases mx with
                | none =>
                  have h2 := hmx2 rfl
                  have := hex (by simpa using hx2)
                  show m' - l = m - l; omega
                | some _ => have := hmx1 (by simp); show m' - l = m - l; omega
              · by_cases e : m' = l
                · right; omega
                · rcases hor with ⟨e1, e2⟩ | e0
                  · left
                    rw [if_neg e]
                    refine ⟨by show x' + l * (s + 1) = p.off + (off + l * (s + 1)); omega, fun hf => ?_⟩
                    rw [Bool.or_eq_false_iff] at hf
                    have h3 := e2 hf.1
                    have hm2 : m' = cap' := by
                      cases mx with
                      | none => exact (hmx2 rfl).2
                      | some _ => have := hf.2; simp at this
                    have : l * (s + 1) + (m' - l) * (s + 1) = m' * (s + 1) := by rw [← Nat.add_mul]; congr 1; omega
                    rw [← hm2] at h3
                    omega
                  · right; omega
          unfold ub
          split
          · rename_i y
            have o2' := o2
            split
            · rename_i m hm
              split
              · rename_i hlt0 _
                refine yF (C := zC P ψ h n ρ (.slice t x xl xh xm) ty w) _ _ _ (zA _) fun vs hvs => ?_
                refine zE (C := zC P ψ h n ρ (.slice t x xl xh xm) ty w) _ _ _ (zA _) fun hle => ?_
                have hle : off + m * (s + 1) ≤ ui vs := zM hle
                rw [zr]
                intro hrel
                have hcells : yR ψ w p vs := hrel b _ p hvs hp
                have hsz : p.off + vs.length ≤ p.sz := by
                  obtain ⟨_, _, _, _, _, h3, _⟩ := hcells
                  exact h3
                have hll := zBo vs
                have e : x' = p.off + off ∧ x' + cap' * (s + 1) = p.sz := by
                  rcases hor with ⟨e, h⟩ | e
                  · exact ⟨e, h rfl⟩
                  · omega
                have hm' : m ≤ cap' := by
                  rcases Nat.lt_or_ge cap' m with h | h
                  · have := Nat.mul_le_mul_right (s + 1) h
                    rw [Nat.succ_mul] at this
                    omega
                  · exact h
                have hxl : xl = none := by cases xl with
                  | none => rfl
                  | some y => exact o1.elim
                have hxm : xm = none := by cases xm with
                  | none => rfl
                  | some y => exact o3.elim
                subst hxl hxm
                obtain ⟨z, rfl⟩ : ∃ z, xh = some z := by cases xh with
                  | none => exact o2.elim
                  | some z => exact ⟨z, rfl⟩
                have hz : ρ z = .int .i64 (Int.ofNat m) := by
                  have := (show zJ ψ (aV es tm y) (ρ z) from o2')
                  rw [hm, zU] at this
                  exact this
                have hbr := fun (w : World) (code : BoundsCode) => jO (P := P) (code := code) hz hm' w
                refine ⟨.slice (some ⟨p.blk, x', none⟩) m cap', zP ?_, zw.2 ⟨p, x', cap', hp, rfl, hm', hm', by simp, .inl ⟨e.1, fun _ => e.2⟩⟩⟩
                have hc0 : cap' ≠ 0 := by omega
                simp [execOp, Instr.sliceAt, run_underlying ht, hx, Instr.slice, Instr.sliceBounds, hbr, yT hs, xL]
              · exact hmain
            · exact hmain
          · exact hmain
      · exact zA _
    · rename_i ht
      split
      · refine zx (C := zC P ψ h n ρ (.slice t x xl xh _) ty w) _ _ _ (zA _) fun q hq => ?_
        rw [zr]
        rw [hq, zh] at hx
        obtain ⟨b, hx, rfl⟩ := hx
        rw [vN, y7]
        have hxm : xm = none := by cases xm with
          | none => rfl
          | some y => exact absurd o3 (by simp [zFL])
        subst hxm
        refine jy (C := zC P ψ h n ρ (.slice t x xl xh none) ty w) (P := P) false b.size b.size b.size lo hi none xl xh none o1 o2 trivial (Nat.le_refl _) _ _ (zA _) hno fun l hh m m' hrun hm hm' hmx1 hmx2 hhm => ?_
        refine zE (C := zC P ψ h n ρ (.slice t x xl xh none) ty w) _ _ _ (zA _) fun hok => ?_
        have hok := zM hok
        refine zFQ (C := zC P ψ h n ρ (.slice t x xl xh none) ty w) _ _ (zA _) fun r hr => ?_
        refine ⟨.string (b.extract l hh), zP ?_, zh.2 ⟨_, rfl, ?_⟩⟩
        · simp only [execOp, Instr.sliceAt, Sem.run_bind, run_underlying ht, Result.andThen_ok, hx, Instr.slice, Option.map_none, Option.isSome_none, Bool.false_eq_true, if_false, hrun, Sem.run_pure]
          have hrun' := hrun w
          simp only [Option.map_none] at hrun'
          simp [hrun']
        · obtain ⟨_, rfl⟩ := zLm hr
          unfold zm
          rw [ByteArray.data_extract, Array.toList_extract, List.extract_eq_take_drop, List.map_take, List.map_drop]
          rfl
      · exact zA _
    · exact zA _
  · exact zA _
end
end Go.Ev

namespace Go.Ev
variable [Sym]
noncomputable section
variable {P : Program} {ψ : Psi} {es : List CV} {tm : Tm} {h : Heap} {n : Key} {ρ : Operand → Value} {E : Env} {ty : TypeId} {w : World}
variable [SymFact P]
theorem qO {s d : TypeId} {x : Operand} {v : Value} {w' : World} (hr : (convert s d (ρ x)).run P w = .ok v w') : (execOp ρ (xS (.convert s d x) ty)).run P w = .ok (.value v) w' := by
  simp only [execOp, Sem.run_bind, hr, Result.andThen_ok]; rfl
theorem vL (l : List Nat) : wV l = l.map fun b => CV.int .u8 (.ofNat b) := by
  induction l with
  | nil => rfl
  | cons x l ih => show _ :: wV l = _; rw [ih]; rfl
theorem zFT (s : ByteArray) : zS ψ (wV (zm s)) (s.data.map fun b => Value.int .u8 b.toNat).toList := by
  rw [vL]
  unfold zm
  rw [Array.toList_map]
  induction s.data.toList with
  | nil => exact zL.2 rfl
  | cons x l ih => exact zT.2 ⟨zc.2 rfl, ih⟩
theorem zFn {B sz : Nat} {arr : Array Value} {e : TypeId} {fz : Nat × Nat} (hb : w.heap[B]? = some (.cells arr e fz)) (hsz : arr.size = sz) (hfz : fz.1 = fz.2 ∨ sz ≤ fz.1) :
    ∃ fz' : Nat × Nat, w.freeze ⟨B, sz, none⟩ 1 = w.upB B (.cells arr e fz') ∧ (fz'.1 = fz'.2 ∨ sz ≤ fz'.1) := by
  obtain ⟨lo, hi⟩ := fz
  refine ⟨if lo == hi then (sz, sz + 1) else (min lo sz, max hi (sz + 1)), ?_, ?_⟩
  · unfold World.freeze World.upB
    simp only [Nat.one_ne_zero, if_false]
    congr 1
    apply Array.ext_getElem?
    intro i
    rw [Array.getElem?_modify, Array.getElem?_setIfInBounds]
    by_cases hi : B = i
    · subst hi
      have hlt : B < w.heap.size := by
        rcases Nat.lt_or_ge B w.heap.size with h | h
        · exact h
        · rw [Array.getElem?_eq_none h] at hb; cases hb
      rw [if_pos rfl, if_pos rfl, if_pos hlt, hb]
      rfl
    · rw [if_neg hi, if_neg hi]
  · simp only at hfz
    split
    · right; simp
    · rename_i hne
      rcases hfz with h | h
      · exact absurd (by simpa using h) hne
      · right; simp; omega
theorem zAI {B off sz : Nat} {arr : Array Value} {e : TypeId} {fz : Nat × Nat} (hb : w.heap[B]? = some (.cells arr e fz)) (hsz : arr.size = sz) :
    (markStringish ⟨B, off, none⟩).run P w = .ok () (w.freeze ⟨B, sz, none⟩ 1) := by
  have : w.shape? B = some (e, sz) := by unfold World.shape?; rw [hb, ← hsz]
  simp [markStringish, this]
theorem vR : ∀ {l : List CV} {r : List Nat}, jv l = some r → l = r.map (fun b => CV.int .u8 (.ofNat b)) ∧ ∀ b ∈ r, b ≤ 255
  | [], r, hr => by injection hr with hr; subst hr; exact ⟨rfl, by simp⟩
  | c :: l, r, hr => by
    have hr' : Option.rec (motive := fun _ => Option (List Nat) → Option (List Nat)) (fun _ => none) (fun b r => zJ0 b r) (kv c) (jv l) = some r := hr
    cases h1 : kv c with
    | none => rw [h1] at hr'; cases hr'
    | some b => cases h2 : jv l with
      | none => rw [h1, h2] at hr'; cases hr'
      | some q =>
        rw [h1, h2] at hr'
        injection hr' with hr'; subst hr'
        obtain ⟨rfl, h3⟩ := vR h2
        unfold kv at h1
        split at h1
        · split at h1
          · rename_i hle
            injection h1 with h1; subst h1
            exact ⟨rfl, by simp; exact ⟨zM hle, h3⟩⟩
          · cases h1
        · cases h1
theorem uG : ∀ (r : List Nat) (s : ByteArray), (∀ b ∈ r, b ≤ 255) → zm ((r.map Int.ofNat).foldl (fun r n => r.push (UInt8.ofNat n.toNat)) s) = zm s ++ r
  | [], s, _ => by simp
  | b :: r, s, hb => by
    rw [List.map_cons, List.foldl_cons, uG r _ fun c hc => hb c (by simp [hc])]
    have hb := hb b (by simp)
    have : zm (s.push (UInt8.ofNat (Int.ofNat b).toNat)) = zm s ++ [b] := by
      unfold zm
      show (s.data.push _).toList.map _ = _
      rw [Array.toList_push, List.map_append]
      simp
      omega
    rw [this]; simp
theorem zHo (P : Program) [SymFact P] {c : CV} {x : Value} {w : World} (hb : zGs c = true) (hx : zJ ψ c x) : ∃ n : Nat, x = .int .u8 (Int.ofNat n) ∧ n ≤ 255 := by
  unfold zGs at hb
  split at hb
  · rename_i k m
    rw [Bool.and_eq_true, xB, decide_eq_true_eq] at hb
    obtain ⟨rfl, hb⟩ := hb
    exact ⟨m, zc.1 hx, zM hb⟩
  · rename_i e
    rw [Bool.and_eq_true, xB, decide_eq_true_eq] at hb
    obtain ⟨hk, hb⟩ := hb
    split at hb
    · rename_i h1 h2
      have hu : x = Sym.val e := yh.1 hx
      obtain ⟨_, z1, hz1, c1, hc1, hr1⟩ := (SymFact.ok (P := P)).1 _ _ _ _ h1 ψ 0 x (.int .u8 (.ofNat 255)) w hx (zc.2 rfl)
      obtain ⟨_, z2, hz2, c2, hc2, hr2⟩ := (SymFact.ok (P := P)).1 _ _ _ _ h2 ψ 0 x (.int .u8 (.ofNat 0)) w hx (zc.2 rfl)
      obtain rfl : c1 = .bool true := by simpa using hc1
      obtain rfl : c2 = .bool true := by simpa using hc2
      rw [zH.1 hr1] at hz1
      rw [zH.1 hr2] at hz2
      cases x with
      | int j m =>
        by_cases ej : j = .u8
        · subst ej
          have g1 : m ≤ 255 := by simpa [binOp, Op.intCmp] using hz1
          have g2 : 0 ≤ m := by simpa [binOp, Op.intCmp] using hz2
          exact ⟨m.toNat, by rw [Int.ofNat_eq_natCast, Int.toNat_of_nonneg g2], by omega⟩
        · simp [binOp, ej] at hz1
      | _ => simp [binOp] at hz1
    · cases hb
  · cases hb
theorem zAR (P : Program) [SymFact P] {w : World} : ∀ {cs : List CV} {xs : List Value}, zAP cs = true → zS ψ cs xs → ∃ r : List Nat, xs = (r.map Int.ofNat).map (Value.int .u8) ∧ ∀ n ∈ r, n ≤ 255
  | [], xs, _, hx => by
    rw [zL] at hx
    subst hx
    exact ⟨[], rfl, by simp⟩
  | c :: cs, xs, hb, hx => by
    unfold zAP at hb
    rw [Bool.and_eq_true] at hb
    obtain ⟨v, q, rfl, h1, h2⟩ := zX.1 hx
    obtain ⟨n, rfl, hn⟩ := zHo P (w := w) hb.1 h1
    obtain ⟨r, rfl, hr⟩ := zAR P (w := w) hb.2 h2
    exact ⟨n :: r, rfl, fun m hm => by
      rcases List.mem_cons.1 hm with rfl | hm
      · exact hn
      · exact hr m hm⟩
theorem zCb : ∀ {r : List Nat} {l : List Value}, zS ψ (r.map (fun b => CV.int .u8 (.ofNat b))) l → l = (r.map Int.ofNat).map (Value.int .u8)
  | [], l, h => zL.1 h
  | b :: r, l, h => by
    obtain ⟨v, q, rfl, h1, h2⟩ := zX.1 h
    rw [zc.1 h1, zCb h2]; rfl
theorem zIF (s d : TypeId) (x : Operand) (ha : zo P ψ es tm E ρ [x]) : zC P ψ h n ρ (.convert s d x) ty w (yA P (za P E (.convert s d x)) es tm h n) := by
  rw [za]
  unfold zIC und
  split
  · rename_i k0 k hs hd
    refine zg (C := zC P ψ h n ρ (.convert s d x) ty w) zA fun c hc => ?_
    have hx := ha x (by simp) c hc
    have run : ∀ j a, ρ x = .int j a → (convert s d (ρ x)).run P w = .ok (.int k (k.wrap a)) w := by
      intro j a e
      rw [e]; simp [convert, run_underlying hs, run_underlying hd, Conv.intToInt]
    show zC P ψ h n ρ (.convert s d x) ty w (zEp k (aV es tm c))
    unfold zEp
    split
    · cases hb : Sym.cv k (aV es tm c) with
      | none => exact zA _
      | some l =>
        obtain ⟨j, a, e, c', h3, h4⟩ := (SymFact.ok (P := P)).2 k _ l hb ψ _ hx
        exact zGi (zP (qO (run j a e))) (zIl rfl h3 h4)
    refine jE (C := zC P ψ h n ρ (.convert s d x) ty w) _ _ _ _ (zA _) (fun b hv => ?_) (fun j b hv => ?_) (fun j hv => ?_)
    · rw [hv, zU] at hx
      exact ⟨_, zP (qO (run _ _ hx)), by rw [yl]; exact yf _ _⟩
    · rw [hv, zc] at hx
      exact ⟨_, zP (qO (run _ _ hx)), by rw [yl]; exact yf _ _⟩
    · rw [hv, yC] at hx
      obtain ⟨b, hx⟩ := hx
      exact ⟨_, zP (qO (run _ _ hx)), yC.2 ⟨_, rfl⟩⟩
  · rename_i hs hd
    refine zg (C := zC P ψ h n ρ (.convert s d x) ty w) zA fun c hc => ?_
    have hx := ha x (by simp) c hc
    refine zx (C := zC P ψ h n ρ (.convert s d x) ty w) _ _ _ (zA _) fun l hl => ?_
    rw [hl, zh] at hx
    obtain ⟨b, hx, e⟩ := hx
    exact ⟨.string b, zP (qO (by rw [hx]; simp [convert, run_underlying hs, run_underlying hd])), zh.2 ⟨b, rfl, e⟩⟩
  · rename_i e hs hd
    split
    · rename_i he
      refine zg (C := zC P ψ h n ρ (.convert s d x) ty w) zA fun c hc => ?_
      have hx := ha x (by simp) c hc
      refine zx (C := zC P ψ h n ρ (.convert s d x) ty w) _ _ _ (zA _) fun l hl => ?_
      rw [zr]
      rw [hl, zh] at hx
      obtain ⟨b, hx, rfl⟩ := hx
      rw [vN, y7]
      obtain ⟨cap, hcut, hcap⟩ : ∃ cap, cap = (Question.appendCap b.size 0 e).cut (w.tape w.drawn (Question.appendCap b.size 0 e)) ∧ b.size ≤ cap := ⟨_, rfl, Nat.le_add_right _ _⟩
      let arr : Array Value := (b.data.map fun (b : UInt8) => Value.int .u8 b.toNat) ++ Array.replicate (cap - b.size) (Value.int .u8 0)
      have hbs : (b.data.map fun (b : UInt8) => Value.int .u8 b.toNat).size = b.size := by rw [Array.size_map]; rfl
      have harr : arr.size = cap := by
        show ((b.data.map fun (b : UInt8) => Value.int .u8 b.toNat) ++ Array.replicate (cap - b.size) (Value.int .u8 0)).size = cap
        rw [Array.size_append, hbs, Array.size_replicate]; omega
      let w1 : World := { w with drawn := w.drawn + 1, heap := w.heap.push (.cells arr e) }
      have hb1 : w1.heap[w.heap.size]? = some (.cells arr e (0, 0)) := by simp [w1]
      obtain ⟨fz', hfz, hfz'⟩ := zFn (w := w1) hb1 harr (.inl rfl)
      have hsize1 : w.heap.size < w1.heap.size := by simp [w1]
      refine ⟨w1.upB w.heap.size (.cells arr e fz'), .slice (some ⟨w.heap.size, 0, none⟩) b.size cap, cap, zP (qO ?_), ?_, fun ψ' _ hn => ⟨?_, ?_⟩, by unfold zEG; rw [xY _ hsize1]; exact harr.symm⟩
      · rw [hx, ← hfz]
        have hm : (markStringish ⟨w.heap.size, 0, none⟩).run P w1 = .ok () (w1.freeze ⟨w.heap.size, cap, none⟩ 1) := zAI hb1 harr
        simp only [convert, Sem.run_bind, run_underlying hs, run_underlying hd, run_underlying he, Result.andThen_ok, Conv.stringToBytes, run_choose, Question.forced, Bool.false_eq_true, if_false, newRow, run_newObj, Sem.run_pure, ← hcut]
        exact (by
          show (((markStringish ⟨w.heap.size, 0, none⟩).run P w1).andThen fun _ w' => Result.ok (Value.slice (some ⟨w.heap.size, 0, none⟩) b.size cap) w') = _
          rw [hm]; rfl)
      · refine ⟨by rw [zDB]; simp [w1], fun B hB => ?_, rfl, rfl, rfl⟩
        rw [wS _ (by omega)]
        simp only [w1, Array.getElem?_push]
        rw [if_neg (by omega)]
      · exact zw.2 ⟨_, 0, cap, hn, rfl, hcap, hcap, by simp, .inl ⟨rfl, fun _ => by simp⟩⟩
      · refine ⟨arr, e, fz', xY _ hsize1, harr, ?_, hfz', fun i c hi => ?_⟩
        · rw [vL, List.length_map, y7]; simpa using hcap
        · obtain ⟨v, hv, hr⟩ := (zFT (ψ := ψ') b).get hi
          have hv : (b.data.map fun (b : UInt8) => Value.int .u8 b.toNat)[i]? = some v := by simpa using hv
          have hi' : i < (b.data.map fun (b : UInt8) => Value.int .u8 b.toNat).size := by
            rcases Nat.lt_or_ge i (b.data.map fun (b : UInt8) => Value.int .u8 b.toNat).size with h | h
            · exact h
            · rw [Array.getElem?_eq_none h] at hv; cases hv
          refine ⟨v, ?_, hr⟩
          show ((b.data.map fun (b : UInt8) => Value.int .u8 b.toNat) ++ Array.replicate (cap - b.size) (Value.int .u8 0))[0 + i]? = some v
          rw [Nat.zero_add, Array.getElem?_append_left hi']; exact hv
    · exact zA _
  · rename_i e0 e hs hd
    split
    · rename_i hsd he
      have hsd : s = d := yG hsd
      refine zg (C := zC P ψ h n ρ (.convert s d x) ty w) zA fun c hc => ?_
      have hx := ha x (by simp) c hc
      refine yB (C := zC P ψ h n ρ (.convert s d x) ty w) _ _ _ _ (zA _) (fun _ => zA _) fun b off len cap s' ex hv => ?_
      refine yF (C := zC P ψ h n ρ (.convert s d x) ty w) _ _ _ (zA _) fun vs hvs hrel _ _ => ?_
      rw [hv] at hx
      have hx0 := hx
      rw [zw] at hx
      obtain ⟨p, x', cap', hp, hx, _⟩ := hx
      have hvs : Heap.fam h b = some (.cells vs) := hvs
      obtain ⟨arr, el, fz, h1, h2, h3, h4, h5⟩ := hrel.on b _ p hvs hp
      obtain ⟨fz', hfz, hfz'⟩ := zFn h1 h2 h4
      have hlt : p.blk < w.heap.size := (hrel.on b _ p hvs hp).lt
      have hpost := qp (n := n) hrel hvs rfl hp (o' := .cells vs) (ob := .cells arr el fz') ⟨arr, el, fz', xY _ hlt, h2, h3, hfz', h5⟩
      have hsame : (Heap.fam h).upd b (some (.cells vs)) = Heap.fam h := by
        funext j; unfold Fam.upd; split
        · rename_i e; subst e; exact hvs.symm
        · rfl
      rw [hsame] at hpost
      refine ⟨_, ρ x, ψ, zP (qO ?_), hpost, hx0⟩
      rw [hx, ← hfz]
      have hm := zAI (P := P) (off := x') h1 h2
      subst hsd
      have he0 : e0 = e := by rw [hs] at hd; injection hd with hd; injection hd
      subst he0
      simp [convert, run_underlying hs, run_underlying he, hm]
    · exact zA _
  · rename_i e hs hd
    split
    · rename_i he
      refine zg (C := zC P ψ h n ρ (.convert s d x) ty w) zA fun c hc => ?_
      have hx := ha x (by simp) c hc
      refine yB (C := zC P ψ h n ρ (.convert s d x) ty w) _ _ _ _ (zA _) (fun hv => ?_) fun b off len cap s' ex hv => ?_
      · rw [hv, zl] at hx
        refine ⟨.string .empty, zP (qO ?_), zh.2 ⟨_, rfl, rfl⟩⟩
        rw [hx, run_convert_bytes_string w s d e none 0 0 hs he hd]
        simp [Conv.bytesToString]
      · refine xF (C := zC P ψ h n ρ (.convert s d x) ty w) _ _ _ (zA _) fun vs hvs => ?_
        refine yO (C := zC P ψ h n ρ (.convert s d x) ty w) _ _ _ (zA _) fun cs hcs => ?_
        unfold zJb
        split
        · rename_i r hr
          intro hrel
          rw [hv, zw] at hx
          obtain ⟨p, x', cap', hp, hx, _, hl, _, hor⟩ := hx
          have hcells : zBT ψ w p vs := by
            rcases hvs with hvs | hvs | ⟨u, hvs⟩
            · exact yR.toRo (hrel b _ p hvs hp)
            · exact hrel b _ p hvs hp
            · exact yR.toRo (jp.toCells (hrel b _ p hvs hp))
          obtain ⟨xs, hrun, hxs⟩ := xN (P := P) hcells hcs
          obtain ⟨rfl, hle⟩ := vR hr
          have hxs := zCb hxs
          have hrun : (loadCells ⟨p.blk, x', none⟩ len).run P w = .ok ((r.map Int.ofNat).map (Value.int .u8)).toArray w := by
            rcases hor with ⟨e, _⟩ | e
            · rw [e, ← hxs]; exact hrun
            · have : len = 0 := by omega
              subst this
              have := (xz hcs).1
              have hr0 : r = [] := by cases r <;> simp_all
              subst hr0
              rfl
          refine ⟨.string ((r.map Int.ofNat).foldl (fun r n => r.push (UInt8.ofNat n.toNat)) ByteArray.empty), zP (qO ?_), zh.2 ⟨_, rfl, ?_⟩⟩
          · rw [hx, run_convert_bytes_string w s d e _ _ _ hs he hd]
            exact run_bytesToString w _ _ _ _ hrun
          · rw [uG r _ hle]; rfl
        · split
          · rename_i hbs
            intro hrel
            rw [hv, zw] at hx
            obtain ⟨p, x', cap', hp, hx, _, hl, _, hor⟩ := hx
            have hcells : zBT ψ w p vs := by
              rcases hvs with hvs | hvs | ⟨u, hvs⟩
              · exact yR.toRo (hrel b _ p hvs hp)
              · exact hrel b _ p hvs hp
              · exact yR.toRo (jp.toCells (hrel b _ p hvs hp))
            obtain ⟨xs, hrun, hxs⟩ := xN (P := P) hcells hcs
            obtain ⟨r, hr, hle⟩ := zAR P (w := w) hbs hxs
            have hrun : (loadCells ⟨p.blk, x', none⟩ len).run P w = .ok ((r.map Int.ofNat).map (Value.int .u8)).toArray w := by
              rcases hor with ⟨e, _⟩ | e
              · rw [e, ← hr]; exact hrun
              · have : len = 0 := by omega
                subst this
                have h1 := (xz hcs).1
                have h2 := hxs.length
                have hr0 : r = [] := by
                  have : r.length = 0 := by
                    have := congrArg List.length hr
                    simp at this; omega
                  exact List.length_eq_zero_iff.1 this
                subst hr0
                rfl
            have hb := uG r ByteArray.empty hle
            refine ⟨.string ((r.map Int.ofNat).foldl (fun r n => r.push (UInt8.ofNat n.toNat)) ByteArray.empty), zP (qO ?_), xI.2 ⟨_, rfl, ?_⟩⟩
            · rw [hx, run_convert_bytes_string w s d e _ _ _ hs he hd]
              exact run_bytesToString w _ _ _ _ hrun
            · generalize (r.map Int.ofNat).foldl (fun r n => r.push (UInt8.ofNat n.toNat)) ByteArray.empty = z at hb
              have hz : zm z = r := by rw [hb]; rfl
              have : (z.data.toList.map fun x => Value.int .u8 (Int.ofNat x.toNat)) = xs := by
                rw [hr, ← hz]
                unfold zm
                rw [List.map_map, List.map_map]
                rfl
              rw [this]; exact hxs
          · exact zA _
    · exact zA _
  · exact zA _
end
end Go.Ev


