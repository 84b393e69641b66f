/- A verified evaluator for the model's code: EvG, EvH, EvI, EvJ, EvK, EvL, EvM. -/
import Derived.Test.YtphgaflpipibmaaGreatDoorEv2
import Derived.Laws.Concat
import Derived.Laws.StructEq
import Derived.Laws.BytesString
set_option linter.unusedSectionVars false
set_option linter.unusedVariables false
set_option linter.unusedSimpArgs false
namespace Go.Ev
variable [Sym]
noncomputable section
variable {P : Program} {ψ : Psi} {es : List CV} {tm : Tm} {h : Heap} {n : Key} {ρ : Operand → Value} {E : Env} {ty : TypeId} {w : World}
abbrev dummy (o : Op) (ty : TypeId) : Oper := { dst := none, op := o, type := ty, pos := "", after := #[], guard := none }
def ArgsOk (P : Program) (ψ : Psi) (es : List CV) (tm : Tm) (E : Env) (ρ : Operand → Value) (L : List Operand) : Prop := ∀ x ∈ L, ∀ c, compArg P E x = some c → VRel ψ (aV es tm c) (ρ x)
theorem ArgsOk.sub {L L' : List Operand} (h : ArgsOk P ψ es tm E ρ L) (hs : ∀ x ∈ L', x ∈ L) : ArgsOk P ψ es tm E ρ L' := fun x hx c hc => h x (hs x hx) c hc
theorem valOut {o : Op} {w w' : World} {x : Value} (hx : (execOp ρ (dummy o ty)).run P w = .ok (.value x) w') : ValOut P ρ o ty w w' x := ⟨_, hx, .inl rfl⟩
theorem valOut_skip {o : Op} {w w' : World} (hx : (execOp ρ (dummy o ty)).run P w = .ok .skip w') : ValOut P ρ o ty w w' undef := ⟨_, hx, .inr ⟨rfl, rfl⟩⟩
section
variable {C : OR → Prop}
theorem args1_elim {f : CArg → COp} {x : Operand} (hb : ∀ e, C (.err e)) (hk : ∀ c, compArg P E x = some c → C (exec P (f c) es tm h n)) : C (exec P (args1 P E f x) es tm h n) := by
  unfold args1
  cases hx : compArg P E x with
  | none => exact hb _
  | some c => exact hk c hx
theorem args2_elim {f : CArg → CArg → COp} {x y : Operand} (hb : ∀ e, C (.err e))
    (hk : ∀ c d, compArg P E x = some c → compArg P E y = some d → C (exec P (f c d) es tm h n)) : C (exec P (args2 P E f x y) es tm h n) := by
  unfold args2
  cases hx : compArg P E x with
  | none => exact hb _
  | some c => cases hy : compArg P E y with
    | none => exact hb _
    | some d => exact hk c d hx hy
end
theorem sim_err {o : Op} (e : Nat) : SimAt P ψ h n ρ o ty w (.err e) := trivial
theorem args_rel : ∀ (l : List Operand) {cs : List CArg}, ArgsOk P ψ es tm E ρ l → compArgs P E l = some cs → VRels ψ (aVs es tm cs) (l.map ρ)
  | [], cs, _, hc => by injection hc with hc; subst hc; exact vrels_nil.2 rfl
  | x :: l, cs, ha, hc => by
    unfold compArgs optMap at hc
    cases hx : compArg P E x with
    | none => rw [hx] at hc; cases hc
    | some c =>
      rw [hx] at hc
      cases hl : optMap (compArg P E) l with
      | none => simp [hl] at hc
      | some r =>
        simp [hl] at hc
        subst hc
        exact vrels_cons'.2 ⟨ha x (by simp) c hx, args_rel l (ha.sub fun y hy => by simp [hy]) hl⟩
theorem sim_move (x : Operand) (ha : ArgsOk P ψ es tm E ρ [x]) : SimAt P ψ h n ρ (.move x) ty w (exec P (compOp P E (.move x)) es tm h n) := by
  refine args1_elim (C := SimAt P ψ h n ρ (.move x) ty w) sim_err fun c hc => ⟨ρ x, valOut ?_, ha x (by simp) c hc⟩
  simp only [execOp, Sem.run_pure]
theorem sim_assign (x : Operand) (ha : ArgsOk P ψ es tm E ρ [x]) : SimAt P ψ h n ρ (.assign x) ty w (exec P (compOp P E (.assign x)) es tm h n) := by
  refine args1_elim (C := SimAt P ψ h n ρ (.assign x) ty w) sim_err fun c hc => ⟨ρ x, valOut ?_, ha x (by simp) c hc⟩
  simp only [execOp, Sem.run_pure]
theorem sim_pick (c a b : Operand) (ha : ArgsOk P ψ es tm E ρ [c, a, b]) : SimAt P ψ h n ρ (.pick c a b) ty w (exec P (compOp P E (.pick c a b)) es tm h n) := by
  rw [compOp]
  cases hc : compArg P E c with
  | none => exact sim_err _
  | some c' => cases h1 : compArg P E a with
    | none => exact sim_err _
    | some a' => cases h2 : compArg P E b with
      | none => exact sim_err _
      | some b' =>
        refine onBool_elim (C := SimAt P ψ h n ρ (.pick c a b) ty w) _ _ _ (sim_err _) fun t ht => ?_
        have hv := ha c (by simp) c' hc
        rw [ht, vrel_bool] at hv
        cases t with
        | true => exact ⟨ρ a, valOut (by simp [execOp, hv, asBool]), ha a (by simp) a' h1⟩
        | false => exact ⟨ρ b, valOut (by simp [execOp, hv, asBool]), ha b (by simp) b' h2⟩
theorem new_push (w : World) (ob : Obj) : New w { w with heap := w.heap.push ob } :=
  ⟨by simp, fun B hB => by simp only [Array.getElem?_push]; rw [if_neg (by omega)], rfl, rfl, rfl⟩
theorem push_get (w : World) (ob : Obj) : (w.heap.push ob)[w.heap.size]? = some ob := by simp
theorem cells_new {ψ' : Psi} (w : World) (arr : Array Value) (elem : TypeId) {cs : List CV} {m : Nat} (hc : VRels ψ' cs (arr.toList.take m)) (hm : m ≤ arr.size) :
    ORel ψ' { w with heap := w.heap.push (.cells arr elem) } ⟨w.heap.size, 0, arr.size, fun n => n⟩ (.cells cs) := by
  have hl := hc.length
  rw [List.length_take] at hl
  refine ⟨arr, elem, (0, 0), push_get _ _, rfl, by simp at hl ⊢; omega, .inl rfl, fun i c hi => ?_⟩
  obtain ⟨x, hx, hr⟩ := hc.get hi
  rw [List.getElem?_take] at hx
  split at hx
  · exact ⟨x, by simpa using hx, hr⟩
  · cases hx
theorem cells_new' {ψ' : Psi} (w : World) (arr : Array Value) (elem : TypeId) {cs : List CV} (hc : VRels ψ' cs arr.toList) :
    ORel ψ' { w with heap := w.heap.push (.cells arr elem) } ⟨w.heap.size, 0, arr.size, fun n => n⟩ (.cells cs) :=
  cells_new w arr elem (m := arr.size) (by rw [List.take_of_length_le (by simp)]; exact hc) (Nat.le_refl _)
theorem full_new {ψ' : Psi} (w : World) (arr : Array Value) (elem : TypeId) {cs : List CV} (hc : VRels ψ' cs arr.toList) :
    ORel ψ' { w with heap := w.heap.push (.cells arr elem) } ⟨w.heap.size, 0, arr.size, fun n => n⟩ (.full true cs) := by
  have hl := hc.length
  refine ⟨arr, elem, (0, 0), push_get _ _, rfl, by simp at hl ⊢; omega, .inl rfl, fun i c hi => ?_⟩
  obtain ⟨x, hx, hr⟩ := hc.get hi
  exact ⟨x, by simpa using hx, hr⟩
theorem sim_alloc (t : TypeId) : SimAt P ψ h n ρ (.alloc t) ty w (exec P (compOp P E (.alloc t)) es tm h n) := by
  rw [compOp]
  cases hz : zeroCs P t with
  | none => exact sim_err _
  | some z =>
    obtain ⟨v, h1, h2⟩ := run_zeroCs hz
    refine ⟨_, .pointer (some ⟨w.heap.size, 0, none⟩), v.cells.size, valOut ?_, new_push _ (.cells v.cells t), fun ψ' _ hn => ⟨vrel_ptr.2 ⟨_, hn, rfl⟩, cells_new' w v.cells t (h2 ψ')⟩, by simp [szAt]⟩
    simp [execOp, Instr.alloc, h1, newVar, newRow]
theorem sim_box (t : TypeId) (x : Operand) (ha : ArgsOk P ψ es tm E ρ [x]) : SimAt P ψ h n ρ (.box t x) ty w (exec P (compOp P E (.box t x)) es tm h n) := by
  refine args1_elim (C := SimAt P ψ h n ρ (.box t x) ty w) sim_err fun c hc => ?_
  refine onL_elim (C := SimAt P ψ h n ρ (.box t x) ty w) _ _ _ (sim_err _) fun cs hcs => ?_
  have hv := cells_rel (ha x (by simp) c hc) hcs
  refine ⟨_, .pointer (some ⟨w.heap.size, 0, none⟩), (ρ x).cells.size, valOut ?_, new_push _ (.cells (ρ x).cells t), fun ψ' hle hn => ⟨vrel_ptr.2 ⟨_, hn, rfl⟩, cells_new' w _ t (hv.mono hle)⟩, by simp [szAt]⟩
  simp [execOp, Instr.box, newVar, newRow]
theorem sim_load (t : TypeId) (x : Operand) (ha : ArgsOk P ψ es tm E ρ [x]) : SimAt P ψ h n ρ (.load t x) ty w (exec P (compOp P E (.load t x)) es tm h n) := by
  rw [compOp]
  cases h1 : isAggT P t with
  | none => exact sim_err _
  | some b => cases h2 : szOf P t with
    | none => cases b <;> exact sim_err _
    | some s =>
      cases b with
      | true =>
        refine args1_elim (C := SimAt P ψ h n ρ (.load t x) ty w) sim_err fun c hc => ?_
        refine onPtr_elim (C := SimAt P ψ h n ρ (.load t x) ty w) _ _ _ (sim_err _) fun b off hv => ?_
        refine onCellsR_elim (C := SimAt P ψ h n ρ (.load t x) ty w) _ _ _ (sim_err _) fun vs hvs => ?_
        refine oAggR_elim (C := SimAt P ψ h n ρ (.load t x) ty w) _ _ (sim_err _) fun l hl hrel => ?_
        have hx := ha x (by simp) c hc
        rw [hv, vrel_ptr] at hx
        obtain ⟨p, hp, hx⟩ := hx
        have hcells : RoAt ψ w p vs := by
          rcases hvs with hvs | hvs | ⟨u, hvs⟩
          · exact CellsAt.toRo (hrel b _ p hvs hp)
          · exact hrel b _ p hvs hp
          · exact CellsAt.toRo (FullAt.toCells (hrel b _ p hvs hp))
        obtain ⟨xs, hrun, hxs⟩ := run_loadMany (P := P) hcells hl
        refine ⟨.agg xs.toArray, valOut ?_, vrel_agg.2 ⟨_, rfl, by simpa using hxs⟩⟩
        simp [execOp, Instr.loadAt, hx, Instr.sureAddr, loadVar, run_isAgg h1, run_szOf h2, hrun]
      | false =>
        refine args1_elim (C := SimAt P ψ h n ρ (.load t x) ty w) sim_err fun c hc => ?_
        refine onPtr_elim (C := SimAt P ψ h n ρ (.load t x) ty w) _ _ _ (sim_err _) fun b off hv => ?_
        refine onCellsR_elim (C := SimAt P ψ h n ρ (.load t x) ty w) _ _ _ (sim_err _) fun vs hvs => ?_
        refine oRead_elim (C := SimAt P ψ h n ρ (.load t x) ty w) _ _ (sim_err _) fun l hl hrel => ?_
        have hx := ha x (by simp) c hc
        rw [hv, vrel_ptr] at hx
        obtain ⟨p, hp, hx⟩ := hx
        have hcells : RoAt ψ w p vs := by
          rcases hvs with hvs | hvs | ⟨u, hvs⟩
          · exact CellsAt.toRo (hrel b _ p hvs hp)
          · exact hrel b _ p hvs hp
          · exact CellsAt.toRo (FullAt.toCells (hrel b _ p hvs hp))
        rw [nthV_eq] at hl
        obtain ⟨y, hrun, hy⟩ := run_load1 (P := P) hcells hl
        refine ⟨y, valOut ?_, hy⟩
        have hrun' : ∀ m, (load ⟨p.blk, p.off + off, none⟩ m).run P w = .ok y w ∨ m ≠ .plain := fun m => by
          cases m
          · exact .inl hrun
          · exact .inr (by decide)
        simp only [execOp, Instr.loadAt, hx, Instr.sureAddr, loadVar, Sem.run_bind, Sem.run_pure, Result.andThen_ok, run_isAgg h1, Bool.false_eq_true, if_false, hrun]
theorem sim_store (t : TypeId) (a x : Operand) (ha : ArgsOk P ψ es tm E ρ [a, x]) : SimAt P ψ h n ρ (.store t a x) ty w (exec P (compOp P E (.store t a x)) es tm h n) := by
  rw [compOp]
  cases h2 : szOf P t with
  | none => exact sim_err _
  | some s =>
    refine args2_elim (C := SimAt P ψ h n ρ (.store t a x) ty w) sim_err fun c d hc hd => ?_
    refine onPtr_elim (C := SimAt P ψ h n ρ (.store t a x) ty w) _ _ _ (sim_err _) fun b off hv => ?_
    refine onCells_elim (C := SimAt P ψ h n ρ (.store t a x) ty w) _ _ _ (sim_err _) fun vs hvs => ?_
    refine onL_elim (C := SimAt P ψ h n ρ (.store t a x) ty w) _ _ _ (sim_err _) fun cs hcs => ?_
    refine onOkB_elim (C := SimAt P ψ h n ρ (.store t a x) ty w) _ _ _ (sim_err _) fun hs => ?_
    refine onL_elim (C := SimAt P ψ h n ρ (.store t a x) ty w) _ _ _ (sim_err _) fun l hl hrel _ _ => ?_
    have hx := ha a (by simp) c hc
    rw [hv, vrel_ptr] at hx
    obtain ⟨p, hp, hx⟩ := hx
    have hval := cells_rel (ha x (by simp) d hd) hcs
    obtain ⟨w', hrun, hpost⟩ := run_storeMany (P := P) n hrel hvs hp hl hval hs
    refine ⟨w', undef, ψ, valOut_skip ?_, ?_, vrel_undef⟩
    · have hsz : (ρ x).cells.size = s := by
        have := hval.length
        rw [(overAt_get hl).1] at this
        simpa using this
      simp [execOp, Instr.storeAt, hx, Instr.sureAddr, storeVar, run_szOf h2, hsz, hrun]
    · rw [fam_putH]; exact hpost
theorem sim_nilck (x : Operand) (ha : ArgsOk P ψ es tm E ρ [x]) : SimAt P ψ h n ρ (.nilCheck x) ty w (exec P (compOp P E (.nilCheck x)) es tm h n) := by
  refine args1_elim (C := SimAt P ψ h n ρ (.nilCheck x) ty w) sim_err fun c hc => ?_
  have hx := ha x (by simp) c hc
  have key : ∀ {v : Value}, ρ x = v → (∀ w, (execOp ρ (dummy (.nilCheck x) ty)).run P w = .ok (.value v) w) → SimAt P ψ h n ρ (.nilCheck x) ty w (.val (aV es tm c)) := by
    intro v e hr
    exact ⟨v, valOut (hr w), e ▸ hx⟩
  refine onPN_elim (C := SimAt P ψ h n ρ (.nilCheck x) ty w) _ _ _ ?_ fun b o hv => ?_
  · show SimAt P ψ h n ρ (.nilCheck x) ty w (nilckV (aV es tm c))
    generalize aV es tm c = v at *
    cases v <;> simp only [nilckV] <;> try exact trivial
    case bool => rw [vrel_bool] at hx; exact ⟨_, valOut (by simp [execOp, hx]), vrel_bool.2 rfl⟩
    case nat => rw [vrel_nat] at hx; exact ⟨_, valOut (by simp [execOp, hx]), vrel_nat.2 rfl⟩
    case int => rw [vrel_int] at hx; exact ⟨_, valOut (by simp [execOp, hx]), vrel_int.2 rfl⟩
    case anyi => rw [vrel_anyi] at hx; obtain ⟨m, hx⟩ := hx; exact ⟨_, valOut (by simp [execOp, hx]), vrel_anyi.2 ⟨m, rfl⟩⟩
    case str => rw [vrel_str] at hx; obtain ⟨b, hx, e⟩ := hx; exact ⟨_, valOut (by simp [execOp, hx]), vrel_str.2 ⟨b, rfl, e⟩⟩
    case big => have := hx; rw [vrel_big] at hx; obtain ⟨m, hx, _⟩ := hx; exact ⟨ρ x, valOut (by simp [execOp, hx]), this⟩
    case ptr => have := hx; rw [vrel_ptr] at hx; obtain ⟨p, hp, hx⟩ := hx; exact ⟨ρ x, valOut (by simp [execOp, hx]), this⟩
    case nilsl => rw [vrel_nilsl] at hx; exact ⟨_, valOut (by simp [execOp, hx]), vrel_nilsl.2 rfl⟩
    case sl => have := hx; rw [vrel_sl] at hx; obtain ⟨p, x', c', hp, hx, _⟩ := hx; exact ⟨ρ x, valOut (by simp [execOp, hx]), this⟩
    case sst => have := hx; rw [vrel_sst] at hx; obtain ⟨b, hx, e⟩ := hx; exact ⟨ρ x, valOut (by simp [execOp, hx]), this⟩
    case win => have := hx; rw [vrel_win] at hx; obtain ⟨_, base, l, c', i, hx, _⟩ := hx; exact ⟨ρ x, valOut (by cases base <;> simp [execOp, hx]), this⟩
    case nilmap => rw [vrel_nilmap] at hx; exact ⟨_, valOut (by simp [execOp, hx]), vrel_nilmap.2 rfl⟩
    case map => have := hx; rw [vrel_map] at hx; obtain ⟨p, hp, hx⟩ := hx; exact ⟨ρ x, valOut (by simp [execOp, hx]), this⟩
    case func fn a b =>
      have h0 := hx
      rw [vrel_func] at hx; obtain ⟨a', b', hx, _⟩ := hx
      cases fn <;> simp only [] <;> first | exact trivial | exact ⟨ρ x, valOut (by simp [execOp, hx]), h0⟩
    case iface => have := hx; rw [vrel_iface] at hx; obtain ⟨y, hx, _⟩ := hx; exact ⟨ρ x, valOut (by simp [execOp, hx]), this⟩
    case sym i =>
      have h0 := hx
      rw [vrel_sym] at hx
      rcases Sym.one i with ⟨k, m, e⟩ | ⟨b, e⟩ <;> rw [e] at hx <;> exact ⟨ρ x, valOut (by simp [execOp, hx]), h0⟩
    case agg => have := hx; rw [vrel_agg] at hx; obtain ⟨y, hx, _⟩ := hx; exact ⟨ρ x, valOut (by simp [execOp, hx]), this⟩
    case tup => have := hx; rw [vrel_tup] at hx; obtain ⟨y, hx, _⟩ := hx; exact ⟨ρ x, valOut (by simp [execOp, hx]), this⟩
  · have h0 := hx
    rw [hv] at h0 hx
    rw [vrel_ptr] at hx; obtain ⟨p, hp, hx⟩ := hx
    exact ⟨ρ x, valOut (by simp [execOp, hx]), h0⟩
end
end Go.Ev

namespace Go.Ev
variable [Sym]
noncomputable section
variable {P : Program} {ψ : Psi} {es : List CV} {tm : Tm} {h : Heap} {n : Key} {ρ : Operand → Value} {E : Env} {ty : TypeId} {w : World}
theorem boolv {a b : Bool} (h : a = true ↔ b = true) : Value.bool a = .bool b := by rw [Bool.eq_iff_iff.2 h]
theorem mkNat_rel (n : Nat) : VRel ψ (mkNat n) (.int .i64 (Int.ofNat n)) := by cases n <;> exact vrel_nat.2 rfl
theorem mkPos_rel (k : IntKind) (n : Nat) : VRel ψ (mkPos k n) (.int k (Int.ofNat n)) := by
  cases k <;> first | exact vrel_int.2 rfl | exact mkNat_rel n
theorem mkInt_rel (k : IntKind) (n : Int) : VRel ψ (mkInt k n) (.int k n) := by
  cases n with
  | ofNat m => cases m <;> exact mkPos_rel k _
  | negSucc m => cases m <;> exact vrel_int.2 rfl
theorem wrap64C_eq (n : Int) : wrap64C n = IntKind.i64.wrap n := by
  have hb : ∀ m : Nat, Nat.ble m 9223372036854775807 = true → (Int.ofNat m) = IntKind.i64.wrap (Int.ofNat m) ∧ (Int.negSucc m) = IntKind.i64.wrap (Int.negSucc m) := by
    intro m hm
    have := Nat.le_of_ble_eq_true hm
    rw [Int.negSucc_eq]
    simp only [IntKind.wrap, IntKind.signed, IntKind.bits, Int.ofNat_eq_natCast]
    constructor <;> simp <;> omega
  cases n with
  | ofNat m =>
    show Bool.rec (motive := fun _ => Int) (IntKind.i64.wrap (.ofNat m)) (.ofNat m) (Nat.ble m 9223372036854775807) = _
    cases hm : Nat.ble m 9223372036854775807 with
    | true => exact (hb m hm).1
    | false => rfl
  | negSucc m =>
    show Bool.rec (motive := fun _ => Int) (IntKind.i64.wrap (.negSucc m)) (.negSucc m) (Nat.ble m 9223372036854775807) = _
    cases hm : Nat.ble m 9223372036854775807 with
    | true => exact (hb m hm).2
    | false => rfl
theorem wrapI_eq (k : IntKind) (n : Int) : wrapI k n = k.wrap n := by
  cases k with
  | i64 => exact wrap64C_eq n
  | u8 => cases n with
    | ofNat m => show Int.ofNat (m % 256) = _; simp [IntKind.wrap, IntKind.signed, IntKind.bits]
    | negSucc m => rfl
  | _ => rfl
theorem toU_eq (k : IntKind) (n : Int) : toU k n = (BitVec.ofInt k.bits n).toNat := by
  rw [BitVec.toNat_ofInt]
  cases n with
  | ofNat m => rfl
  | negSucc m =>
    have hp : 0 < 2 ^ k.bits := Nat.two_pow_pos _
    have hlt : m % 2 ^ k.bits < 2 ^ k.bits := Nat.mod_lt _ hp
    show 2 ^ k.bits - 1 - m % 2 ^ k.bits = _
    rw [Int.negSucc_emod _ (by omega)]
    omega
theorem intOp_rel {op : BinOp} {k j : IntKind} {a b : Int} {c : CV} (t : TypeId) (w : World) (hk : k = j ∨ isShift op = true) (hc : intOp op k a b = some c) :
    ∃ v, (binOp op t (.int k a) (.int j b)).run P w = .ok v w ∧ VRel ψ c v := by
  cases op with
  | shl =>
    rw [binOp_shl]
    show ∃ v, _
    cases b with
    | negSucc b => cases hc
    | ofNat b =>
      injection hc with hc; subst hc
      refine ⟨_, ?_, mkInt_rel _ _⟩
      rw [wrapI_eq]
      have : ¬ (Int.ofNat b < 0) := by simp
      simp only [Op.shift, if_neg this, Sem.run_pure]
      simp
  | shr =>
    rw [binOp_shr]
    cases b with
    | negSucc b => cases hc
    | ofNat b =>
      have : ¬ (Int.ofNat b < 0) := by simp
      cases a with
      | ofNat a =>
        injection hc with hc; subst hc
        refine ⟨_, ?_, mkPos_rel _ _⟩
        simp only [Op.shift, if_neg this, Sem.run_pure]
        have e : (Int.ofNat a).fdiv (2 ^ min (Int.ofNat b).toNat k.bits) = Int.ofNat (a / 2 ^ min b k.bits) := by
          have := Int.ofNat_fdiv a (2 ^ min b k.bits)
          simp only [Int.ofNat_eq_natCast, Int.toNat_natCast]
          rw [this]; push_cast; rfl
        rw [e]; rfl
      | negSucc a =>
        injection hc with hc; subst hc
        refine ⟨_, ?_, mkInt_rel _ _⟩
        simp only [Op.shift, if_neg this, Sem.run_pure]
        simp
  | quo =>
    rcases hk with rfl | hk
    · rw [binOp_quo]
      unfold Op.intDiv
      have hc' : Bool.rec (motive := fun _ => Option CV) (some (mkInt k (wrapI k (a.tdiv b)))) none (intEq b (.ofNat 0)) = some c := hc
      rw [intEq_iff] at hc'
      by_cases h0 : b = 0
      · subst h0; simp at hc'
      · have : decide (b = Int.ofNat 0) = false := by simpa using h0
        rw [this] at hc'
        injection hc' with hc'; subst hc'
        refine ⟨_, ?_, mkInt_rel _ _⟩
        rw [if_neg h0, wrapI_eq, Sem.run_pure]
    · cases hk
  | rem =>
    rcases hk with rfl | hk
    · rw [binOp_rem]
      unfold Op.intDiv
      have hc' : Bool.rec (motive := fun _ => Option CV) (some (mkInt k (a.tmod b))) none (intEq b (.ofNat 0)) = some c := hc
      rw [intEq_iff] at hc'
      by_cases h0 : b = 0
      · subst h0; simp at hc'
      · have : decide (b = Int.ofNat 0) = false := by simpa using h0
        rw [this] at hc'
        injection hc' with hc'; subst hc'
        refine ⟨_, ?_, mkInt_rel _ _⟩
        rw [if_neg h0, Sem.run_pure]
    · cases hk
  | add =>
    rcases hk with rfl | hk
    · injection hc with hc; subst hc
      exact ⟨_, by rw [binOp_add, Op.intArith, Sem.run_pure, wrapI_eq]; rfl, mkInt_rel _ _⟩
    · cases hk
  | sub =>
    rcases hk with rfl | hk
    · injection hc with hc; subst hc
      exact ⟨_, by rw [binOp_sub, Op.intArith, Sem.run_pure, wrapI_eq]; rfl, mkInt_rel _ _⟩
    · cases hk
  | mul =>
    rcases hk with rfl | hk
    · injection hc with hc; subst hc
      exact ⟨_, by rw [binOp_mul, Op.intArith, Sem.run_pure, wrapI_eq]; rfl, mkInt_rel _ _⟩
    · cases hk
  | and =>
    rcases hk with rfl | hk
    · injection hc with hc; subst hc
      refine ⟨_, ?_, mkInt_rel _ _⟩
      rw [binOp_and, Op.intBits, Sem.run_pure, wrapI_eq, BitVec.toNat_and, toU_eq, toU_eq]; rfl
    · cases hk
  | or =>
    rcases hk with rfl | hk
    · injection hc with hc; subst hc
      refine ⟨_, ?_, mkInt_rel _ _⟩
      rw [binOp_or, Op.intBits, Sem.run_pure, wrapI_eq, BitVec.toNat_or, toU_eq, toU_eq]; rfl
    · cases hk
  | xor =>
    rcases hk with rfl | hk
    · injection hc with hc; subst hc
      refine ⟨_, ?_, mkInt_rel _ _⟩
      rw [binOp_xor, Op.intBits, Sem.run_pure, wrapI_eq, BitVec.toNat_xor, toU_eq, toU_eq]; rfl
    · cases hk
  | andNot =>
    rcases hk with rfl | hk
    · injection hc with hc; subst hc
      refine ⟨_, ?_, mkInt_rel _ _⟩
      rw [binOp_andNot, Op.intBits, Sem.run_pure, wrapI_eq, BitVec.toNat_and, BitVec.toNat_not, toU_eq, toU_eq]; rfl
    · cases hk
  | eql =>
    rcases hk with rfl | hk
    · injection hc with hc; subst hc
      refine ⟨_, by rw [binOp_eql, Sem.run_pure], vrel_bool.2 ?_⟩
      rw [intEq_iff]; rfl
    · cases hk
  | neq =>
    rcases hk with rfl | hk
    · injection hc with hc; subst hc
      refine ⟨_, by rw [binOp_neq, Sem.run_pure], vrel_bool.2 ?_⟩
      rw [intEq_iff, notB_eq]; rfl
    · cases hk
  | lss =>
    rcases hk with rfl | hk
    · injection hc with hc; subst hc
      refine ⟨_, by rw [binOp_lss, Sem.run_pure], vrel_bool.2 ?_⟩
      rw [intLt_iff]
    · cases hk
  | leq =>
    rcases hk with rfl | hk
    · injection hc with hc; subst hc
      refine ⟨_, by rw [binOp_leq, Sem.run_pure], vrel_bool.2 ?_⟩
      rw [intLt_iff, notB_eq]; exact boolv (by simp)
    · cases hk
  | gtr =>
    rcases hk with rfl | hk
    · injection hc with hc; subst hc
      refine ⟨_, by rw [binOp_gtr, Sem.run_pure], vrel_bool.2 ?_⟩
      rw [intLt_iff]
    · cases hk
  | geq =>
    rcases hk with rfl | hk
    · injection hc with hc; subst hc
      refine ⟨_, by rw [binOp_geq, Sem.run_pure], vrel_bool.2 ?_⟩
      rw [intLt_iff, notB_eq]; exact boolv (by simp)
    · cases hk
theorem okN_some {n : Nat} {c : CV} (h : okN n = some c) : n ≤ 9223372036854775807 ∧ c = mkNat n := by
  have h' : Bool.rec (motive := fun _ => Option CV) none (some (mkNat n)) (Nat.ble n 9223372036854775807) = some c := h
  cases hb : Nat.ble n 9223372036854775807 with
  | false => rw [hb] at h'; cases h'
  | true => rw [hb] at h'; injection h' with h'; exact ⟨ble_yes hb, h'.symm⟩
theorem wrap64_id {n : Nat} (h : n ≤ 9223372036854775807) : IntKind.i64.wrap (n : Int) = (n : Int) := by
  simp only [IntKind.wrap, IntKind.signed, IntKind.bits]; simp; omega
theorem natOp_rel {op : BinOp} {a b : Nat} {c : CV} (t : TypeId) (w : World) (hc : natOp op a b = some c) :
    ∃ v, (binOp op t (.int .i64 (Int.ofNat a)) (.int .i64 (Int.ofNat b))).run P w = .ok v w ∧ VRel ψ c v := by
  cases op with
  | add =>
    obtain ⟨h1, rfl⟩ := okN_some (n := a + b) hc
    refine ⟨_, ?_, mkNat_rel _⟩
    rw [binOp_add, Op.intArith, Sem.run_pure]
    have := wrap64_id h1
    simp only [Int.ofNat_eq_natCast] at *
    rw [← Int.natCast_add, this]
  | sub =>
    have hc' : Bool.rec (motive := fun _ => Option CV) none (Bool.rec (motive := fun _ => Option CV) none (some (mkNat (Nat.sub a b))) (Nat.ble a 9223372036854775807)) (Nat.ble b a) = some c := hc
    cases h1 : Nat.ble b a with
    | false => rw [h1] at hc'; cases hc'
    | true => cases h2 : Nat.ble a 9223372036854775807 with
      | false => rw [h1, h2] at hc'; cases hc'
      | true =>
        rw [h1, h2] at hc'
        injection hc' with hc'; subst hc'
        have h1 := ble_yes h1
        have h2 := ble_yes h2
        refine ⟨_, ?_, mkNat_rel _⟩
        rw [binOp_sub, Op.intArith, Sem.run_pure]
        have := wrap64_id (n := a - b) (by omega)
        simp only [Int.ofNat_eq_natCast] at *
        rw [← Int.natCast_sub h1, this]; rfl
  | mul =>
    obtain ⟨h1, rfl⟩ := okN_some (n := a * b) hc
    refine ⟨_, ?_, mkNat_rel _⟩
    rw [binOp_mul, Op.intArith, Sem.run_pure]
    have := wrap64_id h1
    simp only [Int.ofNat_eq_natCast] at *
    rw [← Int.natCast_mul, this]
  | and =>
    have hc' : Bool.rec (motive := fun _ => Option CV) none (Bool.rec (motive := fun _ => Option CV) none (some (mkNat (Nat.land a b))) (Nat.ble b 9223372036854775807)) (Nat.ble a 9223372036854775807) = some c := hc
    cases h1 : Nat.ble a 9223372036854775807 with
    | false => rw [h1] at hc'; cases hc'
    | true => cases h2 : Nat.ble b 9223372036854775807 with
      | false => rw [h1, h2] at hc'; cases hc'
      | true =>
        rw [h1, h2] at hc'
        injection hc' with hc'; subst hc'
        have h1 := ble_yes h1
        have h2 := ble_yes h2
        refine ⟨_, ?_, mkNat_rel _⟩
        rw [binOp_and, Op.intBits, Sem.run_pure, BitVec.toNat_and, ← toU_eq, ← toU_eq]
        have e : ∀ {m : Nat}, m ≤ 9223372036854775807 → toU .i64 (Int.ofNat m) = m := fun {m} hm => Nat.mod_eq_of_lt (show m < 2 ^ 64 by omega)
        rw [e h1, e h2]
        have : (a &&& b) ≤ 9223372036854775807 := Nat.le_trans Nat.and_le_left h1
        rw [wrap64_id this]; rfl
  | eql => injection hc with hc; subst hc; exact ⟨_, by rw [binOp_eql, Sem.run_pure], vrel_bool.2 (boolv (by simp; omega))⟩
  | neq => injection hc with hc; subst hc; exact ⟨_, by rw [binOp_neq, Sem.run_pure], vrel_bool.2 (by rw [notB_eq]; exact boolv (by have := @Nat.beq_eq a b; cases hb : Nat.beq a b <;> simp_all <;> omega))⟩
  | lss => injection hc with hc; subst hc; exact ⟨_, by rw [binOp_lss, Sem.run_pure], vrel_bool.2 (boolv (by simp; omega))⟩
  | leq => injection hc with hc; subst hc; exact ⟨_, by rw [binOp_leq, Sem.run_pure], vrel_bool.2 (boolv (by simp))⟩
  | gtr => injection hc with hc; subst hc; exact ⟨_, by rw [binOp_gtr, Sem.run_pure], vrel_bool.2 (boolv (by simp; omega))⟩
  | geq => injection hc with hc; subst hc; exact ⟨_, by rw [binOp_geq, Sem.run_pure], vrel_bool.2 (boolv (by simp))⟩
  | _ => cases hc
theorem natsOf_length (b : ByteArray) : (natsOf b).length = b.size := by unfold natsOf; rw [List.length_map]; rfl
theorem u8_inj {a b : List UInt8} (h : a.map UInt8.toNat = b.map UInt8.toNat) : a = b := by
  induction a generalizing b with
  | nil => cases b with
    | nil => rfl
    | cons y b => cases h
  | cons x a ih => cases b with
    | nil => cases h
    | cons y b =>
      simp only [List.map_cons, List.cons.injEq] at h
      rw [UInt8.toNat_inj.1 h.1, ih h.2]
theorem natsOf_inj {a b : ByteArray} (h : natsOf a = natsOf b) : a = b := by
  have := u8_inj h
  obtain ⟨⟨x⟩⟩ := a
  obtain ⟨⟨y⟩⟩ := b
  simp at this; subst this; rfl
theorem strEq_bytes (a b : ByteArray) : strEq (natsOf a) (natsOf b) = (a.toList == b.toList) := by
  rw [strEq_iff, ByteArray.toList_eq, ByteArray.toList_eq, Bool.eq_iff_iff]
  simp only [decide_eq_true_eq, beq_iff_eq]
  constructor
  · exact u8_inj
  · intro e; unfold natsOf; rw [e]
theorem strLt_map (a b : List UInt8) : strLt (a.map UInt8.toNat) (b.map UInt8.toNat) = Op.bytesLess a b := by
  induction a generalizing b with
  | nil => cases b <;> rfl
  | cons x a ih => cases b with
    | nil => rfl
    | cons y b =>
      show Bool.rec (motive := fun _ => Bool) (Bool.rec (motive := fun _ => Bool) false (strLt (a.map UInt8.toNat) (b.map UInt8.toNat)) (Nat.beq x.toNat y.toNat)) true (Nat.ble (Nat.succ x.toNat) y.toNat) = _
      rw [Op.bytesLess, ih]
      by_cases h1 : x < y
      · have : Nat.ble (Nat.succ x.toNat) y.toNat = true := Nat.ble_eq_true_of_le (UInt8.lt_iff_toNat_lt.1 h1)
        rw [this]; simp [h1]
      · have hn : Nat.ble (Nat.succ x.toNat) y.toNat = false := by
          cases hb : Nat.ble (Nat.succ x.toNat) y.toNat with
          | false => rfl
          | true => exact absurd (UInt8.lt_iff_toNat_lt.2 (ble_yes hb)) h1
        rw [hn]
        by_cases h2 : x = y
        · subst h2; simp
        · have : Nat.beq x.toNat y.toNat = false := beq_no fun e => h2 (UInt8.toNat_inj.1 e)
          rw [this]; simp [h1, h2]
theorem strLt_bytes (a b : ByteArray) : strLt (natsOf a) (natsOf b) = Op.bytesLess a.toList b.toList := by
  rw [ByteArray.toList_eq, ByteArray.toList_eq]; exact strLt_map _ _
theorem natsOf_append (a b : ByteArray) : natsOf (a ++ b) = natsOf a ++ natsOf b := by
  obtain ⟨⟨x⟩⟩ := a
  obtain ⟨⟨y⟩⟩ := b
  rw [ByteArray.mk_append_mk]
  simp [natsOf]
theorem strOp_rel {op : BinOp} {a b : ByteArray} {c : CV} (t : TypeId) (w : World) (hc : strOp op (natsOf a) (natsOf b) = some c) :
    ∃ v, (binOp op t (.string a) (.string b)).run P w = .ok v w ∧ VRel ψ c v := by
  have hb : binOp op t (.string a) (.string b) = Op.stringOp op a b := by cases op <;> simp [binOp]
  rw [hb]
  cases op with
  | add =>
    have hc' : Bool.rec (motive := fun _ => Option CV) none (some (.str (appN (natsOf a) (natsOf b)))) (Nat.ble (Nat.add (lenN (natsOf a)) (lenN (natsOf b))) 1000000) = some c := hc
    cases h1 : Nat.ble (Nat.add (lenN (natsOf a)) (lenN (natsOf b))) 1000000 with
    | false => rw [h1] at hc'; cases hc'
    | true =>
      rw [h1] at hc'
      injection hc' with hc'; subst hc'
      have h1 := ble_yes h1
      rw [lenN_eq, lenN_eq, natsOf_length, natsOf_length] at h1
      have h1 : a.size + b.size ≤ 1000000 := h1
      exact ⟨_, run_string_add_sum w a b (by omega), vrel_str.2 ⟨_, rfl, by rw [appN_eq, natsOf_append]⟩⟩
  | eql => injection hc with hc; subst hc; exact ⟨_, by rw [Op.stringOp]; rfl, vrel_bool.2 (by rw [strEq_bytes])⟩
  | neq => injection hc with hc; subst hc; exact ⟨_, by rw [Op.stringOp]; rfl, vrel_bool.2 (by rw [notB_eq, strEq_bytes])⟩
  | lss => injection hc with hc; subst hc; exact ⟨_, by rw [Op.stringOp]; rfl, vrel_bool.2 (by rw [strLt_bytes])⟩
  | leq => injection hc with hc; subst hc; exact ⟨_, by rw [Op.stringOp]; rfl, vrel_bool.2 (by rw [strEq_bytes, strLt_bytes])⟩
  | gtr => injection hc with hc; subst hc; exact ⟨_, by rw [Op.stringOp]; rfl, vrel_bool.2 (by rw [notB_eq, strEq_bytes, strLt_bytes])⟩
  | geq => injection hc with hc; subst hc; exact ⟨_, by rw [Op.stringOp]; rfl, vrel_bool.2 (by rw [notB_eq, strLt_bytes])⟩
  | _ => cases hc
end
end Go.Ev

namespace Go.Ev
variable [Sym]
noncomputable section
variable {P : Program} {ψ : Psi} {es : List CV} {tm : Tm} {h : Heap} {n : Key} {ρ : Operand → Value} {E : Env} {ty : TypeId} {w : World}
theorem run_binOp_of {op : BinOp} {t : TypeId} {x y : Operand} {c : TypeId} {v : Value} (hg : eqGuard op t x y (ρ x) (ρ y) = pure ()) (hr : (binOp op t (ρ x) (ρ y)).run P w = .ok v w) :
    (execOp ρ (dummy (.binOp op t x y c) ty)).run P w = .ok (.value v) w := by
  simp [execOp, hg, hr]
def Has (ψ : Psi) : OR → Value → Prop
  | .val c, v => VRel ψ c v
  | .fork a b, v => Has ψ a v ∨ Has ψ b v
  | _, _ => False
theorem has_sim {o : Op} {x : Value} (hv : ValOut P ρ o ty w w x) {r : OR} (hh : Has ψ r x) : SimAt P ψ h n ρ o ty w r := by
  induction r with
  | val c => exact ⟨x, hv, hh⟩
  | fork a b iha ihb => exact fun _ => Or.imp (fun q => iha q) (fun q => ihb q) hh
  | _ => exact False.elim hh
theorem mkPos_inv {k : IntKind} {m : Nat} {v : Value} (hv : VRel ψ (mkPos k m) v) : v = .int k (Int.ofNat m) := by
  cases k <;> first | exact vrel_int.1 hv | (cases m <;> exact vrel_nat.1 hv)
theorem mkInt_inv {k : IntKind} {m : Int} {v : Value} (hv : VRel ψ (mkInt k m) v) : v = .int k m := by
  cases m with
  | ofNat m => cases m <;> exact mkPos_inv hv
  | negSucc m => cases m <;> exact vrel_int.1 hv
theorem has_forkB (b : Bool) : Has ψ forkB (.bool b) := by
  cases b
  · exact .inr (vrel_bool.2 rfl)
  · exact .inl (vrel_bool.2 rfl)
theorem has_forkTo (k : IntKind) {j : Nat} : ∀ {m : Nat}, j ≤ m → Has ψ (forkTo k m) (.int k (Int.ofNat j))
  | 0, hj => by
    obtain rfl : j = 0 := by omega
    exact mkPos_rel k 0
  | m + 1, hj => by
    by_cases e : j = m + 1
    · subst e; exact .inr (mkPos_rel k (m + 1))
    · exact .inl (has_forkTo k (m := m) (by omega))
theorem has_forkPm (k : IntKind) {z : Int} : ∀ {m : Nat}, z.natAbs ≤ m → Has ψ (forkPm k m) (.int k z)
  | 0, hj => by
    obtain rfl : z = 0 := by omega
    exact mkPos_rel k 0
  | m + 1, hj => by
    by_cases e : z.natAbs = m + 1
    · refine .inr ?_
      cases z with
      | ofNat p =>
        obtain rfl : p = m + 1 := by simpa using e
        exact .inl (mkPos_rel k (m + 1))
      | negSucc p =>
        obtain rfl : p = m := by simpa [Int.natAbs_negSucc] using e
        exact .inr (vrel_int.2 rfl)
    · exact .inl (has_forkPm k (m := m) (by omega))
theorem sim_has {op : BinOp} {k j : IntKind} {a b : Int} {c : CV} {t : TypeId} {x y : Operand} {m : TypeId} {r : OR} (hx : ρ x = .int k a) (hy : ρ y = .int j b)
    (hk : k = j ∨ isShift op = true) (hc : intOp op k a b = some c) (hr : ∀ v, VRel ψ c v → Has ψ r v) : SimAt P ψ h n ρ (.binOp op t x y m) ty w r := by
  obtain ⟨v, h1, h2⟩ := intOp_rel (P := P) (ψ := ψ) t w hk hc
  exact has_sim (valOut (run_binOp_of (by rw [hx]; exact eqGuard_at_int _ _ _ _ _ _ _) (by rw [hx, hy]; exact h1))) (hr v h2)
theorem has_anyi {k : IntKind} {m : Int} : ∀ v, VRel ψ (mkInt k m) v → Has ψ (.val (.anyi k)) v := fun _ hv => vrel_anyi.2 ⟨_, mkInt_inv hv⟩
theorem has_cmp {b : Bool} : ∀ v, VRel ψ (.bool b) v → Has ψ forkB v := fun v hv => by rw [vrel_bool] at hv; subst hv; exact has_forkB b
theorem arithAny_sim {op : BinOp} {j k : IntKind} {a b : Int} {t : TypeId} {x y : Operand} {c : TypeId} (hx : ρ x = .int j a) (hy : ρ y = .int k b) :
    SimAt P ψ h n ρ (.binOp op t x y c) ty w (arithAny op j k) := by
  refine onOkB_elim (C := SimAt P ψ h n ρ (.binOp op t x y c) ty w) _ _ _ (sim_err _) fun hk => ?_
  rw [kEq_iff] at hk
  have hk : j = k := by simpa using hk
  subst hk
  cases op <;> first | exact sim_err _ | exact sim_has hx hy (.inl rfl) rfl has_anyi | exact sim_has hx hy (.inl rfl) rfl has_cmp
theorem land_small {k : IntKind} {a : Int} {m : Nat} (hm : m ≤ 127) : ∃ j, j ≤ m ∧ wrapI k (.ofNat (Nat.land (toU k a) (toU k (.ofNat m)))) = .ofNat j := by
  have h1 : toU k (.ofNat m) = m := by
    show m % 2 ^ k.bits = m
    exact Nat.mod_eq_of_lt (by cases k <;> simp [IntKind.bits] <;> omega)
  refine ⟨Nat.land (toU k a) m, Nat.and_le_right, ?_⟩
  rw [h1, wrapI_eq]
  have h2 : Nat.land (toU k a) m ≤ 127 := Nat.le_trans Nat.and_le_right hm
  generalize Nat.land (toU k a) m = q at h2
  cases k <;> simp [IntKind.wrap, IntKind.signed, IntKind.bits] <;> omega
theorem tmod_small {a : Int} {m : Nat} : (a.tmod (.ofNat (m + 1))).natAbs ≤ m := by
  have := Int.natAbs_tmod a (.ofNat (m + 1))
  have h2 : (Int.ofNat (m + 1)).natAbs = m + 1 := rfl
  rw [this, h2]
  have := Nat.mod_lt a.natAbs (show 0 < m + 1 by omega)
  omega
theorem arithR_sim {op : BinOp} {k j : IntKind} {a b : Int} {t : TypeId} {x y : Operand} {c : TypeId} (hx : ρ x = .int k a) (hy : ρ y = .int j b) (hk : k = j ∨ isShift op = true) :
    SimAt P ψ h n ρ (.binOp op t x y c) ty w (arithR op k b) := by
  have plain : ∀ op', op = op' → isShift op' = false → SimAt P ψ h n ρ (.binOp op t x y c) ty w (arithAny op' k k) := by
    intro op' e hs
    subst e
    rcases hk with rfl | hk
    · exact arithAny_sim hx hy
    · rw [hs] at hk; cases hk
  have eqk : isShift op = false → k = j := fun hs => hk.resolve_right (by rw [hs]; simp)
  cases op <;> first
    | exact plain _ rfl rfl
    | skip
  case quo =>
    obtain rfl := eqk rfl
    cases b with
    | ofNat m =>
      cases m with
      | zero => exact sim_err _
      | succ m =>
        refine sim_has hx hy (.inl rfl) (c := mkInt k (wrapI k (a.tdiv (.ofNat (m + 1))))) ?_ has_anyi
        show Bool.rec (motive := fun _ => Option CV) (some (mkInt k (wrapI k (a.tdiv (.ofNat (m + 1)))))) none (intEq (.ofNat (m + 1)) (.ofNat 0)) = _
        rw [intEq_iff, decide_eq_false (by intro h; injection h with h; cases h)]
    | negSucc m =>
      refine sim_has hx hy (.inl rfl) (c := mkInt k (wrapI k (a.tdiv (.negSucc m)))) ?_ has_anyi
      show Bool.rec (motive := fun _ => Option CV) (some (mkInt k (wrapI k (a.tdiv (.negSucc m))))) none (intEq (.negSucc m) (.ofNat 0)) = _
      rw [intEq_iff, decide_eq_false (by intro h; cases h)]
  case rem =>
    obtain rfl := eqk rfl
    cases b with
    | negSucc m => exact sim_err _
    | ofNat m =>
      cases m with
      | zero => exact sim_err _
      | succ m =>
        refine onOkB_elim (C := SimAt P ψ h n ρ (.binOp .rem t x y c) ty w) _ _ _ (sim_err _) fun hm => ?_
        have hc : intOp .rem k a (.ofNat (m + 1)) = some (mkInt k (a.tmod (.ofNat (m + 1)))) := by
          show Bool.rec (motive := fun _ => Option CV) (some (mkInt k (a.tmod (.ofNat (m + 1))))) none (intEq (.ofNat (m + 1)) (.ofNat 0)) = _
          rw [intEq_iff, decide_eq_false (by intro h; injection h with h; cases h)]
        refine sim_has hx hy (.inl rfl) hc fun v hv => ?_
        have hv := mkInt_inv hv
        subst hv
        have hs := tmod_small (a := a) (m := m)
        split
        · exact has_forkPm k hs
        · exact vrel_anyi.2 ⟨_, rfl⟩
  case and =>
    obtain rfl := eqk rfl
    cases b with
    | negSucc m => exact sim_has hx hy (.inl rfl) rfl has_anyi
    | ofNat m =>
      refine onOkB_elim (C := SimAt P ψ h n ρ (.binOp .and t x y c) ty w) _ _ _ (sim_err _) fun hm => ?_
      obtain ⟨q, h1, h2⟩ := land_small (k := k) (a := a) (ble_yes hm)
      refine sim_has hx hy (.inl rfl) rfl fun v hv => ?_
      rw [h2] at hv
      rw [mkInt_inv hv]
      exact has_forkTo k h1
  case shl =>
    cases b with
    | negSucc m => exact sim_err _
    | ofNat m => exact sim_has hx hy hk rfl has_anyi
  case shr =>
    cases b with
    | negSucc m => exact sim_err _
    | ofNat m =>
      cases a with
      | ofNat a => exact sim_has hx hy hk rfl fun v hv => vrel_anyi.2 ⟨_, mkPos_inv hv⟩
      | negSucc a => exact sim_has hx hy hk rfl has_anyi
theorem sim_ints {op : BinOp} {k j : IntKind} {a b : Int} {c : CV} {t : TypeId} {x y : Operand} {m : TypeId} (hx : ρ x = .int k a) (hy : ρ y = .int j b)
    (hk : k = j ∨ isShift op = true) (hc : intOp op k a b = some c) : SimAt P ψ h n ρ (.binOp op t x y m) ty w (.val c) := by
  obtain ⟨v, h1, h2⟩ := intOp_rel (P := P) (ψ := ψ) t w hk hc
  exact ⟨v, valOut (run_binOp_of (by rw [hx]; exact eqGuard_at_int _ _ _ _ _ _ _) (by rw [hx, hy]; exact h1)), h2⟩
def SymOk [Sym] (P : Program) : Prop :=
  (∀ op x y l, Sym.bin op x y = some l → ∀ (ψ : Psi) t u v w, VRel ψ x u → VRel ψ y v → ((∃ k m, u = .int k m) ∨ ∃ b, u = .string b) ∧ ∃ z, (binOp op t u v).run P w = .ok z w ∧ ∃ c ∈ l, VRel ψ c z) ∧
  (∀ k x l, Sym.cv k x = some l → ∀ (ψ : Psi) u, VRel ψ x u → ∃ j m, u = .int j m ∧ ∃ c ∈ l, VRel ψ c (.int k (k.wrap m)))
class SymFact (P : Program) : Prop where
  ok : SymOk P
theorem has_forkL {v : Value} : ∀ {l : List CV} {d c : CV}, c ∈ d :: l → VRel ψ c v → Has ψ (forkL d l) v
  | [], d, c, hc, hv => by
    obtain rfl : c = d := by simpa using hc
    exact hv
  | e :: l, d, c, hc, hv => by
    rcases List.mem_cons.1 hc with rfl | hc
    · exact .inl hv
    · exact .inr (has_forkL hc hv)
theorem has_symR {v : Value} {o : Option (List CV)} {l : List CV} {c : CV} {e : Nat} (ho : o = some l) (hc : c ∈ l) (hv : VRel ψ c v) : Has ψ (symR o e) v := by
  subst ho
  cases l with
  | nil => cases hc
  | cons d l => exact has_forkL hc hv
theorem arithW_sim {op : BinOp} {t : TypeId} {x y : Operand} {m : TypeId} {u v : CV} (hx : VRel ψ u (ρ x)) (hy : VRel ψ v (ρ y)) :
    SimAt P ψ h n ρ (.binOp op t x y m) ty w (arithW op u v) := by
  have two : ∀ (k : IntKind) (a : Int), ρ x = .int k a → SimAt P ψ h n ρ (.binOp op t x y m) ty w
      (onIA v (fun j b => onOkB (kEq k j || isShift op) (oVal (intOp op k a b) 117) 118) (fun j => arithAny op j k) 119) := by
    intro k a hx
    have known : ∀ (j : IntKind) (b : Int), ρ y = .int j b → SimAt P ψ h n ρ (.binOp op t x y m) ty w (onOkB (kEq k j || isShift op) (oVal (intOp op k a b) 117) 118) := by
      intro j b hy
      refine onOkB_elim (C := SimAt P ψ h n ρ (.binOp op t x y m) ty w) _ _ _ (sim_err _) fun hk => ?_
      refine oVal_elim (C := SimAt P ψ h n ρ (.binOp op t x y m) ty w) _ _ (sim_err _) fun c hc => ?_
      refine sim_ints hx hy ?_ hc
      rw [kEq_iff] at hk
      simpa using hk
    refine onIA_elim (C := SimAt P ψ h n ρ (.binOp op t x y m) ty w) _ _ _ _ (sim_err _) (fun b hv => ?_) (fun j b hv => ?_) (fun j hv => ?_)
    · rw [hv, vrel_nat] at hy; exact known _ _ hy
    · rw [hv, vrel_int] at hy; exact known _ _ hy
    · rw [hv, vrel_anyi] at hy; obtain ⟨b, hy⟩ := hy
      by_cases e : j = k
      · subst e; exact arithAny_sim hx hy
      · unfold arithAny; rw [kEq_iff, decide_eq_false e]; exact sim_err _
  refine onIS_elim (C := SimAt P ψ h n ρ (.binOp op t x y m) ty w) _ _ _ _ _ (sim_err _) (fun a hu => ?_) (fun k a hu => ?_) (fun k hu => ?_) (fun s hu => ?_)
  · rw [hu, vrel_nat] at hx; exact two _ _ hx
  · rw [hu, vrel_int] at hx; exact two _ _ hx
  · rw [hu, vrel_anyi] at hx; obtain ⟨a, hx⟩ := hx
    have any : ∀ (j : IntKind) (b : Int), ρ y = .int j b → SimAt P ψ h n ρ (.binOp op t x y m) ty w (arithAny op j k) := by
      intro j b hy
      by_cases e : j = k
      · subst e; exact arithAny_sim hx hy
      · unfold arithAny; rw [kEq_iff, decide_eq_false e]; exact sim_err _
    have right : ∀ (j : IntKind) (b : Int), ρ y = .int j b → SimAt P ψ h n ρ (.binOp op t x y m) ty w (onOkB (kEq k j || isShift op) (arithR op k b) 118) := by
      intro j b hy
      refine onOkB_elim (C := SimAt P ψ h n ρ (.binOp op t x y m) ty w) _ _ _ (sim_err _) fun hk => ?_
      refine arithR_sim hx hy ?_
      rw [kEq_iff] at hk
      simpa using hk
    refine onIA_elim (C := SimAt P ψ h n ρ (.binOp op t x y m) ty w) _ _ _ _ (sim_err _) (fun b hv => ?_) (fun j b hv => ?_) (fun j hv => ?_)
    · rw [hv, vrel_nat] at hy; exact right _ _ hy
    · rw [hv, vrel_int] at hy; exact right _ _ hy
    · rw [hv, vrel_anyi] at hy; obtain ⟨b, hy⟩ := hy; exact any _ _ hy
  · rw [hu, vrel_str] at hx; obtain ⟨a, hx, rfl⟩ := hx
    refine onStr_elim (C := SimAt P ψ h n ρ (.binOp op t x y m) ty w) _ _ _ (sim_err _) fun l hl => ?_
    rw [hl, vrel_str] at hy; obtain ⟨b, hy, rfl⟩ := hy
    refine oVal_elim (C := SimAt P ψ h n ρ (.binOp op t x y m) ty w) _ _ (sim_err _) fun c hc => ?_
    obtain ⟨v, h1, h2⟩ := strOp_rel (P := P) (ψ := ψ) t w hc
    exact ⟨v, valOut (run_binOp_of (by rw [hx]; exact eqGuard_at_string _ _ _ _ _ _) (by rw [hx, hy]; exact h1)), h2⟩
theorem arithV_sim [SymFact P] {op : BinOp} {t : TypeId} {x y : Operand} {m : TypeId} {u v : CV} (hx : VRel ψ u (ρ x)) (hy : VRel ψ v (ρ y)) :
    SimAt P ψ h n ρ (.binOp op t x y m) ty w (arithV op u v) := by
  unfold arithV
  split
  · rename_i a m'
    rw [vrel_nat] at hx
    rw [vrel_big] at hy
    obtain ⟨b, hy, hle⟩ := hy
    have hg : eqGuard op t x y (ρ x) (ρ y) = pure () := by rw [hx]; exact eqGuard_at_int _ _ _ _ _ _ _
    have hv : ∀ {c : Bool}, (binOp op t (ρ x) (ρ y)).run P w = .ok (.bool c) w → ValOut P ρ (.binOp op t x y m) ty w w (.bool c) := fun h => valOut (run_binOp_of hg h)
    have hf : ∀ {c : Bool}, (binOp op t (ρ x) (ρ y)).run P w = .ok (.bool c) w → SimAt P ψ h n ρ (.binOp op t x y m) ty w forkB := by
      intro c hc _
      cases c
      · exact .inr ⟨_, hv hc, vrel_bool.2 rfl⟩
      · exact .inl ⟨_, hv hc, vrel_bool.2 rfl⟩
    cases op <;> first | exact sim_err _ | skip
    · -- <
      have hr : (binOp .lss t (ρ x) (ρ y)).run P w = .ok (.bool (decide ((a : Int) < b))) w := by rw [hx, hy]; simp [binOp, Op.intCmp]
      show SimAt P ψ h n ρ _ ty w (ifB (Nat.ble (Nat.succ a) m') _ _)
      rw [ifB_eq]
      split
      · rename_i hb
        have := ble_yes hb
        exact ⟨_, hv hr, vrel_bool.2 (by rw [decide_eq_true (by omega)])⟩
      · exact hf hr
    · -- <=
      have hr : (binOp .leq t (ρ x) (ρ y)).run P w = .ok (.bool (decide ((a : Int) ≤ b))) w := by rw [hx, hy]; simp [binOp, Op.intCmp]
      show SimAt P ψ h n ρ _ ty w (ifB (Nat.ble a m') _ _)
      rw [ifB_eq]
      split
      · rename_i hb
        have := ble_yes hb
        exact ⟨_, hv hr, vrel_bool.2 (by rw [decide_eq_true (by omega)])⟩
      · exact hf hr
    · -- >
      have hr : (binOp .gtr t (ρ x) (ρ y)).run P w = .ok (.bool (decide ((b : Int) < a))) w := by rw [hx, hy]; simp [binOp, Op.intCmp]
      show SimAt P ψ h n ρ _ ty w (ifB (Nat.ble a m') _ _)
      rw [ifB_eq]
      split
      · rename_i hb
        have := ble_yes hb
        exact ⟨_, hv hr, vrel_bool.2 (by rw [decide_eq_false (by omega)])⟩
      · exact hf hr
    · -- >=
      have hr : (binOp .geq t (ρ x) (ρ y)).run P w = .ok (.bool (decide ((b : Int) ≤ a))) w := by rw [hx, hy]; simp [binOp, Op.intCmp]
      show SimAt P ψ h n ρ _ ty w (ifB (Nat.ble (Nat.succ a) m') _ _)
      rw [ifB_eq]
      split
      · rename_i hb
        have := ble_yes hb
        exact ⟨_, hv hr, vrel_bool.2 (by rw [decide_eq_false (by omega)])⟩
      · exact hf hr
  split
  · cases hb : Sym.bin op u v with
    | none => exact sim_err _
    | some l =>
      obtain ⟨h1, z, h2, c, h3, h4⟩ := (SymFact.ok (P := P)).1 op u v l hb ψ t _ _ w hx hy
      refine has_sim (valOut (run_binOp_of ?_ h2)) (has_symR rfl h3 h4)
      rcases h1 with ⟨k, q, e⟩ | ⟨b, e⟩ <;> rw [e]
      · exact eqGuard_at_int _ _ _ _ _ _ _
      · exact eqGuard_at_string _ _ _ _ _ _
  · exact arithW_sim hx hy
theorem arith_sim [SymFact P] {op : BinOp} {t : TypeId} {x y : Operand} {m : TypeId} {c d : CArg} (hx : VRel ψ (aV es tm c) (ρ x)) (hy : VRel ψ (aV es tm d) (ρ y)) :
    SimAt P ψ h n ρ (.binOp op t x y m) ty w (exec P (.arith op c d) es tm h n) := by
  show SimAt P ψ h n ρ (.binOp op t x y m) ty w (onNO (aV es tm c) (fun a => onNO (aV es tm d) (fun b => arithN op a b (aV es tm c) (aV es tm d)) (arithV op (aV es tm c) (aV es tm d))) (arithV op (aV es tm c) (aV es tm d)))
  have gen := arithV_sim (P := P) (h := h) (n := n) (op := op) (t := t) (m := m) (ty := ty) (w := w) hx hy
  cases hc : aV es tm c <;> try (rw [hc] at gen; exact gen)
  case nat a =>
    rw [hc] at gen
    cases hd : aV es tm d <;> try (rw [hd] at gen; exact gen)
    case nat b =>
      rw [hd] at gen
      rw [hc, vrel_nat] at hx
      rw [hd, vrel_nat] at hy
      show SimAt P ψ h n ρ (.binOp op t x y m) ty w (Option.rec (motive := fun _ => BinOp → CV → CV → OR) (fun op x y => arithV op x y) (fun v _ _ _ => .val v) (natOp op a b) op (.nat a) (.nat b))
      cases ho : natOp op a b with
      | none => exact gen
      | some v =>
        obtain ⟨v', h1, h2⟩ := natOp_rel (P := P) (ψ := ψ) t w ho
        exact ⟨v', valOut (run_binOp_of (by rw [hx]; exact eqGuard_at_int _ _ _ _ _ _ _) (by rw [hx, hy]; exact h1)), h2⟩
theorem eqCell_rel {k : EqK} {x y : CV} {b : Bool} {u v : Value} (hx : VRel ψ x u) (hy : VRel ψ y v) (hc : eqCell k x y = some b) :
    (k = .bool ∧ ∃ p q, u = .bool p ∧ v = .bool q ∧ b = (p == q)) ∨ (k = .int ∧ ∃ j p q, u = .int j p ∧ v = .int j q ∧ b = (p == q)) ∨
    (k = .str ∧ ∃ p q, u = .string p ∧ v = .string q ∧ b = (p == q)) := by
  unfold eqCell at hc
  split at hc
  · injection hc with hc; rw [vrel_bool] at hx hy; exact .inl ⟨rfl, _, _, hx, hy, hc.symm⟩
  · injection hc with hc; rw [vrel_nat] at hx hy
    refine .inr (.inl ⟨rfl, _, _, _, hx, hy, ?_⟩)
    subst hc; rename_i a b; have := @Nat.beq_eq a b; cases hb : Nat.beq a b <;> simp_all <;> omega
  · rw [vrel_int] at hx hy
    rename_i k a j b'
    cases hk : kEq k j with
    | false => rw [hk] at hc; cases hc
    | true =>
      rw [hk] at hc; injection hc with hc
      rw [kEq_iff] at hk
      have hk : k = j := by simpa using hk
      subst hk
      refine .inr (.inl ⟨rfl, _, _, _, hx, hy, ?_⟩)
      rw [← hc, intEq_iff]; rfl
  · injection hc with hc; rw [vrel_nat] at hx; rw [vrel_int] at hy
    refine .inr (.inl ⟨rfl, _, _, _, hx, hy, ?_⟩)
    subst hc; rename_i a b; simp only [Int.negSucc_eq]; symm; simp only [beq_eq_false_iff_ne, ne_eq]; simp; omega
  · injection hc with hc; rw [vrel_nat] at hy; rw [vrel_int] at hx
    refine .inr (.inl ⟨rfl, _, _, _, hx, hy, ?_⟩)
    subst hc; rename_i a b; simp only [Int.negSucc_eq]; symm; simp only [beq_eq_false_iff_ne, ne_eq]; simp; omega
  · injection hc with hc; rw [vrel_str] at hx hy
    obtain ⟨p, hx, rfl⟩ := hx
    obtain ⟨q, hy, rfl⟩ := hy
    refine .inr (.inr ⟨rfl, _, _, hx, hy, ?_⟩)
    rw [← hc, strEq_bytes, beq_toListBytes]
  · cases hc
end
end Go.Ev

namespace Go.Ev
variable [Sym]
noncomputable section
variable {P : Program} {ψ : Psi} {es : List CV} {tm : Tm} {h : Heap} {n : Key} {ρ : Operand → Value} {E : Env} {ty : TypeId} {w : World}
variable [SymFact P]
theorem run_part_one {t : TypeId} {cs : Array Value} {off : Nat} {v : Value} (ha : isAggT P t = some false) (hv : cs[off]? = some v) (w : World) : (part t cs off).run P w = .ok v w := by
  simp [part, run_isAgg ha, hv]
theorem run_part_agg {t : TypeId} {cs : Array Value} {off s : Nat} (ha : isAggT P t = some true) (hs : szOf P t = some s) (w : World) :
    (part t cs off).run P w = .ok (.agg (cs.extract off (off + s))) w := by
  simp [part, run_isAgg ha, run_szOf hs]
theorem isAgg_bool {t : TypeId} (ht : P.underlying t = some .bool) : isAggT P t = some false := by unfold isAggT; rw [ht]
theorem isAgg_int {t : TypeId} {k : IntKind} (ht : P.underlying t = some (.int k)) : isAggT P t = some false := by unfold isAggT; rw [ht]
theorem isAgg_string {t : TypeId} (ht : P.underlying t = some .string) : isAggT P t = some false := by unfold isAggT; rw [ht]
theorem eqFields_rel {xs ys : List CV} {us vs : Array Value} (hx : VRels ψ xs us.toList) (hy : VRels ψ ys vs.toList) (d : Nat) (w : World) :
    ∀ (fs : List Field) {l : List (Nat × EqK)} {b : Bool}, eqFieldsK P fs = some l → eqFields xs ys l = some b → (Op.eqFields (d + 1) us vs fs).run P w = .ok b w
  | [], l, b, hl, hb => by
    injection hl with hl; subst hl
    injection hb with hb; subst hb
    rfl
  | f :: fs, l, b, hl, hb => by
    unfold eqFieldsK at hl
    split at hl
    · cases hl
    · rename_i hname
      have hname : f.name ≠ "_" := by simpa using hname
      cases hr : eqFieldsK P fs with
      | none => rw [hr] at hl; cases hl
      | some r =>
        simp only [hr] at hl
        have one : ∀ {k : EqK}, isAggT P f.type = some false → l = (f.offset, k) :: r →
            (∀ {x y : CV} {u v : Value} {c : Bool}, VRel ψ x u → VRel ψ y v → eqCell k x y = some c → (Op.equalIn (d + 1) f.type u v).run P w = .ok c w) →
            (Op.eqFields (d + 1) us vs (f :: fs)).run P w = .ok b w := by
          intro k ha hl hk
          subst hl
          unfold eqFields at hb
          rw [nthV_eq, nthV_eq] at hb
          cases h1 : xs[f.offset]? with
          | none => rw [h1] at hb; cases hb
          | some x => cases h2 : ys[f.offset]? with
            | none => rw [h1, h2] at hb; cases hb
            | some y =>
              simp only [h1, h2] at hb
              obtain ⟨u, hu, hxu⟩ := hx.get h1
              obtain ⟨v, hv, hyv⟩ := hy.get h2
              have hu : us[f.offset]? = some u := by simpa using hu
              have hv : vs[f.offset]? = some v := by simpa using hv
              cases hc : eqCell k x y with
              | none => simp only [hc] at hb; cases hb
              | some c =>
                simp only [hc] at hb
                have he := hk hxu hyv hc
                cases c with
                | false =>
                  injection hb with hb; subst hb
                  simp [Op.eqFields, hname, run_part_one ha hu, run_part_one ha hv, he]
                | true =>
                  have := eqFields_rel hx hy d w fs hr hb
                  simp [Op.eqFields, hname, run_part_one ha hu, run_part_one ha hv, he, this]
        unfold und at hl
        split at hl
        · rename_i ht
          injection hl with hl
          refine one (isAgg_bool ht) hl.symm fun hx hy hc => ?_
          rcases eqCell_rel hx hy hc with ⟨_, p, q, rfl, rfl, rfl⟩ | ⟨e, _⟩ | ⟨e, _⟩
          · exact run_equalIn_bool' w d _ p q ht
          · cases e
          · cases e
        · rename_i k ht
          injection hl with hl
          refine one (isAgg_int ht) hl.symm fun hx hy hc => ?_
          rcases eqCell_rel hx hy hc with ⟨e, _⟩ | ⟨_, j, p, q, rfl, rfl, rfl⟩ | ⟨e, _⟩
          · cases e
          · exact run_equalIn_int w d _ j k p q ht
          · cases e
        · rename_i ht
          injection hl with hl
          refine one (isAgg_string ht) hl.symm fun hx hy hc => ?_
          rcases eqCell_rel hx hy hc with ⟨e, _⟩ | ⟨e, _⟩ | ⟨_, p, q, rfl, rfl, rfl⟩
          · cases e
          · cases e
          · rw [run_equalIn_string w d _ p q ht, beq_toListBytes]
        · cases hl
theorem isConst_some {x : Operand} (h : isConstO x = true) : ∃ v, x = .const v := by
  cases x <;> first | exact ⟨_, rfl⟩ | cases h
section
variable {t e e' D : TypeId} {a : Addr} {v : Value} {n1 n2 m1 m2 r : Nat} {f : Fn} {xs ys : Array Value} (d : Nat) (w : World)
theorem eqI_ptr0 (ht : P.underlying t = some (.pointer e)) : (Op.equalIn (d + 1) t (.pointer none) (.pointer none)).run P w = .ok true w := by
  rw [Op.equalIn, Sem.run_bind, run_underlying ht, Result.andThen_ok]; rfl
theorem eqI_ptr1 (ht : P.underlying t = some (.pointer e)) : (Op.equalIn (d + 1) t (.pointer none) (.pointer (some a))).run P w = .ok false w := by
  rw [Op.equalIn, Sem.run_bind, run_underlying ht, Result.andThen_ok]; rfl
theorem eqI_ptr2 (ht : P.underlying t = some (.pointer e)) : (Op.equalIn (d + 1) t (.pointer (some a)) (.pointer none)).run P w = .ok false w := by
  rw [Op.equalIn, Sem.run_bind, run_underlying ht, Result.andThen_ok]; rfl
theorem eqI_ifc0 {ms} (ht : P.underlying t = some (.interface ms)) : (Op.equalIn (d + 1) t .nilIface .nilIface).run P w = .ok true w := by
  rw [Op.equalIn, Sem.run_bind, run_underlying ht, Result.andThen_ok]; rfl
theorem eqI_ifc1 {ms} (ht : P.underlying t = some (.interface ms)) : (Op.equalIn (d + 1) t .nilIface (.iface D v)).run P w = .ok false w := by
  rw [Op.equalIn, Sem.run_bind, run_underlying ht, Result.andThen_ok]; rfl
theorem eqI_ifc2 {ms} (ht : P.underlying t = some (.interface ms)) : (Op.equalIn (d + 1) t (.iface D v) .nilIface).run P w = .ok false w := by
  rw [Op.equalIn, Sem.run_bind, run_underlying ht, Result.andThen_ok]; rfl
theorem eqI_sl0 (ht : P.underlying t = some (.slice e)) : (Op.equalIn (d + 1) t (.slice none n1 m1) (.slice none n2 m2)).run P w = .ok true w := by
  rw [Op.equalIn, Sem.run_bind, run_underlying ht, Result.andThen_ok]; rfl
theorem eqI_sl1 (ht : P.underlying t = some (.slice e)) : (Op.equalIn (d + 1) t (.slice none n1 m1) (.slice (some a) n2 m2)).run P w = .ok false w := by
  rw [Op.equalIn, Sem.run_bind, run_underlying ht, Result.andThen_ok]; rfl
theorem eqI_sl2 (ht : P.underlying t = some (.slice e)) : (Op.equalIn (d + 1) t (.slice (some a) n1 m1) (.slice none n2 m2)).run P w = .ok false w := by
  rw [Op.equalIn, Sem.run_bind, run_underlying ht, Result.andThen_ok]; rfl
theorem eqI_map0 (ht : P.underlying t = some (.map e e')) : (Op.equalIn (d + 1) t (.map none) (.map none)).run P w = .ok true w := by
  rw [Op.equalIn, Sem.run_bind, run_underlying ht, Result.andThen_ok]; rfl
theorem eqI_map1 (ht : P.underlying t = some (.map e e')) : (Op.equalIn (d + 1) t (.map none) (.map (some r))).run P w = .ok false w := by
  rw [Op.equalIn, Sem.run_bind, run_underlying ht, Result.andThen_ok]; rfl
theorem eqI_map2 (ht : P.underlying t = some (.map e e')) : (Op.equalIn (d + 1) t (.map (some r)) (.map none)).run P w = .ok false w := by
  rw [Op.equalIn, Sem.run_bind, run_underlying ht, Result.andThen_ok]; rfl
theorem eqI_fn0 {fa fb fc} (ht : P.underlying t = some (.func fa fb fc)) : (Op.equalIn (d + 1) t .nilFunc .nilFunc).run P w = .ok true w := by
  rw [Op.equalIn, Sem.run_bind, run_underlying ht, Result.andThen_ok]; rfl
theorem eqI_fn1 {fa fb fc} (ht : P.underlying t = some (.func fa fb fc)) : (Op.equalIn (d + 1) t .nilFunc (.func f xs ys)).run P w = .ok false w := by
  rw [Op.equalIn, Sem.run_bind, run_underlying ht, Result.andThen_ok]; rfl
theorem eqI_fn2 {fa fb fc} (ht : P.underlying t = some (.func fa fb fc)) : (Op.equalIn (d + 1) t (.func f xs ys) .nilFunc).run P w = .ok false w := by
  rw [Op.equalIn, Sem.run_bind, run_underlying ht, Result.andThen_ok]; rfl
end
theorem eq_run {t : TypeId} {x y : Operand} {k : EqK} {u v : CV} {b : Bool} (op : BinOp) (hk : eqKind P t = some k) (hx : VRel ψ u (ρ x)) (hy : VRel ψ v (ρ y))
    (hc : eqC k (isConstO x || isConstO y) u v = some b) (hop : op = .eql ∨ op = .neq) (w : World) :
    (eqGuard op t x y (ρ x) (ρ y)).run P w = .ok () w ∧ (Op.equal t (ρ x) (ρ y)).run P w = .ok b w ∧
      (∀ k' a j c, ¬ (ρ x = .int k' a ∧ ρ y = .int j c)) ∧ (∀ s r, ¬ (ρ x = .string s ∧ ρ y = .string r)) ∧ (∀ s c, ρ x ≠ .float s c) ∧ (∀ s c d, ρ x ≠ .complex s c d) := by
  obtain ⟨dd, hd⟩ : ∃ dd, ∀ a b, Op.equal t a b = Op.equalIn (dd + 1 + 1) t a b := ⟨9998, fun _ _ => rfl⟩
  unfold eqKind und at hk
  split at hk
  · rename_i ht
    injection hk with hk; subst hk
    rcases eqCell_rel hx hy hc with ⟨_, p, q, h1, h2, rfl⟩ | ⟨e, _⟩ | ⟨e, _⟩
    · rw [h1, h2, hd]
      exact ⟨by rw [eqGuard_at_bool]; rfl, run_equalIn_bool' w _ _ p q ht, by simp, by simp, by simp, by simp⟩
    · cases e
    · cases e
  · rename_i e ht
    injection hk with hk; subst hk
    unfold eqC at hc
    simp only at hc
    split at hc
    · injection hc with hc; subst hc
      rw [vrel_nilptr] at hx hy
      rw [hx, hy, hd]
      exact ⟨by rw [eqGuard_at_pointer]; rfl, eqI_ptr0 _ w ht, by simp, by simp, by simp, by simp⟩
    · injection hc with hc; subst hc
      rw [vrel_nilptr] at hx
      rw [vrel_ptr] at hy
      obtain ⟨p, _, hy⟩ := hy
      rw [hx, hy, hd]
      exact ⟨by rw [eqGuard_at_pointer]; rfl, eqI_ptr1 _ w ht, by simp, by simp, by simp, by simp⟩
    · injection hc with hc; subst hc
      rw [vrel_nilptr] at hy
      rw [vrel_ptr] at hx
      obtain ⟨p, _, hx⟩ := hx
      rw [hx, hy, hd]
      exact ⟨by rw [eqGuard_at_pointer]; rfl, eqI_ptr2 _ w ht, by simp, by simp, by simp, by simp⟩
    · cases hc
  · rename_i ms ht
    injection hk with hk; subst hk
    unfold eqC at hc
    simp only at hc
    split at hc
    · split at hc
      · rename_i hcst
        injection hc with hc; subst hc
        rw [vrel_niliface] at hx hy
        rw [hx, hy, hd]
        refine ⟨?_, eqI_ifc0 _ w ht, by simp, by simp, by simp, by simp⟩
        rcases Bool.or_eq_true_iff.1 hcst with h1 | h1
        · obtain ⟨c, rfl⟩ := isConst_some h1
          rw [eqGuard_nil_constL]; rfl
        · obtain ⟨c, rfl⟩ := isConst_some h1
          rw [eqGuard_nil_constR]; rfl
      · cases hc
    · injection hc with hc; subst hc
      rw [vrel_niliface] at hx
      rw [vrel_iface] at hy
      obtain ⟨p, hy, _⟩ := hy
      rw [hx, hy, hd]
      exact ⟨by rw [eqGuard_nil_iface]; rfl, eqI_ifc1 _ w ht, by simp, by simp, by simp, by simp⟩
    · injection hc with hc; subst hc
      rw [vrel_niliface] at hy
      rw [vrel_iface] at hx
      obtain ⟨p, hx, _⟩ := hx
      rw [hx, hy, hd]
      exact ⟨by rw [eqGuard_at_iface]; rfl, eqI_ifc2 _ w ht, by simp, by simp, by simp, by simp⟩
    · cases hc
  · rename_i e ht
    injection hk with hk; subst hk
    unfold eqC at hc
    simp only at hc
    split at hc
    · injection hc with hc; subst hc
      rw [vrel_nilsl] at hx hy
      rw [hx, hy, hd]
      exact ⟨by rw [eqGuard_at_slice]; rfl, eqI_sl0 _ w ht, by simp, by simp, by simp, by simp⟩
    · injection hc with hc; subst hc
      rw [vrel_nilsl] at hx
      rw [vrel_sl] at hy
      obtain ⟨p, _, _, _, hy, _⟩ := hy
      rw [hx, hy, hd]
      exact ⟨by rw [eqGuard_at_slice]; rfl, eqI_sl1 _ w ht, by simp, by simp, by simp, by simp⟩
    · injection hc with hc; subst hc
      rw [vrel_nilsl] at hy
      rw [vrel_sl] at hx
      obtain ⟨p, _, _, _, hx, _⟩ := hx
      rw [hx, hy, hd]
      exact ⟨by rw [eqGuard_at_slice]; rfl, eqI_sl2 _ w ht, by simp, by simp, by simp, by simp⟩
    · cases hc
  · rename_i e e' ht
    injection hk with hk; subst hk
    unfold eqC at hc
    simp only at hc
    split at hc
    · injection hc with hc; subst hc
      rw [vrel_nilmap] at hx hy
      rw [hx, hy, hd]
      exact ⟨by rw [eqGuard_at_map]; rfl, eqI_map0 _ w ht, by simp, by simp, by simp, by simp⟩
    · injection hc with hc; subst hc
      rw [vrel_nilmap] at hx
      rw [vrel_map] at hy
      obtain ⟨p, _, hy⟩ := hy
      rw [hx, hy, hd]
      exact ⟨by rw [eqGuard_at_map]; rfl, eqI_map1 _ w ht, by simp, by simp, by simp, by simp⟩
    · injection hc with hc; subst hc
      rw [vrel_nilmap] at hy
      rw [vrel_map] at hx
      obtain ⟨p, _, hx⟩ := hx
      rw [hx, hy, hd]
      exact ⟨by rw [eqGuard_at_map]; rfl, eqI_map2 _ w ht, by simp, by simp, by simp, by simp⟩
    · cases hc
  · rename_i a1 a2 a3 ht
    injection hk with hk; subst hk
    unfold eqC at hc
    simp only at hc
    split at hc
    · injection hc with hc; subst hc
      rw [vrel_nilfunc] at hx hy
      rw [hx, hy, hd]
      exact ⟨by rw [eqGuard_at_nilFunc]; rfl, eqI_fn0 _ w ht, by simp, by simp, by simp, by simp⟩
    · injection hc with hc; subst hc
      rw [vrel_nilfunc] at hx
      rw [vrel_func] at hy
      obtain ⟨_, _, hy, _⟩ := hy
      rw [hx, hy, hd]
      exact ⟨by rw [eqGuard_at_nilFunc]; rfl, eqI_fn1 _ w ht, by simp, by simp, by simp, by simp⟩
    · injection hc with hc; subst hc
      rw [vrel_nilfunc] at hy
      rw [vrel_func] at hx
      obtain ⟨_, _, hx, _⟩ := hx
      rw [hx, hy, hd]
      exact ⟨by rw [eqGuard_at_func]; rfl, eqI_fn2 _ w ht, by simp, by simp, by simp, by simp⟩
    · cases hc
  · rename_i fs ht
    split at hk
    · cases hk
    · rename_i hg
      rw [Bool.not_eq_true, Bool.or_eq_false_iff] at hg
      cases hf : eqFieldsK P fs.toList with
      | none => rw [hf] at hk; cases hk
      | some l =>
        rw [hf] at hk
        injection hk with hk; subst hk
        unfold eqC at hc
        simp only at hc
        split at hc
        · rw [vrel_agg] at hx hy
          obtain ⟨us, h1, hx⟩ := hx
          obtain ⟨vs, h2, hy⟩ := hy
          have hfo : P.fieldsOf t = fs := by unfold Program.fieldsOf; rw [ht]
          rw [h1, h2, hd]
          refine ⟨run_eqGuard_agg w op t x y us vs hg.1, ?_, by simp, by simp, by simp, by simp⟩
          rw [run_equalIn_struct w (dd + 1) t us vs (by rw [hfo]; exact ht) hg.2, hfo]
          exact eqFields_rel hx hy dd w fs.toList hf hc
        · cases hc
  · cases hk
theorem run_eql {t : TypeId} {u v : Value} {b : Bool} (w : World) (he : (Op.equal t u v).run P w = .ok b w) (h1 : ∀ k' a j c, ¬ (u = .int k' a ∧ v = .int j c)) (h2 : ∀ s r, ¬ (u = .string s ∧ v = .string r))
    (h3 : ∀ s c, u ≠ .float s c) (h4 : ∀ s c d, u ≠ .complex s c d) : (binOp .eql t u v).run P w = .ok (.bool b) w ∧ (binOp .neq t u v).run P w = .ok (.bool (!b)) w := by
  have e1 : binOp .eql t u v = (do pure (.bool (← Op.equal t u v))) := by
    unfold binOp
    split <;> first | rfl | exact absurd ⟨rfl, rfl⟩ (h1 _ _ _ _) | exact absurd ⟨rfl, rfl⟩ (h2 _ _) | exact absurd rfl (h3 _ _) | exact absurd rfl (h4 _ _ _) | (simp_all; done)
  have e2 : binOp .neq t u v = (do pure (.bool (!(← Op.equal t u v)))) := by
    unfold binOp
    split <;> first | rfl | exact absurd ⟨rfl, rfl⟩ (h1 _ _ _ _) | exact absurd ⟨rfl, rfl⟩ (h2 _ _) | exact absurd rfl (h3 _ _) | exact absurd rfl (h4 _ _ _) | (simp_all; done)
  rw [e1, e2]
  simp [he]
theorem eq_sim {neg : Bool} {t : TypeId} {x y : Operand} {k : EqK} {m : TypeId} {c d : CArg} (hk : eqKind P t = some k) (hx : VRel ψ (aV es tm c) (ρ x)) (hy : VRel ψ (aV es tm d) (ρ y)) :
    SimAt P ψ h n ρ (.binOp (match neg with | true => .neq | false => .eql) t x y m) ty w (exec P (.eq neg k (isConstO x || isConstO y) c d) es tm h n) := by
  show SimAt P ψ h n ρ _ ty w (match eqC k (isConstO x || isConstO y) (aV es tm c) (aV es tm d) with
    | some b => .val (.bool (xor neg b))
    | none => .err 123)
  cases hc : eqC k (isConstO x || isConstO y) (aV es tm c) (aV es tm d) with
  | none => exact sim_err _
  | some b =>
    obtain ⟨h1, h2, h3, h4, h5, h6⟩ := eq_run (match neg with | true => .neq | false => .eql) hk hx hy hc (by cases neg <;> simp) w
    obtain ⟨e1, e2⟩ := run_eql w h2 h3 h4 h5 h6
    cases neg with
    | false =>
      refine ⟨.bool b, valOut ?_, vrel_bool.2 (by cases b <;> rfl)⟩
      have h1 := h1
      simp only at h1
      simp [execOp, h1, e1]
    | true =>
      refine ⟨.bool (!b), valOut ?_, vrel_bool.2 (by cases b <;> rfl)⟩
      have h1 := h1
      simp only at h1
      simp [execOp, h1, e2]
theorem sim_binOp (op : BinOp) (t : TypeId) (x y : Operand) (m : TypeId) (ha : ArgsOk P ψ es tm E ρ [x, y]) :
    SimAt P ψ h n ρ (.binOp op t x y m) ty w (exec P (compOp P E (.binOp op t x y m)) es tm h n) := by
  rw [compOp]
  unfold compBin
  split
  · exact args2_elim (C := SimAt P ψ h n ρ (.binOp op t x y m) ty w) sim_err fun c d hc hd => arith_sim (ha x (by simp) c hc) (ha y (by simp) d hd)
  · exact args2_elim (C := SimAt P ψ h n ρ (.binOp op t x y m) ty w) sim_err fun c d hc hd => arith_sim (ha x (by simp) c hc) (ha y (by simp) d hd)
  · split
    · rename_i k hk
      exact args2_elim (C := SimAt P ψ h n ρ (.binOp .eql t x y m) ty w) sim_err fun c d hc hd => eq_sim (neg := false) hk (ha x (by simp) c hc) (ha y (by simp) d hd)
    · rename_i k hk
      exact args2_elim (C := SimAt P ψ h n ρ (.binOp .neq t x y m) ty w) sim_err fun c d hc hd => eq_sim (neg := true) hk (ha x (by simp) c hc) (ha y (by simp) d hd)
    · exact sim_err _
end
end Go.Ev

namespace Go.Ev
variable [Sym]
noncomputable section
variable {P : Program} {ψ : Psi} {es : List CV} {tm : Tm} {h : Heap} {n : Key} {ρ : Operand → Value} {E : Env} {ty : TypeId} {w : World}
variable [SymFact P]
theorem sim_unOp (op : UnOp) (t : TypeId) (x : Operand) (ha : ArgsOk P ψ es tm E ρ [x]) : SimAt P ψ h n ρ (.unOp op t x) ty w (exec P (compOp P E (.unOp op t x)) es tm h n) := by
  refine args1_elim (C := SimAt P ψ h n ρ (.unOp op t x) ty w) sim_err fun c hc => ?_
  have hx := ha x (by simp) c hc
  cases op with
  | neg =>
    have main : ∀ k m, ρ x = .int k m → SimAt P ψ h n ρ (.unOp .neg t x) ty w (.val (mkInt k (wrapI k (Int.sub (.ofNat 0) m)))) := by
      intro k m e
      refine ⟨_, valOut ?_, mkInt_rel _ _⟩
      simp only [execOp, e, Op.unary, Op.intArith, wrapI_eq]
      rfl
    refine onInt_elim (C := SimAt P ψ h n ρ (.unOp .neg t x) ty w) _ _ _ (sim_err _) (fun m hm => ?_) (fun k m hm => ?_)
    · rw [hm, vrel_nat] at hx; exact main _ _ hx
    · rw [hm, vrel_int] at hx; exact main _ _ hx
  | xor =>
    have main : ∀ k m, ρ x = .int k m → SimAt P ψ h n ρ (.unOp .xor t x) ty w (oVal (aXor k (if k.signed then -1 else k.max) m) 125) := by
      intro k m e
      refine ⟨_, valOut ?_, mkInt_rel _ _⟩
      simp only [execOp, e, Op.unary, Op.intBits, wrapI_eq, toU_eq]
      simp only [Sem.run_bind, Sem.run_pure, Result.andThen_ok, BitVec.toNat_xor]
      rfl
    refine onInt_elim (C := SimAt P ψ h n ρ (.unOp .xor t x) ty w) _ _ _ (sim_err _) (fun m hm => ?_) (fun k m hm => ?_)
    · rw [hm, vrel_nat] at hx; exact main _ _ hx
    · rw [hm, vrel_int] at hx; exact main _ _ hx
  | not =>
    refine onBool_elim (C := SimAt P ψ h n ρ (.unOp .not t x) ty w) _ _ _ (sim_err _) fun b hb => ?_
    rw [hb, vrel_bool] at hx
    exact ⟨.bool (!b), valOut (by simp [execOp, hx, Op.unary]), vrel_bool.2 (by rw [notB_eq])⟩
  | plus => exact sim_err _
theorem sim_makeInterface (t : TypeId) (x : Operand) (ha : ArgsOk P ψ es tm E ρ [x]) : SimAt P ψ h n ρ (.makeInterface t x) ty w (exec P (compOp P E (.makeInterface t x)) es tm h n) := by
  rw [compOp]
  unfold und
  split
  · exact sim_err _
  · rename_i d hd ht
    refine args1_elim (C := SimAt P ψ h n ρ (.makeInterface t x) ty w) sim_err fun c hc => ⟨.iface t (ρ x), valOut ?_, vrel_iface.2 ⟨_, rfl, ha x (by simp) c hc⟩⟩
    simp only [execOp, Instr.makeInterface, Sem.run_bind, run_underlying ht, Result.andThen_ok]
    cases d <;> first | rfl | exact absurd ht (hd _)
  · exact sim_err _
theorem sim_makeFunc (fn : Fn) (a b : Array Operand) (ha : ArgsOk P ψ es tm E ρ (a.toList ++ b.toList)) : SimAt P ψ h n ρ (.makeFunc fn a b) ty w (exec P (compOp P E (.makeFunc fn a b)) es tm h n) := by
  rw [compOp]
  split
  · rename_i a' b' h1 h2
    refine ⟨.func fn (a.map ρ) (b.map ρ), valOut ?_, vrel_func.2 ⟨_, _, rfl, ?_, ?_⟩⟩
    · simp [execOp, Instr.makeFunc]
    · rw [Array.toList_map]; exact args_rel _ (ha.sub fun y hy => by simp; exact .inl (by simpa using hy)) h1
    · rw [Array.toList_map]; exact args_rel _ (ha.sub fun y hy => by simp; exact .inr (by simpa using hy)) h2
  · exact sim_err _
theorem compOp_makeMap (t : TypeId) (r : Option Operand) : compOp P E (.makeMap t r) = (match und P t, r with
    | some (.map _ _), none => .mkmap
    | some (.map _ _), some (.const (.int _ _)) => .mkmap
    | _, _ => .bad 28) := rfl
theorem sim_makeMap (t : TypeId) (r : Option Operand) (hρ : ∀ v, ρ (.const v) = v) : SimAt P ψ h n ρ (.makeMap t r) ty w (exec P (compOp P E (.makeMap t r)) es tm h n) := by
  have main : (∀ v, r.map ρ = some v → ∃ k m, v = .int k m) → (∃ a b, P.underlying t = some (.map a b)) → SimAt P ψ h n ρ (.makeMap t r) ty w (exec P .mkmap es tm h n) := by
    intro hr ⟨a, b, ht⟩
    refine ⟨_, .map (some w.heap.size), 0, valOut ?_, new_push _ (.map #[] 0), fun ψ' _ hn => ⟨vrel_map.2 ⟨_, hn, rfl⟩, #[], by simp, MapIs.nil, CkOk.id 0⟩, by simp [szAt]⟩
    cases r with
    | none => simp [execOp, Instr.makeMap]
    | some x =>
      obtain ⟨k, m, e⟩ := hr (ρ x) rfl
      simp [execOp, Instr.makeMap, e, run_underlying ht, asInt, asIntOf]
  rw [compOp_makeMap]
  unfold und
  split
  · rename_i a b ht
    exact main (by simp) ⟨a, b, ht⟩
  · rename_i a b k m ht
    refine main (fun v hv => ?_) ⟨a, b, ht⟩
    simp only [Option.map_some, hρ] at hv
    injection hv with hv
    exact ⟨_, _, hv.symm⟩
  · exact sim_err _
theorem sim_extract (x : Operand) (i : Nat) (ha : ArgsOk P ψ es tm E ρ [x]) : SimAt P ψ h n ρ (.extract x i) ty w (exec P (compOp P E (.extract x i)) es tm h n) := by
  refine args1_elim (C := SimAt P ψ h n ρ (.extract x i) ty w) sim_err fun c hc => ?_
  have hx := ha x (by simp) c hc
  refine onTup_elim (C := SimAt P ψ h n ρ (.extract x i) ty w) _ _ _ (sim_err _) fun cs hcs => ?_
  refine oVal_elim (C := SimAt P ψ h n ρ (.extract x i) ty w) _ _ (sim_err _) fun v hv => ?_
  rw [hcs, vrel_tup] at hx
  obtain ⟨a, hx, hr⟩ := hx
  rw [nthV_eq] at hv
  obtain ⟨y, hy, hr⟩ := hr.get hv
  have hy : a[i]? = some y := by simpa using hy
  exact ⟨y, valOut (by simp [execOp, hx, Instr.extract, hy]), hr⟩
theorem part_rel {a : Bool} {t : TypeId} {s : Nat} {cs : List CV} {vs : Array Value} {off : Nat} (ha : isAggT P t = some a) (hs : szOf P t = some s) (hr : VRels ψ cs vs.toList) (w : World) :
    (a = false → ∀ v, nthV cs off = some v → ∃ y, (part t vs off).run P w = .ok y w ∧ VRel ψ v y) ∧
    (a = true → ∀ l, subV cs off s = some l → ∃ y, (part t vs off).run P w = .ok y w ∧ VRel ψ (.agg l) y) := by
  constructor
  · rintro rfl v hv
    rw [nthV_eq] at hv
    obtain ⟨y, hy, hr⟩ := hr.get hv
    exact ⟨y, run_part_one ha (by simpa using hy) w, hr⟩
  · rintro rfl l hl
    refine ⟨_, run_part_agg ha hs w, vrel_agg.2 ⟨_, rfl, ?_⟩⟩
    obtain ⟨h1, rfl⟩ := subV_some hl
    have : (vs.extract off (off + s)).toList = (vs.toList.drop off).take s := by
      rw [Array.toList_extract, List.extract_eq_take_drop]; simp
    rw [this]
    exact (hr.drop off).take s
theorem sim_field (t : TypeId) (x : Operand) (f : Nat) (ha : ArgsOk P ψ es tm E ρ [x]) : SimAt P ψ h n ρ (.field t x f) ty w (exec P (compOp P E (.field t x f)) es tm h n) := by
  rw [compOp]
  unfold und
  split
  · rename_i fs ht
    rw [nth_eq]
    split
    · rename_i fd hfd
      split
      · rename_i a s h1 h2
        refine args1_elim (C := SimAt P ψ h n ρ (.field t x f) ty w) sim_err fun c hc => ?_
        have hx := ha x (by simp) c hc
        refine onAgg_elim (C := SimAt P ψ h n ρ (.field t x f) ty w) _ _ _ (sim_err _) fun cs hcs => ?_
        rw [hcs, vrel_agg] at hx
        obtain ⟨vs, hx, hr⟩ := hx
        have hp := part_rel (off := fd.offset) h1 h2 hr w
        have run : ∀ y, (part fd.type vs fd.offset).run P w = .ok y w → (execOp ρ (dummy (.field t x f) ty)).run P w = .ok (.value y) w := by
          intro y hy
          have hfd : fs[f]? = some fd := by simpa using hfd
          simp [execOp, Instr.field, run_underlying ht, hfd, hx, asAgg, hy]
        cases a with
        | false =>
          refine oVal_elim (C := SimAt P ψ h n ρ (.field t x f) ty w) _ _ (sim_err _) fun v hv => ?_
          obtain ⟨y, hy, hv⟩ := hp.1 rfl v hv
          exact ⟨y, valOut (run y hy), hv⟩
        | true =>
          refine oAgg_elim (C := SimAt P ψ h n ρ (.field t x f) ty w) _ _ (sim_err _) fun l hl => ?_
          obtain ⟨y, hy, hv⟩ := hp.2 rfl l hl
          exact ⟨y, valOut (run y hy), hv⟩
      · exact sim_err _
    · exact sim_err _
  · exact sim_err _
theorem sim_fieldAddr (t : TypeId) (x : Operand) (f : Nat) (ha : ArgsOk P ψ es tm E ρ [x]) : SimAt P ψ h n ρ (.fieldAddr t x f) ty w (exec P (compOp P E (.fieldAddr t x f)) es tm h n) := by
  rw [compOp]
  unfold und
  split
  · rename_i fs ht
    rw [nth_eq]
    split
    · rename_i fd hfd
      split
      · rename_i s h1
        refine args1_elim (C := SimAt P ψ h n ρ (.fieldAddr t x f) ty w) sim_err fun c hc => ?_
        have hx := ha x (by simp) c hc
        refine onPtr_elim (C := SimAt P ψ h n ρ (.fieldAddr t x f) ty w) _ _ _ (sim_err _) fun b off hv => ?_
        show SimAt P ψ h n ρ _ ty w (fNat _ _)
        rw [fNat_eq]
        rw [hv, vrel_ptr] at hx
        obtain ⟨p, hp, hx⟩ := hx
        have hfd : fs[f]? = some fd := by simpa using hfd
        refine ⟨.pointer (some ⟨p.blk, p.off + (off + fd.offset), none⟩), valOut ?_, vrel_ptr.2 ⟨p, hp, rfl⟩⟩
        simp [execOp, Instr.fieldAt, run_underlying ht, hfd, hx, Instr.sureAddr, fieldPlace, run_szOf h1, addr_add, Nat.add_assoc]
      · exact sim_err _
    · exact sim_err _
  · exact sim_err _
end
end Go.Ev

namespace Go.Ev
variable [Sym]
noncomputable section
variable {P : Program} {ψ : Psi} {es : List CV} {tm : Tm} {h : Heap} {n : Key} {ρ : Operand → Value} {E : Env} {ty : TypeId} {w : World}
variable [SymFact P]
theorem nat_of {c : CV} {v : Value} (hx : VRel ψ c v) {i : Nat} (hc : c = .nat i ∨ ∃ k, c = .int k (.ofNat i)) : ∃ k, v = .int k (Int.ofNat i) := by
  rcases hc with rfl | ⟨k, rfl⟩
  · exact ⟨_, vrel_nat.1 hx⟩
  · exact ⟨_, vrel_int.1 hx⟩
theorem onNat_elim' {C : OR → Prop} (v : CV) (k : Nat → OR) (e : Nat) (he : C (.err e)) (hk : ∀ i, (v = .nat i ∨ ∃ j, v = .int j (.ofNat i)) → C (k i)) : C (onNat v k e) :=
  onNat_elim v k e he (fun i h => hk i (.inl h)) (fun j i h => hk i (.inr ⟨j, h⟩))
theorem llEq_eq : ∀ {a b : List (Nat × Int)}, llEq a b = true → a = b
  | [], [], _ => rfl
  | [], _ :: _, h => by cases h
  | _ :: _, [], h => by cases h
  | (i, x) :: l, (j, y) :: m, h => by
    unfold llEq at h
    rw [Bool.and_eq_true, Bool.and_eq_true, intEq_iff, decide_eq_true_eq] at h
    rw [beq_yes h.1.1, h.1.2, llEq_eq h.2]
theorem seEq_eq {a b : SE} (h : seEq a b = true) : a = b := by
  unfold seEq at h
  rw [Bool.and_eq_true, Bool.and_eq_true, kEq_iff, intEq_iff, decide_eq_true_eq, decide_eq_true_eq] at h
  obtain ⟨k1, c1, l1⟩ := a
  obtain ⟨k2, c2, l2⟩ := b
  simp only at h
  rw [h.1.1, h.1.2, llEq_eq h.2]
theorem sim_indexAddr (t : TypeId) (x i : Operand) (ha : ArgsOk P ψ es tm E ρ [x, i]) : SimAt P ψ h n ρ (.indexAddr t x i) ty w (exec P (compOp P E (.indexAddr t x i)) es tm h n) := by
  rw [compOp]
  unfold und
  split
  · rename_i len e ht
    split
    · rename_i s hs
      refine args2_elim (C := SimAt P ψ h n ρ (.indexAddr t x i) ty w) sim_err fun c d hc hd => ?_
      have hx := ha x (by simp) c hc
      have hi := ha i (by simp) d hd
      refine onPtr_elim (C := SimAt P ψ h n ρ (.indexAddr t x i) ty w) _ _ _ (sim_err _) fun b off hv => ?_
      refine onNat_elim' (C := SimAt P ψ h n ρ (.indexAddr t x i) ty w) _ _ _ (sim_err _) fun j hj => ?_
      refine onOkB_elim (C := SimAt P ψ h n ρ (.indexAddr t x i) ty w) _ _ _ (sim_err _) fun hlt => ?_
      rw [fNat_eq]
      have hlt : j < len := ble_yes hlt
      obtain ⟨k, hi⟩ := nat_of hi hj
      rw [hv, vrel_ptr] at hx
      obtain ⟨p, hp, hx⟩ := hx
      refine ⟨.pointer (some ⟨p.blk, p.off + (off + j * s), none⟩), valOut ?_, vrel_ptr.2 ⟨p, hp, rfl⟩⟩
      have h1 : (0 : Int) ≤ Int.ofNat j ∧ Int.ofNat j < (len : Int) := by simp; omega
      simp [execOp, Instr.indexAt, hi, hx, asIntOf, run_underlying ht, Instr.sureAddr, hlt, run_szOf hs, addr_add, Nat.add_assoc]
    · exact sim_err _
  · rename_i e ht
    split
    · rename_i s hs
      refine args2_elim (C := SimAt P ψ h n ρ (.indexAddr t x i) ty w) sim_err fun c d hc hd => ?_
      have hx := ha x (by simp) c hc
      have hi := ha i (by simp) d hd
      refine onWin_elim (C := SimAt P ψ h n ρ (.indexAddr t x i) ty w) _ _ _ ?_ fun b s0 e0 n0 hv => ?_
      case refine_2 =>
        rw [hv, vrel_win] at hx
        obtain ⟨_, base, len, cap, iv, hx, hn, he, hoff⟩ := hx
        unfold winIx
        split
        · rename_i j hj
          split
          · rename_i hq
            rw [Bool.and_eq_true] at hq
            obtain rfl := seEq_eq hq.1
            obtain rfl := beq_yes hq.2
            split
            · rename_i h1 h2
              obtain ⟨_, z1, hz1, c1, hc1, hr1⟩ := (SymFact.ok (P := P)).1 _ _ _ _ h1 ψ 0 (.int .i64 0) (.int .i64 iv) w (vrel_nat.2 rfl) (vrel_sym.2 he.symm)
              obtain ⟨_, z2, hz2, c2, hc2, hr2⟩ := (SymFact.ok (P := P)).1 _ _ _ _ h2 ψ 0 (.int .i64 iv) (.int .i64 len) w (vrel_sym.2 he.symm) (vrel_sym.2 hn.symm)
              obtain rfl : c1 = .bool true := by simpa using hc1
              obtain rfl : c2 = .bool true := by simpa using hc2
              rw [vrel_bool.1 hr1] at hz1
              rw [vrel_bool.1 hr2] at hz2
              have g1 : 0 ≤ iv := by simpa [binOp, Op.intCmp] using hz1
              have g2 : iv < len := by simpa [binOp, Op.intCmp] using hz2
              rw [hj, vrel_sym, he] at hi
              obtain ⟨m, rfl⟩ : ∃ m : Nat, iv = (m : Int) := ⟨iv.toNat, by omega⟩
              have hm : m < len := by omega
              obtain ⟨p, x', hp, hbase, hof2⟩ := hoff (by omega) g2
              subst hbase
              rw [Int.toNat_natCast] at hof2
              refine ⟨.pointer (some ⟨p.blk, p.off + 0, none⟩), valOut ?_, vrel_ptr.2 ⟨p, hp, rfl⟩⟩
              simp [execOp, Instr.indexAt, hi, hx, asIntOf, run_underlying ht, hm, run_szOf hs, addr_add]
              exact hof2.symm
            · exact sim_err _
          · exact sim_err _
        · exact sim_err _
      refine onSl_elim (C := SimAt P ψ h n ρ (.indexAddr t x i) ty w) _ _ _ _ (sim_err _) (fun _ => sim_err _) fun b off len cap s' ex hv => ?_
      refine onNat_elim' (C := SimAt P ψ h n ρ (.indexAddr t x i) ty w) _ _ _ (sim_err _) fun j hj => ?_
      refine onOkB_elim (C := SimAt P ψ h n ρ (.indexAddr t x i) ty w) _ _ _ (sim_err _) fun hlt => ?_
      rw [fNat_eq]
      have hlt : j < len := ble_yes hlt
      obtain ⟨k, hi⟩ := nat_of hi hj
      rw [hv, vrel_sl] at hx
      obtain ⟨p, x', cap', hp, hx, _, hl, _, hor⟩ := hx
      have hx' : x' = p.off + off := by
        rcases hor with h | h
        · exact h.1
        · omega
      subst hx'
      refine ⟨.pointer (some ⟨p.blk, p.off + (off + j * s), none⟩), valOut ?_, vrel_ptr.2 ⟨p, hp, rfl⟩⟩
      simp [execOp, Instr.indexAt, hi, hx, asIntOf, run_underlying ht, hlt, run_szOf hs, addr_add, Nat.add_assoc]
    · exact sim_err _
  · exact sim_err _
theorem sim_index (t : TypeId) (x i : Operand) (ha : ArgsOk P ψ es tm E ρ [x, i]) : SimAt P ψ h n ρ (.index t x i) ty w (exec P (compOp P E (.index t x i)) es tm h n) := by
  rw [compOp]
  unfold und
  split
  · rename_i len e ht
    split
    · rename_i s a hs hag
      refine args2_elim (C := SimAt P ψ h n ρ (.index t x i) ty w) sim_err fun c d hc hd => ?_
      have hx := ha x (by simp) c hc
      have hi := ha i (by simp) d hd
      refine onAgg_elim (C := SimAt P ψ h n ρ (.index t x i) ty w) _ _ _ (sim_err _) fun cs hcs => ?_
      refine onNat_elim' (C := SimAt P ψ h n ρ (.index t x i) ty w) _ _ _ (sim_err _) fun j hj => ?_
      refine onOkB_elim (C := SimAt P ψ h n ρ (.index t x i) ty w) _ _ _ (sim_err _) fun hlt => ?_
      have hlt : j < len := ble_yes hlt
      obtain ⟨k, hi⟩ := nat_of hi hj
      rw [hcs, vrel_agg] at hx
      obtain ⟨vs, hx, hr⟩ := hx
      have hp := part_rel (off := j * s) hag hs hr w
      have run : ∀ y, (part e vs (j * s)).run P w = .ok y w → (execOp ρ (dummy (.index t x i) ty)).run P w = .ok (.value y) w := by
        intro y hy
        simp [execOp, Instr.index, hi, hx, asIntOf, run_underlying ht, hlt, run_szOf hs, hy]
      cases a with
      | false =>
        refine oVal_elim (C := SimAt P ψ h n ρ (.index t x i) ty w) _ _ (sim_err _) fun v hv => ?_
        obtain ⟨y, hy, hv⟩ := hp.1 rfl v hv
        exact ⟨y, valOut (run y hy), hv⟩
      | true =>
        refine oAgg_elim (C := SimAt P ψ h n ρ (.index t x i) ty w) _ _ (sim_err _) fun l hl => ?_
        obtain ⟨y, hy, hv⟩ := hp.2 rfl l hl
        exact ⟨y, valOut (run y hy), hv⟩
    · exact sim_err _
  · rename_i ht
    refine args2_elim (C := SimAt P ψ h n ρ (.index t x i) ty w) sim_err fun c d hc hd => ?_
    have hx := ha x (by simp) c hc
    have hi := ha i (by simp) d hd
    refine onStr_elim (C := SimAt P ψ h n ρ (.index t x i) ty w) _ _ _ (sim_err _) fun l hl => ?_
    refine onNat_elim' (C := SimAt P ψ h n ρ (.index t x i) ty w) _ _ _ (sim_err _) fun j hj => ?_
    refine onN_elim (C := SimAt P ψ h n ρ (.index t x i) ty w) _ _ _ (sim_err _) fun q hq => ?_
    obtain ⟨k, hi⟩ := nat_of hi hj
    rw [hl, vrel_str] at hx
    obtain ⟨s, hx, rfl⟩ := hx
    rw [nthN_eq] at hq
    unfold natsOf at hq
    rw [List.getElem?_map] at hq
    cases hg : s.data.toList[j]? with
    | none => rw [hg] at hq; cases hq
    | some u =>
      rw [hg] at hq
      injection hq with hq
      subst hq
      have hs : s[j]? = some u := by
        have hj : j < s.size := by
          rcases Nat.lt_or_ge j s.data.toList.length with h | h
          · exact h
          · rw [List.getElem?_eq_none h] at hg; cases hg
        rw [getElem?_pos s j hj]
        have := hg
        rw [List.getElem?_eq_getElem (show j < s.data.toList.length from hj)] at this
        exact this
      refine ⟨.int .u8 (u.toNat : Int), valOut ?_, vrel_int.2 rfl⟩
      simp [execOp, Instr.index, hi, hx, asIntOf, run_underlying ht, hs]
  · exact sim_err _
def OptOk (ψ : Psi) (es : List CV) (tm : Tm) (ρ : Operand → Value) (c : Option CArg) (x : Option Operand) : Prop := match c, x with
  | none, none => True
  | some c, some x => VRel ψ (aV es tm c) (ρ x)
  | _, _ => False
theorem compO_ok {x : Option Operand} {c : Option CArg} (hc : compO P E x = some c) (ha : ArgsOk P ψ es tm E ρ x.toList) : OptOk ψ es tm ρ c x := by
  unfold compO at hc
  split at hc
  · injection hc with hc; subst hc; exact trivial
  · rename_i y
    cases h1 : compArg P E y with
    | none => rw [h1] at hc; cases hc
    | some d => rw [h1] at hc; injection hc with hc; subst hc; exact ha y (by simp) d h1
theorem run_bound {v : Value} {k : IntKind} {i y : Nat} {code : BoundsCode} (hv : v = .int k (Int.ofNat i)) (h : i ≤ y) (w : World) : (Instr.sliceBound v y code).run P w = .ok i w := by
  subst hv
  have := run_sliceBound (P := P) (w := w) k (Int.ofNat i) y code (by simp) (by simpa using h)
  simpa using this
theorem boundK_elim {C : OR → Prop} (c : Option CArg) (x : Option Operand) (hok : OptOk ψ es tm ρ c x) (y d : Nat) (k : Nat → OR) (e : Nat) (he : C (.err e))
    (hn : c = none → x = none → C (k d)) (hs : ∀ i o, c ≠ none → x = some o → i ≤ y → (∃ j, ρ o = .int j (Int.ofNat i)) → C (k i)) : C (boundK es tm c y d k e) := by
  cases c with
  | none => cases x with
    | none => exact hn rfl rfl
    | some x => exact hok.elim
  | some c => cases x with
    | none => exact hok.elim
    | some x =>
      refine onNat_elim' (C := C) _ _ _ he fun i hi => ?_
      refine onOkB_elim (C := C) _ _ _ he fun hle => ?_
      exact hs i x (by simp) rfl (ble_yes hle) (nat_of hok hi)
theorem boundsK_elim {C : OR → Prop} (isSl : Bool) (len cap cap' : Nat) (lo hi mx : Option CArg) (xl xh xm : Option Operand) (h1 : OptOk ψ es tm ρ lo xl) (h2 : OptOk ψ es tm ρ hi xh)
    (h3 : OptOk ψ es tm ρ mx xm) (hcap : cap ≤ cap') (k : Nat → Nat → Nat → OR) (e : Nat) (he : C (.err e)) (hno : xm.isSome = true → xh.isSome = true)
    (hk : ∀ l h m m', (∀ w, (Instr.sliceBounds isSl len cap' (xl.map ρ) (xh.map ρ) (xm.map ρ)).run P w = .ok (l, h, m') w) → m ≤ m' → m' ≤ cap' → (mx ≠ none → m' = m) →
      (mx = none → m = cap ∧ m' = cap') → (h = len ∨ h ≤ m') → C (k l h m)) : C (boundsK es tm len cap lo hi mx k e) := by
  refine boundK_elim (C := C) mx xm h3 _ _ _ _ he (fun hm hxm => ?_) (fun m om hm hxm hmle ⟨jm, hjm⟩ => ?_)
  · subst hm hxm
    refine boundK_elim (C := C) hi xh h2 _ _ _ _ he (fun hh hxh => ?_) (fun h oh hh hxh hhle ⟨jh, hjh⟩ => ?_)
    · subst hh hxh
      refine boundK_elim (C := C) lo xl h1 _ _ _ _ he (fun hl hxl => ?_) (fun l ol hl hxl hlle ⟨jl, hjl⟩ => ?_)
      · subst hl hxl
        exact hk _ _ _ cap' (fun w => by simp [Instr.sliceBounds]) hcap (Nat.le_refl _) (by simp) (by simp) (.inl rfl)
      · subst hxl
        exact hk _ _ _ cap' (fun w => by simp [Instr.sliceBounds, run_bound hjl hlle]) hcap (Nat.le_refl _) (by simp) (by simp) (.inl rfl)
    · subst hxh
      have hr := fun (w : World) (code : BoundsCode) => run_bound (P := P) (code := code) hjh (Nat.le_trans hhle hcap) w
      refine boundK_elim (C := C) lo xl h1 _ _ _ _ he (fun hl hxl => ?_) (fun l ol hl hxl hlle ⟨jl, hjl⟩ => ?_)
      · subst hl hxl
        exact hk _ _ _ cap' (fun w => by simp [Instr.sliceBounds, hr]) hcap (Nat.le_refl _) (by simp) (by simp) (.inr (Nat.le_trans hhle hcap))
      · subst hxl
        exact hk _ _ _ cap' (fun w => by simp [Instr.sliceBounds, hr, run_bound hjl hlle]) hcap (Nat.le_refl _) (by simp) (by simp) (.inr (Nat.le_trans hhle hcap))
  · subst hxm
    refine boundK_elim (C := C) hi xh h2 _ _ _ _ he (fun hh hxh => ?_) (fun h oh hh hxh hhle ⟨jh, hjh⟩ => ?_)
    · subst hxh; exact absurd (hno rfl) (by simp)
    · subst hxh
      have hr := fun (w : World) (code : BoundsCode) => run_bound (P := P) (code := code) hjh hhle w
      have hr' := fun (w : World) (code : BoundsCode) => run_bound (P := P) (code := code) hjm (Nat.le_trans hmle hcap) w
      refine boundK_elim (C := C) lo xl h1 _ _ _ _ he (fun hl hxl => ?_) (fun l ol hl hxl hlle ⟨jl, hjl⟩ => ?_)
      · subst hl hxl
        exact hk _ _ _ m (fun w => by simp [Instr.sliceBounds, hr, hr']) (Nat.le_refl _) (Nat.le_trans hmle hcap) (by simp) (fun e => absurd e hm) (.inr hhle)
      · subst hxl
        exact hk _ _ _ m (fun w => by simp [Instr.sliceBounds, hr, hr', run_bound hjl hlle]) (Nat.le_refl _) (Nat.le_trans hmle hcap) (by simp) (fun e => absurd e hm) (.inr hhle)
theorem sim_slice (t : TypeId) (x : Operand) (xl xh xm : Option Operand) (ha : ArgsOk P ψ es tm E ρ ([x] ++ xl.toList ++ xh.toList ++ xm.toList)) :
    SimAt P ψ h n ρ (.slice t x xl xh xm) ty w (exec P (compOp P E (.slice t x xl xh xm)) es tm h n) := by
  rw [compOp]
  unfold compSlice und
  split
  · exact sim_err _
  rename_i hno
  have hno : xm.isSome = true → xh.isSome = true := by
    intro h1; cases xh <;> simp_all
  split
  · rename_i c lo hi mx hc hlo hhi hmx
    have hx := ha x (by simp) c hc
    have o1 := compO_ok hlo (ha.sub fun y hy => by simp at hy ⊢; exact .inr (.inl hy))
    have o2 := compO_ok hhi (ha.sub fun y hy => by simp at hy ⊢; exact .inr (.inr (.inl hy)))
    have o3 := compO_ok hmx (ha.sub fun y hy => by simp at hy ⊢; exact .inr (.inr (.inr hy)))
    split
    · rename_i k e ht
      split
      · rename_i s hs
        refine onPtr_elim (C := SimAt P ψ h n ρ (.slice t x xl xh xm) ty w) _ _ _ (sim_err _) fun b off hv => ?_
        rw [hv, vrel_ptr] at hx
        obtain ⟨p, hp, hx⟩ := hx
        refine boundsK_elim (C := SimAt P ψ h n ρ (.slice t x xl xh xm) ty w) (P := P) false k k k lo hi mx xl xh xm o1 o2 o3 (Nat.le_refl _) _ _ (sim_err _) hno fun l hh m m' hrun hm hm' hmx1 hmx2 hhm => ?_
        refine onOkB_elim (C := SimAt P ψ h n ρ (.slice t x xl xh xm) ty w) _ _ _ (sim_err _) fun hok => ?_
        rw [Bool.and_eq_true] at hok
        have g1 := ble_yes hok.1
        have g2 := ble_yes hok.2
        have hmm : m' = m := by
          cases mx with
          | none => have := hmx2 rfl; omega
          | some _ => exact hmx1 (by simp)
        rw [fNat_eq, fNat_eq, fNat_eq]
        refine ⟨.slice (some (if m' = l then ⟨p.blk, p.off + off, none⟩ else ⟨p.blk, p.off + off + l * (s + 1), none⟩)) (hh - l) (m' - l), valOut ?_, ?_⟩
        · simp only [execOp, Instr.sliceAt, Sem.run_bind, run_underlying ht, Result.andThen_ok, hx, Instr.sureAddr, Sem.run_pure, hrun, run_szOf hs, addr_add]
        · refine vrel_sl.2 ⟨p, if m' = l then p.off + off else p.off + off + l * (s + 1), m' - l, hp, ?_, ?_, ?_, ?_, ?_⟩
          · split <;> rfl
          · subst hmm; exact Nat.le_refl _
          · show hh - l ≤ m' - l; omega
          · intro _; subst hmm; rfl
          · by_cases e : m' = l
            · right; omega
            · left
              refine ⟨by rw [if_neg e]; show p.off + off + l * (s + 1) = p.off + (off + l * (s + 1)); omega, by simp⟩
      · exact sim_err _
    · rename_i e ht
      split
      · rename_i s hs
        refine onSl_elim (C := SimAt P ψ h n ρ (.slice t x xl xh xm) ty w) _ _ _ _ (sim_err _) (fun hv => ?_) fun b off len cap s' ex hv => ?_
        · rw [hv, vrel_nilsl] at hx
          refine boundsK_elim (C := SimAt P ψ h n ρ (.slice t x xl xh xm) ty w) (P := P) true 0 0 0 lo hi mx xl xh xm o1 o2 o3 (Nat.le_refl _) _ _ (sim_err _) hno fun l hh m m' hrun hm hm' hmx1 hmx2 hhm => ?_
          refine ⟨.slice (if m' = l then none else none) (hh - l) (m' - l), valOut ?_, vrel_nilsl.2 ?_⟩
          · simp only [execOp, Instr.sliceAt, Sem.run_bind, run_underlying ht, Result.andThen_ok, hx, Instr.slice, hrun, run_szOf hs, Option.map_none, Sem.run_pure]
          · have e1 : m' - l = 0 := by omega
            have e2 : hh - l = 0 := by omega
            rw [e1, e2, ite_self]
        · refine onOkB_elim (C := SimAt P ψ h n ρ (.slice t x xl xh xm) ty w) _ _ _ (sim_err _) fun hs' => ?_
          have hs' : s' = s + 1 := beq_yes hs'
          subst hs'
          rw [hv, vrel_sl] at hx
          obtain ⟨p, x', cap', hp, hx, hcap, hlen, hex, hor⟩ := hx
          have hmain : SimAt P ψ h n ρ (.slice t x xl xh xm) ty w (boundsK es tm len cap lo hi mx (slOut b off (s + 1) (ex || mx.isSome)) 146) := by
            refine boundsK_elim (C := SimAt P ψ h n ρ (.slice t x xl xh xm) ty w) (P := P) true len cap cap' lo hi mx xl xh xm o1 o2 o3 hcap _ _ (sim_err _) hno fun l hh m m' hrun hm hm' hmx1 hmx2 hhm => ?_
            refine onOkB_elim (C := SimAt P ψ h n ρ (.slice t x xl xh xm) ty w) _ _ _ (sim_err _) fun hok => ?_
            rw [Bool.and_eq_true] at hok
            have g1 := ble_yes hok.1
            have g2 := ble_yes hok.2
            rw [fNat_eq, fNat_eq, fNat_eq]
            refine ⟨.slice (some (if m' = l then ⟨p.blk, x', none⟩ else ⟨p.blk, x' + l * (s + 1), none⟩)) (hh - l) (m' - l), valOut ?_, ?_⟩
            · simp only [execOp, Instr.sliceAt, Sem.run_bind, run_underlying ht, Result.andThen_ok, hx, Instr.slice, hrun, run_szOf hs, addr_add, Option.map_some, Sem.run_pure]
              by_cases e : m' = l
              · rw [if_pos e, if_pos e]
              · rw [if_neg e, if_neg e]
            · refine vrel_sl.2 ⟨p, if m' = l then x' else x' + l * (s + 1), m' - l, hp, ?_, ?_, ?_, ?_, ?_⟩
              · split <;> rfl
              · show m - l ≤ m' - l; omega
              · show hh - l ≤ m' - l; omega
              · intro hx2
                rw [Bool.or_eq_true] at hx2
                cases mx with
                | none =>
                  have h2 := hmx2 rfl
                  have := hex (by simpa using hx2)
                  show m' - l = m - l; omega
                | some _ => have := hmx1 (by simp); show m' - l = m - l; omega
              · by_cases e : m' = l
                · right; omega
                · rcases hor with ⟨e1, e2⟩ | e0
                  · left
                    rw [if_neg e]
                    refine ⟨by show x' + l * (s + 1) = p.off + (off + l * (s + 1)); omega, fun hf => ?_⟩
                    rw [Bool.or_eq_false_iff] at hf
                    have h3 := e2 hf.1
                    have hm2 : m' = cap' := by
                      cases mx with
                      | none => exact (hmx2 rfl).2
                      | some _ => have := hf.2; simp at this
                    have : l * (s + 1) + (m' - l) * (s + 1) = m' * (s + 1) := by rw [← Nat.add_mul]; congr 1; omega
                    rw [← hm2] at h3
                    omega
                  · right; omega
          unfold moreCap
          split
          · rename_i y
            have o2' := o2
            split
            · rename_i m hm
              split
              · rename_i hlt0 _
                refine onCells_elim (C := SimAt P ψ h n ρ (.slice t x xl xh xm) ty w) _ _ _ (sim_err _) fun vs hvs => ?_
                refine onOkB_elim (C := SimAt P ψ h n ρ (.slice t x xl xh xm) ty w) _ _ _ (sim_err _) fun hle => ?_
                have hle : off + m * (s + 1) ≤ lenV vs := ble_yes hle
                rw [fNat_eq]
                intro hrel
                have hcells : CellsAt ψ w p vs := hrel b _ p hvs hp
                have hsz : p.off + vs.length ≤ p.sz := by
                  obtain ⟨_, _, _, _, _, h3, _⟩ := hcells
                  exact h3
                have hll := lenV_len vs
                have e : x' = p.off + off ∧ x' + cap' * (s + 1) = p.sz := by
                  rcases hor with ⟨e, h⟩ | e
                  · exact ⟨e, h rfl⟩
                  · omega
                have hm' : m ≤ cap' := by
                  rcases Nat.lt_or_ge cap' m with h | h
                  · have := Nat.mul_le_mul_right (s + 1) h
                    rw [Nat.succ_mul] at this
                    omega
                  · exact h
                have hxl : xl = none := by cases xl with
                  | none => rfl
                  | some y => exact o1.elim
                have hxm : xm = none := by cases xm with
                  | none => rfl
                  | some y => exact o3.elim
                subst hxl hxm
                obtain ⟨z, rfl⟩ : ∃ z, xh = some z := by cases xh with
                  | none => exact o2.elim
                  | some z => exact ⟨z, rfl⟩
                have hz : ρ z = .int .i64 (Int.ofNat m) := by
                  have := (show VRel ψ (aV es tm y) (ρ z) from o2')
                  rw [hm, vrel_nat] at this
                  exact this
                have hbr := fun (w : World) (code : BoundsCode) => run_bound (P := P) (code := code) hz hm' w
                refine ⟨.slice (some ⟨p.blk, x', none⟩) m cap', valOut ?_, vrel_sl.2 ⟨p, x', cap', hp, rfl, hm', hm', by simp, .inl ⟨e.1, fun _ => e.2⟩⟩⟩
                have hc0 : cap' ≠ 0 := by omega
                simp [execOp, Instr.sliceAt, run_underlying ht, hx, Instr.slice, Instr.sliceBounds, hbr, run_szOf hs, addr_add]
              · exact hmain
            · exact hmain
          · exact hmain
      · exact sim_err _
    · rename_i ht
      split
      · refine onStr_elim (C := SimAt P ψ h n ρ (.slice t x xl xh _) ty w) _ _ _ (sim_err _) fun q hq => ?_
        rw [fNat_eq]
        rw [hq, vrel_str] at hx
        obtain ⟨b, hx, rfl⟩ := hx
        rw [lenN_eq, natsOf_length]
        have hxm : xm = none := by cases xm with
          | none => rfl
          | some y => exact absurd o3 (by simp [OptOk])
        subst hxm
        refine boundsK_elim (C := SimAt P ψ h n ρ (.slice t x xl xh none) ty w) (P := P) false b.size b.size b.size lo hi none xl xh none o1 o2 trivial (Nat.le_refl _) _ _ (sim_err _) hno fun l hh m m' hrun hm hm' hmx1 hmx2 hhm => ?_
        refine onOkB_elim (C := SimAt P ψ h n ρ (.slice t x xl xh none) ty w) _ _ _ (sim_err _) fun hok => ?_
        have hok := ble_yes hok
        refine oStr_elim (C := SimAt P ψ h n ρ (.slice t x xl xh none) ty w) _ _ (sim_err _) fun r hr => ?_
        refine ⟨.string (b.extract l hh), valOut ?_, vrel_str.2 ⟨_, rfl, ?_⟩⟩
        · simp only [execOp, Instr.sliceAt, Sem.run_bind, run_underlying ht, Result.andThen_ok, hx, Instr.slice, Option.map_none, Option.isSome_none, Bool.false_eq_true, if_false, hrun, Sem.run_pure]
          have hrun' := hrun w
          simp only [Option.map_none] at hrun'
          simp [hrun']
        · obtain ⟨_, rfl⟩ := subN_some hr
          unfold natsOf
          rw [ByteArray.data_extract, Array.toList_extract, List.extract_eq_take_drop, List.map_take, List.map_drop]
          rfl
      · exact sim_err _
    · exact sim_err _
  · exact sim_err _
end
end Go.Ev

namespace Go.Ev
variable [Sym]
noncomputable section
variable {P : Program} {ψ : Psi} {es : List CV} {tm : Tm} {h : Heap} {n : Key} {ρ : Operand → Value} {E : Env} {ty : TypeId} {w : World}
variable [SymFact P]
theorem run_conv {s d : TypeId} {x : Operand} {v : Value} {w' : World} (hr : (convert s d (ρ x)).run P w = .ok v w') : (execOp ρ (dummy (.convert s d x) ty)).run P w = .ok (.value v) w' := by
  simp only [execOp, Sem.run_bind, hr, Result.andThen_ok]; rfl
theorem byteCells_eq (l : List Nat) : byteCells l = l.map fun b => CV.int .u8 (.ofNat b) := by
  induction l with
  | nil => rfl
  | cons x l ih => show _ :: byteCells l = _; rw [ih]; rfl
theorem bytes_rel (s : ByteArray) : VRels ψ (byteCells (natsOf s)) (s.data.map fun b => Value.int .u8 b.toNat).toList := by
  rw [byteCells_eq]
  unfold natsOf
  rw [Array.toList_map]
  induction s.data.toList with
  | nil => exact vrels_nil.2 rfl
  | cons x l ih => exact vrels_cons'.2 ⟨vrel_int.2 rfl, ih⟩
theorem freeze_eq {B sz : Nat} {arr : Array Value} {e : TypeId} {fz : Nat × Nat} (hb : w.heap[B]? = some (.cells arr e fz)) (hsz : arr.size = sz) (hfz : fz.1 = fz.2 ∨ sz ≤ fz.1) :
    ∃ fz' : Nat × Nat, w.freeze ⟨B, sz, none⟩ 1 = w.upB B (.cells arr e fz') ∧ (fz'.1 = fz'.2 ∨ sz ≤ fz'.1) := by
  obtain ⟨lo, hi⟩ := fz
  refine ⟨if lo == hi then (sz, sz + 1) else (min lo sz, max hi (sz + 1)), ?_, ?_⟩
  · unfold World.freeze World.upB
    simp only [Nat.one_ne_zero, if_false]
    congr 1
    apply Array.ext_getElem?
    intro i
    rw [Array.getElem?_modify, Array.getElem?_setIfInBounds]
    by_cases hi : B = i
    · subst hi
      have hlt : B < w.heap.size := by
        rcases Nat.lt_or_ge B w.heap.size with h | h
        · exact h
        · rw [Array.getElem?_eq_none h] at hb; cases hb
      rw [if_pos rfl, if_pos rfl, if_pos hlt, hb]
      rfl
    · rw [if_neg hi, if_neg hi]
  · simp only at hfz
    split
    · right; simp
    · rename_i hne
      rcases hfz with h | h
      · exact absurd (by simpa using h) hne
      · right; simp; omega
theorem run_mark_end {B off sz : Nat} {arr : Array Value} {e : TypeId} {fz : Nat × Nat} (hb : w.heap[B]? = some (.cells arr e fz)) (hsz : arr.size = sz) :
    (markStringish ⟨B, off, none⟩).run P w = .ok () (w.freeze ⟨B, sz, none⟩ 1) := by
  have : w.shape? B = some (e, sz) := by unfold World.shape?; rw [hb, ← hsz]
  simp [markStringish, this]
theorem push_of_append {α : Type} (a : Array α) (i : Nat) (x : α) : (a.push x)[i]? = if i = a.size then some x else a[i]? := Array.getElem?_push
theorem bytesOfCells_eq : ∀ {l : List CV} {r : List Nat}, bytesOfCells l = some r → l = r.map (fun b => CV.int .u8 (.ofNat b)) ∧ ∀ b ∈ r, b ≤ 255
  | [], r, hr => by injection hr with hr; subst hr; exact ⟨rfl, by simp⟩
  | c :: l, r, hr => by
    have hr' : Option.rec (motive := fun _ => Option (List Nat) → Option (List Nat)) (fun _ => none) (fun b r => consN b r) (byteOfC c) (bytesOfCells l) = some r := hr
    cases h1 : byteOfC c with
    | none => rw [h1] at hr'; cases hr'
    | some b => cases h2 : bytesOfCells l with
      | none => rw [h1, h2] at hr'; cases hr'
      | some q =>
        rw [h1, h2] at hr'
        injection hr' with hr'; subst hr'
        obtain ⟨rfl, h3⟩ := bytesOfCells_eq h2
        unfold byteOfC at h1
        split at h1
        · split at h1
          · rename_i hle
            injection h1 with h1; subst h1
            exact ⟨rfl, by simp; exact ⟨ble_yes hle, h3⟩⟩
          · cases h1
        · cases h1
theorem foldl_bytes : ∀ (r : List Nat) (s : ByteArray), (∀ b ∈ r, b ≤ 255) → natsOf ((r.map Int.ofNat).foldl (fun r n => r.push (UInt8.ofNat n.toNat)) s) = natsOf s ++ r
  | [], s, _ => by simp
  | b :: r, s, hb => by
    rw [List.map_cons, List.foldl_cons, foldl_bytes r _ fun c hc => hb c (by simp [hc])]
    have hb := hb b (by simp)
    have : natsOf (s.push (UInt8.ofNat (Int.ofNat b).toNat)) = natsOf s ++ [b] := by
      unfold natsOf
      show (s.data.push _).toList.map _ = _
      rw [Array.toList_push, List.map_append]
      simp
      omega
    rw [this]; simp
theorem byteSym_rel (P : Program) [SymFact P] {c : CV} {x : Value} {w : World} (hb : byteSym c = true) (hx : VRel ψ c x) : ∃ n : Nat, x = .int .u8 (Int.ofNat n) ∧ n ≤ 255 := by
  unfold byteSym at hb
  split at hb
  · rename_i k m
    rw [Bool.and_eq_true, kEq_iff, decide_eq_true_eq] at hb
    obtain ⟨rfl, hb⟩ := hb
    exact ⟨m, vrel_int.1 hx, ble_yes hb⟩
  · rename_i e
    rw [Bool.and_eq_true, kEq_iff, decide_eq_true_eq] at hb
    obtain ⟨hk, hb⟩ := hb
    split at hb
    · rename_i h1 h2
      have hu : x = Sym.val e := vrel_sym.1 hx
      obtain ⟨_, z1, hz1, c1, hc1, hr1⟩ := (SymFact.ok (P := P)).1 _ _ _ _ h1 ψ 0 x (.int .u8 (.ofNat 255)) w hx (vrel_int.2 rfl)
      obtain ⟨_, z2, hz2, c2, hc2, hr2⟩ := (SymFact.ok (P := P)).1 _ _ _ _ h2 ψ 0 x (.int .u8 (.ofNat 0)) w hx (vrel_int.2 rfl)
      obtain rfl : c1 = .bool true := by simpa using hc1
      obtain rfl : c2 = .bool true := by simpa using hc2
      rw [vrel_bool.1 hr1] at hz1
      rw [vrel_bool.1 hr2] at hz2
      cases x with
      | int j m =>
        by_cases ej : j = .u8
        · subst ej
          have g1 : m ≤ 255 := by simpa [binOp, Op.intCmp] using hz1
          have g2 : 0 ≤ m := by simpa [binOp, Op.intCmp] using hz2
          exact ⟨m.toNat, by rw [Int.ofNat_eq_natCast, Int.toNat_of_nonneg g2], by omega⟩
        · simp [binOp, ej] at hz1
      | _ => simp [binOp] at hz1
    · cases hb
  · cases hb
theorem bytesSym_rel (P : Program) [SymFact P] {w : World} : ∀ {cs : List CV} {xs : List Value}, bytesSym cs = true → VRels ψ cs xs → ∃ r : List Nat, xs = (r.map Int.ofNat).map (Value.int .u8) ∧ ∀ n ∈ r, n ≤ 255
  | [], xs, _, hx => by
    rw [vrels_nil] at hx
    subst hx
    exact ⟨[], rfl, by simp⟩
  | c :: cs, xs, hb, hx => by
    unfold bytesSym at hb
    rw [Bool.and_eq_true] at hb
    obtain ⟨v, q, rfl, h1, h2⟩ := vrels_cons.1 hx
    obtain ⟨n, rfl, hn⟩ := byteSym_rel P (w := w) hb.1 h1
    obtain ⟨r, rfl, hr⟩ := bytesSym_rel P (w := w) hb.2 h2
    exact ⟨n :: r, rfl, fun m hm => by
      rcases List.mem_cons.1 hm with rfl | hm
      · exact hn
      · exact hr m hm⟩
theorem vrels_bytes : ∀ {r : List Nat} {l : List Value}, VRels ψ (r.map (fun b => CV.int .u8 (.ofNat b))) l → l = (r.map Int.ofNat).map (Value.int .u8)
  | [], l, h => vrels_nil.1 h
  | b :: r, l, h => by
    obtain ⟨v, q, rfl, h1, h2⟩ := vrels_cons.1 h
    rw [vrel_int.1 h1, vrels_bytes h2]; rfl
theorem sim_convert (s d : TypeId) (x : Operand) (ha : ArgsOk P ψ es tm E ρ [x]) : SimAt P ψ h n ρ (.convert s d x) ty w (exec P (compOp P E (.convert s d x)) es tm h n) := by
  rw [compOp]
  unfold compConv und
  split
  · rename_i k0 k hs hd
    refine args1_elim (C := SimAt P ψ h n ρ (.convert s d x) ty w) sim_err fun c hc => ?_
    have hx := ha x (by simp) c hc
    have run : ∀ j a, ρ x = .int j a → (convert s d (ρ x)).run P w = .ok (.int k (k.wrap a)) w := by
      intro j a e
      rw [e]; simp [convert, run_underlying hs, run_underlying hd, Conv.intToInt]
    show SimAt P ψ h n ρ (.convert s d x) ty w (cvIntV k (aV es tm c))
    unfold cvIntV
    split
    · cases hb : Sym.cv k (aV es tm c) with
      | none => exact sim_err _
      | some l =>
        obtain ⟨j, a, e, c', h3, h4⟩ := (SymFact.ok (P := P)).2 k _ l hb ψ _ hx
        exact has_sim (valOut (run_conv (run j a e))) (has_symR rfl h3 h4)
    refine onIA_elim (C := SimAt P ψ h n ρ (.convert s d x) ty w) _ _ _ _ (sim_err _) (fun b hv => ?_) (fun j b hv => ?_) (fun j hv => ?_)
    · rw [hv, vrel_nat] at hx
      exact ⟨_, valOut (run_conv (run _ _ hx)), by rw [wrapI_eq]; exact mkInt_rel _ _⟩
    · rw [hv, vrel_int] at hx
      exact ⟨_, valOut (run_conv (run _ _ hx)), by rw [wrapI_eq]; exact mkInt_rel _ _⟩
    · rw [hv, vrel_anyi] at hx
      obtain ⟨b, hx⟩ := hx
      exact ⟨_, valOut (run_conv (run _ _ hx)), vrel_anyi.2 ⟨_, rfl⟩⟩
  · rename_i hs hd
    refine args1_elim (C := SimAt P ψ h n ρ (.convert s d x) ty w) sim_err fun c hc => ?_
    have hx := ha x (by simp) c hc
    refine onStr_elim (C := SimAt P ψ h n ρ (.convert s d x) ty w) _ _ _ (sim_err _) fun l hl => ?_
    rw [hl, vrel_str] at hx
    obtain ⟨b, hx, e⟩ := hx
    exact ⟨.string b, valOut (run_conv (by rw [hx]; simp [convert, run_underlying hs, run_underlying hd])), vrel_str.2 ⟨b, rfl, e⟩⟩
  · rename_i e hs hd
    split
    · rename_i he
      refine args1_elim (C := SimAt P ψ h n ρ (.convert s d x) ty w) sim_err fun c hc => ?_
      have hx := ha x (by simp) c hc
      refine onStr_elim (C := SimAt P ψ h n ρ (.convert s d x) ty w) _ _ _ (sim_err _) fun l hl => ?_
      rw [fNat_eq]
      rw [hl, vrel_str] at hx
      obtain ⟨b, hx, rfl⟩ := hx
      rw [lenN_eq, natsOf_length]
      obtain ⟨cap, hcut, hcap⟩ : ∃ cap, cap = (Question.appendCap b.size 0 e).cut (w.tape w.drawn (Question.appendCap b.size 0 e)) ∧ b.size ≤ cap := ⟨_, rfl, Nat.le_add_right _ _⟩
      let arr : Array Value := (b.data.map fun (b : UInt8) => Value.int .u8 b.toNat) ++ Array.replicate (cap - b.size) (Value.int .u8 0)
      have hbs : (b.data.map fun (b : UInt8) => Value.int .u8 b.toNat).size = b.size := by rw [Array.size_map]; rfl
      have harr : arr.size = cap := by
        show ((b.data.map fun (b : UInt8) => Value.int .u8 b.toNat) ++ Array.replicate (cap - b.size) (Value.int .u8 0)).size = cap
        rw [Array.size_append, hbs, Array.size_replicate]; omega
      let w1 : World := { w with drawn := w.drawn + 1, heap := w.heap.push (.cells arr e) }
      have hb1 : w1.heap[w.heap.size]? = some (.cells arr e (0, 0)) := by simp [w1]
      obtain ⟨fz', hfz, hfz'⟩ := freeze_eq (w := w1) hb1 harr (.inl rfl)
      have hsize1 : w.heap.size < w1.heap.size := by simp [w1]
      refine ⟨w1.upB w.heap.size (.cells arr e fz'), .slice (some ⟨w.heap.size, 0, none⟩) b.size cap, cap, valOut (run_conv ?_), ?_, fun ψ' _ hn => ⟨?_, ?_⟩, by unfold szAt; rw [upB_same _ hsize1]; exact harr.symm⟩
      · rw [hx, ← hfz]
        have hm : (markStringish ⟨w.heap.size, 0, none⟩).run P w1 = .ok () (w1.freeze ⟨w.heap.size, cap, none⟩ 1) := run_mark_end hb1 harr
        simp only [convert, Sem.run_bind, run_underlying hs, run_underlying hd, run_underlying he, Result.andThen_ok, Conv.stringToBytes, run_choose, Question.forced, Bool.false_eq_true, if_false, newRow, run_newObj, Sem.run_pure, ← hcut]
        exact (by
          show (((markStringish ⟨w.heap.size, 0, none⟩).run P w1).andThen fun _ w' => Result.ok (Value.slice (some ⟨w.heap.size, 0, none⟩) b.size cap) w') = _
          rw [hm]; rfl)
      · refine ⟨by rw [upB_size]; simp [w1], fun B hB => ?_, rfl, rfl, rfl⟩
        rw [upB_other _ (by omega)]
        simp only [w1, Array.getElem?_push]
        rw [if_neg (by omega)]
      · exact vrel_sl.2 ⟨_, 0, cap, hn, rfl, hcap, hcap, by simp, .inl ⟨rfl, fun _ => by simp⟩⟩
      · refine ⟨arr, e, fz', upB_same _ hsize1, harr, ?_, hfz', fun i c hi => ?_⟩
        · rw [byteCells_eq, List.length_map, natsOf_length]; simpa using hcap
        · obtain ⟨v, hv, hr⟩ := (bytes_rel (ψ := ψ') b).get hi
          have hv : (b.data.map fun (b : UInt8) => Value.int .u8 b.toNat)[i]? = some v := by simpa using hv
          have hi' : i < (b.data.map fun (b : UInt8) => Value.int .u8 b.toNat).size := by
            rcases Nat.lt_or_ge i (b.data.map fun (b : UInt8) => Value.int .u8 b.toNat).size with h | h
            · exact h
            · rw [Array.getElem?_eq_none h] at hv; cases hv
          refine ⟨v, ?_, hr⟩
          show ((b.data.map fun (b : UInt8) => Value.int .u8 b.toNat) ++ Array.replicate (cap - b.size) (Value.int .u8 0))[0 + i]? = some v
          rw [Nat.zero_add, Array.getElem?_append_left hi']; exact hv
    · exact sim_err _
  · rename_i e0 e hs hd
    split
    · rename_i hsd he
      have hsd : s = d := beq_yes hsd
      refine args1_elim (C := SimAt P ψ h n ρ (.convert s d x) ty w) sim_err fun c hc => ?_
      have hx := ha x (by simp) c hc
      refine onSl_elim (C := SimAt P ψ h n ρ (.convert s d x) ty w) _ _ _ _ (sim_err _) (fun _ => sim_err _) fun b off len cap s' ex hv => ?_
      refine onCells_elim (C := SimAt P ψ h n ρ (.convert s d x) ty w) _ _ _ (sim_err _) fun vs hvs hrel _ _ => ?_
      rw [hv] at hx
      have hx0 := hx
      rw [vrel_sl] at hx
      obtain ⟨p, x', cap', hp, hx, _⟩ := hx
      have hvs : Heap.fam h b = some (.cells vs) := hvs
      obtain ⟨arr, el, fz, h1, h2, h3, h4, h5⟩ := hrel.on b _ p hvs hp
      obtain ⟨fz', hfz, hfz'⟩ := freeze_eq h1 h2 h4
      have hlt : p.blk < w.heap.size := (hrel.on b _ p hvs hp).lt
      have hpost := post_set (n := n) hrel hvs rfl hp (o' := .cells vs) (ob := .cells arr el fz') ⟨arr, el, fz', upB_same _ hlt, h2, h3, hfz', h5⟩
      have hsame : (Heap.fam h).upd b (some (.cells vs)) = Heap.fam h := by
        funext j; unfold Fam.upd; split
        · rename_i e; subst e; exact hvs.symm
        · rfl
      rw [hsame] at hpost
      refine ⟨_, ρ x, ψ, valOut (run_conv ?_), hpost, hx0⟩
      rw [hx, ← hfz]
      have hm := run_mark_end (P := P) (off := x') h1 h2
      subst hsd
      have he0 : e0 = e := by rw [hs] at hd; injection hd with hd; injection hd
      subst he0
      simp [convert, run_underlying hs, run_underlying he, hm]
    · exact sim_err _
  · rename_i e hs hd
    split
    · rename_i he
      refine args1_elim (C := SimAt P ψ h n ρ (.convert s d x) ty w) sim_err fun c hc => ?_
      have hx := ha x (by simp) c hc
      refine onSl_elim (C := SimAt P ψ h n ρ (.convert s d x) ty w) _ _ _ _ (sim_err _) (fun hv => ?_) fun b off len cap s' ex hv => ?_
      · rw [hv, vrel_nilsl] at hx
        refine ⟨.string .empty, valOut (run_conv ?_), vrel_str.2 ⟨_, rfl, rfl⟩⟩
        rw [hx, run_convert_bytes_string w s d e none 0 0 hs he hd]
        simp [Conv.bytesToString]
      · refine onCellsR_elim (C := SimAt P ψ h n ρ (.convert s d x) ty w) _ _ _ (sim_err _) fun vs hvs => ?_
        refine onL_elim (C := SimAt P ψ h n ρ (.convert s d x) ty w) _ _ _ (sim_err _) fun cs hcs => ?_
        unfold strOfC
        split
        · rename_i r hr
          intro hrel
          rw [hv, vrel_sl] at hx
          obtain ⟨p, x', cap', hp, hx, _, hl, _, hor⟩ := hx
          have hcells : RoAt ψ w p vs := by
            rcases hvs with hvs | hvs | ⟨u, hvs⟩
            · exact CellsAt.toRo (hrel b _ p hvs hp)
            · exact hrel b _ p hvs hp
            · exact CellsAt.toRo (FullAt.toCells (hrel b _ p hvs hp))
          obtain ⟨xs, hrun, hxs⟩ := run_loadMany (P := P) hcells hcs
          obtain ⟨rfl, hle⟩ := bytesOfCells_eq hr
          have hxs := vrels_bytes hxs
          have hrun : (loadCells ⟨p.blk, x', none⟩ len).run P w = .ok ((r.map Int.ofNat).map (Value.int .u8)).toArray w := by
            rcases hor with ⟨e, _⟩ | e
            · rw [e, ← hxs]; exact hrun
            · have : len = 0 := by omega
              subst this
              have := (subV_get hcs).1
              have hr0 : r = [] := by cases r <;> simp_all
              subst hr0
              rfl
          refine ⟨.string ((r.map Int.ofNat).foldl (fun r n => r.push (UInt8.ofNat n.toNat)) ByteArray.empty), valOut (run_conv ?_), vrel_str.2 ⟨_, rfl, ?_⟩⟩
          · rw [hx, run_convert_bytes_string w s d e _ _ _ hs he hd]
            exact run_bytesToString w _ _ _ _ hrun
          · rw [foldl_bytes r _ hle]; rfl
        · split
          · rename_i hbs
            intro hrel
            rw [hv, vrel_sl] at hx
            obtain ⟨p, x', cap', hp, hx, _, hl, _, hor⟩ := hx
            have hcells : RoAt ψ w p vs := by
              rcases hvs with hvs | hvs | ⟨u, hvs⟩
              · exact CellsAt.toRo (hrel b _ p hvs hp)
              · exact hrel b _ p hvs hp
              · exact CellsAt.toRo (FullAt.toCells (hrel b _ p hvs hp))
            obtain ⟨xs, hrun, hxs⟩ := run_loadMany (P := P) hcells hcs
            obtain ⟨r, hr, hle⟩ := bytesSym_rel P (w := w) hbs hxs
            have hrun : (loadCells ⟨p.blk, x', none⟩ len).run P w = .ok ((r.map Int.ofNat).map (Value.int .u8)).toArray w := by
              rcases hor with ⟨e, _⟩ | e
              · rw [e, ← hr]; exact hrun
              · have : len = 0 := by omega
                subst this
                have h1 := (subV_get hcs).1
                have h2 := hxs.length
                have hr0 : r = [] := by
                  have : r.length = 0 := by
                    have := congrArg List.length hr
                    simp at this; omega
                  exact List.length_eq_zero_iff.1 this
                subst hr0
                rfl
            have hb := foldl_bytes r ByteArray.empty hle
            refine ⟨.string ((r.map Int.ofNat).foldl (fun r n => r.push (UInt8.ofNat n.toNat)) ByteArray.empty), valOut (run_conv ?_), vrel_sst.2 ⟨_, rfl, ?_⟩⟩
            · rw [hx, run_convert_bytes_string w s d e _ _ _ hs he hd]
              exact run_bytesToString w _ _ _ _ hrun
            · generalize (r.map Int.ofNat).foldl (fun r n => r.push (UInt8.ofNat n.toNat)) ByteArray.empty = z at hb
              have hz : natsOf z = r := by rw [hb]; rfl
              have : (z.data.toList.map fun x => Value.int .u8 (Int.ofNat x.toNat)) = xs := by
                rw [hr, ← hz]
                unfold natsOf
                rw [List.map_map, List.map_map]
                rfl
              rw [this]; exact hxs
          · exact sim_err _
    · exact sim_err _
  · exact sim_err _
end
end Go.Ev

