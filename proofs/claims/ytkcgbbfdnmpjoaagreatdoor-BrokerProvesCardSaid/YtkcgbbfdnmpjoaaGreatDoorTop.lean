/- The function Wakes hands back true, by one run of the evaluator; how a run of the law closes a case. -/
import Derived.Test.YtkcgbbfdnmpjoaaGreatDoorTable
import Derived.Test.YtkcgbbfdnmpjoaaGreatDoorSum
namespace Go.Ev
open Go.Proofs
set_option maxRecDepth 1000000
set_option linter.unusedVariables false
def n0 : Key := .mk .d0 .d0 .d6 .d4
theorem mixedN : Tryz.prog.follows .mixedOrders = true := by kernel_rfl
theorem globN : Tryz.prog.globals.size ≤ 100 := of_decide_eq_true (by kernel_rfl)
theorem wakes_run : allTrue (@ev (linSym (fun _ => 0) (rulesK [])) Tryz.prog codeN natN 1000 false 10 [] .nil n0) = true := by kernel_rfl
theorem wakes_true : TrueFn Tryz.prog 10 :=
  ⟨fun args w => run_callFunc_enter Tryz.func10 (by kernel_rfl) (show Tryz.f10.body = some _ from rfl) args w,
   fun w => calls_lin (σ := fun _ => 0) (K := rulesK []) (G := 100) (n := n0) (args' := #[]) (rulesK_ok fun _ h => by cases h) mixedN codeN_ok natN_ok Tryz.func10 (by kernel_rfl) (show Tryz.f10.body = some _ from rfl) globN (by decide) rels0 wakes_run w⟩
noncomputable def natW : Nats := natT 10 natN
theorem natW_ok [Sym] [SymFact Tryz.prog] : NatsOk Tryz.prog natW := natT_ok wakes_true natN_ok
noncomputable def natP (fns : List (List SE × CV)) : Nats := natC 455 40 fns natW
open Go.RowKit in
/-- a run of the law closes a case -/
theorem shut {σ : Nat → Int} {K : Known} {fns : List (List SE × CV)} {args : List CV} {args' : Array Value} (hK : KnownOk σ K) (hfn : @FnsOk (linSym σ K) fns) (hargs : @VRels (linSym σ K) (psi0 100) args args'.toList)
    (hrun : allTrue (@ev (linSym σ K) Tryz.prog codeN (natP fns) 1000 false 3 args .nil n0) = true) (w : World) :
    Calls Tryz.prog 3 args' w fun e w' => e = .returned (.bool true) ∧ Below w.heap.size w w' :=
  haveI : @SymFact (linSym σ K) Tryz.prog := linSym_ok hK
  @calls_true (linSym σ K) Tryz.prog (linSym_ok hK) codeN (natP fns) 1000 3 _ _ args args' 100 n0 mixedN codeN_ok (@natC_ok (linSym σ K) Tryz.prog (linSym_ok hK) 455 40 fns natW sumA_ok sumB_ok hfn (@natW_ok (linSym σ K) (linSym_ok hK))) Tryz.func3 (by kernel_rfl) (show Tryz.f3.body = some _ from rfl) globN (by decide) hargs hrun w
/-- an int, by its bytes -/
theorem word_parts {a : Int} (h : (Lit.int .i64 a).wf = true) : ∃ e0 e1 e2 e3 e4 : Int, (0 ≤ e0 ∧ e0 ≤ 255) ∧ (0 ≤ e1 ∧ e1 ≤ 255) ∧ (0 ≤ e2 ∧ e2 ≤ 255) ∧ (0 ≤ e3 ∧ e3 ≤ 255) ∧ (-2147483648 ≤ e4 ∧ e4 ≤ 2147483647) ∧ a = e0 + 256 * e1 + 65536 * e2 + 16777216 * e3 + 4294967296 * e4 := by
  have hb : -9223372036854775808 ≤ a ∧ a ≤ 9223372036854775807 := by
    simp [Lit.wf, IntKind.min, IntKind.max, IntKind.signed, IntKind.bits] at h
    omega
  exact ⟨a % 256, a / 256 % 256, a / 65536 % 256, a / 16777216 % 256, a / 4294967296, by omega, by omega, by omega, by omega, by omega, by omega⟩
/-- a sum, by its bytes -/
theorem crc_parts (x0 x1 x2 x3 : Int) (h0 : 0 ≤ x0 ∧ x0 ≤ 255) (h1 : 0 ≤ x1 ∧ x1 ≤ 255) (h2 : 0 ≤ x2 ∧ x2 ≤ 255) (h3 : 0 ≤ x3 ∧ x3 ≤ 255) :
    ∃ d0 d1 d2 g t : Int, (0 ≤ d0 ∧ d0 ≤ 255) ∧ (0 ≤ d1 ∧ d1 ≤ 255) ∧ (0 ≤ d2 ∧ d2 ≤ 255) ∧ (0 ≤ g ∧ g ≤ 127) ∧ (0 ≤ t ∧ t ≤ 1) ∧ Int.ofNat (crcN [x3.toNat, x2.toNat, x1.toNat, x0.toNat, 115]) = d0 + 256 * d1 + 65536 * d2 + 33554432 * g + 16777216 * t := by
  have hl := crcN_lt (bs := [x3.toNat, x2.toNat, x1.toNat, x0.toNat, 115]) (by
    intro b hb
    simp at hb
    omega)
  rw [Int.ofNat_eq_natCast]
  generalize crcN [x3.toNat, x2.toNat, x1.toNat, x0.toNat, 115] = z at hl
  exact ⟨(z % 256 : Nat), (z / 256 % 256 : Nat), (z / 65536 % 256 : Nat), (z / 33554432 : Nat), (z / 16777216 % 2 : Nat), by omega, by omega, by omega, by omega, by omega, by omega⟩
/-- a row of the table: the bytes at i3, .. i0 -/
theorem fn_ok {σ : Nat → Int} {K : Known} {i0 i1 i2 i3 : Nat} {c : Int} {l : LL} (he : c + evL σ l = Int.ofNat (crcN [(σ i3).toNat, (σ i2).toNat, (σ i1).toNat, (σ i0).toNat, 115])) (bs : List Nat)
    (h : ([⟨.u8, 0, [(i3, 1)]⟩, ⟨.u8, 0, [(i2, 1)]⟩, ⟨.u8, 0, [(i1, 1)]⟩, ⟨.u8, 0, [(i0, 1)]⟩, ⟨.u8, 115, []⟩] : List SE).map (linSym σ K).val = bs.map (fun b => Value.int .u8 (Int.ofNat b))) (ψ : Psi) :
    @VRel (linSym σ K) ψ (.sym ⟨.u32, c, l⟩) (.int .u32 (Int.ofNat (crcN bs))) := by
  have key : bs = [(σ i3).toNat, (σ i2).toNat, (σ i1).toNat, (σ i0).toNat, 115] := by
    have hlen : bs.length = 5 := by
      have := congrArg List.length h
      simpa using this.symm
    match bs, hlen, h with
    | [b3, b2, b1, b0, b], _, h =>
      simp only [List.map_cons, List.map_nil, List.cons.injEq, and_true] at h
      obtain ⟨g3, g2, g1, g0, g⟩ := h
      have g3 : Value.int .u8 (0 + (1 * σ i3 + 0)) = Value.int .u8 (Int.ofNat b3) := g3
      have g2 : Value.int .u8 (0 + (1 * σ i2 + 0)) = Value.int .u8 (Int.ofNat b2) := g2
      have g1 : Value.int .u8 (0 + (1 * σ i1 + 0)) = Value.int .u8 (Int.ofNat b1) := g1
      have g0 : Value.int .u8 (0 + (1 * σ i0 + 0)) = Value.int .u8 (Int.ofNat b0) := g0
      have g : Value.int .u8 (115 + 0) = Value.int .u8 (Int.ofNat b) := g
      injection g3 with _ g3
      injection g2 with _ g2
      injection g1 with _ g1
      injection g0 with _ g0
      injection g with _ g
      rw [Int.ofNat_eq_natCast] at g3 g2 g1 g0 g
      have e3 : (σ i3).toNat = b3 := by omega
      have e2 : (σ i2).toNat = b2 := by omega
      have e1 : (σ i1).toNat = b1 := by omega
      have e0 : (σ i0).toNat = b0 := by omega
      have e : (115 : Nat) = b := by omega
      rw [e3, e2, e1, e0, ← e]
  subst key
  rw [@vrel_sym (linSym σ K)]
  show Value.int .u32 _ = Value.int .u32 (c + evL σ l)
  rw [he]
theorem relsW {σ : Nat → Int} {K : Known} {ψ : Psi} {a c : Int} {m : LL} {l : List CV} {r : List Value} (ha : a = c + evL σ m) (h : @VRels (linSym σ K) ψ l r) : @VRels (linSym σ K) ψ (.sym ⟨.i64, c, m⟩ :: l) (.int .i64 a :: r) := by
  refine (@vrels_cons' (linSym σ K) _ _ _ _ _).2 ⟨?_, h⟩
  rw [@vrel_sym (linSym σ K)]
  show Value.int .i64 a = Value.int .i64 (c + evL σ m)
  rw [ha]
end Go.Ev
