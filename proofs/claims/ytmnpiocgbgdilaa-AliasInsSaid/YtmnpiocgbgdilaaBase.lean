/- The tables of topics: what their blocks read as; contracts of the functions that keep them. -/
import Derived.Test.YtmnpiocgbgdilaaRows
import Derived.Maps.OwnSet
import Derived.Maps.OwnOps
import Derived.Maps.StringElems
import Derived.WalkKit
namespace Go.Proofs.Ytmnpiocgbgdilaa
open Go.RowKit Go.Maps Go.WideMaps

section
variable {H : Type} {P : Program}
/-- 'm[k]' at strings. -/
theorem wpList_lookup_own_string (w : World) {ops : Array Oper} {rest : List Oper} {o : Oper} {a : Act} {Q : Exit → Act → World → Prop}
    (hg : o.guard = none) (m x : Operand) (t : TypeId) (hop : o.op = Op.lookup t m x false)
    (k e : TypeId) (K : Keyed P k) (ht : P.underlying t = some (.map k e)) (he : P.underlying e = some .string) (hz : (zeroValue e).run P w = .ok (.string ByteArray.empty) w) (b n : Nat) (D : DataW H)
    (hm : a.eval m = .map (some b)) (hown : w.ownsMap P k (plainElem P e) b n D) (key : Value) (kl : Lit) (hx : a.eval x = key) (hkey : keyOf P k key = some kl)
    (s : ByteArray) (hs : D.atKey kl (.lit (.string [])) = .lit (.string s.data.toList))
    (hK : wpList P ops Q rest (a.put o.dst (.string s)) w) :
    wpList P ops Q (o :: rest) a w := by
  refine wpList_plain hg fun K' hK' => ?_
  obtain ⟨v, ps, hrun, hv⟩ := hown.lookup K ht hz (zd := .lit (.string [])) (zp := []) (plainElem_string he (Nat.zero_le _)) hkey
  obtain ⟨s', rfl, h1, h2⟩ := plainElem_string_inv he hv
  have e1 : s' = s := by
    have h3 := congrArg Prod.fst h1
    simp only [hs] at h3
    injection h3 with h3
    injection h3 with h3
    cases s; cases s'
    simp_all
  subst e1
  unfold Oper.wp
  simp [execOp, hop, hm, hx, hrun, Result.andThen]
  exact hK' _ _ hK
end

theorem law3 : Keyed Try.prog 3 := int_keyed Try.underlying3
theorem law9 : Keyed Try.prog 9 := string_keyed Try.underlying9
theorem zero9 (w : World) : (zeroValue 9).run Try.prog w = .ok (.string ByteArray.empty) w := by kernel_rfl
theorem zero3 (w : World) : (zeroValue 3).run Try.prog w = .ok (.int .i64 0) w := by kernel_rfl

theorem cell_blk {w : World} {b : Nat} {cs : Array Value} {t : TypeId} {fz : Nat × Nat} (h : w.heap[b]? = some (.cells cs t fz)) {i : Nat} {v : Value} (hv : cs[i]? = some v) : w.cell? ⟨b, i, none⟩ = some v := by
  unfold World.cell?
  rw [h]
  simpa using hv

/-- a datum that is a string -/
def sd (s : ByteArray) : DataW Unit := .lit (.string s.data.toList)

/-- an In: its most, its topics by their numbers -/
structure InAt (w : World) (b m : Nat) (most : Int) (n : Nat) (f : Int → ByteArray) (D : DataW Unit) : Prop where
  blk : w.heap[b]? = some (.cells #[.int .i64 most, .map (some m)] 51 (0, 0))
  own : w.ownsMap Try.prog 3 (plainElem Try.prog 9) m n D
  at_ : ∀ k, D.atKey (.int .i64 k) (sd ByteArray.empty) = sd (f k)

set_option maxHeartbeats 400000 in
theorem newIn_any (most : Int) (w : World) : Calls Try.prog 6 #[.int .i64 most] w fun e w' => e = .returned (.pointer (some ⟨w.heap.size + 1, 0, none⟩)) ∧ w' = (w.alloc (.map #[] 0)).alloc (.cells #[.int .i64 most, .map (some w.heap.size)] 51) := by
  have hmm := @run_makeMap Try.prog
  go_enter Try.func6, Try.ntmps6
  go_wp2
  go_ret
  exact ⟨rfl, rfl⟩
end Go.Proofs.Ytmnpiocgbgdilaa
