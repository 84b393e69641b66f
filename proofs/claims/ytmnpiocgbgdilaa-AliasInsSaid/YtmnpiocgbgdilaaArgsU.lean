/- Arguments that are rows of numbers and topics. -/
import Derived.Test.YtmnpiocgbgdilaaArgs
namespace Go.Proofs.Ytmnpiocgbgdilaa
open Go.ChangeShapes Go.WideShapes Go.ChangeAt Go.RowKit

/-- a row of uses -/
def UseArg (W : World) (v : Value) : Prop :=
  ∃ a len cap, v = .slice a len cap ∧ (len = 0 ∨ ∃ b off, a = some ⟨b, off, none⟩ ∧ b < W.heap.size ∧ ∀ j, j < len → ∃ (q : Int) (s : ByteArray), W.cell? ⟨b, off + j * 2, none⟩ = some (.int .i64 q) ∧ (Lit.int .i64 q).wf = true ∧ W.cell? ⟨b, off + j * 2 + 1, none⟩ = some (.string s) ∧ s.size ≤ maxLen)

theorem addr_at (b off k : Nat) : (⟨b, off, none⟩ : Addr).add k = ⟨b, off + k, none⟩ := by
  simp [Addr.add]

theorem use_cells {H : Type} {enc : TypeId × Value → H} {P : Program} {w : World} {base : Nat} {spare : Nat → Bool} {held : Bool} {e : TypeId} {f0 f1 : Field} (he : P.underlying e = some (.struct #[f0, f1]))
    (o0 : f0.offset = 0) (o1 : f1.offset = 1) (k0 : P.cellsOf f0.type = 1) (k1 : P.cellsOf f1.type = 1) (h0 : P.underlying f0.type = some (.int .i64)) (h1 : P.underlying f1.type = some .string) {fuel : Nat} {cs : List Value} {y : DataW H × List MemPlace}
    (hl : cs.length = 2) (h : DataW.trod enc P w base spare held fuel e cs = some y) : ∃ (q : Int) (s : ByteArray), cs = [.int .i64 q, .string s] ∧ (Lit.int .i64 q).wf = true ∧ s.size ≤ maxLen := by
  obtain ⟨xs, n, _, _, _, hlen, hf⟩ := DataW.trod_struct he h
  match cs, hl, xs, hlen with
  | [c0, c1], _, [y0, y1], _ =>
    have g0 := hf 0 f0 rfl
    have g1 := hf 1 f1 rfl
    rw [o0, k0] at g0
    rw [o1, k1] at g1
    obtain ⟨q, e0, _, w0⟩ := DataW.trod_int h0 g0
    obtain ⟨s, e1, _, w1⟩ := DataW.trod_string h1 g1
    simp at e0 e1
    exact ⟨q, s, by rw [e0, e1], w0, w1⟩

theorem useArg_of {H : Type} {enc : TypeId × Value → H} {P : Program} {W : World} {base : Nat} {t e : TypeId} {v : Value} {d : DataW H} {p : List MemPlace} {f0 f1 : Field} (ht : P.underlying t = some (.slice e)) (he : P.underlying e = some (.struct #[f0, f1]))
    (o0 : f0.offset = 0) (o1 : f1.offset = 1) (k0 : P.cellsOf f0.type = 1) (k1 : P.cellsOf f1.type = 1) (h0 : P.underlying f0.type = some (.int .i64)) (h1 : P.underlying f1.type = some .string) (hc : P.cellsOf e = 2)
    (hval : Value.okWide P W .any base t v) (hh : DataW.Trod enc P W 0 (fun _ => true) true t v d p) : UseArg W v := by
  obtain ⟨fuel, hf⟩ := hh
  obtain ⟨a0, len, cap, rfl⟩ := okWide_slice ht hval
  rcases DataW.trod_slice ht hf with ⟨hcs, _⟩ | ⟨a, len', cap', elems, rest, n, _, hcs, _, _, hl, _, hlen, hel, _, _⟩
  · simp [Value.cells] at hcs
    obtain ⟨rfl, rfl, rfl⟩ := hcs
    exact ⟨none, 0, 0, rfl, .inl rfl⟩
  · simp [Value.cells] at hcs
    obtain ⟨rfl, rfl, rfl⟩ := hcs
    obtain ⟨b, off, spot⟩ := a
    refine ⟨some ⟨b, off, spot⟩, len, cap, rfl, ?_⟩
    have key : ∀ i, i < len → ∃ (q : Int) (s : ByteArray), W.cell? ((⟨b, off, spot⟩ : Addr).add (i * 2)) = some (.int .i64 q) ∧ (Lit.int .i64 q).wf = true ∧ W.cell? (((⟨b, off, spot⟩ : Addr).add (i * 2)).add 1) = some (.string s) ∧ s.size ≤ maxLen := by
      intro i hi
      have := hel i hi
      rw [hc] at this
      obtain ⟨y, hy⟩ : ∃ y, elems[i]? = some y := ⟨_, List.getElem?_eq_getElem (by omega)⟩
      rw [hy] at this
      obtain ⟨cs', hcs', hy'⟩ := Option.bind_eq_some_iff.1 this
      obtain ⟨_, hcl, hat⟩ := World.cells?_some hcs'
      obtain ⟨q, s, rfl, hw, hs⟩ := use_cells he o0 o1 k0 k1 h0 h1 hcl hy'
      refine ⟨q, s, ?_, hw, ?_, hs⟩
      · have := hat 0 (by omega)
        simpa [Addr.add] using this
      · exact hat 1 (by omega)
    rcases Nat.eq_zero_or_pos len with h | h
    · exact .inl h
    · obtain ⟨q, s, c0, _⟩ := key 0 h
      have hspot : spot = none := by simpa [Addr.add] using World.cell?_spot c0
      subst hspot
      refine .inr ⟨b, off, rfl, World.block_lt_of_cell? _ _ c0, fun j hj => ?_⟩
      obtain ⟨q, s, g1, g2, g3, g4⟩ := key j hj
      have e : (⟨b, off, none⟩ : Addr).add (j * 2) = ⟨b, off + j * 2, none⟩ := addr_at b off (j * 2)
      rw [e] at g1 g3
      rw [addr_at b (off + j * 2) 1] at g3
      exact ⟨q, s, g1, g2, g3, g4⟩
end Go.Proofs.Ytmnpiocgbgdilaa
