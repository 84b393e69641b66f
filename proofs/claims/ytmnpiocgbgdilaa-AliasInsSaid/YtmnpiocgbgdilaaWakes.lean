/- 'wakes' hands back true. -/
import Derived.Test.YtmnpiocgbgdilaaUse
import Derived.Test.YtmnpiocgbgdilaaRefFor
namespace Go.Proofs.Ytmnpiocgbgdilaa
open Go.RowKit Go.Maps Go.WideMaps

theorem keyLit_int (k : Int) : WideAt.IsKeyLit (.int .i64 k) := by simp [WideAt.IsKeyLit]
theorem keyLit_str (l : List UInt8) : WideAt.IsKeyLit (.string l) := by simp [WideAt.IsKeyLit]

theorem InAt.ne {w : World} {b m n : Nat} {most : Int} {f : Int → ByteArray} {D : DataW Unit} (h : InAt w b m most n f D) : b ≠ m := by
  intro e
  subst e
  obtain ⟨es, clock, hb, _⟩ := h.own
  rw [h.blk] at hb
  cases hb
theorem InAt.fr {w w' : World} {b m n : Nat} {most : Int} {f : Int → ByteArray} {D : DataW Unit} {S : Nat → Prop} (h : InAt w b m most n f D) (hf : Fr S w w') (hb : ¬ S b) (hm : ¬ S m) : InAt w' b m most n f D := by
  have h1 : b < w.heap.size := (Array.getElem?_eq_some_iff.1 h.blk).1
  have h2 : m < w.heap.size := by
    obtain ⟨es, clock, hb, _⟩ := h.own
    exact (Array.getElem?_eq_some_iff.1 hb).1
  exact ⟨(hf.block b h1 hb).trans h.blk, ownsMap_at h.own (hf.block m h2 hm), h.at_⟩
theorem InAt.put {w w' : World} {b m n : Nat} {most k : Int} {f : Int → ByteArray} {D : DataW Unit} {t : ByteArray} (h : InAt w b m most n f D) (ht : w.mapTurned w' m) (ho : w'.ownsMap Try.prog 3 (plainElem Try.prog 9) m (n + 1) (D.put (.int .i64 k) (sd t))) :
    InAt w' b m most (n + 1) (fun j => if j = k then t else f j) (D.put (.int .i64 k) (sd t)) := by
  have h1 : b < w.heap.size := (Array.getElem?_eq_some_iff.1 h.blk).1
  refine ⟨((Fr.turned ht).block b h1 h.ne).trans h.blk, ho, fun j => ?_⟩
  by_cases e : j = k
  · subst e
    rw [if_pos rfl]
    exact Maps.atKey_put_same h.own.isMap (keyLit_int _) _ _
  · rw [if_neg e]
    rw [Maps.atKey_put_other (fun q => e (by injection q))]
    exact h.at_ j
theorem OutAt.fr {w w' : World} {b m n : Nat} {most : Int} {D : DataW Unit} {S : Nat → Prop} (h : OutAt w b m most n D) (hf : Fr S w w') (hb : ¬ S b) (hm : ¬ S m) : OutAt w' b m most n D := by
  have h1 : b < w.heap.size := (Array.getElem?_eq_some_iff.1 h.blk).1
  have h2 : m < w.heap.size := by
    obtain ⟨es, clock, hb, _⟩ := h.own
    exact (Array.getElem?_eq_some_iff.1 hb).1
  exact ⟨(hf.block b h1 hb).trans h.blk, ownsMap_at h.own (hf.block m h2 hm)⟩
theorem OutAt.put {w w' : World} {b m n n' : Nat} {most : Int} {D D' : DataW Unit} (h : OutAt w b m most n D) (ht : Fr (· = m) w w') (ho : w'.ownsMap Try.prog 9 (plainElem Try.prog 3) m n' D') : OutAt w' b m most n' D' :=
  ⟨(ht.block b (Array.getElem?_eq_some_iff.1 h.blk).1 h.ne).trans h.blk, ho⟩
theorem Fr.below {w w' : World} {B : Nat} {S : Nat → Prop} (h : Fr S w w') (hS : ∀ k, S k → B ≤ k) (hB : B ≤ w.heap.size) : Below B w w' :=
  ⟨h.os, h.tape, h.output, h.size, fun k hk => h.block k (by omega) (fun q => by have := hS k q; omega)⟩

theorem inAt_new (most : Int) (w : World) : InAt ((w.alloc (.map #[] 0)).alloc (.cells #[.int .i64 most, .map (some w.heap.size)] 51)) (w.heap.size + 1) w.heap.size most 0 (fun _ => ByteArray.empty) (.map []) := by
  refine ⟨?_, ?_, fun k => rfl⟩
  · have := heap_alloc_new (w.alloc (.map #[] 0)) (.cells #[.int .i64 most, .map (some w.heap.size)] 51)
    simpa using this
  · exact (World.ownsMap_made w Try.prog 3 (plainElem Try.prog 9)).alloc _
theorem outAt_new (most : Int) (w : World) : OutAt ((w.alloc (.map #[] 0)).alloc (.cells #[.int .i64 most, .map (some w.heap.size)] 54)) (w.heap.size + 1) w.heap.size most 0 (.map []) := by
  refine ⟨?_, ?_⟩
  · have := heap_alloc_new (w.alloc (.map #[] 0)) (.cells #[.int .i64 most, .map (some w.heap.size)] 54)
    simpa using this
  · exact (World.ownsMap_made w Try.prog 9 (plainElem Try.prog 3)).alloc _
theorem fr_new (w : World) (o o' : Obj) : Fr (fun _ => False) w ((w.alloc o).alloc o') := (Fr.alloc o).trans (Fr.alloc o')

theorem num_any (c : Int) (w : World) : Calls Try.prog 10 #[.int .i64 c] w fun e w' => e = .returned (.int .i64 c) ∧ w = w' := by
  go_enter Try.func10, Try.ntmps10
  go_wp2
  go_ret
  exact ⟨rfl, rfl⟩
end Go.Proofs.Ytmnpiocgbgdilaa
