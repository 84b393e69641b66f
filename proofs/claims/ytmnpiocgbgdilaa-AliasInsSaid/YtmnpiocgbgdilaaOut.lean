/- The contracts of Out. -/
import Derived.Test.YtmnpiocgbgdilaaBase
import Derived.Outline
import Derived.Deep.QuietTactic
import Derived.BigQuiet
import Derived.StillTailTactics
namespace Go.Proofs.Ytmnpiocgbgdilaa
open Go.RowKit Go.Maps Go.WideMaps

/-- all blocks but those of S are as they were -/
structure Fr (S : Nat → Prop) (w w' : World) : Prop where
  os : w'.os = w.os
  tape : w'.tape = w.tape
  output : w'.output = w.output
  size : w.heap.size ≤ w'.heap.size
  block : ∀ k, k < w.heap.size → ¬ S k → w'.heap[k]? = w.heap[k]?
theorem Fr.refl (S : Nat → Prop) (w : World) : Fr S w w := ⟨rfl, rfl, rfl, Nat.le_refl _, fun _ _ _ => rfl⟩
theorem Fr.trans {S : Nat → Prop} {a b c : World} (h : Fr S a b) (k : Fr S b c) : Fr S a c :=
  ⟨k.os.trans h.os, k.tape.trans h.tape, k.output.trans h.output, Nat.le_trans h.size k.size, fun i hi hs => (k.block i (Nat.lt_of_lt_of_le hi h.size) hs).trans (h.block i hi hs)⟩
theorem Fr.mono {S S' : Nat → Prop} {a b : World} (h : Fr S a b) (hs : ∀ k, S k → S' k) : Fr S' a b := ⟨h.os, h.tape, h.output, h.size, fun k hk hn => h.block k hk fun q => hn (hs k q)⟩
theorem Fr.turned {a b : World} {m : Nat} (h : a.mapTurned b m) : Fr (· = m) a b := by
  have hg := h.grown
  exact ⟨hg.os, hg.tape, hg.output, hg.size, fun k hk hn => hg.block k hk (fun e => by injection e with e; exact hn e)⟩
theorem Fr.drew {S : Nat → Prop} {a b : World} (h : Fr S a b) : Fr S a b.drew := ⟨h.os, h.tape, h.output, h.size, h.block⟩
theorem Fr.drewN {S : Nat → Prop} {a : World} (n : Nat) : Fr S a (a.drewN n) := ⟨rfl, rfl, rfl, Nat.le_refl _, fun _ _ _ => rfl⟩
theorem ownsMap_at {H : Type} {P : Program} {k : TypeId} {R : Value → Option (DataW H × List MemPlace)} {w w' : World} {b n : Nat} {D : DataW H} (h : w.ownsMap P k R b n D) (e : w'.heap[b]? = w.heap[b]?) : w'.ownsMap P k R b n D := by
  obtain ⟨es, clock, hb, r⟩ := h
  exact ⟨es, clock, e.trans hb, r⟩

/-- a datum that is an int -/
def di (n : Int) : DataW Unit := .lit (.int .i64 n)

/-- an Out: its most, its numbers by their topics -/
structure OutAt (w : World) (b m : Nat) (most : Int) (n : Nat) (D : DataW Unit) : Prop where
  blk : w.heap[b]? = some (.cells #[.int .i64 most, .map (some m)] 54 (0, 0))
  own : w.ownsMap Try.prog 9 (plainElem Try.prog 3) m n D

theorem newOut_any (most : Int) (w : World) : Calls Try.prog 11 #[.int .i64 most] w fun e w' => e = .returned (.pointer (some ⟨w.heap.size + 1, 0, none⟩)) ∧ w' = (w.alloc (.map #[] 0)).alloc (.cells #[.int .i64 most, .map (some w.heap.size)] 54) := by
  have hmm := @run_makeMap Try.prog
  go_enter Try.func11, Try.ntmps11
  go_wp2
  go_ret
  exact ⟨rfl, rfl⟩

theorem len_any (b m : Nat) (most : Int) (n : Nat) (D : DataW Unit) (w : World) (h : OutAt w b m most n D) :
    Calls Try.prog 14 #[.pointer (some ⟨b, 0, none⟩)] w fun e w' => e = .returned (.int .i64 (Maps.size D)) ∧ w' = w := by
  have c1 := cell_blk h.blk (i := 1) rfl
  have hown := h.own
  go_enter Try.func14, Try.ntmps14
  go_wp2_with (first
    | (at_len; refine wpList_len_own _ rfl _ 52 rfl 9 3 Try.underlying52 _ m n D rfl hown ?_)
    | go_in)
  go_ret
  exact ⟨rfl, rfl⟩

theorem for_known (b m : Nat) (most : Int) (n : Nat) (D : DataW Unit) (t : ByteArray) (w : World) (h : OutAt w b m most n D) (ht : t.size ≤ maxLen) (hh : Maps.has D (.string t.data.toList) = true) :
    Calls Try.prog 12 #[.pointer (some ⟨b, 0, none⟩), .string t] w fun e w' => ∃ c, e = .returned (.tuple #[.int .i64 c, .bool true]) ∧ D.atKey (.string t.data.toList) (di 0) = di c ∧ w' = w := by
  have c1 := cell_blk h.blk (i := 1) rfl
  have hown := h.own
  have hkey := keyOf_string_mk Try.underlying9 ht
  go_enter Try.func12, Try.ntmps12
  go_wp2_with (first
    | (at_lookup; refine wpList_lookup_own_ok_int _ rfl _ _ 52 rfl 9 3 .i64 law9 Try.underlying52 Try.underlying3 (zero3 _) m n D rfl hown _ _ rfl hkey ?_; intro c hat hwc)
    | go_in)
  go_ret2
  exact ⟨c, rfl, hat, rfl⟩

theorem for_full (b m : Nat) (most : Int) (n : Nat) (D : DataW Unit) (t : ByteArray) (w : World) (h : OutAt w b m most n D) (ht : t.size ≤ maxLen) (hh : Maps.has D (.string t.data.toList) = false) (hm : most ≤ Maps.size D) :
    Calls Try.prog 12 #[.pointer (some ⟨b, 0, none⟩), .string t] w fun e w' => e = .returned (.tuple #[.int .i64 0, .bool false]) ∧ Fr (fun _ => False) w w' := by
  have c0 := cell_blk h.blk (i := 0) rfl
  have c1 := cell_blk h.blk (i := 1) rfl
  have hown := h.own
  have hkey := keyOf_string_mk Try.underlying9 ht
  have hlen := fun (q : Nat) => (show (w.drewN q).ownsMap Try.prog 9 (plainElem Try.prog 3) m n D from hown).len Try.underlying52 3
  have hlen0 := hown.len Try.underlying52 3
  have hg : decide ((Maps.size D : Int) ≥ most) = true := decide_eq_true hm
  go_enter Try.func12, Try.ntmps12
  go_wp2_with (first
    | (at_lookup; refine wpList_lookup_own_ok_int _ rfl _ _ 52 rfl 9 3 .i64 law9 Try.underlying52 Try.underlying3 (zero3 _) m n D rfl hown _ _ rfl hkey ?_; intro c hat hwc)
    | go_in)
  go_quiet (fail)
  go_wp2
  go_ret2
  exact ⟨rfl, Fr.drewN nq⟩

theorem cell_turned {w w' : World} {b i m : Nat} {v : Value} (h : w.cell? ⟨b, i, none⟩ = some v) (hne : b ≠ m) (ht : w.drew.mapTurned w' m) : w'.cell? ⟨b, i, none⟩ = some v := by
  obtain ⟨es, clock, es', clock', hb, rfl⟩ := ht
  unfold World.cell? at h ⊢
  have e : (Go.ChangeMaps.setBlock w.drew m (.map es' clock')).heap[b]? = w.heap[b]? := Go.ChangeMaps.heap_setBlock_other (w := w.drew) hb _ hne
  simp only at h ⊢
  rw [e]; exact h
theorem len_put {w : World} {m n k : Nat} {D : DataW Unit} (h : w.ownsMap Try.prog 9 (plainElem Try.prog 3) m n D) (hs : Maps.size D = k + 1) : (Builtin.len_ #[52] 3 #[.map (some m)]).run Try.prog w = .ok (.int .i64 (k + 1)) w := by
  have := h.len Try.underlying52 3
  rw [hs] at this
  exact this
theorem OutAt.ne {w : World} {b m n : Nat} {most : Int} {D : DataW Unit} (h : OutAt w b m most n D) : b ≠ m := by
  intro e
  subst e
  obtain ⟨es, clock, hb, _⟩ := h.own
  rw [h.blk] at hb
  cases hb

set_option maxRecDepth 100000 in
theorem for_new (b m : Nat) (most : Int) (n : Nat) (D : DataW Unit) (t : ByteArray) (w : World) (h : OutAt w b m most n D) (ht : t.size ≤ maxLen) (hh : Maps.has D (.string t.data.toList) = false) (hm : Maps.size D < most) (hn : n < 1000) :
    Calls Try.prog 12 #[.pointer (some ⟨b, 0, none⟩), .string t] w fun e w' => e = .returned (.tuple #[.int .i64 (Maps.size D + 1), .bool false]) ∧ w'.ownsMap Try.prog 9 (plainElem Try.prog 3) m (n + 1) (D.put (.string t.data.toList) (di (Maps.size D + 1))) ∧ Fr (· = m) w w' := by
  have c0 := cell_blk h.blk (i := 0) rfl
  have c1 := cell_blk h.blk (i := 1) rfl
  have hown := h.own
  have hkey := keyOf_string_mk Try.underlying9 ht
  have hlen := fun (q : Nat) => (show (w.drewN q).ownsMap Try.prog 9 (plainElem Try.prog 3) m n D from hown).len Try.underlying52 3
  have hlen0 := hown.len Try.underlying52 3
  have hsz := hown.size_le
  have hne := h.ne
  have hsp : Hid (Maps.size (D.put (.string t.data.toList) (di (Maps.size D + 1))) = Maps.size D + 1) := by
    have := Maps.size_put (k := .string t.data.toList) (hown.tidy law9) (di (Maps.size D + 1))
    rw [hh] at this
    exact this
  have hg : decide ((Maps.size D : Int) ≥ most) = false := decide_eq_false (by omega)
  have hnm : Hid (n < maxLen) := (by unfold maxLen; omega : n < maxLen)
  go_enter Try.func12, Try.ntmps12
  go_wp2_with (first
    | (at_lookup; refine wpList_lookup_own_ok_int _ rfl _ _ 52 rfl 9 3 .i64 law9 Try.underlying52 Try.underlying3 (zero3 _) m n D rfl hown _ _ rfl hkey ?_; intro c hat hwc)
    | go_in)
  go_quiet (fail)
  have c1' : (w.drewN nq).cell? ⟨b, 1, none⟩ = some (.map (some m)) := c1
  have hown' : (w.drewN nq).ownsMap Try.prog 9 (plainElem Try.prog 3) m n D := hown
  have hf : Fr (· = m) w (w.drewN nq) := Fr.drewN nq
  have hlen' := hlen nq
  clear c0 c1 hown hlen hlen0 h
  generalize w.drewN nq = w2 at *
  have hown2 : w2.drew.ownsMap Try.prog 9 (plainElem Try.prog 3) m n D := hown'
  have hlen2 := hown2.len Try.underlying52 3
  have hval : plainElem (H := Unit) Try.prog 3 (.int .i64 ((Maps.size D : Int) + 1)) = some (di (Maps.size D + 1), []) := plainElem_int Try.underlying3 (WalkArith.wf_i64 ⟨by omega, by omega⟩)
  go_wp2
  have hwrap : IntKind.i64.wrap ((Maps.size D : Int) + 1) = (Maps.size D : Int) + 1 := IntWalk.i64_in _ (by omega)
  go_still_tail 11, (by kernel_rfl)
  clear hwrap
  go_wp2_with (first
    | (at_mapUpdate; refine wpList_mapUpdate_in _ rfl _ _ _ 52 rfl 9 3 law9 Try.underlying52 _ m n D rfl hown2 hnm.out _ _ _ rfl rfl hkey _ [] hval ?_; intro w3 hown3 hturn3; have c3 : w3.cell? ⟨b, 1, none⟩ = some (.map (some m)) := cell_turned c1' hne hturn3; have hlen3 : (Builtin.len_ #[52] 3 #[.map (some m)]).run Try.prog w3 = .ok (.int .i64 (Maps.size D + 1)) w3 := len_put hown3 hsp.out)
    | go_in)
  go_ret2
  exact ⟨rfl, hown3, hf.trans ((Fr.refl _ _).drew.trans (Fr.turned hturn3))⟩
end Go.Proofs.Ytmnpiocgbgdilaa
