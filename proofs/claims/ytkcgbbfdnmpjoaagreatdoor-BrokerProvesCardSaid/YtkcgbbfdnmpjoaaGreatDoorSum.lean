/- The contracts of the two functions that sum bytes (CRC-32): the program's and the document's. -/
import Derived.WalkKit
import Derived.Lib.Hide
import Derived.Test.YtkcgbbfdnmpjoaaGreatDoorProg
import Derived.Test.YtkcgbbfdnmpjoaaGreatDoorEvSym
namespace Go.Proofs
open Go.RowKit
open Go.Ev (BRow crcN crcFrom crcByte crcBit BytesAt CrcAFn CrcBFn)
set_option maxRecDepth 100000
set_option linter.unusedVariables false
set_option linter.unusedSimpArgs false
def crcBits : Nat → Nat → Nat
  | 0, c => c
  | k + 1, c => crcBit (crcBits k c)
theorem crcBits8 (c b : Nat) : crcByte c b = crcBits 8 (c ^^^ b) := rfl
theorem crcFrom_app (c : Nat) (a b : List Nat) : crcFrom c (a ++ b) = crcFrom (crcFrom c a) b := by simp [crcFrom, List.foldl_append]
theorem crcFrom_take {bs : List Nat} {c j b : Nat} (h : bs[j]? = some b) : crcFrom c (bs.take (j + 1)) = crcByte (crcFrom c (bs.take j)) b := by
  rw [List.take_add_one, crcFrom_app, h]; rfl
theorem bits_xor32 (a b : Nat) (ha : a < 2 ^ 32) (hb : b < 2 ^ 32) : bits .xor .u32 (a : Int) (b : Int) = ((a ^^^ b : Nat) : Int) := by
  have hx : a ^^^ b < 2 ^ 32 := Nat.xor_lt_two_pow ha hb
  have h1 : (BitVec.ofInt 32 (a : Int)).toNat = a := by
    rw [BitVec.ofInt_natCast, BitVec.toNat_ofNat]; exact Nat.mod_eq_of_lt ha
  have h2 : (BitVec.ofInt 32 (b : Int)).toNat = b := by
    rw [BitVec.ofInt_natCast, BitVec.toNat_ofNat]; exact Nat.mod_eq_of_lt hb
  show IntKind.u32.wrap ((BitVec.ofInt 32 (a : Int) ^^^ BitVec.ofInt 32 (b : Int)).toNat : Int) = _
  rw [BitVec.toNat_xor, h1, h2]
  simp [IntKind.wrap, IntKind.signed, IntKind.bits]
  omega
theorem bits_and32 (a b : Nat) (ha : a < 2 ^ 32) (hb : b < 2 ^ 32) : bits .and .u32 (a : Int) (b : Int) = ((a &&& b : Nat) : Int) := by
  have hx : a &&& b < 2 ^ 32 := Nat.and_lt_two_pow _ hb
  have h1 : (BitVec.ofInt 32 (a : Int)).toNat = a := by
    rw [BitVec.ofInt_natCast, BitVec.toNat_ofNat]; exact Nat.mod_eq_of_lt ha
  have h2 : (BitVec.ofInt 32 (b : Int)).toNat = b := by
    rw [BitVec.ofInt_natCast, BitVec.toNat_ofNat]; exact Nat.mod_eq_of_lt hb
  show IntKind.u32.wrap ((BitVec.ofInt 32 (a : Int) &&& BitVec.ofInt 32 (b : Int)).toNat : Int) = _
  rw [BitVec.toNat_and, h1, h2]
  simp [IntKind.wrap, IntKind.signed, IntKind.bits]
  omega
theorem and_one32 (E : Nat) : E &&& 1 = E % 2 := by rw [show (1 : Nat) = 2 ^ 1 - 1 from rfl, Nat.and_two_pow_sub_one_eq_mod]
theorem crcStepA (E : Nat) (h : E < 2 ^ 32) : bits .xor .u32 ((E : Int) / 2) (bits .and .u32 3988292384 (-bits .and .u32 (E : Int) 1 % 4294967296)) = ((crcBit E : Nat) : Int) := by
  have e1 : bits .and .u32 (E : Int) 1 = ((E % 2 : Nat) : Int) := by
    rw [show (1 : Int) = ((1 : Nat) : Int) from rfl, bits_and32 E 1 h (by decide), and_one32]
  have e2 : ((E : Int) / 2) = ((E / 2 : Nat) : Int) := by omega
  rw [e1, e2]
  unfold crcBit
  rcases Nat.mod_two_eq_zero_or_one E with h0 | h0
  · rw [h0, if_neg (by decide)]
    have : bits .and .u32 3988292384 (-((0 : Nat) : Int) % 4294967296) = ((0 : Nat) : Int) := by
      rw [show (-((0 : Nat) : Int) % 4294967296) = ((0 : Nat) : Int) from rfl, show (3988292384 : Int) = ((3988292384 : Nat) : Int) from rfl, bits_and32 _ _ (by decide) (by decide)]; rfl
    rw [this, bits_xor32 _ _ (by omega) (by decide), Nat.xor_zero]
  · rw [h0, if_pos rfl]
    have : bits .and .u32 3988292384 (-((1 : Nat) : Int) % 4294967296) = ((3988292384 : Nat) : Int) := by
      rw [show (-((1 : Nat) : Int) % 4294967296) = ((4294967295 : Nat) : Int) from rfl, show (3988292384 : Int) = ((3988292384 : Nat) : Int) from rfl, bits_and32 _ _ (by decide) (by decide)]; rfl
    rw [this, bits_xor32 _ _ (by omega) (by decide)]
theorem crcBits_lt {c : Nat} (h : c < 2 ^ 32) : ∀ k, crcBits k c < 2 ^ 32
  | 0 => h
  | k + 1 => Go.Ev.crcBit_lt (crcBits_lt h k)
set_option maxHeartbeats 1000000 in
theorem crcA_calls (c x cap : Nat) (ps : List BRow) (w : World) (h1 : ps.length ≤ 1001) (h2 : ps.length ≤ cap) (h3 : ∀ p ∈ ps, p.Ok w) (h4 : ∀ i p, ps[i]? = some p → w.cell? ⟨c, x + i, none⟩ = some p.val) :
    Calls Tryz.prog 455 #[.slice (some ⟨c, x, none⟩) ps.length cap] w fun e w' => e = .returned (.int .u32 (Int.ofNat (crcN (ps.flatMap (·.bs))))) ∧ Below w.heap.size w w' := by
  have H3 := Lib.hid h3
  have H4 := Lib.hid h4
  clear h3 h4
  obtain ⟨n, hn⟩ : ∃ n, n = ps.length := ⟨_, rfl⟩
  rw [← hn] at h1 h2 ⊢
  have HN := Lib.hid hn
  clear hn
  go_enter Tryz.func455, Tryz.ntmps455
  go_wp2
  go_loop [3, 10] (fun v i => ∃ k : Nat, k ≤ n ∧ i = .int .i64 k ∧ v = .int .u32 (Int.ofNat (crcFrom 4294967295 ((ps.take k).flatMap (·.bs))))) (fun _ i => n - (Go.RowKit.intOf i).toNat)
  case atStart => exact ⟨0, Nat.zero_le _, rfl, rfl⟩
  case round =>
    obtain ⟨k, hk, rfl, rfl⟩ := hrel
    rcases Nat.lt_or_ge k n with hkn | hkn
    · obtain ⟨p, hp⟩ : ∃ p, ps[k]? = some p := ⟨ps[k]'(by have := HN.out; omega), List.getElem?_eq_getElem _⟩
      obtain ⟨c1, x1, cap1, bs⟩ := p
      have hcell : w.cell? ⟨c, x + k, none⟩ = some (.slice (some ⟨c1, x1, none⟩) bs.length cap1) := H4.out k _ hp
      obtain ⟨g1, g2, g3, g4⟩ := H3.out _ (List.mem_of_getElem? hp)
      have HP := Lib.hid hp
      have G1 := Lib.hid g1
      have G4 := Lib.hid g4
      simp only at g2 g3
      clear hp g1 g4
      obtain ⟨m, hm⟩ : ∃ m, m = bs.length := ⟨_, rfl⟩
      rw [← hm] at g2 g3 hcell
      have HM := Lib.hid hm
      clear hm
      obtain ⟨C, hC⟩ : ∃ C, C = crcFrom 4294967295 ((ps.take k).flatMap (·.bs)) := ⟨_, rfl⟩
      rw [← hC]
      have hCl : C < 2 ^ 32 := by
        rw [hC]
        refine Go.Ev.crcFrom_lt (by decide) fun y hy => ?_
        obtain ⟨p, hp, hy⟩ := List.mem_flatMap.1 hy
        exact (H3.out p (List.mem_of_mem_take hp)).1 y hy
      have HC := Lib.hid hC
      clear hC
      go_wp2
      go_loop [3, 16] (fun v i => ∃ j : Nat, j ≤ m ∧ i = .int .i64 j ∧ v = .int .u32 (Int.ofNat (crcFrom C (bs.take j)))) (fun _ i => m - (Go.RowKit.intOf i).toNat)
      case atStart => exact ⟨0, Nat.zero_le _, rfl, rfl⟩
      case round =>
        obtain ⟨j, hj, rfl, rfl⟩ := hrel
        rcases Nat.lt_or_ge j m with hjm | hjm
        · obtain ⟨b, hb⟩ : ∃ b, bs[j]? = some b := ⟨bs[j]'(by have := HM.out; omega), List.getElem?_eq_getElem _⟩
          have hcb : w.cell? ⟨c1, x1 + j, none⟩ = some (.int .u8 b) := G4.out j b hb
          have hb255 : b ≤ 255 := G1.out b (List.mem_of_getElem? hb)
          have HB := Lib.hid hb
          clear hb
          obtain ⟨D, hD⟩ : ∃ D, D = crcFrom C (bs.take j) := ⟨_, rfl⟩
          rw [← hD]
          have hDl : D < 2 ^ 32 := by rw [hD]; exact Go.Ev.crcFrom_lt hCl fun y hy => G1.out y (List.mem_of_mem_take hy)
          have hx0 : Value.int IntKind.u32 (bits BinOp.xor IntKind.u32 ↑D ↑b) = Value.int IntKind.u32 (Int.ofNat (crcBits 0 (D ^^^ b))) := by rw [bits_xor32 D b hDl (by omega)]; rfl
          have hDb : D ^^^ b < 2 ^ 32 := Nat.xor_lt_two_pow hDl (by omega)
          have HD := Lib.hid hD
          have HX0 := Lib.hid hx0
          clear hD hx0
          go_wp2
          go_loop [3, 24] (fun v i => ∃ t : Nat, t ≤ 8 ∧ i = .int .i64 t ∧ v = .int .u32 (Int.ofNat (crcBits t (D ^^^ b)))) (fun _ i => 8 - (Go.RowKit.intOf i).toNat)
          case atStart =>
            exact ⟨0, Nat.zero_le _, rfl, HX0.out⟩
          case round =>
            obtain ⟨t, ht, rfl, rfl⟩ := hrel
            rcases Nat.lt_or_ge t 8 with ht8 | ht8
            · obtain ⟨E, hE⟩ : ∃ E, E = crcBits t (D ^^^ b) := ⟨_, rfl⟩
              rw [← hE]
              have hst := crcStepA E (by rw [hE]; exact crcBits_lt hDb t)
              have HS := Lib.hid hst
              have HE := Lib.hid hE
              clear hE hst
              go_wp2
              go_round
              case rel =>
                refine ⟨t + 1, by omega, rfl, ?_⟩
                rw [HS.out, HE.out]
                rfl
              case measure => simp [Go.RowKit.intOf]; omega
            · obtain rfl : t = 8 := by omega
              go_wp2
              go_round
              case rel =>
                refine ⟨j + 1, by omega, rfl, ?_⟩
                rw [crcFrom_take HB.out, ← HD.out, crcBits8]
              case measure => simp [Go.RowKit.intOf]; omega
        · obtain rfl : j = m := by omega
          go_wp2
          go_round
          case rel =>
            refine ⟨k + 1, by omega, rfl, ?_⟩
            rw [List.take_add_one, HP.out, List.flatMap_append, crcFrom_app, ← HC.out, HM.out, List.take_length]
            simp
          case measure => simp [Go.RowKit.intOf]; omega
    · obtain rfl : k = n := by omega
      have hCl : crcFrom 4294967295 ((ps.take k).flatMap (·.bs)) < 2 ^ 32 := by
        refine Go.Ev.crcFrom_lt (by decide) fun y hy => ?_
        obtain ⟨p, hp, hy⟩ := List.mem_flatMap.1 hy
        exact (H3.out p (List.mem_of_mem_take hp)).1 y hy
      have hfin : crcFrom 4294967295 ((ps.take k).flatMap (·.bs)) = crcFrom 4294967295 (ps.flatMap (·.bs)) := by rw [HN.out, List.take_length]
      rw [hfin] at hCl ⊢
      obtain ⟨C, hC⟩ : ∃ C, C = crcFrom 4294967295 (ps.flatMap (·.bs)) := ⟨_, rfl⟩
      rw [← hC] at hCl ⊢
      have HC := Lib.hid hC
      clear hC hfin
      go_wp2
      go_ret
      refine ⟨?_, Below.refl _ _⟩
      show Ending.returned (Value.int IntKind.u32 (bits BinOp.xor IntKind.u32 ((4294967295 : Nat) : Int) (C : Int))) = _
      rw [bits_xor32 _ _ (by decide) hCl, Nat.xor_comm, HC.out]
      rfl
theorem crcStepB (E : Nat) (h : E < 2 ^ 32) : E % 2 = 1 → bits .xor .u32 ((E / 2 : Nat) : Int) 3988292384 = ((crcBit E : Nat) : Int) := by
  intro h1
  unfold crcBit
  rw [if_pos h1, show (3988292384 : Int) = ((3988292384 : Nat) : Int) from rfl, bits_xor32 _ _ (by omega) (by decide)]
set_option maxHeartbeats 1000000 in
theorem crcB_calls (c x cap : Nat) (bs : List Nat) (w : World) (h1 : ∀ b ∈ bs, b ≤ 255) (h2 : bs.length ≤ 1001) (h3 : bs.length ≤ cap) (h4 : BytesAt w c x bs) :
    Calls Tryz.prog 40 #[.slice (some ⟨c, x, none⟩) bs.length cap] w fun e w' => e = .returned (.int .u32 (Int.ofNat (crcN bs))) ∧ Below w.heap.size w w' := by
  have G1 := Lib.hid h1
  have G4 := Lib.hid h4
  clear h1 h4
  obtain ⟨m, hm⟩ : ∃ m, m = bs.length := ⟨_, rfl⟩
  rw [← hm] at h2 h3 ⊢
  have HM := Lib.hid hm
  clear hm
  go_enter Tryz.func40, Tryz.ntmps40
  go_wp2
  go_loop [3, 4] (fun v i => ∃ j : Nat, j ≤ m ∧ i = .int .i64 j ∧ v = .int .u32 (Int.ofNat (crcFrom 4294967295 (bs.take j)))) (fun _ i => m - (Go.RowKit.intOf i).toNat)
  case atStart => exact ⟨0, Nat.zero_le _, rfl, rfl⟩
  case round =>
    obtain ⟨j, hj, rfl, rfl⟩ := hrel
    rcases Nat.lt_or_ge j m with hjm | hjm
    · obtain ⟨b, hb⟩ : ∃ b, bs[j]? = some b := ⟨bs[j]'(by have := HM.out; omega), List.getElem?_eq_getElem _⟩
      have hcb : w.cell? ⟨c, x + j, none⟩ = some (.int .u8 b) := G4.out j b hb
      have hb255 : b ≤ 255 := G1.out b (List.mem_of_getElem? hb)
      have HB := Lib.hid hb
      clear hb
      obtain ⟨D, hD⟩ : ∃ D, D = crcFrom 4294967295 (bs.take j) := ⟨_, rfl⟩
      rw [← hD]
      have hDl : D < 2 ^ 32 := by rw [hD]; exact Go.Ev.crcFrom_lt (by decide) fun y hy => G1.out y (List.mem_of_mem_take hy)
      have hx0 : Value.int IntKind.u32 (bits BinOp.xor IntKind.u32 ↑D ↑b) = Value.int IntKind.u32 (Int.ofNat (crcBits 0 (D ^^^ b))) := by rw [bits_xor32 D b hDl (by omega)]; rfl
      have hDb : D ^^^ b < 2 ^ 32 := Nat.xor_lt_two_pow hDl (by omega)
      have HD := Lib.hid hD
      have HX0 := Lib.hid hx0
      clear hD hx0
      go_wp2
      go_loop [3, 5] (fun v i => ∃ t : Nat, t ≤ 8 ∧ i = .int .i64 t ∧ v = .int .u32 (Int.ofNat (crcBits t (D ^^^ b)))) (fun _ i => 8 - (Go.RowKit.intOf i).toNat)
      case atStart => exact ⟨0, Nat.zero_le _, rfl, HX0.out⟩
      case round =>
        obtain ⟨t, ht, rfl, rfl⟩ := hrel
        rcases Nat.lt_or_ge t 8 with ht8 | ht8
        · obtain ⟨E, hE⟩ : ∃ E, E = crcBits t (D ^^^ b) := ⟨_, rfl⟩
          rw [← hE]
          have hEl : E < 2 ^ 32 := by rw [hE]; exact crcBits_lt hDb t
          have HS := Lib.hid (crcStepB E hEl)
          have HE := Lib.hid hE
          clear hE
          go_wp2
          · rename_i h1
            go_round
            case rel =>
              refine ⟨t + 1, by omega, rfl, ?_⟩
              have e : ((E : Int) / 2) = ((E / 2 : Nat) : Int) := by omega
              rw [e, HS.out (by simp at h1; omega), HE.out]
              rfl
            case measure => simp [Go.RowKit.intOf]; omega
          · rename_i h1
            go_round
            case rel =>
              refine ⟨t + 1, by omega, rfl, ?_⟩
              have e : ((E : Int) / 2) = ((crcBit E : Nat) : Int) := by
                unfold crcBit
                rw [if_neg (by simp at h1; omega)]
                omega
              rw [e, HE.out]
              rfl
            case measure => simp [Go.RowKit.intOf]; omega
        · obtain rfl : t = 8 := by omega
          go_wp2
          go_round
          case rel =>
            refine ⟨j + 1, by omega, rfl, ?_⟩
            rw [crcFrom_take HB.out, ← HD.out, crcBits8]
          case measure => simp [Go.RowKit.intOf]; omega
    · obtain rfl : j = m := by omega
      have hCl : crcFrom 4294967295 (bs.take j) < 2 ^ 32 := Go.Ev.crcFrom_lt (by decide) fun y hy => G1.out y (List.mem_of_mem_take hy)
      have hfin : crcFrom 4294967295 (bs.take j) = crcFrom 4294967295 bs := by rw [HM.out, List.take_length]
      rw [hfin] at hCl ⊢
      obtain ⟨C, hC⟩ : ∃ C, C = crcFrom 4294967295 bs := ⟨_, rfl⟩
      rw [← hC] at hCl ⊢
      have HC := Lib.hid hC
      clear hC hfin
      go_wp2
      go_ret
      refine ⟨?_, Below.refl _ _⟩
      show Ending.returned (Value.int IntKind.u32 (bits BinOp.xor IntKind.u32 (C : Int) ((4294967295 : Nat) : Int))) = _
      rw [bits_xor32 _ _ hCl (by decide), HC.out]
      rfl
theorem sumA_ok : CrcAFn Tryz.prog 455 := ⟨fun args w => Go.Ev.run_callFunc_enter Tryz.func455 (by kernel_rfl) (show Tryz.f455.body = some _ from rfl) args w, crcA_calls⟩
theorem sumB_ok : CrcBFn Tryz.prog 40 := ⟨fun args w => Go.Ev.run_callFunc_enter Tryz.func40 (by kernel_rfl) (show Tryz.f40.body = some _ from rfl) args w, crcB_calls⟩
end Go.Proofs
