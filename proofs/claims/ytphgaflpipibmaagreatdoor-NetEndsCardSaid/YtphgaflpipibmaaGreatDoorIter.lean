/- The library's contracts on 'slices.Sorted(maps.Keys(m))', laid at this program (by the kit's tools lay-iter and lay-plain). -/
import Derived.Shelf.SlGeneric
import Derived.Shelf.SlIter.Nil
import Derived.Shelf.SortM.Plain
import Derived.Shelf.SortM.SortNone
import Derived.Ground.GgzProg
import Derived.Ground.SlgmProg
import Derived.Test.YtphgaflpipibmaaGreatDoorProg
namespace Go.Proofs
open Go.Shelf
def Tryz.keys228_ren : Go.Shelf.Ren := ⟨fun | 7 => 228 | 10 => 343 | n => n, fun | 23 => 134 | 26 => 9 | 3 => 170 | 28 => 369 | 0 => 0 | 27 => 368 | 33 => 193 | 4 => 4 | n => n, fun | n => n⟩
theorem Tryz.keys228 : Go.Proofs.SlLaysZ.n7 Tryz.prog Tryz.keys228_ren := {
  mixed := by kernel_rfl
  f7 := ⟨Tryz.f228.name, by decide, Tryz.func228.trans (congrArg some (by kernel_rfl))⟩
  f10 := ⟨Tryz.f343.name, by decide, Tryz.func343.trans (congrArg some (by kernel_rfl))⟩
  t0 := Tryz.underlying0
  a0 := Tryz.isAgg0
  z0 := Tryz.sizeOf0
  v0 := Tryz.zeroValue0
  t4 := Tryz.underlying4
  a4 := Tryz.isAgg4
  z4 := Tryz.sizeOf4
  v4 := Tryz.zeroValue4
  t23 := Tryz.underlying134
  a23 := Tryz.isAgg134
  z23 := Tryz.sizeOf134
  v23 := Tryz.zeroValue134
  t26 := Tryz.underlying9
  a26 := Tryz.isAgg9
  z26 := Tryz.sizeOf9
  v26 := Tryz.zeroValue9
  t27 := Tryz.underlying368
  a27 := Tryz.isAgg368
  z27 := Tryz.sizeOf368
  v27 := Tryz.zeroValue368
  t28 := Tryz.underlying369
  a28 := Tryz.isAgg369
  z28 := Tryz.sizeOf369
  v28 := Tryz.zeroValue369
  t33 := Tryz.underlying193
  a33 := Tryz.isAgg193
  z33 := Tryz.sizeOf193
  v33 := Tryz.zeroValue193 }
def Tryz.sorted227_ren : Go.Shelf.Ren := ⟨fun | 6 => 227 | 8 => 342 | 9 => 341 | 11 => 416 | 13 => 150 | 12 => 415 | 23 => 248 | 24 => 249 | 14 => 473 | 15 => 474 | 16 => 475 | 17 => 476 | 18 => 477 | 19 => 478 | 20 => 479 | 21 => 480 | 22 => 481 | 25 => 514 | 26 => 354 | 27 => 355 | 28 => 515 | 29 => 516 | 30 => 517 | 31 => 527 | n => n, fun | 26 => 9 | 28 => 369 | 24 => 77 | 0 => 0 | 3 => 3 | 37 => 186 | 48 => 388 | 50 => 179 | 4 => 4 | 40 => 382 | 39 => 381 | 45 => 210 | 5 => 5 | 9 => 9 | 51 => 469 | 55 => 473 | 57 => 534 | 58 => 83 | 33 => 193 | n => n, fun | n => n⟩
theorem Tryz.sorted227 : Go.Proofs.SlLaysZ.n6 Tryz.prog Tryz.sorted227_ren := {
  mixed := by kernel_rfl
  f6 := ⟨Tryz.f227.name, by decide, Tryz.func227.trans (congrArg some (by kernel_rfl))⟩
  f8 := ⟨Tryz.f342.name, by decide, Tryz.func342.trans (congrArg some (by kernel_rfl))⟩
  f11 := ⟨Tryz.f416.name, by decide, Tryz.func416.trans (congrArg some (by kernel_rfl))⟩
  t0 := Tryz.underlying0
  a0 := Tryz.isAgg0
  z0 := Tryz.sizeOf0
  v0 := Tryz.zeroValue0
  t24 := Tryz.underlying77
  a24 := Tryz.isAgg77
  z24 := Tryz.sizeOf77
  v24 := Tryz.zeroValue77
  t26 := Tryz.underlying9
  a26 := Tryz.isAgg9
  z26 := Tryz.sizeOf9
  v26 := Tryz.zeroValue9
  t28 := Tryz.underlying369
  a28 := Tryz.isAgg369
  z28 := Tryz.sizeOf369
  v28 := Tryz.zeroValue369
  i26 := by kernel_rfl }
def Tryz.sort341_ren : Go.Shelf.Ren := ⟨fun | 6 => 341 | 8 => 150 | 9 => 415 | 19 => 248 | 20 => 249 | 21 => 473 | 22 => 474 | 23 => 475 | 24 => 476 | 25 => 477 | 26 => 478 | 27 => 479 | 28 => 480 | 29 => 481 | 36 => 514 | 31 => 354 | 32 => 355 | 37 => 515 | 38 => 516 | 39 => 517 | 41 => 527 | n => n, fun | 27 => 77 | 29 => 9 | 3 => 3 | 32 => 186 | 26 => 77 | 0 => 0 | 44 => 388 | 46 => 179 | 4 => 4 | 36 => 382 | 35 => 381 | 41 => 210 | 5 => 5 | 9 => 9 | 53 => 469 | 57 => 473 | 63 => 534 | 64 => 83 | n => n, fun | n => n⟩
theorem Tryz.sort341 : Go.Proofs.SlLaysM.n6 Tryz.prog Tryz.sort341_ren := {
  mixed := by kernel_rfl
  f6 := ⟨Tryz.f341.name, by decide, Tryz.func341.trans (congrArg some (by kernel_rfl))⟩
  f8 := Tryz.func150.trans (congrArg some (by kernel_rfl))
  f9 := ⟨Tryz.f415.name, by decide, Tryz.func415.trans (congrArg some (by kernel_rfl))⟩
  f19 := Tryz.func248.trans (congrArg some (by kernel_rfl))
  f20 := Tryz.func249.trans (congrArg some (by kernel_rfl))
  f21 := ⟨Tryz.f473.name, by decide, Tryz.func473.trans (congrArg some (by kernel_rfl))⟩
  f22 := ⟨Tryz.f474.name, by decide, Tryz.func474.trans (congrArg some (by kernel_rfl))⟩
  f23 := ⟨Tryz.f475.name, by decide, Tryz.func475.trans (congrArg some (by kernel_rfl))⟩
  f24 := ⟨Tryz.f476.name, by decide, Tryz.func476.trans (congrArg some (by kernel_rfl))⟩
  f25 := ⟨Tryz.f477.name, by decide, Tryz.func477.trans (congrArg some (by kernel_rfl))⟩
  f26 := ⟨Tryz.f478.name, by decide, Tryz.func478.trans (congrArg some (by kernel_rfl))⟩
  f27 := ⟨Tryz.f479.name, by decide, Tryz.func479.trans (congrArg some (by kernel_rfl))⟩
  f28 := ⟨Tryz.f480.name, by decide, Tryz.func480.trans (congrArg some (by kernel_rfl))⟩
  f29 := ⟨Tryz.f481.name, by decide, Tryz.func481.trans (congrArg some (by kernel_rfl))⟩
  f31 := Tryz.func354.trans (congrArg some (by kernel_rfl))
  f32 := Tryz.func355.trans (congrArg some (by kernel_rfl))
  f36 := ⟨Tryz.f514.name, by decide, Tryz.func514.trans (congrArg some (by kernel_rfl))⟩
  f37 := ⟨Tryz.f515.name, by decide, Tryz.func515.trans (congrArg some (by kernel_rfl))⟩
  f38 := ⟨Tryz.f516.name, by decide, Tryz.func516.trans (congrArg some (by kernel_rfl))⟩
  f39 := ⟨Tryz.f517.name, by decide, Tryz.func517.trans (congrArg some (by kernel_rfl))⟩
  f41 := ⟨Tryz.f527.name, by decide, Tryz.func527.trans (congrArg some (by kernel_rfl))⟩
  t0 := Tryz.underlying0
  a0 := Tryz.isAgg0
  z0 := Tryz.sizeOf0
  v0 := Tryz.zeroValue0
  t3 := Tryz.underlying3
  a3 := Tryz.isAgg3
  z3 := Tryz.sizeOf3
  v3 := Tryz.zeroValue3
  t4 := Tryz.underlying4
  a4 := Tryz.isAgg4
  z4 := Tryz.sizeOf4
  v4 := Tryz.zeroValue4
  t5 := Tryz.underlying5
  a5 := Tryz.isAgg5
  z5 := Tryz.sizeOf5
  v5 := Tryz.zeroValue5
  t9 := Tryz.underlying9
  a9 := Tryz.isAgg9
  z9 := Tryz.sizeOf9
  v9 := Tryz.zeroValue9
  t26 := Tryz.underlying77
  a26 := Tryz.isAgg77
  z26 := Tryz.sizeOf77
  v26 := Tryz.zeroValue77
  t27 := Tryz.underlying77
  a27 := Tryz.isAgg77
  z27 := Tryz.sizeOf77
  v27 := Tryz.zeroValue77
  t29 := Tryz.underlying9
  a29 := Tryz.isAgg9
  z29 := Tryz.sizeOf9
  v29 := Tryz.zeroValue9
  t32 := Tryz.underlying186
  a32 := Tryz.isAgg186
  z32 := Tryz.sizeOf186
  v32 := Tryz.zeroValue186
  t35 := Tryz.underlying381
  a35 := Tryz.isAgg381
  z35 := Tryz.sizeOf381
  v35 := Tryz.zeroValue381
  t36 := Tryz.underlying382
  a36 := Tryz.isAgg382
  z36 := Tryz.sizeOf382
  v36 := Tryz.zeroValue382
  t41 := Tryz.underlying210
  a41 := Tryz.isAgg210
  z41 := Tryz.sizeOf210
  v41 := Tryz.zeroValue210
  t44 := Tryz.underlying388
  a44 := Tryz.isAgg388
  z44 := Tryz.sizeOf388
  v44 := Tryz.zeroValue388
  t46 := Tryz.underlying179
  a46 := Tryz.isAgg179
  z46 := Tryz.sizeOf179
  v46 := Tryz.zeroValue179
  t53 := Tryz.underlying469
  a53 := Tryz.isAgg469
  z53 := Tryz.sizeOf469
  v53 := Tryz.zeroValue469
  t57 := Tryz.underlying473
  a57 := Tryz.isAgg473
  z57 := Tryz.sizeOf473
  v57 := Tryz.zeroValue473
  t63 := Tryz.underlying534
  a63 := Tryz.isAgg534
  z63 := Tryz.sizeOf534
  v63 := Tryz.zeroValue534
  t64 := Tryz.underlying83
  a64 := Tryz.isAgg83
  z64 := Tryz.sizeOf83
  v64 := Tryz.zeroValue83 }
def Tryz.keys232_ren : Go.Shelf.Ren := ⟨fun | 7 => 232 | 10 => 347 | n => n, fun | 23 => 131 | 26 => 9 | 3 => 214 | 28 => 369 | 0 => 0 | 27 => 368 | 33 => 193 | 4 => 4 | n => n, fun | n => n⟩
theorem Tryz.keys232 : Go.Proofs.SlLaysZ.n7 Tryz.prog Tryz.keys232_ren := {
  mixed := by kernel_rfl
  f7 := ⟨Tryz.f232.name, by decide, Tryz.func232.trans (congrArg some (by kernel_rfl))⟩
  f10 := ⟨Tryz.f347.name, by decide, Tryz.func347.trans (congrArg some (by kernel_rfl))⟩
  t0 := Tryz.underlying0
  a0 := Tryz.isAgg0
  z0 := Tryz.sizeOf0
  v0 := Tryz.zeroValue0
  t4 := Tryz.underlying4
  a4 := Tryz.isAgg4
  z4 := Tryz.sizeOf4
  v4 := Tryz.zeroValue4
  t23 := Tryz.underlying131
  a23 := Tryz.isAgg131
  z23 := Tryz.sizeOf131
  v23 := Tryz.zeroValue131
  t26 := Tryz.underlying9
  a26 := Tryz.isAgg9
  z26 := Tryz.sizeOf9
  v26 := Tryz.zeroValue9
  t27 := Tryz.underlying368
  a27 := Tryz.isAgg368
  z27 := Tryz.sizeOf368
  v27 := Tryz.zeroValue368
  t28 := Tryz.underlying369
  a28 := Tryz.isAgg369
  z28 := Tryz.sizeOf369
  v28 := Tryz.zeroValue369
  t33 := Tryz.underlying193
  a33 := Tryz.isAgg193
  z33 := Tryz.sizeOf193
  v33 := Tryz.zeroValue193 }
def Tryz.keys238_ren : Go.Shelf.Ren := ⟨fun | 7 => 238 | 10 => 348 | n => n, fun | 23 => 135 | 26 => 9 | 3 => 273 | 28 => 369 | 0 => 0 | 27 => 368 | 33 => 193 | 4 => 4 | n => n, fun | n => n⟩
theorem Tryz.keys238 : Go.Proofs.SlLaysZ.n7 Tryz.prog Tryz.keys238_ren := {
  mixed := by kernel_rfl
  f7 := ⟨Tryz.f238.name, by decide, Tryz.func238.trans (congrArg some (by kernel_rfl))⟩
  f10 := ⟨Tryz.f348.name, by decide, Tryz.func348.trans (congrArg some (by kernel_rfl))⟩
  t0 := Tryz.underlying0
  a0 := Tryz.isAgg0
  z0 := Tryz.sizeOf0
  v0 := Tryz.zeroValue0
  t4 := Tryz.underlying4
  a4 := Tryz.isAgg4
  z4 := Tryz.sizeOf4
  v4 := Tryz.zeroValue4
  t23 := Tryz.underlying135
  a23 := Tryz.isAgg135
  z23 := Tryz.sizeOf135
  v23 := Tryz.zeroValue135
  t26 := Tryz.underlying9
  a26 := Tryz.isAgg9
  z26 := Tryz.sizeOf9
  v26 := Tryz.zeroValue9
  t27 := Tryz.underlying368
  a27 := Tryz.isAgg368
  z27 := Tryz.sizeOf368
  v27 := Tryz.zeroValue368
  t28 := Tryz.underlying369
  a28 := Tryz.isAgg369
  z28 := Tryz.sizeOf369
  v28 := Tryz.zeroValue369
  t33 := Tryz.underlying193
  a33 := Tryz.isAgg193
  z33 := Tryz.sizeOf193
  v33 := Tryz.zeroValue193 }
open Go.RowKit Go.Maps Go.Sort


theorem Tryz.sorts227 (m : Nat) : AnyZ.SortsIn Tryz.prog Tryz.sorted227_ren Fence.wide m :=
  ⟨fun blk off cap ss W hH hblk hsz => callsIn_wide.2 (AnyM.slices_Sort_string Tryz.sort341 blk off cap ss W hH hblk hsz),
   fun p cap W => callsIn_wide.2 (AnyM.slices_Sort_string_none Tryz.sort341 p cap W)⟩

theorem Tryz.maps_Keys_228 (mb : Option Nat) (W : World) : CallsIn Fence.wide 5 Tryz.prog 228 #[.map mb] W fun e w' => e = .returned (.func (.func 343) #[] #[.pointer (some ⟨W.heap.size, 0, none⟩)]) ∧ w' = W.alloc (.cells #[.map mb] 134) :=
  AnyZ.keys_in Tryz.keys228 Fence.wide 5 trivial rfl mb W

set_option maxHeartbeats 1000000 in
theorem Tryz.slices_Sorted_keys_227_228 {H : Type} (b nn : Nat) (D0 : DataW H) (R : Value → Option (DataW H × List MemPlace)) (w : World) (hown : w.ownsMap Tryz.prog 9 R b nn D0) (hmax : Maps.size D0 ≤ maxLen) (hbytes : Maps.size D0 * 16 ≤ 140737488355328) :
    CallsIn Fence.wide 5 Tryz.prog 227 #[.func (.func 343) #[] #[.pointer (some ⟨w.heap.size, 0, none⟩)]] (w.alloc (.cells #[.map (some b)] 134)) fun e w' => ∃ (v : Value) (ss : List (List UInt8)), e = .returned v ∧ ss.Perm (strKeys D0) ∧
      w'.ownsRow (w.alloc (.cells #[.map (some b)] 134)).heap.size 9 1 v ss.length ((ss.mergeSort (fun x y => decide (x ≤ y))).map encStr) ∧ (v = .slice none 0 0 ↔ ss = []) ∧ Below (w.alloc (.cells #[.map (some b)] 134)).heap.size (w.alloc (.cells #[.map (some b)] 134)) w' := by
  have hbl := hown.lt
  have hseq : SeqGives Fence.wide 2 Tryz.prog 343 #[.pointer (some ⟨w.heap.size, 0, none⟩)] encStr (fun ss => ss.Perm (strKeys D0)) (Maps.size D0) (w.alloc (.cells #[.map (some b)] 134)) :=
    AnyZ.keys_gives (ρ := Tryz.keys228_ren) { Tryz.keys228 with } Fence.wide _ trivial rfl (by omega) w.heap.size b nn D0 _ (by simp) (by simp) (by
      obtain ⟨es, clock, hb, Ft, hs, hD⟩ := hown
      exact ⟨es, clock, (Below.heap_alloc _ _ b hbl).trans hb, Ft, hs, hD⟩)
  exact AnyZ.sorted_in Tryz.sorted227 Fence.wide 5 trivial trivial trivial trivial rfl (by omega) (Tryz.sorts227 _) (enters_of Tryz.func341 (by kernel_rfl) rfl) 343 #[.pointer (some ⟨w.heap.size, 0, none⟩)] trivial (enters_of Tryz.func343 (by kernel_rfl) rfl) _ _ hmax hbytes _ hseq

set_option maxHeartbeats 1000000 in
theorem Tryz.slices_Sorted_keys_nil_227_228 (w : World) :
    CallsIn Fence.wide 5 Tryz.prog 227 #[.func (.func 343) #[] #[.pointer (some ⟨w.heap.size, 0, none⟩)]] (w.alloc (.cells #[.map none] 134)) fun e w' => ∃ (v : Value) (ss : List (List UInt8)), e = .returned v ∧ ss = [] ∧
      w'.ownsRow (w.alloc (.cells #[.map none] 134)).heap.size 9 1 v ss.length ((ss.mergeSort (fun x y => decide (x ≤ y))).map encStr) ∧ (v = .slice none 0 0 ↔ ss = []) ∧ Below (w.alloc (.cells #[.map none] 134)).heap.size (w.alloc (.cells #[.map none] 134)) w' := by
  have hseq : SeqGives Fence.wide 2 Tryz.prog 343 #[.pointer (some ⟨w.heap.size, 0, none⟩)] encStr (fun ss : List (List UInt8) => ss = []) 0 (w.alloc (.cells #[.map none] 134)) :=
    AnyZ.keys_gives_nil (ρ := Tryz.keys228_ren) { Tryz.keys228 with } Fence.wide _ trivial rfl w.heap.size _ (by simp) (by simp)
  exact AnyZ.sorted_in Tryz.sorted227 Fence.wide 5 trivial trivial trivial trivial rfl (by omega) (Tryz.sorts227 _) (enters_of Tryz.func341 (by kernel_rfl) rfl) 343 #[.pointer (some ⟨w.heap.size, 0, none⟩)] trivial (enters_of Tryz.func343 (by kernel_rfl) rfl) _ 0 (Nat.zero_le _) (by omega) _ hseq


theorem Tryz.maps_Keys_232 (mb : Option Nat) (W : World) : CallsIn Fence.wide 5 Tryz.prog 232 #[.map mb] W fun e w' => e = .returned (.func (.func 347) #[] #[.pointer (some ⟨W.heap.size, 0, none⟩)]) ∧ w' = W.alloc (.cells #[.map mb] 131) :=
  AnyZ.keys_in Tryz.keys232 Fence.wide 5 trivial rfl mb W

set_option maxHeartbeats 1000000 in
theorem Tryz.slices_Sorted_keys_227_232 {H : Type} (b nn : Nat) (D0 : DataW H) (R : Value → Option (DataW H × List MemPlace)) (w : World) (hown : w.ownsMap Tryz.prog 9 R b nn D0) (hmax : Maps.size D0 ≤ maxLen) (hbytes : Maps.size D0 * 16 ≤ 140737488355328) :
    CallsIn Fence.wide 5 Tryz.prog 227 #[.func (.func 347) #[] #[.pointer (some ⟨w.heap.size, 0, none⟩)]] (w.alloc (.cells #[.map (some b)] 131)) fun e w' => ∃ (v : Value) (ss : List (List UInt8)), e = .returned v ∧ ss.Perm (strKeys D0) ∧
      w'.ownsRow (w.alloc (.cells #[.map (some b)] 131)).heap.size 9 1 v ss.length ((ss.mergeSort (fun x y => decide (x ≤ y))).map encStr) ∧ (v = .slice none 0 0 ↔ ss = []) ∧ Below (w.alloc (.cells #[.map (some b)] 131)).heap.size (w.alloc (.cells #[.map (some b)] 131)) w' := by
  have hbl := hown.lt
  have hseq : SeqGives Fence.wide 2 Tryz.prog 347 #[.pointer (some ⟨w.heap.size, 0, none⟩)] encStr (fun ss => ss.Perm (strKeys D0)) (Maps.size D0) (w.alloc (.cells #[.map (some b)] 131)) :=
    AnyZ.keys_gives (ρ := Tryz.keys232_ren) { Tryz.keys232 with } Fence.wide _ trivial rfl (by omega) w.heap.size b nn D0 _ (by simp) (by simp) (by
      obtain ⟨es, clock, hb, Ft, hs, hD⟩ := hown
      exact ⟨es, clock, (Below.heap_alloc _ _ b hbl).trans hb, Ft, hs, hD⟩)
  exact AnyZ.sorted_in Tryz.sorted227 Fence.wide 5 trivial trivial trivial trivial rfl (by omega) (Tryz.sorts227 _) (enters_of Tryz.func341 (by kernel_rfl) rfl) 347 #[.pointer (some ⟨w.heap.size, 0, none⟩)] trivial (enters_of Tryz.func347 (by kernel_rfl) rfl) _ _ hmax hbytes _ hseq

set_option maxHeartbeats 1000000 in
theorem Tryz.slices_Sorted_keys_nil_227_232 (w : World) :
    CallsIn Fence.wide 5 Tryz.prog 227 #[.func (.func 347) #[] #[.pointer (some ⟨w.heap.size, 0, none⟩)]] (w.alloc (.cells #[.map none] 131)) fun e w' => ∃ (v : Value) (ss : List (List UInt8)), e = .returned v ∧ ss = [] ∧
      w'.ownsRow (w.alloc (.cells #[.map none] 131)).heap.size 9 1 v ss.length ((ss.mergeSort (fun x y => decide (x ≤ y))).map encStr) ∧ (v = .slice none 0 0 ↔ ss = []) ∧ Below (w.alloc (.cells #[.map none] 131)).heap.size (w.alloc (.cells #[.map none] 131)) w' := by
  have hseq : SeqGives Fence.wide 2 Tryz.prog 347 #[.pointer (some ⟨w.heap.size, 0, none⟩)] encStr (fun ss : List (List UInt8) => ss = []) 0 (w.alloc (.cells #[.map none] 131)) :=
    AnyZ.keys_gives_nil (ρ := Tryz.keys232_ren) { Tryz.keys232 with } Fence.wide _ trivial rfl w.heap.size _ (by simp) (by simp)
  exact AnyZ.sorted_in Tryz.sorted227 Fence.wide 5 trivial trivial trivial trivial rfl (by omega) (Tryz.sorts227 _) (enters_of Tryz.func341 (by kernel_rfl) rfl) 347 #[.pointer (some ⟨w.heap.size, 0, none⟩)] trivial (enters_of Tryz.func347 (by kernel_rfl) rfl) _ 0 (Nat.zero_le _) (by omega) _ hseq


theorem Tryz.maps_Keys_238 (mb : Option Nat) (W : World) : CallsIn Fence.wide 5 Tryz.prog 238 #[.map mb] W fun e w' => e = .returned (.func (.func 348) #[] #[.pointer (some ⟨W.heap.size, 0, none⟩)]) ∧ w' = W.alloc (.cells #[.map mb] 135) :=
  AnyZ.keys_in Tryz.keys238 Fence.wide 5 trivial rfl mb W

set_option maxHeartbeats 1000000 in
theorem Tryz.slices_Sorted_keys_227_238 {H : Type} (b nn : Nat) (D0 : DataW H) (R : Value → Option (DataW H × List MemPlace)) (w : World) (hown : w.ownsMap Tryz.prog 9 R b nn D0) (hmax : Maps.size D0 ≤ maxLen) (hbytes : Maps.size D0 * 16 ≤ 140737488355328) :
    CallsIn Fence.wide 5 Tryz.prog 227 #[.func (.func 348) #[] #[.pointer (some ⟨w.heap.size, 0, none⟩)]] (w.alloc (.cells #[.map (some b)] 135)) fun e w' => ∃ (v : Value) (ss : List (List UInt8)), e = .returned v ∧ ss.Perm (strKeys D0) ∧
      w'.ownsRow (w.alloc (.cells #[.map (some b)] 135)).heap.size 9 1 v ss.length ((ss.mergeSort (fun x y => decide (x ≤ y))).map encStr) ∧ (v = .slice none 0 0 ↔ ss = []) ∧ Below (w.alloc (.cells #[.map (some b)] 135)).heap.size (w.alloc (.cells #[.map (some b)] 135)) w' := by
  have hbl := hown.lt
  have hseq : SeqGives Fence.wide 2 Tryz.prog 348 #[.pointer (some ⟨w.heap.size, 0, none⟩)] encStr (fun ss => ss.Perm (strKeys D0)) (Maps.size D0) (w.alloc (.cells #[.map (some b)] 135)) :=
    AnyZ.keys_gives (ρ := Tryz.keys238_ren) { Tryz.keys238 with } Fence.wide _ trivial rfl (by omega) w.heap.size b nn D0 _ (by simp) (by simp) (by
      obtain ⟨es, clock, hb, Ft, hs, hD⟩ := hown
      exact ⟨es, clock, (Below.heap_alloc _ _ b hbl).trans hb, Ft, hs, hD⟩)
  exact AnyZ.sorted_in Tryz.sorted227 Fence.wide 5 trivial trivial trivial trivial rfl (by omega) (Tryz.sorts227 _) (enters_of Tryz.func341 (by kernel_rfl) rfl) 348 #[.pointer (some ⟨w.heap.size, 0, none⟩)] trivial (enters_of Tryz.func348 (by kernel_rfl) rfl) _ _ hmax hbytes _ hseq

set_option maxHeartbeats 1000000 in
theorem Tryz.slices_Sorted_keys_nil_227_238 (w : World) :
    CallsIn Fence.wide 5 Tryz.prog 227 #[.func (.func 348) #[] #[.pointer (some ⟨w.heap.size, 0, none⟩)]] (w.alloc (.cells #[.map none] 135)) fun e w' => ∃ (v : Value) (ss : List (List UInt8)), e = .returned v ∧ ss = [] ∧
      w'.ownsRow (w.alloc (.cells #[.map none] 135)).heap.size 9 1 v ss.length ((ss.mergeSort (fun x y => decide (x ≤ y))).map encStr) ∧ (v = .slice none 0 0 ↔ ss = []) ∧ Below (w.alloc (.cells #[.map none] 135)).heap.size (w.alloc (.cells #[.map none] 135)) w' := by
  have hseq : SeqGives Fence.wide 2 Tryz.prog 348 #[.pointer (some ⟨w.heap.size, 0, none⟩)] encStr (fun ss : List (List UInt8) => ss = []) 0 (w.alloc (.cells #[.map none] 135)) :=
    AnyZ.keys_gives_nil (ρ := Tryz.keys238_ren) { Tryz.keys238 with } Fence.wide _ trivial rfl w.heap.size _ (by simp) (by simp)
  exact AnyZ.sorted_in Tryz.sorted227 Fence.wide 5 trivial trivial trivial trivial rfl (by omega) (Tryz.sorts227 _) (enters_of Tryz.func341 (by kernel_rfl) rfl) 348 #[.pointer (some ⟨w.heap.size, 0, none⟩)] trivial (enters_of Tryz.func348 (by kernel_rfl) rfl) _ 0 (Nat.zero_le _) (by omega) _ hseq


end Go.Proofs
