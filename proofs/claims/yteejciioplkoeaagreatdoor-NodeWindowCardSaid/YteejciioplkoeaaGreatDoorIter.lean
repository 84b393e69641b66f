/- The library's contracts on 'slices.Sorted(maps.Keys(m))', laid at this program (by the kit's tools lay-iter and lay-plain). -/
import Derived.Shelf.SlGeneric
import Derived.Shelf.SlIter.Nil
import Derived.Shelf.SortM.Plain
import Derived.Shelf.SortM.SortNone
import Derived.Ground.GgzProg
import Derived.Ground.SlgmProg
import Derived.Shelf.SlicesQ.Contains
import Derived.Ground.SlgqProg
import Derived.Test.YteejciioplkoeaaGreatDoorProg
namespace Go.Proofs
open Go.Shelf
def Tryz.keys204_ren:Go.Shelf.Ren:=⟨fun | 7=>204 | 10=>256 | n=>n,fun | 23=>133 | 26=>9 | 3=>256 | 28=>324 | 0=>0 | 27=>323 | 33=>189 | 4=>4 | n=>n,fun | n=>n⟩
theorem Tryz.keys204:Go.Proofs.SlLaysZ.n7 Tryz.prog Tryz.keys204_ren:={
 mixed:=by kernel_rfl
 f7:=⟨Tryz.f204.name,by decide,Tryz.func204.trans (congrArg some (by kernel_rfl))⟩
 f10:=⟨Tryz.f256.name,by decide,Tryz.func256.trans (congrArg some (by kernel_rfl))⟩
 t0:=Tryz.underlying0
 a0:=Tryz.isAgg0
 z0:=Tryz.sizeOf0
 v0:=Tryz.zeroValue0
 t4:=Tryz.underlying4
 a4:=Tryz.isAgg4
 z4:=Tryz.sizeOf4
 v4:=Tryz.zeroValue4
 t23:=Tryz.underlying133
 a23:=Tryz.isAgg133
 z23:=Tryz.sizeOf133
 v23:=Tryz.zeroValue133
 t26:=Tryz.underlying9
 a26:=Tryz.isAgg9
 z26:=Tryz.sizeOf9
 v26:=Tryz.zeroValue9
 t27:=Tryz.underlying323
 a27:=Tryz.isAgg323
 z27:=Tryz.sizeOf323
 v27:=Tryz.zeroValue323
 t28:=Tryz.underlying324
 a28:=Tryz.isAgg324
 z28:=Tryz.sizeOf324
 v28:=Tryz.zeroValue324
 t33:=Tryz.underlying189
 a33:=Tryz.isAgg189
 z33:=Tryz.sizeOf189
 v33:=Tryz.zeroValue189 }
def Tryz.sorted203_ren:Go.Shelf.Ren:=⟨fun | 6=>203 | 8=>254 | 9=>255 | 11=>301 | 13=>300 | 12=>302 | 23=>352 | 24=>353 | 14=>354 | 15=>355 | 16=>356 | 17=>357 | 18=>358 | 19=>359 | 20=>360 | 21=>361 | 22=>362 | 25=>397 | 26=>392 | 27=>393 | 28=>398 | 29=>399 | 30=>400 | 31=>421 | n=>n,fun | 26=>9 | 28=>324 | 24=>42 | 0=>0 | 3=>3 | 37=>87 | 48=>456 | 50=>236 | 4=>4 | 40=>450 | 39=>449 | 45=>175 | 5=>5 | 9=>9 | 51=>482 | 55=>486 | 57=>503 | 58=>56 | 33=>189 | n=>n,fun | n=>n⟩
theorem Tryz.sorted203:Go.Proofs.SlLaysZ.n6 Tryz.prog Tryz.sorted203_ren:={
 mixed:=by kernel_rfl
 f6:=⟨Tryz.f203.name,by decide,Tryz.func203.trans (congrArg some (by kernel_rfl))⟩
 f8:=⟨Tryz.f254.name,by decide,Tryz.func254.trans (congrArg some (by kernel_rfl))⟩
 f11:=⟨Tryz.f301.name,by decide,Tryz.func301.trans (congrArg some (by kernel_rfl))⟩
 t0:=Tryz.underlying0
 a0:=Tryz.isAgg0
 z0:=Tryz.sizeOf0
 v0:=Tryz.zeroValue0
 t24:=Tryz.underlying42
 a24:=Tryz.isAgg42
 z24:=Tryz.sizeOf42
 v24:=Tryz.zeroValue42
 t26:=Tryz.underlying9
 a26:=Tryz.isAgg9
 z26:=Tryz.sizeOf9
 v26:=Tryz.zeroValue9
 t28:=Tryz.underlying324
 a28:=Tryz.isAgg324
 z28:=Tryz.sizeOf324
 v28:=Tryz.zeroValue324
 i26:=by kernel_rfl }
def Tryz.sort255_ren:Go.Shelf.Ren:=⟨fun | 6=>255 | 8=>300 | 9=>302 | 19=>352 | 20=>353 | 21=>354 | 22=>355 | 23=>356 | 24=>357 | 25=>358 | 26=>359 | 27=>360 | 28=>361 | 29=>362 | 36=>397 | 31=>392 | 32=>393 | 37=>398 | 38=>399 | 39=>400 | 41=>421 | n=>n,fun | 27=>42 | 29=>9 | 3=>3 | 32=>87 | 26=>42 | 0=>0 | 44=>456 | 46=>236 | 4=>4 | 36=>450 | 35=>449 | 41=>175 | 5=>5 | 9=>9 | 53=>482 | 57=>486 | 63=>503 | 64=>56 | n=>n,fun | n=>n⟩
theorem Tryz.sort255:Go.Proofs.SlLaysM.n6 Tryz.prog Tryz.sort255_ren:={
 mixed:=by kernel_rfl
 f6:=⟨Tryz.f255.name,by decide,Tryz.func255.trans (congrArg some (by kernel_rfl))⟩
 f8:=Tryz.func300.trans (congrArg some (by kernel_rfl))
 f9:=⟨Tryz.f302.name,by decide,Tryz.func302.trans (congrArg some (by kernel_rfl))⟩
 f19:=Tryz.func352.trans (congrArg some (by kernel_rfl))
 f20:=Tryz.func353.trans (congrArg some (by kernel_rfl))
 f21:=⟨Tryz.f354.name,by decide,Tryz.func354.trans (congrArg some (by kernel_rfl))⟩
 f22:=⟨Tryz.f355.name,by decide,Tryz.func355.trans (congrArg some (by kernel_rfl))⟩
 f23:=⟨Tryz.f356.name,by decide,Tryz.func356.trans (congrArg some (by kernel_rfl))⟩
 f24:=⟨Tryz.f357.name,by decide,Tryz.func357.trans (congrArg some (by kernel_rfl))⟩
 f25:=⟨Tryz.f358.name,by decide,Tryz.func358.trans (congrArg some (by kernel_rfl))⟩
 f26:=⟨Tryz.f359.name,by decide,Tryz.func359.trans (congrArg some (by kernel_rfl))⟩
 f27:=⟨Tryz.f360.name,by decide,Tryz.func360.trans (congrArg some (by kernel_rfl))⟩
 f28:=⟨Tryz.f361.name,by decide,Tryz.func361.trans (congrArg some (by kernel_rfl))⟩
 f29:=⟨Tryz.f362.name,by decide,Tryz.func362.trans (congrArg some (by kernel_rfl))⟩
 f31:=Tryz.func392.trans (congrArg some (by kernel_rfl))
 f32:=Tryz.func393.trans (congrArg some (by kernel_rfl))
 f36:=⟨Tryz.f397.name,by decide,Tryz.func397.trans (congrArg some (by kernel_rfl))⟩
 f37:=⟨Tryz.f398.name,by decide,Tryz.func398.trans (congrArg some (by kernel_rfl))⟩
 f38:=⟨Tryz.f399.name,by decide,Tryz.func399.trans (congrArg some (by kernel_rfl))⟩
 f39:=⟨Tryz.f400.name,by decide,Tryz.func400.trans (congrArg some (by kernel_rfl))⟩
 f41:=⟨Tryz.f421.name,by decide,Tryz.func421.trans (congrArg some (by kernel_rfl))⟩
 t0:=Tryz.underlying0
 a0:=Tryz.isAgg0
 z0:=Tryz.sizeOf0
 v0:=Tryz.zeroValue0
 t3:=Tryz.underlying3
 a3:=Tryz.isAgg3
 z3:=Tryz.sizeOf3
 v3:=Tryz.zeroValue3
 t4:=Tryz.underlying4
 a4:=Tryz.isAgg4
 z4:=Tryz.sizeOf4
 v4:=Tryz.zeroValue4
 t5:=Tryz.underlying5
 a5:=Tryz.isAgg5
 z5:=Tryz.sizeOf5
 v5:=Tryz.zeroValue5
 t9:=Tryz.underlying9
 a9:=Tryz.isAgg9
 z9:=Tryz.sizeOf9
 v9:=Tryz.zeroValue9
 t26:=Tryz.underlying42
 a26:=Tryz.isAgg42
 z26:=Tryz.sizeOf42
 v26:=Tryz.zeroValue42
 t27:=Tryz.underlying42
 a27:=Tryz.isAgg42
 z27:=Tryz.sizeOf42
 v27:=Tryz.zeroValue42
 t29:=Tryz.underlying9
 a29:=Tryz.isAgg9
 z29:=Tryz.sizeOf9
 v29:=Tryz.zeroValue9
 t32:=Tryz.underlying87
 a32:=Tryz.isAgg87
 z32:=Tryz.sizeOf87
 v32:=Tryz.zeroValue87
 t35:=Tryz.underlying449
 a35:=Tryz.isAgg449
 z35:=Tryz.sizeOf449
 v35:=Tryz.zeroValue449
 t36:=Tryz.underlying450
 a36:=Tryz.isAgg450
 z36:=Tryz.sizeOf450
 v36:=Tryz.zeroValue450
 t41:=Tryz.underlying175
 a41:=Tryz.isAgg175
 z41:=Tryz.sizeOf175
 v41:=Tryz.zeroValue175
 t44:=Tryz.underlying456
 a44:=Tryz.isAgg456
 z44:=Tryz.sizeOf456
 v44:=Tryz.zeroValue456
 t46:=Tryz.underlying236
 a46:=Tryz.isAgg236
 z46:=Tryz.sizeOf236
 v46:=Tryz.zeroValue236
 t53:=Tryz.underlying482
 a53:=Tryz.isAgg482
 z53:=Tryz.sizeOf482
 v53:=Tryz.zeroValue482
 t57:=Tryz.underlying486
 a57:=Tryz.isAgg486
 z57:=Tryz.sizeOf486
 v57:=Tryz.zeroValue486
 t63:=Tryz.underlying503
 a63:=Tryz.isAgg503
 z63:=Tryz.sizeOf503
 v63:=Tryz.zeroValue503
 t64:=Tryz.underlying56
 a64:=Tryz.isAgg56
 z64:=Tryz.sizeOf56
 v64:=Tryz.zeroValue56 }
def Tryz.keys206_ren:Go.Shelf.Ren:=⟨fun | 7=>206 | 10=>257 | n=>n,fun | 23=>129 | 26=>9 | 3=>204 | 28=>324 | 0=>0 | 27=>323 | 33=>189 | 4=>4 | n=>n,fun | n=>n⟩
theorem Tryz.keys206:Go.Proofs.SlLaysZ.n7 Tryz.prog Tryz.keys206_ren:={
 mixed:=by kernel_rfl
 f7:=⟨Tryz.f206.name,by decide,Tryz.func206.trans (congrArg some (by kernel_rfl))⟩
 f10:=⟨Tryz.f257.name,by decide,Tryz.func257.trans (congrArg some (by kernel_rfl))⟩
 t0:=Tryz.underlying0
 a0:=Tryz.isAgg0
 z0:=Tryz.sizeOf0
 v0:=Tryz.zeroValue0
 t4:=Tryz.underlying4
 a4:=Tryz.isAgg4
 z4:=Tryz.sizeOf4
 v4:=Tryz.zeroValue4
 t23:=Tryz.underlying129
 a23:=Tryz.isAgg129
 z23:=Tryz.sizeOf129
 v23:=Tryz.zeroValue129
 t26:=Tryz.underlying9
 a26:=Tryz.isAgg9
 z26:=Tryz.sizeOf9
 v26:=Tryz.zeroValue9
 t27:=Tryz.underlying323
 a27:=Tryz.isAgg323
 z27:=Tryz.sizeOf323
 v27:=Tryz.zeroValue323
 t28:=Tryz.underlying324
 a28:=Tryz.isAgg324
 z28:=Tryz.sizeOf324
 v28:=Tryz.zeroValue324
 t33:=Tryz.underlying189
 a33:=Tryz.isAgg189
 z33:=Tryz.sizeOf189
 v33:=Tryz.zeroValue189 }
def Tryz.keys515_ren:Go.Shelf.Ren:=⟨fun | 7=>515 | 10=>520 | n=>n,fun | 23=>132 | 26=>9 | 3=>159 | 28=>324 | 0=>0 | 27=>323 | 33=>189 | 4=>4 | n=>n,fun | n=>n⟩
theorem Tryz.keys515:Go.Proofs.SlLaysZ.n7 Tryz.prog Tryz.keys515_ren:={
 mixed:=by kernel_rfl
 f7:=⟨Tryz.f515.name,by decide,Tryz.func515.trans (congrArg some (by kernel_rfl))⟩
 f10:=⟨Tryz.f520.name,by decide,Tryz.func520.trans (congrArg some (by kernel_rfl))⟩
 t0:=Tryz.underlying0
 a0:=Tryz.isAgg0
 z0:=Tryz.sizeOf0
 v0:=Tryz.zeroValue0
 t4:=Tryz.underlying4
 a4:=Tryz.isAgg4
 z4:=Tryz.sizeOf4
 v4:=Tryz.zeroValue4
 t23:=Tryz.underlying132
 a23:=Tryz.isAgg132
 z23:=Tryz.sizeOf132
 v23:=Tryz.zeroValue132
 t26:=Tryz.underlying9
 a26:=Tryz.isAgg9
 z26:=Tryz.sizeOf9
 v26:=Tryz.zeroValue9
 t27:=Tryz.underlying323
 a27:=Tryz.isAgg323
 z27:=Tryz.sizeOf323
 v27:=Tryz.zeroValue323
 t28:=Tryz.underlying324
 a28:=Tryz.isAgg324
 z28:=Tryz.sizeOf324
 v28:=Tryz.zeroValue324
 t33:=Tryz.underlying189
 a33:=Tryz.isAgg189
 z33:=Tryz.sizeOf189
 v33:=Tryz.zeroValue189 }
def Tryz.sortZ_ren:Go.Shelf.Ren:=⟨fun | 5=>252 | 8=>300 | 7=>299 | 19=>352 | 20=>353 | 10=>343 | 11=>344 | 12=>345 | 13=>346 | 14=>347 | 15=>348 | 16=>349 | 17=>350 | 18=>351 | 30=>391 | 31=>392 | 32=>393 | 33=>394 | 34=>395 | 35=>396 | 40=>420 | n=>n,fun | 23=>22 | 25=>3 | 3=>3 | 32=>87 | 22=>22 | 0=>0 | 44=>456 | 46=>236 | 4=>4 | 36=>450 | 35=>449 | 41=>175 | 5=>5 | 9=>9 | 53=>482 | 57=>486 | 63=>503 | 64=>56 | n=>n,fun | n=>n⟩
theorem Tryz.sortZ:Go.Proofs.SlLaysM.n5 Tryz.prog Tryz.sortZ_ren:={
 mixed:=by kernel_rfl
 f5:=⟨Tryz.f252.name,by decide,Tryz.func252.trans (congrArg some (by kernel_rfl))⟩
 f7:=⟨Tryz.f299.name,by decide,Tryz.func299.trans (congrArg some (by kernel_rfl))⟩
 f8:=Tryz.func300.trans (congrArg some (by kernel_rfl))
 f10:=⟨Tryz.f343.name,by decide,Tryz.func343.trans (congrArg some (by kernel_rfl))⟩
 f11:=⟨Tryz.f344.name,by decide,Tryz.func344.trans (congrArg some (by kernel_rfl))⟩
 f12:=⟨Tryz.f345.name,by decide,Tryz.func345.trans (congrArg some (by kernel_rfl))⟩
 f13:=⟨Tryz.f346.name,by decide,Tryz.func346.trans (congrArg some (by kernel_rfl))⟩
 f14:=⟨Tryz.f347.name,by decide,Tryz.func347.trans (congrArg some (by kernel_rfl))⟩
 f15:=⟨Tryz.f348.name,by decide,Tryz.func348.trans (congrArg some (by kernel_rfl))⟩
 f16:=⟨Tryz.f349.name,by decide,Tryz.func349.trans (congrArg some (by kernel_rfl))⟩
 f17:=⟨Tryz.f350.name,by decide,Tryz.func350.trans (congrArg some (by kernel_rfl))⟩
 f18:=⟨Tryz.f351.name,by decide,Tryz.func351.trans (congrArg some (by kernel_rfl))⟩
 f19:=Tryz.func352.trans (congrArg some (by kernel_rfl))
 f20:=Tryz.func353.trans (congrArg some (by kernel_rfl))
 f30:=⟨Tryz.f391.name,by decide,Tryz.func391.trans (congrArg some (by kernel_rfl))⟩
 f31:=Tryz.func392.trans (congrArg some (by kernel_rfl))
 f32:=Tryz.func393.trans (congrArg some (by kernel_rfl))
 f33:=⟨Tryz.f394.name,by decide,Tryz.func394.trans (congrArg some (by kernel_rfl))⟩
 f34:=⟨Tryz.f395.name,by decide,Tryz.func395.trans (congrArg some (by kernel_rfl))⟩
 f35:=⟨Tryz.f396.name,by decide,Tryz.func396.trans (congrArg some (by kernel_rfl))⟩
 f40:=⟨Tryz.f420.name,by decide,Tryz.func420.trans (congrArg some (by kernel_rfl))⟩
 t0:=Tryz.underlying0
 a0:=Tryz.isAgg0
 z0:=Tryz.sizeOf0
 v0:=Tryz.zeroValue0
 t3:=Tryz.underlying3
 a3:=Tryz.isAgg3
 z3:=Tryz.sizeOf3
 v3:=Tryz.zeroValue3
 t4:=Tryz.underlying4
 a4:=Tryz.isAgg4
 z4:=Tryz.sizeOf4
 v4:=Tryz.zeroValue4
 t5:=Tryz.underlying5
 a5:=Tryz.isAgg5
 z5:=Tryz.sizeOf5
 v5:=Tryz.zeroValue5
 t9:=Tryz.underlying9
 a9:=Tryz.isAgg9
 z9:=Tryz.sizeOf9
 v9:=Tryz.zeroValue9
 t22:=Tryz.underlying22
 a22:=Tryz.isAgg22
 z22:=Tryz.sizeOf22
 v22:=Tryz.zeroValue22
 t23:=Tryz.underlying22
 a23:=Tryz.isAgg22
 z23:=Tryz.sizeOf22
 v23:=Tryz.zeroValue22
 t25:=Tryz.underlying3
 a25:=Tryz.isAgg3
 z25:=Tryz.sizeOf3
 v25:=Tryz.zeroValue3
 t32:=Tryz.underlying87
 a32:=Tryz.isAgg87
 z32:=Tryz.sizeOf87
 v32:=Tryz.zeroValue87
 t35:=Tryz.underlying449
 a35:=Tryz.isAgg449
 z35:=Tryz.sizeOf449
 v35:=Tryz.zeroValue449
 t36:=Tryz.underlying450
 a36:=Tryz.isAgg450
 z36:=Tryz.sizeOf450
 v36:=Tryz.zeroValue450
 t41:=Tryz.underlying175
 a41:=Tryz.isAgg175
 z41:=Tryz.sizeOf175
 v41:=Tryz.zeroValue175
 t44:=Tryz.underlying456
 a44:=Tryz.isAgg456
 z44:=Tryz.sizeOf456
 v44:=Tryz.zeroValue456
 t46:=Tryz.underlying236
 a46:=Tryz.isAgg236
 z46:=Tryz.sizeOf236
 v46:=Tryz.zeroValue236
 t53:=Tryz.underlying482
 a53:=Tryz.isAgg482
 z53:=Tryz.sizeOf482
 v53:=Tryz.zeroValue482
 t57:=Tryz.underlying486
 a57:=Tryz.isAgg486
 z57:=Tryz.sizeOf486
 v57:=Tryz.zeroValue486
 t63:=Tryz.underlying503
 a63:=Tryz.isAgg503
 z63:=Tryz.sizeOf503
 v63:=Tryz.zeroValue503
 t64:=Tryz.underlying56
 a64:=Tryz.isAgg56
 z64:=Tryz.sizeOf56
 v64:=Tryz.zeroValue56 }
def Tryz.containsM_ren:Go.Shelf.Ren:=⟨fun | 7=>172 | 6=>220 | n=>n,fun | 22=>71 | 24=>153 | 4=>4 | 0=>0 | 3=>3 | n=>n,fun | n=>n⟩
theorem Tryz.containsM:Go.Proofs.SlLaysQ.n7 Tryz.prog Tryz.containsM_ren:={
 mixed:=by kernel_rfl
 f6:=⟨Tryz.f220.name,by decide,Tryz.func220.trans (congrArg some (by kernel_rfl))⟩
 f7:=⟨Tryz.f172.name,by decide,Tryz.func172.trans (congrArg some (by kernel_rfl))⟩
 t0:=Tryz.underlying0
 a0:=Tryz.isAgg0
 z0:=Tryz.sizeOf0
 v0:=Tryz.zeroValue0
 t3:=Tryz.underlying3
 a3:=Tryz.isAgg3
 z3:=Tryz.sizeOf3
 v3:=Tryz.zeroValue3
 t4:=Tryz.underlying4
 a4:=Tryz.isAgg4
 z4:=Tryz.sizeOf4
 v4:=Tryz.zeroValue4
 t22:=Tryz.underlying71
 a22:=Tryz.isAgg71
 z22:=Tryz.sizeOf71
 v22:=Tryz.zeroValue71 }
open Go.RowKit Go.Maps Go.Sort
theorem Tryz.sorts203 (m:Nat):AnyZ.SortsIn Tryz.prog Tryz.sorted203_ren Fence.wide m:=
 ⟨fun blk off cap ss W hH hblk hsz=>callsIn_wide.2 (AnyM.slices_Sort_string Tryz.sort255 blk off cap ss W hH hblk hsz),
  fun p cap W=>callsIn_wide.2 (AnyM.slices_Sort_string_none Tryz.sort255 p cap W)⟩
theorem Tryz.maps_Keys_204 (mb:Option Nat) (W:World):CallsIn Fence.wide 5 Tryz.prog 204 #[.map mb] W fun e w'=>e=.returned (.func (.func 256) #[] #[.pointer (some ⟨W.heap.size,0,none⟩)])∧w'=W.alloc (.cells #[.map mb] 133):=
 AnyZ.keys_in Tryz.keys204 Fence.wide 5 trivial rfl mb W
set_option maxHeartbeats 1000000 in
theorem Tryz.slices_Sorted_keys_203_204 {H:Type} (b nn:Nat) (D0:DataW H) (R:Value→Option (DataW H × List MemPlace)) (w:World) (hown:w.ownsMap Tryz.prog 9 R b nn D0) (hmax:Maps.size D0≤maxLen) (hbytes:Maps.size D0*16≤140737488355328) :
 CallsIn Fence.wide 5 Tryz.prog 203 #[.func (.func 256) #[] #[.pointer (some ⟨w.heap.size,0,none⟩)]] (w.alloc (.cells #[.map (some b)] 133)) fun e w'=>∃ (v:Value) (ss:List (List UInt8)),e=.returned v∧ss.Perm (strKeys D0) ∧
  w'.ownsRow (w.alloc (.cells #[.map (some b)] 133)).heap.size 9 1 v ss.length ((ss.mergeSort (fun x y=>decide (x≤y))).map encStr)∧(v=.slice none 0 0 ↔ ss=[])∧Below (w.alloc (.cells #[.map (some b)] 133)).heap.size (w.alloc (.cells #[.map (some b)] 133)) w':=by
 have hbl:=hown.lt
 have hseq:SeqGives Fence.wide 2 Tryz.prog 256 #[.pointer (some ⟨w.heap.size,0,none⟩)] encStr (fun ss=>ss.Perm (strKeys D0)) (Maps.size D0) (w.alloc (.cells #[.map (some b)] 133)):=
  AnyZ.keys_gives (ρ:=Tryz.keys204_ren) { Tryz.keys204 with } Fence.wide _ trivial rfl (by omega) w.heap.size b nn D0 _ (by simp) (by simp) (by
   obtain ⟨es,clock,hb,Ft,hs,hD⟩:=hown
   exact ⟨es,clock,(Below.heap_alloc _ _ b hbl).trans hb,Ft,hs,hD⟩)
 exact AnyZ.sorted_in Tryz.sorted203 Fence.wide 5 trivial trivial trivial trivial rfl (by omega) (Tryz.sorts203 _) (enters_of Tryz.func255 (by kernel_rfl) rfl) 256 #[.pointer (some ⟨w.heap.size,0,none⟩)] trivial (enters_of Tryz.func256 (by kernel_rfl) rfl) _ _ hmax hbytes _ hseq
set_option maxHeartbeats 1000000 in
theorem Tryz.slices_Sorted_keys_nil_203_204 (w:World) :
 CallsIn Fence.wide 5 Tryz.prog 203 #[.func (.func 256) #[] #[.pointer (some ⟨w.heap.size,0,none⟩)]] (w.alloc (.cells #[.map none] 133)) fun e w'=>∃ (v:Value) (ss:List (List UInt8)),e=.returned v∧ss=[] ∧
  w'.ownsRow (w.alloc (.cells #[.map none] 133)).heap.size 9 1 v ss.length ((ss.mergeSort (fun x y=>decide (x≤y))).map encStr)∧(v=.slice none 0 0 ↔ ss=[])∧Below (w.alloc (.cells #[.map none] 133)).heap.size (w.alloc (.cells #[.map none] 133)) w':=by
 have hseq:SeqGives Fence.wide 2 Tryz.prog 256 #[.pointer (some ⟨w.heap.size,0,none⟩)] encStr (fun ss:List (List UInt8)=>ss=[]) 0 (w.alloc (.cells #[.map none] 133)):=
  AnyZ.keys_gives_nil (ρ:=Tryz.keys204_ren) { Tryz.keys204 with } Fence.wide _ trivial rfl w.heap.size _ (by simp) (by simp)
 exact AnyZ.sorted_in Tryz.sorted203 Fence.wide 5 trivial trivial trivial trivial rfl (by omega) (Tryz.sorts203 _) (enters_of Tryz.func255 (by kernel_rfl) rfl) 256 #[.pointer (some ⟨w.heap.size,0,none⟩)] trivial (enters_of Tryz.func256 (by kernel_rfl) rfl) _ 0 (Nat.zero_le _) (by omega) _ hseq
theorem Tryz.maps_Keys_206 (mb:Option Nat) (W:World):CallsIn Fence.wide 5 Tryz.prog 206 #[.map mb] W fun e w'=>e=.returned (.func (.func 257) #[] #[.pointer (some ⟨W.heap.size,0,none⟩)])∧w'=W.alloc (.cells #[.map mb] 129):=
 AnyZ.keys_in Tryz.keys206 Fence.wide 5 trivial rfl mb W
set_option maxHeartbeats 1000000 in
theorem Tryz.slices_Sorted_keys_203_206 {H:Type} (b nn:Nat) (D0:DataW H) (R:Value→Option (DataW H × List MemPlace)) (w:World) (hown:w.ownsMap Tryz.prog 9 R b nn D0) (hmax:Maps.size D0≤maxLen) (hbytes:Maps.size D0*16≤140737488355328) :
 CallsIn Fence.wide 5 Tryz.prog 203 #[.func (.func 257) #[] #[.pointer (some ⟨w.heap.size,0,none⟩)]] (w.alloc (.cells #[.map (some b)] 129)) fun e w'=>∃ (v:Value) (ss:List (List UInt8)),e=.returned v∧ss.Perm (strKeys D0) ∧
  w'.ownsRow (w.alloc (.cells #[.map (some b)] 129)).heap.size 9 1 v ss.length ((ss.mergeSort (fun x y=>decide (x≤y))).map encStr)∧(v=.slice none 0 0 ↔ ss=[])∧Below (w.alloc (.cells #[.map (some b)] 129)).heap.size (w.alloc (.cells #[.map (some b)] 129)) w':=by
 have hbl:=hown.lt
 have hseq:SeqGives Fence.wide 2 Tryz.prog 257 #[.pointer (some ⟨w.heap.size,0,none⟩)] encStr (fun ss=>ss.Perm (strKeys D0)) (Maps.size D0) (w.alloc (.cells #[.map (some b)] 129)):=
  AnyZ.keys_gives (ρ:=Tryz.keys206_ren) { Tryz.keys206 with } Fence.wide _ trivial rfl (by omega) w.heap.size b nn D0 _ (by simp) (by simp) (by
   obtain ⟨es,clock,hb,Ft,hs,hD⟩:=hown
   exact ⟨es,clock,(Below.heap_alloc _ _ b hbl).trans hb,Ft,hs,hD⟩)
 exact AnyZ.sorted_in Tryz.sorted203 Fence.wide 5 trivial trivial trivial trivial rfl (by omega) (Tryz.sorts203 _) (enters_of Tryz.func255 (by kernel_rfl) rfl) 257 #[.pointer (some ⟨w.heap.size,0,none⟩)] trivial (enters_of Tryz.func257 (by kernel_rfl) rfl) _ _ hmax hbytes _ hseq
set_option maxHeartbeats 1000000 in
theorem Tryz.slices_Sorted_keys_nil_203_206 (w:World) :
 CallsIn Fence.wide 5 Tryz.prog 203 #[.func (.func 257) #[] #[.pointer (some ⟨w.heap.size,0,none⟩)]] (w.alloc (.cells #[.map none] 129)) fun e w'=>∃ (v:Value) (ss:List (List UInt8)),e=.returned v∧ss=[] ∧
  w'.ownsRow (w.alloc (.cells #[.map none] 129)).heap.size 9 1 v ss.length ((ss.mergeSort (fun x y=>decide (x≤y))).map encStr)∧(v=.slice none 0 0 ↔ ss=[])∧Below (w.alloc (.cells #[.map none] 129)).heap.size (w.alloc (.cells #[.map none] 129)) w':=by
 have hseq:SeqGives Fence.wide 2 Tryz.prog 257 #[.pointer (some ⟨w.heap.size,0,none⟩)] encStr (fun ss:List (List UInt8)=>ss=[]) 0 (w.alloc (.cells #[.map none] 129)):=
  AnyZ.keys_gives_nil (ρ:=Tryz.keys206_ren) { Tryz.keys206 with } Fence.wide _ trivial rfl w.heap.size _ (by simp) (by simp)
 exact AnyZ.sorted_in Tryz.sorted203 Fence.wide 5 trivial trivial trivial trivial rfl (by omega) (Tryz.sorts203 _) (enters_of Tryz.func255 (by kernel_rfl) rfl) 257 #[.pointer (some ⟨w.heap.size,0,none⟩)] trivial (enters_of Tryz.func257 (by kernel_rfl) rfl) _ 0 (Nat.zero_le _) (by omega) _ hseq
theorem Tryz.maps_Keys_515 (mb:Option Nat) (W:World):CallsIn Fence.wide 5 Tryz.prog 515 #[.map mb] W fun e w'=>e=.returned (.func (.func 520) #[] #[.pointer (some ⟨W.heap.size,0,none⟩)])∧w'=W.alloc (.cells #[.map mb] 132):=
 AnyZ.keys_in Tryz.keys515 Fence.wide 5 trivial rfl mb W
set_option maxHeartbeats 1000000 in
theorem Tryz.slices_Sorted_keys_203_515 {H:Type} (b nn:Nat) (D0:DataW H) (R:Value→Option (DataW H × List MemPlace)) (w:World) (hown:w.ownsMap Tryz.prog 9 R b nn D0) (hmax:Maps.size D0≤maxLen) (hbytes:Maps.size D0*16≤140737488355328) :
 CallsIn Fence.wide 5 Tryz.prog 203 #[.func (.func 520) #[] #[.pointer (some ⟨w.heap.size,0,none⟩)]] (w.alloc (.cells #[.map (some b)] 132)) fun e w'=>∃ (v:Value) (ss:List (List UInt8)),e=.returned v∧ss.Perm (strKeys D0) ∧
  w'.ownsRow (w.alloc (.cells #[.map (some b)] 132)).heap.size 9 1 v ss.length ((ss.mergeSort (fun x y=>decide (x≤y))).map encStr)∧(v=.slice none 0 0 ↔ ss=[])∧Below (w.alloc (.cells #[.map (some b)] 132)).heap.size (w.alloc (.cells #[.map (some b)] 132)) w':=by
 have hbl:=hown.lt
 have hseq:SeqGives Fence.wide 2 Tryz.prog 520 #[.pointer (some ⟨w.heap.size,0,none⟩)] encStr (fun ss=>ss.Perm (strKeys D0)) (Maps.size D0) (w.alloc (.cells #[.map (some b)] 132)):=
  AnyZ.keys_gives (ρ:=Tryz.keys515_ren) { Tryz.keys515 with } Fence.wide _ trivial rfl (by omega) w.heap.size b nn D0 _ (by simp) (by simp) (by
   obtain ⟨es,clock,hb,Ft,hs,hD⟩:=hown
   exact ⟨es,clock,(Below.heap_alloc _ _ b hbl).trans hb,Ft,hs,hD⟩)
 exact AnyZ.sorted_in Tryz.sorted203 Fence.wide 5 trivial trivial trivial trivial rfl (by omega) (Tryz.sorts203 _) (enters_of Tryz.func255 (by kernel_rfl) rfl) 520 #[.pointer (some ⟨w.heap.size,0,none⟩)] trivial (enters_of Tryz.func520 (by kernel_rfl) rfl) _ _ hmax hbytes _ hseq
set_option maxHeartbeats 1000000 in
theorem Tryz.slices_Sorted_keys_nil_203_515 (w:World) :
 CallsIn Fence.wide 5 Tryz.prog 203 #[.func (.func 520) #[] #[.pointer (some ⟨w.heap.size,0,none⟩)]] (w.alloc (.cells #[.map none] 132)) fun e w'=>∃ (v:Value) (ss:List (List UInt8)),e=.returned v∧ss=[] ∧
  w'.ownsRow (w.alloc (.cells #[.map none] 132)).heap.size 9 1 v ss.length ((ss.mergeSort (fun x y=>decide (x≤y))).map encStr)∧(v=.slice none 0 0 ↔ ss=[])∧Below (w.alloc (.cells #[.map none] 132)).heap.size (w.alloc (.cells #[.map none] 132)) w':=by
 have hseq:SeqGives Fence.wide 2 Tryz.prog 520 #[.pointer (some ⟨w.heap.size,0,none⟩)] encStr (fun ss:List (List UInt8)=>ss=[]) 0 (w.alloc (.cells #[.map none] 132)):=
  AnyZ.keys_gives_nil (ρ:=Tryz.keys515_ren) { Tryz.keys515 with } Fence.wide _ trivial rfl w.heap.size _ (by simp) (by simp)
 exact AnyZ.sorted_in Tryz.sorted203 Fence.wide 5 trivial trivial trivial trivial rfl (by omega) (Tryz.sorts203 _) (enters_of Tryz.func255 (by kernel_rfl) rfl) 520 #[.pointer (some ⟨w.heap.size,0,none⟩)] trivial (enters_of Tryz.func520 (by kernel_rfl) rfl) _ 0 (Nat.zero_le _) (by omega) _ hseq
end Go.Proofs
