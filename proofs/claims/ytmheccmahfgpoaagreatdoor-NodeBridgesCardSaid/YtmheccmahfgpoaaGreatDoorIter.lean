/- The library's contracts on 'slices.Sorted(maps.Keys(m))', laid at this program (by the kit's tools lay-iter and lay-plain). -/
import Derived.Shelf.SlGeneric
import Derived.Shelf.SlIter.Nil
import Derived.Shelf.SortM.Plain
import Derived.Shelf.SortM.SortNone
import Derived.Ground.GgzProg
import Derived.Ground.SlgmProg
import Derived.Test.YtmheccmahfgpoaaGreatDoorProg
namespace Go.Proofs
open Go.Shelf
def Tryz.keys207_ren:Go.Shelf.Ren:=⟨fun | 7=>207 | 10=>259 | n=>n,fun | 23=>140 | 26=>9 | 3=>261 | 28=>328 | 0=>0 | 27=>327 | 33=>194 | 4=>4 | n=>n,fun | n=>n⟩
theorem Tryz.keys207:Go.Proofs.SlLaysZ.n7 Tryz.prog Tryz.keys207_ren:={
 mixed:=by kernel_rfl
 f7:=⟨Tryz.f207.name,by decide,Tryz.func207.trans (congrArg some (by kernel_rfl))⟩
 f10:=⟨Tryz.f259.name,by decide,Tryz.func259.trans (congrArg some (by kernel_rfl))⟩
 t0:=Tryz.underlying0
 a0:=Tryz.isAgg0
 z0:=Tryz.sizeOf0
 v0:=Tryz.zeroValue0
 t4:=Tryz.underlying4
 a4:=Tryz.isAgg4
 z4:=Tryz.sizeOf4
 v4:=Tryz.zeroValue4
 t23:=Tryz.underlying140
 a23:=Tryz.isAgg140
 z23:=Tryz.sizeOf140
 v23:=Tryz.zeroValue140
 t26:=Tryz.underlying9
 a26:=Tryz.isAgg9
 z26:=Tryz.sizeOf9
 v26:=Tryz.zeroValue9
 t27:=Tryz.underlying327
 a27:=Tryz.isAgg327
 z27:=Tryz.sizeOf327
 v27:=Tryz.zeroValue327
 t28:=Tryz.underlying328
 a28:=Tryz.isAgg328
 z28:=Tryz.sizeOf328
 v28:=Tryz.zeroValue328
 t33:=Tryz.underlying194
 a33:=Tryz.isAgg194
 z33:=Tryz.sizeOf194
 v33:=Tryz.zeroValue194 }
def Tryz.sorted206_ren:Go.Shelf.Ren:=⟨fun | 6=>206 | 8=>257 | 9=>258 | 11=>304 | 13=>303 | 12=>305 | 23=>355 | 24=>356 | 14=>357 | 15=>358 | 16=>359 | 17=>360 | 18=>361 | 19=>362 | 20=>363 | 21=>364 | 22=>365 | 25=>400 | 26=>395 | 27=>396 | 28=>401 | 29=>402 | 30=>403 | 31=>424 | n=>n,fun | 26=>9 | 28=>328 | 24=>42 | 0=>0 | 3=>3 | 37=>93 | 48=>459 | 50=>241 | 4=>4 | 40=>453 | 39=>452 | 45=>182 | 5=>5 | 9=>9 | 51=>485 | 55=>489 | 57=>506 | 58=>63 | 33=>194 | n=>n,fun | n=>n⟩
theorem Tryz.sorted206:Go.Proofs.SlLaysZ.n6 Tryz.prog Tryz.sorted206_ren:={
 mixed:=by kernel_rfl
 f6:=⟨Tryz.f206.name,by decide,Tryz.func206.trans (congrArg some (by kernel_rfl))⟩
 f8:=⟨Tryz.f257.name,by decide,Tryz.func257.trans (congrArg some (by kernel_rfl))⟩
 f11:=⟨Tryz.f304.name,by decide,Tryz.func304.trans (congrArg some (by kernel_rfl))⟩
 t0:=Tryz.underlying0
 a0:=Tryz.isAgg0
 z0:=Tryz.sizeOf0
 v0:=Tryz.zeroValue0
 t24:=Tryz.underlying42
 a24:=Tryz.isAgg42
 z24:=Tryz.sizeOf42
 v24:=Tryz.zeroValue42
 t26:=Tryz.underlying9
 a26:=Tryz.isAgg9
 z26:=Tryz.sizeOf9
 v26:=Tryz.zeroValue9
 t28:=Tryz.underlying328
 a28:=Tryz.isAgg328
 z28:=Tryz.sizeOf328
 v28:=Tryz.zeroValue328
 i26:=by kernel_rfl }
def Tryz.sort258_ren:Go.Shelf.Ren:=⟨fun | 6=>258 | 8=>303 | 9=>305 | 19=>355 | 20=>356 | 21=>357 | 22=>358 | 23=>359 | 24=>360 | 25=>361 | 26=>362 | 27=>363 | 28=>364 | 29=>365 | 36=>400 | 31=>395 | 32=>396 | 37=>401 | 38=>402 | 39=>403 | 41=>424 | n=>n,fun | 27=>42 | 29=>9 | 3=>3 | 32=>93 | 26=>42 | 0=>0 | 44=>459 | 46=>241 | 4=>4 | 36=>453 | 35=>452 | 41=>182 | 5=>5 | 9=>9 | 53=>485 | 57=>489 | 63=>506 | 64=>63 | n=>n,fun | n=>n⟩
theorem Tryz.sort258:Go.Proofs.SlLaysM.n6 Tryz.prog Tryz.sort258_ren:={
 mixed:=by kernel_rfl
 f6:=⟨Tryz.f258.name,by decide,Tryz.func258.trans (congrArg some (by kernel_rfl))⟩
 f8:=Tryz.func303.trans (congrArg some (by kernel_rfl))
 f9:=⟨Tryz.f305.name,by decide,Tryz.func305.trans (congrArg some (by kernel_rfl))⟩
 f19:=Tryz.func355.trans (congrArg some (by kernel_rfl))
 f20:=Tryz.func356.trans (congrArg some (by kernel_rfl))
 f21:=⟨Tryz.f357.name,by decide,Tryz.func357.trans (congrArg some (by kernel_rfl))⟩
 f22:=⟨Tryz.f358.name,by decide,Tryz.func358.trans (congrArg some (by kernel_rfl))⟩
 f23:=⟨Tryz.f359.name,by decide,Tryz.func359.trans (congrArg some (by kernel_rfl))⟩
 f24:=⟨Tryz.f360.name,by decide,Tryz.func360.trans (congrArg some (by kernel_rfl))⟩
 f25:=⟨Tryz.f361.name,by decide,Tryz.func361.trans (congrArg some (by kernel_rfl))⟩
 f26:=⟨Tryz.f362.name,by decide,Tryz.func362.trans (congrArg some (by kernel_rfl))⟩
 f27:=⟨Tryz.f363.name,by decide,Tryz.func363.trans (congrArg some (by kernel_rfl))⟩
 f28:=⟨Tryz.f364.name,by decide,Tryz.func364.trans (congrArg some (by kernel_rfl))⟩
 f29:=⟨Tryz.f365.name,by decide,Tryz.func365.trans (congrArg some (by kernel_rfl))⟩
 f31:=Tryz.func395.trans (congrArg some (by kernel_rfl))
 f32:=Tryz.func396.trans (congrArg some (by kernel_rfl))
 f36:=⟨Tryz.f400.name,by decide,Tryz.func400.trans (congrArg some (by kernel_rfl))⟩
 f37:=⟨Tryz.f401.name,by decide,Tryz.func401.trans (congrArg some (by kernel_rfl))⟩
 f38:=⟨Tryz.f402.name,by decide,Tryz.func402.trans (congrArg some (by kernel_rfl))⟩
 f39:=⟨Tryz.f403.name,by decide,Tryz.func403.trans (congrArg some (by kernel_rfl))⟩
 f41:=⟨Tryz.f424.name,by decide,Tryz.func424.trans (congrArg some (by kernel_rfl))⟩
 t0:=Tryz.underlying0
 a0:=Tryz.isAgg0
 z0:=Tryz.sizeOf0
 v0:=Tryz.zeroValue0
 t3:=Tryz.underlying3
 a3:=Tryz.isAgg3
 z3:=Tryz.sizeOf3
 v3:=Tryz.zeroValue3
 t4:=Tryz.underlying4
 a4:=Tryz.isAgg4
 z4:=Tryz.sizeOf4
 v4:=Tryz.zeroValue4
 t5:=Tryz.underlying5
 a5:=Tryz.isAgg5
 z5:=Tryz.sizeOf5
 v5:=Tryz.zeroValue5
 t9:=Tryz.underlying9
 a9:=Tryz.isAgg9
 z9:=Tryz.sizeOf9
 v9:=Tryz.zeroValue9
 t26:=Tryz.underlying42
 a26:=Tryz.isAgg42
 z26:=Tryz.sizeOf42
 v26:=Tryz.zeroValue42
 t27:=Tryz.underlying42
 a27:=Tryz.isAgg42
 z27:=Tryz.sizeOf42
 v27:=Tryz.zeroValue42
 t29:=Tryz.underlying9
 a29:=Tryz.isAgg9
 z29:=Tryz.sizeOf9
 v29:=Tryz.zeroValue9
 t32:=Tryz.underlying93
 a32:=Tryz.isAgg93
 z32:=Tryz.sizeOf93
 v32:=Tryz.zeroValue93
 t35:=Tryz.underlying452
 a35:=Tryz.isAgg452
 z35:=Tryz.sizeOf452
 v35:=Tryz.zeroValue452
 t36:=Tryz.underlying453
 a36:=Tryz.isAgg453
 z36:=Tryz.sizeOf453
 v36:=Tryz.zeroValue453
 t41:=Tryz.underlying182
 a41:=Tryz.isAgg182
 z41:=Tryz.sizeOf182
 v41:=Tryz.zeroValue182
 t44:=Tryz.underlying459
 a44:=Tryz.isAgg459
 z44:=Tryz.sizeOf459
 v44:=Tryz.zeroValue459
 t46:=Tryz.underlying241
 a46:=Tryz.isAgg241
 z46:=Tryz.sizeOf241
 v46:=Tryz.zeroValue241
 t53:=Tryz.underlying485
 a53:=Tryz.isAgg485
 z53:=Tryz.sizeOf485
 v53:=Tryz.zeroValue485
 t57:=Tryz.underlying489
 a57:=Tryz.isAgg489
 z57:=Tryz.sizeOf489
 v57:=Tryz.zeroValue489
 t63:=Tryz.underlying506
 a63:=Tryz.isAgg506
 z63:=Tryz.sizeOf506
 v63:=Tryz.zeroValue506
 t64:=Tryz.underlying63
 a64:=Tryz.isAgg63
 z64:=Tryz.sizeOf63
 v64:=Tryz.zeroValue63 }
def Tryz.keys209_ren:Go.Shelf.Ren:=⟨fun | 7=>209 | 10=>260 | n=>n,fun | 23=>136 | 26=>9 | 3=>209 | 28=>328 | 0=>0 | 27=>327 | 33=>194 | 4=>4 | n=>n,fun | n=>n⟩
theorem Tryz.keys209:Go.Proofs.SlLaysZ.n7 Tryz.prog Tryz.keys209_ren:={
 mixed:=by kernel_rfl
 f7:=⟨Tryz.f209.name,by decide,Tryz.func209.trans (congrArg some (by kernel_rfl))⟩
 f10:=⟨Tryz.f260.name,by decide,Tryz.func260.trans (congrArg some (by kernel_rfl))⟩
 t0:=Tryz.underlying0
 a0:=Tryz.isAgg0
 z0:=Tryz.sizeOf0
 v0:=Tryz.zeroValue0
 t4:=Tryz.underlying4
 a4:=Tryz.isAgg4
 z4:=Tryz.sizeOf4
 v4:=Tryz.zeroValue4
 t23:=Tryz.underlying136
 a23:=Tryz.isAgg136
 z23:=Tryz.sizeOf136
 v23:=Tryz.zeroValue136
 t26:=Tryz.underlying9
 a26:=Tryz.isAgg9
 z26:=Tryz.sizeOf9
 v26:=Tryz.zeroValue9
 t27:=Tryz.underlying327
 a27:=Tryz.isAgg327
 z27:=Tryz.sizeOf327
 v27:=Tryz.zeroValue327
 t28:=Tryz.underlying328
 a28:=Tryz.isAgg328
 z28:=Tryz.sizeOf328
 v28:=Tryz.zeroValue328
 t33:=Tryz.underlying194
 a33:=Tryz.isAgg194
 z33:=Tryz.sizeOf194
 v33:=Tryz.zeroValue194 }
def Tryz.keys518_ren:Go.Shelf.Ren:=⟨fun | 7=>518 | 10=>523 | n=>n,fun | 23=>139 | 26=>9 | 3=>166 | 28=>328 | 0=>0 | 27=>327 | 33=>194 | 4=>4 | n=>n,fun | n=>n⟩
theorem Tryz.keys518:Go.Proofs.SlLaysZ.n7 Tryz.prog Tryz.keys518_ren:={
 mixed:=by kernel_rfl
 f7:=⟨Tryz.f518.name,by decide,Tryz.func518.trans (congrArg some (by kernel_rfl))⟩
 f10:=⟨Tryz.f523.name,by decide,Tryz.func523.trans (congrArg some (by kernel_rfl))⟩
 t0:=Tryz.underlying0
 a0:=Tryz.isAgg0
 z0:=Tryz.sizeOf0
 v0:=Tryz.zeroValue0
 t4:=Tryz.underlying4
 a4:=Tryz.isAgg4
 z4:=Tryz.sizeOf4
 v4:=Tryz.zeroValue4
 t23:=Tryz.underlying139
 a23:=Tryz.isAgg139
 z23:=Tryz.sizeOf139
 v23:=Tryz.zeroValue139
 t26:=Tryz.underlying9
 a26:=Tryz.isAgg9
 z26:=Tryz.sizeOf9
 v26:=Tryz.zeroValue9
 t27:=Tryz.underlying327
 a27:=Tryz.isAgg327
 z27:=Tryz.sizeOf327
 v27:=Tryz.zeroValue327
 t28:=Tryz.underlying328
 a28:=Tryz.isAgg328
 z28:=Tryz.sizeOf328
 v28:=Tryz.zeroValue328
 t33:=Tryz.underlying194
 a33:=Tryz.isAgg194
 z33:=Tryz.sizeOf194
 v33:=Tryz.zeroValue194 }
def Tryz.sortZ_ren:Go.Shelf.Ren:=⟨fun | 5=>255 | 8=>303 | 7=>302 | 19=>355 | 20=>356 | 10=>346 | 11=>347 | 12=>348 | 13=>349 | 14=>350 | 15=>351 | 16=>352 | 17=>353 | 18=>354 | 30=>394 | 31=>395 | 32=>396 | 33=>397 | 34=>398 | 35=>399 | 40=>423 | n=>n,fun | 23=>121 | 25=>3 | 3=>3 | 32=>93 | 22=>121 | 0=>0 | 44=>459 | 46=>241 | 4=>4 | 36=>453 | 35=>452 | 41=>182 | 5=>5 | 9=>9 | 53=>485 | 57=>489 | 63=>506 | 64=>63 | n=>n,fun | n=>n⟩
theorem Tryz.sortZ:Go.Proofs.SlLaysM.n5 Tryz.prog Tryz.sortZ_ren:={
 mixed:=by kernel_rfl
 f5:=⟨Tryz.f255.name,by decide,Tryz.func255.trans (congrArg some (by kernel_rfl))⟩
 f7:=⟨Tryz.f302.name,by decide,Tryz.func302.trans (congrArg some (by kernel_rfl))⟩
 f8:=Tryz.func303.trans (congrArg some (by kernel_rfl))
 f10:=⟨Tryz.f346.name,by decide,Tryz.func346.trans (congrArg some (by kernel_rfl))⟩
 f11:=⟨Tryz.f347.name,by decide,Tryz.func347.trans (congrArg some (by kernel_rfl))⟩
 f12:=⟨Tryz.f348.name,by decide,Tryz.func348.trans (congrArg some (by kernel_rfl))⟩
 f13:=⟨Tryz.f349.name,by decide,Tryz.func349.trans (congrArg some (by kernel_rfl))⟩
 f14:=⟨Tryz.f350.name,by decide,Tryz.func350.trans (congrArg some (by kernel_rfl))⟩
 f15:=⟨Tryz.f351.name,by decide,Tryz.func351.trans (congrArg some (by kernel_rfl))⟩
 f16:=⟨Tryz.f352.name,by decide,Tryz.func352.trans (congrArg some (by kernel_rfl))⟩
 f17:=⟨Tryz.f353.name,by decide,Tryz.func353.trans (congrArg some (by kernel_rfl))⟩
 f18:=⟨Tryz.f354.name,by decide,Tryz.func354.trans (congrArg some (by kernel_rfl))⟩
 f19:=Tryz.func355.trans (congrArg some (by kernel_rfl))
 f20:=Tryz.func356.trans (congrArg some (by kernel_rfl))
 f30:=⟨Tryz.f394.name,by decide,Tryz.func394.trans (congrArg some (by kernel_rfl))⟩
 f31:=Tryz.func395.trans (congrArg some (by kernel_rfl))
 f32:=Tryz.func396.trans (congrArg some (by kernel_rfl))
 f33:=⟨Tryz.f397.name,by decide,Tryz.func397.trans (congrArg some (by kernel_rfl))⟩
 f34:=⟨Tryz.f398.name,by decide,Tryz.func398.trans (congrArg some (by kernel_rfl))⟩
 f35:=⟨Tryz.f399.name,by decide,Tryz.func399.trans (congrArg some (by kernel_rfl))⟩
 f40:=⟨Tryz.f423.name,by decide,Tryz.func423.trans (congrArg some (by kernel_rfl))⟩
 t0:=Tryz.underlying0
 a0:=Tryz.isAgg0
 z0:=Tryz.sizeOf0
 v0:=Tryz.zeroValue0
 t3:=Tryz.underlying3
 a3:=Tryz.isAgg3
 z3:=Tryz.sizeOf3
 v3:=Tryz.zeroValue3
 t4:=Tryz.underlying4
 a4:=Tryz.isAgg4
 z4:=Tryz.sizeOf4
 v4:=Tryz.zeroValue4
 t5:=Tryz.underlying5
 a5:=Tryz.isAgg5
 z5:=Tryz.sizeOf5
 v5:=Tryz.zeroValue5
 t9:=Tryz.underlying9
 a9:=Tryz.isAgg9
 z9:=Tryz.sizeOf9
 v9:=Tryz.zeroValue9
 t22:=Tryz.underlying121
 a22:=Tryz.isAgg121
 z22:=Tryz.sizeOf121
 v22:=Tryz.zeroValue121
 t23:=Tryz.underlying121
 a23:=Tryz.isAgg121
 z23:=Tryz.sizeOf121
 v23:=Tryz.zeroValue121
 t25:=Tryz.underlying3
 a25:=Tryz.isAgg3
 z25:=Tryz.sizeOf3
 v25:=Tryz.zeroValue3
 t32:=Tryz.underlying93
 a32:=Tryz.isAgg93
 z32:=Tryz.sizeOf93
 v32:=Tryz.zeroValue93
 t35:=Tryz.underlying452
 a35:=Tryz.isAgg452
 z35:=Tryz.sizeOf452
 v35:=Tryz.zeroValue452
 t36:=Tryz.underlying453
 a36:=Tryz.isAgg453
 z36:=Tryz.sizeOf453
 v36:=Tryz.zeroValue453
 t41:=Tryz.underlying182
 a41:=Tryz.isAgg182
 z41:=Tryz.sizeOf182
 v41:=Tryz.zeroValue182
 t44:=Tryz.underlying459
 a44:=Tryz.isAgg459
 z44:=Tryz.sizeOf459
 v44:=Tryz.zeroValue459
 t46:=Tryz.underlying241
 a46:=Tryz.isAgg241
 z46:=Tryz.sizeOf241
 v46:=Tryz.zeroValue241
 t53:=Tryz.underlying485
 a53:=Tryz.isAgg485
 z53:=Tryz.sizeOf485
 v53:=Tryz.zeroValue485
 t57:=Tryz.underlying489
 a57:=Tryz.isAgg489
 z57:=Tryz.sizeOf489
 v57:=Tryz.zeroValue489
 t63:=Tryz.underlying506
 a63:=Tryz.isAgg506
 z63:=Tryz.sizeOf506
 v63:=Tryz.zeroValue506
 t64:=Tryz.underlying63
 a64:=Tryz.isAgg63
 z64:=Tryz.sizeOf63
 v64:=Tryz.zeroValue63 }
open Go.RowKit Go.Maps Go.Sort
theorem Tryz.sorts206 (m:Nat):AnyZ.SortsIn Tryz.prog Tryz.sorted206_ren Fence.wide m:=
 ⟨fun blk off cap ss W hH hblk hsz=>callsIn_wide.2 (AnyM.slices_Sort_string Tryz.sort258 blk off cap ss W hH hblk hsz),
  fun p cap W=>callsIn_wide.2 (AnyM.slices_Sort_string_none Tryz.sort258 p cap W)⟩
theorem Tryz.maps_Keys_207 (mb:Option Nat) (W:World):CallsIn Fence.wide 5 Tryz.prog 207 #[.map mb] W fun e w'=>e=.returned (.func (.func 259) #[] #[.pointer (some ⟨W.heap.size,0,none⟩)])∧w'=W.alloc (.cells #[.map mb] 140):=
 AnyZ.keys_in Tryz.keys207 Fence.wide 5 trivial rfl mb W
set_option maxHeartbeats 1000000 in
theorem Tryz.slices_Sorted_keys_206_207 {H:Type} (b nn:Nat) (D0:DataW H) (R:Value→Option (DataW H × List MemPlace)) (w:World) (hown:w.ownsMap Tryz.prog 9 R b nn D0) (hmax:Maps.size D0≤maxLen) (hbytes:Maps.size D0*16≤140737488355328) :
 CallsIn Fence.wide 5 Tryz.prog 206 #[.func (.func 259) #[] #[.pointer (some ⟨w.heap.size,0,none⟩)]] (w.alloc (.cells #[.map (some b)] 140)) fun e w'=>∃ (v:Value) (ss:List (List UInt8)),e=.returned v∧ss.Perm (strKeys D0) ∧
  w'.ownsRow (w.alloc (.cells #[.map (some b)] 140)).heap.size 9 1 v ss.length ((ss.mergeSort (fun x y=>decide (x≤y))).map encStr)∧(v=.slice none 0 0 ↔ ss=[])∧Below (w.alloc (.cells #[.map (some b)] 140)).heap.size (w.alloc (.cells #[.map (some b)] 140)) w':=by
 have hbl:=hown.lt
 have hseq:SeqGives Fence.wide 2 Tryz.prog 259 #[.pointer (some ⟨w.heap.size,0,none⟩)] encStr (fun ss=>ss.Perm (strKeys D0)) (Maps.size D0) (w.alloc (.cells #[.map (some b)] 140)):=
  AnyZ.keys_gives (ρ:=Tryz.keys207_ren) { Tryz.keys207 with } Fence.wide _ trivial rfl (by omega) w.heap.size b nn D0 _ (by simp) (by simp) (by
   obtain ⟨es,clock,hb,Ft,hs,hD⟩:=hown
   exact ⟨es,clock,(Below.heap_alloc _ _ b hbl).trans hb,Ft,hs,hD⟩)
 exact AnyZ.sorted_in Tryz.sorted206 Fence.wide 5 trivial trivial trivial trivial rfl (by omega) (Tryz.sorts206 _) (enters_of Tryz.func258 (by kernel_rfl) rfl) 259 #[.pointer (some ⟨w.heap.size,0,none⟩)] trivial (enters_of Tryz.func259 (by kernel_rfl) rfl) _ _ hmax hbytes _ hseq
set_option maxHeartbeats 1000000 in
theorem Tryz.slices_Sorted_keys_nil_206_207 (w:World) :
 CallsIn Fence.wide 5 Tryz.prog 206 #[.func (.func 259) #[] #[.pointer (some ⟨w.heap.size,0,none⟩)]] (w.alloc (.cells #[.map none] 140)) fun e w'=>∃ (v:Value) (ss:List (List UInt8)),e=.returned v∧ss=[] ∧
  w'.ownsRow (w.alloc (.cells #[.map none] 140)).heap.size 9 1 v ss.length ((ss.mergeSort (fun x y=>decide (x≤y))).map encStr)∧(v=.slice none 0 0 ↔ ss=[])∧Below (w.alloc (.cells #[.map none] 140)).heap.size (w.alloc (.cells #[.map none] 140)) w':=by
 have hseq:SeqGives Fence.wide 2 Tryz.prog 259 #[.pointer (some ⟨w.heap.size,0,none⟩)] encStr (fun ss:List (List UInt8)=>ss=[]) 0 (w.alloc (.cells #[.map none] 140)):=
  AnyZ.keys_gives_nil (ρ:=Tryz.keys207_ren) { Tryz.keys207 with } Fence.wide _ trivial rfl w.heap.size _ (by simp) (by simp)
 exact AnyZ.sorted_in Tryz.sorted206 Fence.wide 5 trivial trivial trivial trivial rfl (by omega) (Tryz.sorts206 _) (enters_of Tryz.func258 (by kernel_rfl) rfl) 259 #[.pointer (some ⟨w.heap.size,0,none⟩)] trivial (enters_of Tryz.func259 (by kernel_rfl) rfl) _ 0 (Nat.zero_le _) (by omega) _ hseq
theorem Tryz.maps_Keys_209 (mb:Option Nat) (W:World):CallsIn Fence.wide 5 Tryz.prog 209 #[.map mb] W fun e w'=>e=.returned (.func (.func 260) #[] #[.pointer (some ⟨W.heap.size,0,none⟩)])∧w'=W.alloc (.cells #[.map mb] 136):=
 AnyZ.keys_in Tryz.keys209 Fence.wide 5 trivial rfl mb W
set_option maxHeartbeats 1000000 in
theorem Tryz.slices_Sorted_keys_206_209 {H:Type} (b nn:Nat) (D0:DataW H) (R:Value→Option (DataW H × List MemPlace)) (w:World) (hown:w.ownsMap Tryz.prog 9 R b nn D0) (hmax:Maps.size D0≤maxLen) (hbytes:Maps.size D0*16≤140737488355328) :
 CallsIn Fence.wide 5 Tryz.prog 206 #[.func (.func 260) #[] #[.pointer (some ⟨w.heap.size,0,none⟩)]] (w.alloc (.cells #[.map (some b)] 136)) fun e w'=>∃ (v:Value) (ss:List (List UInt8)),e=.returned v∧ss.Perm (strKeys D0) ∧
  w'.ownsRow (w.alloc (.cells #[.map (some b)] 136)).heap.size 9 1 v ss.length ((ss.mergeSort (fun x y=>decide (x≤y))).map encStr)∧(v=.slice none 0 0 ↔ ss=[])∧Below (w.alloc (.cells #[.map (some b)] 136)).heap.size (w.alloc (.cells #[.map (some b)] 136)) w':=by
 have hbl:=hown.lt
 have hseq:SeqGives Fence.wide 2 Tryz.prog 260 #[.pointer (some ⟨w.heap.size,0,none⟩)] encStr (fun ss=>ss.Perm (strKeys D0)) (Maps.size D0) (w.alloc (.cells #[.map (some b)] 136)):=
  AnyZ.keys_gives (ρ:=Tryz.keys209_ren) { Tryz.keys209 with } Fence.wide _ trivial rfl (by omega) w.heap.size b nn D0 _ (by simp) (by simp) (by
   obtain ⟨es,clock,hb,Ft,hs,hD⟩:=hown
   exact ⟨es,clock,(Below.heap_alloc _ _ b hbl).trans hb,Ft,hs,hD⟩)
 exact AnyZ.sorted_in Tryz.sorted206 Fence.wide 5 trivial trivial trivial trivial rfl (by omega) (Tryz.sorts206 _) (enters_of Tryz.func258 (by kernel_rfl) rfl) 260 #[.pointer (some ⟨w.heap.size,0,none⟩)] trivial (enters_of Tryz.func260 (by kernel_rfl) rfl) _ _ hmax hbytes _ hseq
set_option maxHeartbeats 1000000 in
theorem Tryz.slices_Sorted_keys_nil_206_209 (w:World) :
 CallsIn Fence.wide 5 Tryz.prog 206 #[.func (.func 260) #[] #[.pointer (some ⟨w.heap.size,0,none⟩)]] (w.alloc (.cells #[.map none] 136)) fun e w'=>∃ (v:Value) (ss:List (List UInt8)),e=.returned v∧ss=[] ∧
  w'.ownsRow (w.alloc (.cells #[.map none] 136)).heap.size 9 1 v ss.length ((ss.mergeSort (fun x y=>decide (x≤y))).map encStr)∧(v=.slice none 0 0 ↔ ss=[])∧Below (w.alloc (.cells #[.map none] 136)).heap.size (w.alloc (.cells #[.map none] 136)) w':=by
 have hseq:SeqGives Fence.wide 2 Tryz.prog 260 #[.pointer (some ⟨w.heap.size,0,none⟩)] encStr (fun ss:List (List UInt8)=>ss=[]) 0 (w.alloc (.cells #[.map none] 136)):=
  AnyZ.keys_gives_nil (ρ:=Tryz.keys209_ren) { Tryz.keys209 with } Fence.wide _ trivial rfl w.heap.size _ (by simp) (by simp)
 exact AnyZ.sorted_in Tryz.sorted206 Fence.wide 5 trivial trivial trivial trivial rfl (by omega) (Tryz.sorts206 _) (enters_of Tryz.func258 (by kernel_rfl) rfl) 260 #[.pointer (some ⟨w.heap.size,0,none⟩)] trivial (enters_of Tryz.func260 (by kernel_rfl) rfl) _ 0 (Nat.zero_le _) (by omega) _ hseq
theorem Tryz.maps_Keys_518 (mb:Option Nat) (W:World):CallsIn Fence.wide 5 Tryz.prog 518 #[.map mb] W fun e w'=>e=.returned (.func (.func 523) #[] #[.pointer (some ⟨W.heap.size,0,none⟩)])∧w'=W.alloc (.cells #[.map mb] 139):=
 AnyZ.keys_in Tryz.keys518 Fence.wide 5 trivial rfl mb W
set_option maxHeartbeats 1000000 in
theorem Tryz.slices_Sorted_keys_206_518 {H:Type} (b nn:Nat) (D0:DataW H) (R:Value→Option (DataW H × List MemPlace)) (w:World) (hown:w.ownsMap Tryz.prog 9 R b nn D0) (hmax:Maps.size D0≤maxLen) (hbytes:Maps.size D0*16≤140737488355328) :
 CallsIn Fence.wide 5 Tryz.prog 206 #[.func (.func 523) #[] #[.pointer (some ⟨w.heap.size,0,none⟩)]] (w.alloc (.cells #[.map (some b)] 139)) fun e w'=>∃ (v:Value) (ss:List (List UInt8)),e=.returned v∧ss.Perm (strKeys D0) ∧
  w'.ownsRow (w.alloc (.cells #[.map (some b)] 139)).heap.size 9 1 v ss.length ((ss.mergeSort (fun x y=>decide (x≤y))).map encStr)∧(v=.slice none 0 0 ↔ ss=[])∧Below (w.alloc (.cells #[.map (some b)] 139)).heap.size (w.alloc (.cells #[.map (some b)] 139)) w':=by
 have hbl:=hown.lt
 have hseq:SeqGives Fence.wide 2 Tryz.prog 523 #[.pointer (some ⟨w.heap.size,0,none⟩)] encStr (fun ss=>ss.Perm (strKeys D0)) (Maps.size D0) (w.alloc (.cells #[.map (some b)] 139)):=
  AnyZ.keys_gives (ρ:=Tryz.keys518_ren) { Tryz.keys518 with } Fence.wide _ trivial rfl (by omega) w.heap.size b nn D0 _ (by simp) (by simp) (by
   obtain ⟨es,clock,hb,Ft,hs,hD⟩:=hown
   exact ⟨es,clock,(Below.heap_alloc _ _ b hbl).trans hb,Ft,hs,hD⟩)
 exact AnyZ.sorted_in Tryz.sorted206 Fence.wide 5 trivial trivial trivial trivial rfl (by omega) (Tryz.sorts206 _) (enters_of Tryz.func258 (by kernel_rfl) rfl) 523 #[.pointer (some ⟨w.heap.size,0,none⟩)] trivial (enters_of Tryz.func523 (by kernel_rfl) rfl) _ _ hmax hbytes _ hseq
set_option maxHeartbeats 1000000 in
theorem Tryz.slices_Sorted_keys_nil_206_518 (w:World) :
 CallsIn Fence.wide 5 Tryz.prog 206 #[.func (.func 523) #[] #[.pointer (some ⟨w.heap.size,0,none⟩)]] (w.alloc (.cells #[.map none] 139)) fun e w'=>∃ (v:Value) (ss:List (List UInt8)),e=.returned v∧ss=[] ∧
  w'.ownsRow (w.alloc (.cells #[.map none] 139)).heap.size 9 1 v ss.length ((ss.mergeSort (fun x y=>decide (x≤y))).map encStr)∧(v=.slice none 0 0 ↔ ss=[])∧Below (w.alloc (.cells #[.map none] 139)).heap.size (w.alloc (.cells #[.map none] 139)) w':=by
 have hseq:SeqGives Fence.wide 2 Tryz.prog 523 #[.pointer (some ⟨w.heap.size,0,none⟩)] encStr (fun ss:List (List UInt8)=>ss=[]) 0 (w.alloc (.cells #[.map none] 139)):=
  AnyZ.keys_gives_nil (ρ:=Tryz.keys518_ren) { Tryz.keys518 with } Fence.wide _ trivial rfl w.heap.size _ (by simp) (by simp)
 exact AnyZ.sorted_in Tryz.sorted206 Fence.wide 5 trivial trivial trivial trivial rfl (by omega) (Tryz.sorts206 _) (enters_of Tryz.func258 (by kernel_rfl) rfl) 523 #[.pointer (some ⟨w.heap.size,0,none⟩)] trivial (enters_of Tryz.func523 (by kernel_rfl) rfl) _ 0 (Nat.zero_le _) (by omega) _ hseq
end Go.Proofs
