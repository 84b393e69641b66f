/- The functions 'names' of the broker hand back the keys of a map, sorted: so the evaluator may take them whole. -/
import Derived.Test.YtkolecenifiaaaaGreatDoorIter
import Derived.Test.YtkolecenifiaaaaGreatDoorEvSym
import Derived.Lib.SlKeysI
import Derived.Sort.MapsRangeIn
import Derived.Maps.AppendAt
import Derived.WalkKit
import Derived.TacticsInMore
import Derived.RegionIn
import Derived.OwnWalkIn
import Derived.LoopNIn
import Derived.LoopIn
import Derived.Deep.LoopGhost
import Derived.WalkSpells
namespace Go.Ev
open Go.RowKit Go.Maps Go.Sort Go.Shelf Go.Proofs
set_option maxHeartbeats 1000000 in
theorem names36_some(b nn:Nat)(D0:DataW Unit)(w:World)(hown:w.ownsMap Tryz.prog 9 R0 b nn D0)(hmax:Maps.size D0<=maxLen)(hbytes:Maps.size D0*16<=140737488355328) :
 Calls Tryz.prog 36 #[.map (some b)] w λe w'=>∃(v:Value) (ss:List (List UInt8)),e=.returned v/\ss.Perm (strKeys D0) /\
  w'.ownsRow w.heap.size 9 1 v ss.length ((ss.mergeSort (λx y=>decide (x<=y))).map encStr)/\(v=.slice none 0 0 ↔ ss=[])/\Below w.heap.size w w':=by
 refine(callsIn_wide (n:=6)).1 ?_;have hfK:Fence.wide.fn 54:=trivial;have hfS:Fence.wide.fn 53:=trivial;refine callsIn_of_wp Tryz.func36 rfl trivial ?_ rfl;simp only[Tryz.ntmps36,List.size_toArray,List.length_cons,List.length_nil,Nat.reduceAdd,Nat.reduceSub,Array.replicate_succ,Array.replicate_zero,List.push_toArray,List.append_toArray,List.nil_append,List.cons_append]
 gi_wp2_with (first
  |(gi_at_call 54; refine(Tryz.maps_Keys_54 _ _).mono ?_; rintro e w' ⟨rfl,rfl⟩)
  |(gi_at_call 53; refine(Tryz.slices_Sorted_keys_53_54 b nn D0 R0 w hown hmax hbytes).mono ?_; rintro e w' ⟨v,ss,rfl,hS,hrow,hnil,hb⟩))
 go_ret
 exact⟨v,ss,rfl,hS,ownsRow_base_a hrow (by simp),hnil,((Below.refl _ w).alloc (Nat.le_refl _) _).trans (hb.mono (by simp))⟩
set_option maxHeartbeats 1000000 in
theorem names36_nil(w:World):Calls Tryz.prog 36 #[.map none] w λe w'=>e=.returned (.slice none 0 0)/\Below w.heap.size w w':=by
 refine(callsIn_wide (n:=6)).1 ?_;have hfK:Fence.wide.fn 54:=trivial;have hfS:Fence.wide.fn 53:=trivial;refine callsIn_of_wp Tryz.func36 rfl trivial ?_ rfl;simp only[Tryz.ntmps36,List.size_toArray,List.length_cons,List.length_nil,Nat.reduceAdd,Nat.reduceSub,Array.replicate_succ,Array.replicate_zero,List.push_toArray,List.append_toArray,List.nil_append,List.cons_append]
 gi_wp2_with (first
  |(gi_at_call 54; refine(Tryz.maps_Keys_54 _ _).mono ?_; rintro e w' ⟨rfl,rfl⟩)
  |(gi_at_call 53; refine(Tryz.slices_Sorted_keys_nil_53_54 w).mono ?_; rintro e w' ⟨v,ss,rfl,hS,hrow,hnil,hb⟩))
 go_ret
 exact⟨by rw[hnil.2 hS]; rfl,((Below.refl _ w).alloc (Nat.le_refl _) _).trans (hb.mono (by simp))⟩
theorem names36_ok:NamesFn Tryz.prog 36 9:=
 ⟨λargs w=>run_callFunc_enter Tryz.func36 (by kernel_rfl) (show Tryz.f36.body=some _ from rfl) args w,Tryz.underlying9,names36_some,names36_nil⟩
set_option maxHeartbeats 1000000 in
theorem names87_some(b nn:Nat)(D0:DataW Unit)(w:World)(hown:w.ownsMap Tryz.prog 9 R0 b nn D0)(hmax:Maps.size D0<=maxLen)(hbytes:Maps.size D0*16<=140737488355328) :
 Calls Tryz.prog 87 #[.map (some b)] w λe w'=>∃(v:Value) (ss:List (List UInt8)),e=.returned v/\ss.Perm (strKeys D0) /\
  w'.ownsRow w.heap.size 9 1 v ss.length ((ss.mergeSort (λx y=>decide (x<=y))).map encStr)/\(v=.slice none 0 0 ↔ ss=[])/\Below w.heap.size w w':=by
 refine(callsIn_wide (n:=6)).1 ?_;have hfK:Fence.wide.fn 117:=trivial;have hfS:Fence.wide.fn 53:=trivial;refine callsIn_of_wp Tryz.func87 rfl trivial ?_ rfl;simp only[Tryz.ntmps87,List.size_toArray,List.length_cons,List.length_nil,Nat.reduceAdd,Nat.reduceSub,Array.replicate_succ,Array.replicate_zero,List.push_toArray,List.append_toArray,List.nil_append,List.cons_append]
 gi_wp2_with (first
  |(gi_at_call 117; refine(Tryz.maps_Keys_117 _ _).mono ?_; rintro e w' ⟨rfl,rfl⟩)
  |(gi_at_call 53; refine(Tryz.slices_Sorted_keys_53_117 b nn D0 R0 w hown hmax hbytes).mono ?_; rintro e w' ⟨v,ss,rfl,hS,hrow,hnil,hb⟩))
 go_ret
 exact⟨v,ss,rfl,hS,ownsRow_base_a hrow (by simp),hnil,((Below.refl _ w).alloc (Nat.le_refl _) _).trans (hb.mono (by simp))⟩
set_option maxHeartbeats 1000000 in
theorem names87_nil(w:World):Calls Tryz.prog 87 #[.map none] w λe w'=>e=.returned (.slice none 0 0)/\Below w.heap.size w w':=by
 refine(callsIn_wide (n:=6)).1 ?_;have hfK:Fence.wide.fn 117:=trivial;have hfS:Fence.wide.fn 53:=trivial;refine callsIn_of_wp Tryz.func87 rfl trivial ?_ rfl;simp only[Tryz.ntmps87,List.size_toArray,List.length_cons,List.length_nil,Nat.reduceAdd,Nat.reduceSub,Array.replicate_succ,Array.replicate_zero,List.push_toArray,List.append_toArray,List.nil_append,List.cons_append]
 gi_wp2_with (first
  |(gi_at_call 117; refine(Tryz.maps_Keys_117 _ _).mono ?_; rintro e w' ⟨rfl,rfl⟩)
  |(gi_at_call 53; refine(Tryz.slices_Sorted_keys_nil_53_117 w).mono ?_; rintro e w' ⟨v,ss,rfl,hS,hrow,hnil,hb⟩))
 go_ret
 exact⟨by rw[hnil.2 hS]; rfl,((Below.refl _ w).alloc (Nat.le_refl _) _).trans (hb.mono (by simp))⟩
theorem names87_ok:NamesFn Tryz.prog 87 9:=
 ⟨λargs w=>run_callFunc_enter Tryz.func87 (by kernel_rfl) (show Tryz.f87.body=some _ from rfl) args w,Tryz.underlying9,names87_some,names87_nil⟩
set_option maxHeartbeats 1000000 in
theorem names460_some(b nn:Nat)(D0:DataW Unit)(w:World)(hown:w.ownsMap Tryz.prog 9 R0 b nn D0)(hmax:Maps.size D0<=maxLen)(hbytes:Maps.size D0*16<=140737488355328) :
 Calls Tryz.prog 460 #[.map (some b)] w λe w'=>∃(v:Value) (ss:List (List UInt8)),e=.returned v/\ss.Perm (strKeys D0) /\
  w'.ownsRow w.heap.size 9 1 v ss.length ((ss.mergeSort (λx y=>decide (x<=y))).map encStr)/\(v=.slice none 0 0 ↔ ss=[])/\Below w.heap.size w w':=by
 refine(callsIn_wide (n:=6)).1 ?_;have hfK:Fence.wide.fn 465:=trivial;have hfS:Fence.wide.fn 53:=trivial;refine callsIn_of_wp Tryz.func460 rfl trivial ?_ rfl;simp only[Tryz.ntmps460,List.size_toArray,List.length_cons,List.length_nil,Nat.reduceAdd,Nat.reduceSub,Array.replicate_succ,Array.replicate_zero,List.push_toArray,List.append_toArray,List.nil_append,List.cons_append]
 gi_wp2_with (first
  |(gi_at_call 465; refine(Tryz.maps_Keys_465 _ _).mono ?_; rintro e w' ⟨rfl,rfl⟩)
  |(gi_at_call 53; refine(Tryz.slices_Sorted_keys_53_465 b nn D0 R0 w hown hmax hbytes).mono ?_; rintro e w' ⟨v,ss,rfl,hS,hrow,hnil,hb⟩))
 go_ret
 exact⟨v,ss,rfl,hS,ownsRow_base_a hrow (by simp),hnil,((Below.refl _ w).alloc (Nat.le_refl _) _).trans (hb.mono (by simp))⟩
set_option maxHeartbeats 1000000 in
theorem names460_nil(w:World):Calls Tryz.prog 460 #[.map none] w λe w'=>e=.returned (.slice none 0 0)/\Below w.heap.size w w':=by
 refine(callsIn_wide (n:=6)).1 ?_;have hfK:Fence.wide.fn 465:=trivial;have hfS:Fence.wide.fn 53:=trivial;refine callsIn_of_wp Tryz.func460 rfl trivial ?_ rfl;simp only[Tryz.ntmps460,List.size_toArray,List.length_cons,List.length_nil,Nat.reduceAdd,Nat.reduceSub,Array.replicate_succ,Array.replicate_zero,List.push_toArray,List.append_toArray,List.nil_append,List.cons_append]
 gi_wp2_with (first
  |(gi_at_call 465; refine(Tryz.maps_Keys_465 _ _).mono ?_; rintro e w' ⟨rfl,rfl⟩)
  |(gi_at_call 53; refine(Tryz.slices_Sorted_keys_nil_53_465 w).mono ?_; rintro e w' ⟨v,ss,rfl,hS,hrow,hnil,hb⟩))
 go_ret
 exact⟨by rw[hnil.2 hS]; rfl,((Below.refl _ w).alloc (Nat.le_refl _) _).trans (hb.mono (by simp))⟩
theorem names460_ok:NamesFn Tryz.prog 460 9:=
 ⟨λargs w=>run_callFunc_enter Tryz.func460 (by kernel_rfl) (show Tryz.f460.body=some _ from rfl) args w,Tryz.underlying9,names460_some,names460_nil⟩
theorem Tryz.infoZ:(Tryz.prog.info? 3).map (λi=>(i.zero,i.size,i.bytes))=some (some (.int .i64 0),1,8):=by kernel_rfl
set_option maxRecDepth 100000 in
set_option maxHeartbeats 4000000 in
theorem all456_some(c o b nn:Nat)(D0:DataW Unit)(w:World)(hcell:w.cell? ⟨c,o,none⟩=some (.map (some b)))(hown:w.ownsMap Tryz.prog 3 R0 b nn D0)(hmax:Maps.size D0<=1000000) :
 Calls Tryz.prog 456 #[.pointer (some ⟨c,o,none⟩)] w λe w'=>∃(v:Value) (ss:List Int),e=.returned v/\ss.Perm (intKeys D0) /\
  w'.ownsRow w.heap.size 3 1 v ss.length ((ss.mergeSort (λx y=>decide (x<=y))).map (Value.int .i64))/\(v=.slice none 0 0 ↔ ss=[])/\Below w.heap.size w w':=by
 obtain⟨i0,hi,hz0,hz1,hz2⟩:=info_parts Tryz.infoZ;have hbl:=hown.lt;refine(callsIn_wide (n:=6)).1 ?_;have hfS:Fence.wide.fn 233:=trivial;refine callsIn_of_wp Tryz.func456 rfl trivial ?_ rfl;simp only[Tryz.ntmps456,List.size_toArray,List.length_cons,List.length_nil,Nat.reduceAdd,Nat.reduceSub,Array.replicate_succ,Array.replicate_zero,List.push_toArray,List.append_toArray,List.nil_append,List.cons_append]
 gi_wp2_with (first
  |(gi_at_range; refine wpListIn_range_own _ rfl _ 317 rfl 3 316 (int_keyed Tryz.underlying3) Tryz.underlying317 _ b nn _ rfl hown ?_; intro w0 hrg0 hg0 hs0)
  |gi_in)
 go_frame
 gi_loopw [3] (λv wr=>∃(left:Lit->Bool) (cnt:Nat) (ss:List Int),wr.ranges Tryz.prog 3 R0 b w.heap.size nn D0 left cnt/\ss.length+cnt<=Maps.size D0 /\
  wr.ownsRow w.heap.size 3 1 v ss.length (ss.map encZ)/\(v=.slice none 0 0 ↔ ss=[])/\CollectedI D0 left ss/\Below w.heap.size w wr)
  (λ_ wr=>wr.rangeLeft b w.heap.size)
 case atStart=>exact⟨_,_,[],hrg0,by simp,⟨by simp,.inl ⟨rfl,rfl⟩⟩,by simp,CollectedI.start D0,(Below.refl _ _).grown hg0 (Nat.le_refl _) (λj hj=>by cases hj)⟩
 case round=>
  obtain⟨left,cnt,ss,hrg,hcs,hrow,hnn,hC,hnx⟩:=hrel
  gi_wp2_with (first
   |(gi_at_next; refine wpListIn_next_ranges _ rfl _ rfl 3 (int_keyed Tryz.underlying3) R0 encZ id (λkey kl hk=>by obtain⟨x,hx,_⟩:=Maps.keyOf_i64 Tryz.underlying3 hk; exact⟨x,hx⟩) (λv _ _=>⟨v,rfl⟩) b w.heap.size nn _ _ _ rfl hrg ?_ ?_)
   |gi_in)
  . -- nothing is left: sorted,handed back
    intro hc0 hl0;by_cases he:ss=[]
    . subst he;have hv0:=hnn.2 rfl;subst hv0
      gi_wp2_with (gi_at_call 233; refine(callsIn_wide.2 (AnyM.slices_Sort_int_none Tryz.sortZ none 0 wr)).mono ?_; rintro e w' ⟨rfl,rfl⟩)
      go_ret
      exact⟨_,[],rfl,hC.perm hown (int_keyed Tryz.underlying3) Tryz.underlying3 hl0,by simpa using hrow,by simp,hnx⟩
    . rcases hrow.2 with⟨hnil,_⟩ |⟨g,cap,cur,rfl,hbase,hb,h1,h2,h3,h4⟩
      . exact absurd (hnn.1 hnil) he
      have hH:Holds encZ wr g 0 ss.toArray:=holds_of_block_i hb (by simpa using h4);have hgl:g<wr.heap.size:=(Array.getElem?_eq_some_iff.1 hb).1;have hc:=AnyM.slices_Sort_int Tryz.sortZ g 0 cap ss wr hH hgl (by omega)
      gi_wp2_with (gi_at_call 233; refine(callsIn_wide.2 hc).mono ?_; rintro e w' ⟨rfl,mm,os,rfl⟩)
      go_ret
      exact⟨_,ss,rfl,hC.perm hown (int_keyed Tryz.underlying3) Tryz.underlying3 hl0,ownsRow_sorted_i (by simp) hbase hb h1 h2 h3,by simp[he],hnx.grown (grownBy_sorted_i _) hnx.size (λj hj=>by cases hj; exact hbase)⟩
  . -- an entry has come: its key goes to the slice's end
    intro x c' kl yd yp w2 cnt2 hkey hlk hv hat hrg2 hlt hg2 hs2 hen;obtain⟨x',ex,rfl,_⟩:=Maps.keyOf_i64 Tryz.underlying3 hkey;obtain rfl:x=x':=encZ_inj ex;have hrow2:=hrow.kept hg2 (Or.inr (row_ne_iter hrow hrg).symm);clear hs2
    gi_wp2_with (first
     |(gi_at_builtin; refine wpListIn_append_own _ rfl _ _ 22 rfl w.heap.size 3 i0 (.int .i64 0) 1 8 Tryz.underlying22 hi hz0 hz1 hz2 rfl (by decide) _ _ _ rfl (hrow2.alloc _) ⟨w2.heap.size,0,none⟩ 1 1 [encZ x] rfl rfl (cell_one_new _ _ _) (by simp[Value.oneCell',encZ]) (by unfold maxLen at *; omega) (by omega) (by have:=hnx.size; have:=hg2.size; simp; omega) ?_; intro v' w3 hown' hg3 hnil3)
     |gi_in)
    have hrg3:=(hrg2.alloc _).kept hg3 (row_ne_low hrow2 hbl) (row_ne_iter hrow2 hrg2)
    go_roundw
    case rel=>refine⟨_,cnt2,ss++[x],hrg3,by simp; omega,by simpa using hown',by simp; intro hv'; have:=(hnil3.1 hv').2; omega,hC.step hlk hat,?_⟩;exact((hnx.grown hg2 hnx.size (λj hj=>by cases hj; exact Nat.le_refl _)).alloc (by have:=hnx.size; have:=hg2.size; omega) _).grown hg3 (by have:=hnx.size; have:=hg2.size; simp; omega) (λj hj=>(hrow2.lt j hj).1)
    case measure=>rw[hrg3.left_eq,hrg.left_eq]; exact hlt
theorem all456_ok:AllFn Tryz.prog 456 3:=
 ⟨λargs w=>run_callFunc_enter Tryz.func456 (by kernel_rfl) (show Tryz.f456.body=some _ from rfl) args w,Tryz.underlying3,all456_some⟩
noncomputable section
/-- the functions that are taken whole -/
def natN:Nats:=λf=>Bool.rec (motive:=λ_=>Option NatF) (Bool.rec (motive:=λ_=>Option NatF) (Bool.rec (motive:=λ_=>Option NatF) (Bool.rec (motive:=λ_=>Option NatF) (none) (some allN) (Nat.beq f 456)) (some namesN) (Nat.beq f 460)) (some namesN) (Nat.beq f 87)) (some namesN) (Nat.beq f 36)
theorem natN_ok[Sym][SymFact Tryz.prog]:NatsOk Tryz.prog natN:=by
 refine nats_ok λf g h=>?_;unfold natN at h;cases e36:Nat.beq f 36 with
 |true=>
  rw[e36]at h;injection h with h
  have:=Nat.eq_of_beq_eq_true e36
  subst this;exact .inl ⟨h.symm,_,names36_ok⟩
 |false=>
 rw[e36]at h;simp only at h;cases e87:Nat.beq f 87 with
 |true=>
  rw[e87]at h;injection h with h
  have:=Nat.eq_of_beq_eq_true e87
  subst this;exact .inl ⟨h.symm,_,names87_ok⟩
 |false=>
 rw[e87]at h;simp only at h;cases e460:Nat.beq f 460 with
 |true=>
  rw[e460]at h;injection h with h
  have:=Nat.eq_of_beq_eq_true e460
  subst this;exact .inl ⟨h.symm,_,names460_ok⟩
 |false=>
 rw[e460]at h;simp only at h;cases e456:Nat.beq f 456 with
 |true=>
  rw[e456]at h;injection h with h
  have:=Nat.eq_of_beq_eq_true e456
  subst this;exact .inr ⟨h.symm,_,all456_ok⟩
 |false=>
 rw[e456]at h;simp only at h;cases h
end
end Go.Ev
