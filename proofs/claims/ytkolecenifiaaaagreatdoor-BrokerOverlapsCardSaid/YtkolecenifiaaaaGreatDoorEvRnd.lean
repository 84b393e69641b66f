/- A verified evaluator for the model's code: EvSort, EvSmall, EvRnd. -/
import Derived.Test.YtkolecenifiaaaaGreatDoorEvBag
import Derived.Lib.SlKeysI
set_option linter.unusedSectionVars false
set_option linter.unusedVariables false
set_option linter.unusedSimpArgs false
namespace Go.Ev
open Go.RowKit Go.Maps Go.Sort
noncomputable section
section
variable[Sym]
variable{P:Program}
variable[SymFact P]
structure SrtFn(P:Program)(f:FuncId):Prop where
 enter:∀args w,(callFunc f args).run P w=.ok (.enter f args) w
 sort:∀(g off cap:Nat) (zs:List Int) (w:World),Holds (Value.int .i64) w g off zs.toArray->g<w.heap.size->zs.length<=1000000 ->
  Calls P f #[.slice (some ⟨g,off,none⟩) zs.length cap] w λe w'=>e=.returned (.tuple #[])/\∃n os,w'=Go.Sort.grow (putRow (Value.int .i64) (Go.Sort.ahead w n) g off (zs.mergeSort λx y=>decide (x<=y)).toArray) os
def sortN:NatF:=λ_ d args h n=>match d with
 |true=>.err 470|false=>match args with
  | [.sl b o len _ 1 _]=>match zb b h with
   |some (.cells cs)=>match Sym.srt ((cs.drop o).take len)with
    |some ys=>match Nat.ble (Nat.add o len) cs.length&&Nat.ble len 1000000&&Nat.ble 1 len&&Nat.beq ys.length len with
     |true=>.ret (.tup []) (yy (some (.cells (cs.take o++(ys++cs.drop (Nat.add o len))))) b h) n|false=>.err 474
    |none=>.err 473
   |_=>.err 472
  |_=>.err 471
theorem zMz(d:Bool)(args:List CV)(h:zC)(n:Key):zo n (sortN ‹Sym› d args h n):=by
 unfold sortN
 repeat' split
 all_goals first
  |trivial
  |exact Nat.le_refl _
theorem zR6{w:World}{g i:Nat}{arr:Array Value}{elem:TypeId}{fz:Nat × Nat}(hg:w.heap[g]? = some (.cells arr elem fz))(hf:fz.1=fz.2\/arr.size<=fz.1)(hi:i<arr.size):w.frozen? ⟨g,i,none⟩=false:=by unfold World.frozen?;simp only[hg];rcases hf with hf |hf <;> simp <;> omega
theorem zRV{f:FuncId}(hf:SrtFn P f){args:List CV}{h:zC}{n:Key}{Y:Psi}{w:World}{args':Array Value}(ha:zP Y args args'.toList)(hrel:Rel Y (zC.fam h) w)
 (hc:zd (sortN ‹Sym› false args h n)):yS P f args' w (zr Y (zC.fam h) n w (sortN ‹Sym› false args h n)):=by
 unfold yS;rw[hf.enter];show Calls P f args' w λe w''=>∃v,e=.returned v/\zr Y (zC.fam h) n w (sortN ‹Sym› false args h n) v w'';unfold sortN at hc ⊢;simp only at hc ⊢;split at hc
 . rename_i b o len cp ex;rw[za]at ha;obtain⟨sv,r,hr0,hv,hr⟩:=ha;rw[zM]at hr; subst hr;split at hc
   . rename_i cs hb0;have hb:zC.fam h b=some (.cells cs):=hb0;split at hc
     . rename_i ys hys;split at hc
       . rename_i hk;simp only[Bool.and_eq_true]at hk;obtain⟨⟨⟨k1,k2⟩,k3⟩,k4⟩:=hk;have k1:o+len<=cs.length:=zH k1;have k2:=zH k2;have k3:=zH k3;have k4:=Nat.eq_of_beq_eq_true k4;rw[yJ]at hv;obtain⟨p,y,cap',hp,rfl,q1,q2,_,q3⟩:=hv;obtain rfl:args'=#[.slice (some ⟨p.blk,y,none⟩) len cap']:=by cases args'; simp_all
         have hy:y=p.off+o:=by
          rcases q3 with⟨q3,_⟩ |q3
          . exact q3
          . omega
         subst hy;obtain⟨arr,elem,fz,g1,g2,g3,g4,g5⟩:=hrel.on b _ p hb hp;have hseg:zP Y ((cs.drop o).take len) ((arr.toList.drop (p.off+o)).take len):=by
          refine qS.2 ⟨by simp only[List.length_take,List.length_drop,Array.length_toList]; omega,λi c v hi hvi=>?_⟩;rw[List.getElem?_take]at hi hvi;split at hi
          . rename_i hlt;rw[if_pos hlt]at hvi;rw[List.getElem?_drop]at hi hvi;obtain⟨x,hx,hr⟩:=g5 _ _ hi;rw[Array.getElem?_toList,show p.off+o+i=p.off+(o+i)by omega,hx]at hvi;injection hvi with hvi;subst hvi;exact hr
          . cases hi
         obtain⟨zs,hz,hsorted⟩:=SymFact.srt (P:=P) _ _ hys Y _ hseg;have hzl:zs.length=len:=by
          have:=congrArg List.length hz
          simp only[List.length_take,List.length_drop,Array.length_toList,List.length_map]at this;omega
         have hsl:(zs.mergeSort λa b=>decide (a<=b)).length=len:=by rw[List.length_mergeSort,hzl]
         have hcell:∀j (hj:j<zs.length),arr[p.off+o+j]? = some (.int .i64 zs[j]):=by
          intro j hj;have e:((arr.toList.drop (p.off+o)).take len)[j]? = some (.int .i64 zs[j]):=by rw[hz,List.getElem?_map,List.getElem?_eq_getElem hj]; rfl
          rw[List.getElem?_take,if_pos (by omega),List.getElem?_drop,Array.getElem?_toList]at e;exact e
         have hH:Holds (Value.int .i64) w p.blk (p.off+o) zs.toArray:=by
          intro j hj;have hj':j<zs.length:=by simpa using hj
          have hx:=hcell j hj';refine⟨?_,zR6 g1 (by rw[g2]; exact g4) (Array.getElem?_eq_some_iff.1 hx).1⟩;unfold World.cell?;simp only[g1];rw[hx];simp[hj']
         have hlt:p.blk<w.heap.size:=(Array.getElem?_eq_some_iff.1 g1).1;have hcall:=hf.sort p.blk (p.off+o) cap' zs w hH hlt (by omega);rw[hzl]at hcall;refine Calls.mono hcall λe w' ⟨e1,m,os,e2⟩=>⟨.tuple #[],e1,?_⟩
         let ob:Obj:=.cells (putCells (Value.int .i64) (p.off+o) (zs.mergeSort λx y=>decide (x<=y)).toArray arr) elem fz
         have hO:xQ Y (w.upB p.blk ob) p (.cells (cs.take o++(ys++cs.drop (Nat.add o len)))):=by
          refine⟨_,elem,fz,xe ob hlt,by simp[putCells,g2],?_,g4,λi c hi=>?_⟩
          . simp only[List.length_append,List.length_take,List.length_drop]
            have:Nat.add o len=o+len:=rfl
            omega
          . have hadd:Nat.add o len=o+len:=rfl;by_cases h1:i<o
            . rw[List.getElem?_append_left (by simp; omega),List.getElem?_take,if_pos h1]at hi;obtain⟨x,hx,hr⟩:=g5 _ _ hi;refine⟨x,?_,hr⟩;simp only[putCells,Array.getElem?_mapIdx,hx,Option.map_some];rw[if_neg (by omega)]
            . by_cases h2:i<o+len
              . rw[List.getElem?_append_right (by simp; omega),List.getElem?_append_left (by simp; omega)]at hi;have ho:(cs.take o).length=o:=by simp; omega
                rw[ho]at hi;obtain⟨x,hx,hr⟩:=hsorted.get hi;refine⟨x,?_,hr⟩;have hxa:arr[p.off+i]?≠none:=by
                 intro e
                 have:=Array.getElem?_eq_none_iff.1 e
                 omega
                obtain⟨x0,hx0⟩:=Option.ne_none_iff_exists'.1 hxa;simp only[putCells,Array.getElem?_mapIdx,hx0,Option.map_some];rw[if_pos (by simp; omega)];rw[List.getElem?_map]at hx;have hlt2:i - o<(zs.mergeSort λx y=>decide (x<=y)).length:=by omega
                rw[List.getElem?_eq_getElem hlt2]at hx;injection hx with hx;rw[<- hx,show p.off+i - (p.off+o)=i - o by omega];simp only[List.getElem!_toArray,List.getElem!_eq_getElem?_getD,List.getElem?_eq_getElem hlt2,Option.getD_some]
              . rw[List.getElem?_append_right (by simp; omega),List.getElem?_append_right (by simp; omega),List.getElem?_drop]at hi;have ho:(cs.take o).length=o:=by simp; omega
                rw[ho,hadd,show o+len+(i - o - ys.length)=i by omega]at hi;obtain⟨x,hx,hr⟩:=g5 _ _ hi;refine⟨x,?_,hr⟩;simp only[putCells,Array.getElem?_mapIdx,hx,Option.map_some];rw[if_neg (by simp; omega)]
         have hB:Below (w.upB p.blk ob).heap.size (w.upB p.blk ob) w':=by
          subst e2;refine⟨rfl,rfl,rfl,by simp[Go.Sort.grow,World.upB],λk hk=>?_⟩;rw[zDq]at hk;rw[heap_grow_old _ _ (by simpa using hk)];by_cases hkb:k=p.blk
          . subst hkb;rw[xe ob hlt];simp[putRow,mapBlock,Go.Sort.ahead,Array.getElem?_modify,g1,Go.Sort.onCells,ob]
          . rw[w5 ob hkb];have hkb':¬p.blk=k:=λq=>hkb q.symm;simp[putRow,mapBlock,Go.Sort.ahead,Array.getElem?_modify,hkb']
         have hpost:=qj (n:=n) hrel hb rfl hp hO;refine⟨Y,?_,?_⟩
         . rw[z7];exact hpost.trans (jp hpost.rel hB)
         . exact yU.2 ⟨#[],rfl,zM.2 rfl⟩
       . exact hc.elim
     . exact hc.elim
   . exact hc.elim
 . exact hc.elim
end
def sortSel(args:List CV)(h:zC):Bool:=match args with
 | [.sl b o len _ 1 _]=>match zb b h with
  |some (.cells cs)=>match zUl cs o with
   |.sym _=>true|_=>false
  |_=>false
 |_=>false
theorem natSort_ok{P:Program}{code:FuncId->CFn}{fuel:Nat}{f:FuncId}{nat:Nats}(hm:P.follows .mixedOrders=true)(hcode:CodeOk P code)(hf:SrtFn P f)(hn:∀J K,KnownOk J K->@NatsOk (linSym J K) P nat) :
 ∀J K,KnownOk J K->@NatsOk (linSym J K) P (natH P code fuel f sortSel sortN nat):=
 zP5 hm hcode (λS args h n=>@zMz S false args h n) (λJ K hK _ _ _ _ _ _ h1 _ h3 _ h5=>@zRV (linSym J K) P (yn hK) f hf _ _ _ _ _ _ h1 h3 h5) hn
def w2Sel(args:List CV)(_:zC):Bool:=match args with
 | [_,_,.nat 2]=>true|_=>false
theorem natW_ok{P:Program}{code:FuncId->CFn}{fuel:Nat}{f:FuncId}{nat:Nats}(hm:P.follows .mixedOrders=true)(hcode:CodeOk P code)(hf:WithinX P f)(hn:∀J K,KnownOk J K->@NatsOk (linSym J K) P nat) :
 ∀J K,KnownOk J K->@NatsOk (linSym J K) P (natH P code fuel f w2Sel wrN nat):=
 zP5 hm hcode (λS args h n=>@zSA S false args h n) (λJ K hK _ _ _ _ _ _ h1 _ h3 _ h5=>@zXz (linSym J K) P (yn hK) f hf _ _ _ _ _ _ h1 h3 h5) hn
end
end Go.Ev
namespace Go.Ev
noncomputable section
def uj(X:zC)(locs:List (Nat × CV)):R->(List (Nat × CV)->List (Key × CObj)->Key->Bool)->Bool
 |.fork a b,k=>uj X locs a k&&uj X locs b k|.ok cx tm ds h n,k=>zE1 X locs (.ok cx tm ds h n) k|.ret ..,_=>false|.err _,_=>false
theorem zBg{X:zC}{locs:List (Nat × CV)}{k:List (Nat × CV)->List (Key × CObj)->Key->Bool}:∀{r:R},uj X locs r k=true->zd r
 |.fork a b,h=>by unfold uj at h;rw[Bool.and_eq_true]at h;exact⟨zBg h.1,zBg h.2⟩|.ok cx tm ds hh n,h=>by unfold uj at h;obtain⟨_,_,_,_,e,h1,_⟩:=zAK h;cases e;exact h1
 |.ret ..,h=>by cases h|.err _,h=>by cases h
theorem zEA{P:Program}{F N:Nat}[Sym]{Y:Psi}{g:Fam}{n0:Key}{w:World}{X:zC}{locs:List (Nat × CV)}{k:List (Nat × CV)->List (Key × CObj)->Key->Bool}{e:Exit}{a:Act}{w':World}:∀{r:R},uj X locs r k=true->xN P F N Y g n0 w r e a w' ->
 ∃tm hh n os,xN P F N Y g n0 w (.ok .normal tm [] hh n) e a w'/\n.ix+1<=65535/\k (locs.map λp=>(p.1,qC (Loc.ofNat p.1) tm)) os n=true/\∀q∈os,zb q.1 hh=some q.2/\zb q.1 X=none
 |.fork r s,h,ho=>by
  unfold uj at h;rw[Bool.and_eq_true]at h;rcases ho with ho |ho
  . exact zEA h.1 ho
  . exact zEA h.2 ho
 |.ok cx tm ds hh n,h,ho=>by unfold uj at h;obtain⟨tm',hh',n',o,e,h1,h2,h3⟩:=zAK h;cases e;exact⟨_,_,_,o,ho,h1,h2,h3⟩
 |.ret ..,h,_=>by cases h|.err _,h,_=>by cases h
section
variable{P:Program}{fn:Func}{c b:Code}{p:List Stp}{w0:World}{F N:Nat}{code:FuncId->CFn}{nat:Nats}{fuel:Nat}
theorem zR8(hm:P.follows .mixedOrders=true)(hcode:CodeOk P code)(hnat:∀J K,KnownOk J K->@NatsOk (linSym J K) P nat)(hsub:subC p c=some b)(hn:zt c=true){J:Nat->Int}{K:zU}(hK:KnownOk J K)
 {X:zC} {locs:List (Nat × CV)} {objs:List (Key × CObj)} {n:Key} (hap:∀q∈objs,zb q.1 X=none) {k:List (Nat × CV)->List (Key × CObj)->Key->Bool}
 (hrun:uj X locs (@zq (linSym J K) P (@ev (linSym J K) P code nat fuel) (uc p (zS P F N c)) (wd locs) [] (mkH .nil objs) n) k=true)
 (hk:∀l o n',k l o n'=true->(∀q∈o,zb q.1 X=none)->HdX P F N fn c b p w0 J K X l o n'):HdX P F N fn c b p w0 J K X locs objs n:=by
 intro Y a w hst hb ho
 letI S:Sym:=linSym J K
 haveI hS:SymFact P:=yn hK
 have hcall:yk P (ev P code nat fuel):=kZ (λcall hcall F N=>ym hm hcall) hcode (hnat _ _ hK) fuel;have hdraw:qc P F N (ev P code nat fuel):=ym hm hcall;rw[@kx S P F N p c b hsub]at hrun;have hjo:Rel Y (zC.fam (mkH X objs)) w:=hst.rel;have hup:∀k o,zC.fam (mkH .nil objs) k=some o->zC.fam (mkH X objs) k=some o:=λk o h=>zLk h;have hkey:∀k o,zC.fam (mkH .nil objs) k=some o->zb k X=none:=λk o h=>hap _ (zH5 h);have hXin:∀k o,zb k X=some o->zC.fam (mkH X objs) k=some o:=λk o h=>by
  show zb k (mkH X objs)=some o;rw[zCZ λq hq e=>?_]
  . exact h
  . have:=hap q hq
    rw[e,h]at this; cases this
 have hsm:St P F N Y (wd locs) [] (mkH .nil objs) n a w:=
  ⟨hst.frame,hst.dfr,⟨λk o q h1 h2=>hjo.on k o q (hup k o h1) h2,λk o h1=>hjo.tot k o (hup k o h1),λk1 k2 o1 o2 p1 p2 h1 h2 h3 h4 h5 h6=>hjo.inj k1 k2 o1 o2 p1 p2 (hup _ _ h1) (hup _ _ h2) h3 h4 h5 h6⟩,hst.glob,hst.fresh⟩
 have hsim:=kG hcall hdraw b (zCu hsub hn) hsm (zBg hrun);refine uz (wp_mono hsim λe a' w' ho'=>?_);obtain⟨tm,hh,n',os,ho',hroom,hk1,hos⟩:=zEA hrun ho';obtain⟨h1,Y',h2,h3,h4⟩:=ho';cases e <;> first |exact h1.elim |skip
 have hXlt:∀k o q,zb k X=some o->Y k=some q->q.blk<w.heap.size/\Y' k=some q/\w'.heap[q.blk]? = w.heap[q.blk]?/\xQ Y' w' q o:=by
  intro k o q g1 g2;have g3:=hjo.on k o q (hXin k o g1) g2;have g4:=h3.frame q.blk g3.lt λk1 o1 p1 f1 f2 f3 f4=>by
   have:=hjo.inj k1 k _ _ _ _ (hup _ _ f1) (hXin k o g1) f3 g2 (.inl f2) f4
   subst this;rw[hkey _ _ f1]at g1; cases g1
  exact⟨g3.lt,h3.ext _ _ g2,g4,(g3.congr g4).mono h3.ext⟩
 have hkept:∀k o,(k,o)∈os->zC.fam hh k=some o:=λk o h=>(hos _ h).1;have hcase:∀k o,zC.fam (mkH X os) k=some o->zC.fam hh k=some o/\zb k X=none\/zb k X=some o:=by
  intro k o h;rcases qE (show zb k (mkH X os)=some o from h)with⟨j,hj⟩ |h
  . exact .inl ⟨hkept _ _ (List.mem_of_getElem? hj),(hos _ (List.mem_of_getElem? hj)).2⟩
  . exact .inr h
 have hXtot:∀k o,zb k X=some o->∃q,Y k=some q:=λk o h=>hjo.tot k o (hXin k o h);have hR:Rel Y' (zC.fam hh) w':=h2.rel;have hmix:∀k1 k2 o1 o2 p1 p2,zC.fam hh k1=some o1->zb k2 X=some o2->Y' k1=some p1->Y' k2=some p2->(o1.isRo=false\/o2.isRo=false)->p1.blk=p2.blk->False:=by
  intro k1 k2 o1 o2 p1 p2 f1 f2 f3 f4 hor e;obtain⟨q,hq⟩:=hXtot k2 o2 f2;obtain⟨g1,g2,g3,g4⟩:=hXlt k2 o2 q f2 hq;rw[g2]at f4;injection f4 with f4;subst f4;have done:∀k0 o0 p0,zC.fam (mkH .nil objs) k0=some o0->Y k0=some p0->p0.blk=p1.blk->(o0.isRo=false\/o2.isRo=false)->False:=by
   intro k0 o0 p0 a1 a2 a3 a4
   have:=hjo.inj k0 k2 _ _ _ _ (hup _ _ a1) (hXin _ _ f2) a2 hq a4 (a3.trans e)
   subst this;rw[hkey _ _ a1]at f2; cases f2
  rcases hor with hor |hor
  . rcases h3.img k1 o1 p1 f1 hor f3 with⟨k0,o0,p0,a1,a2,a3,a4⟩ |hge
    . exact done k0 o0 p0 a1 a3 a4 (.inl a2)
    . omega
  . rcases h3.imgA k1 o1 p1 f1 f3 with⟨k0,o0,p0,a1,a3,a4⟩ |hge
    . exact done k0 o0 p0 a1 a3 a4 (.inr hor)
    . omega
 have hoS:∀k o q,zC.fam (mkH .nil objs) k=some o->o.isRo=false->Y k=some q->w0.heap.size<=q.blk:=λk o q f1 f2 f3=>ho k o q (hup _ _ f1) f2 f3;refine hk _ os n' hk1 (λq hq=>(hos q hq).2) Y' a' w' ⟨⟨h2.frame.size,λt f1 f2 f3=>?_⟩,h2.dfr,⟨?_,?_,?_⟩,h2.glob,h2.fresh⟩ (zDx hb h3 hoS) ?_
 . rcases uq t (locs:=locs.map λp=>(p.1,qC (Loc.ofNat p.1) tm))with e |⟨q,hq,e1,e2⟩
   . rw[e]; exact xo
   . rw[e2];obtain⟨q',_,rfl⟩:=List.mem_map.1 hq;simp only at e1 ⊢;rw[e1];exact h2.frame.tmp t f1 f2 f3
 . intro k o q f1 f2;rcases hcase k o f1 with⟨f1,_⟩ |f1
   . exact hR.on k o q f1 f2
   . obtain⟨q0,hq0⟩:=hXtot k o f1;obtain⟨_,g2,_,g4⟩:=hXlt k o q0 f1 hq0;rw[g2]at f2;injection f2 with f2;subst f2;exact g4
 . intro k o f1;rcases hcase k o f1 with⟨f1,_⟩ |f1
   . exact hR.tot k o f1
   . obtain⟨q0,hq0⟩:=hXtot k o f1;exact⟨q0,h3.ext _ _ hq0⟩
 . intro k1 k2 o1 o2 p1 p2 f1 f2 f3 f4 hor e;rcases hcase k1 o1 f1 with⟨f1,_⟩ |f1 <;> rcases hcase k2 o2 f2 with⟨f2,_⟩ |f2
   . exact hR.inj k1 k2 o1 o2 p1 p2 f1 f2 f3 f4 hor e
   . exact(hmix _ _ _ _ _ _ f1 f2 f3 f4 hor e).elim
   . exact(hmix _ _ _ _ _ _ f2 f1 f4 f3 hor.symm e.symm).elim
   . obtain⟨q1,hq1⟩:=hXtot k1 o1 f1;obtain⟨q2,hq2⟩:=hXtot k2 o2 f2;rw[h3.ext _ _ hq1]at f3;rw[h3.ext _ _ hq2]at f4;injection f3 with f3;injection f4 with f4;subst f3 f4;exact hjo.inj k1 k2 o1 o2 _ _ (hXin _ _ f1) (hXin _ _ f2) hq1 hq2 hor e
 . intro k o q f1 f2 f3;rcases hcase k o f1 with⟨f1,_⟩ |f1
   . rcases h3.img k o q f1 f2 f3 with⟨k0,o0,p0,a1,a2,a3,a4⟩ |hge
     . rw[<- a4]; exact hoS k0 o0 p0 a1 a2 a3
     . exact Nat.le_trans hb.size hge
   . obtain⟨q0,hq0⟩:=hXtot k o f1;rw[h3.ext _ _ hq0]at f3;injection f3 with f3;subst f3;exact ho k o q0 (hXin _ _ f1) f2 hq0
end
def zVU(b:List (Int × Int))(a d:CV):Bool:=match a,d with
 |.sym e,.nat z=>kEq e.k .i64&&zm e.c 0&&(match e.l with
  | [p]=>zm p.2 1&&(match nth b p.1 with
   |some q=>zm q.1 (.ofNat z)&&zm q.2 (.ofNat z)|none=>false)
  |_=>false)
 |_,_=>false
theorem zWp{J:Nat->Int}{K K':zU}{Y Y':Psi}{b:List (Int × Int)}(hb:zk J 0 b){a d:CV}{v:Value}(h:zVU b a d=true)(hv:@zG (linSym J K) Y d v):@zG (linSym J K') Y' a v:=by
 unfold zVU at h;split at h
 . rename_i e z;rw[Bool.and_eq_true,Bool.and_eq_true,@yj noSym,@zX noSym,decide_eq_true_eq,decide_eq_true_eq]at h;obtain⟨⟨h1,h2⟩,h3⟩:=h;split at h3
   . rename_i p hl;rw[Bool.and_eq_true,@zX noSym,decide_eq_true_eq]at h3;obtain⟨h3,h4⟩:=h3;split at h4
     . rename_i q hq;rw[Bool.and_eq_true,@zX noSym,@zX noSym,decide_eq_true_eq,decide_eq_true_eq]at h4;have g:=yq hb hq;rw[Nat.zero_add]at g;rw[(@zT (linSym J K) _ _ _)]at hv;rw[(@zp (linSym J K') _ _ _),hv];show Value.int .i64 (Int.ofNat z)=.int e.k (evE J e);have he:evE J e=Int.ofNat z:=by unfold evE;rw[hl];show e.c+(p.2*J p.1+0)=_;rw[h2,h3];omega
       rw[h1,he]
     . cases h4
   . cases h3
 . cases h
def zAn(b:List (Int × Int))(U:zC)(I:TH):List CV->List CV->Bool
 | [],_=>true|x::as,y::bs=>(yH U I x y || zVU b x y)&&zAn b U I as bs|_::_,[]=>false
theorem zHV{b:List (Int × Int)}{U:zC}{I:TH}:∀{as bs:List CV},zAn b U I as bs=true->as.length<=bs.length/\∀(i:Nat) (c:CV),as[i]? = some c->∃d,bs[i]? = some d/\(yH U I c d || zVU b c d)=true
 | [],bs,_=>⟨Nat.zero_le _,λi c h=>by simp at h⟩
 |_::_,[],h=>by cases h|x::as,y::bs,h=>by
  unfold zAn at h;rw[Bool.and_eq_true]at h;obtain⟨h1,h2⟩:=zHV h.2;refine⟨by simp; exact h1,λi c hc=>?_⟩;cases i with
  |zero=>simp at hc; subst hc; exact⟨y,rfl,h.1⟩|succ i=>exact h2 i c (by simpa using hc)
theorem zIa{b:List (Int × Int)}{U:zC}{I:TH}{J:Nat->Int}{K:zU}{Ys YT:Psi}(hb:zk J 0 b)(hI:qO J J I)(hY:zAW U Ys YT){as bs:List CV}(h:zAn b U I as bs=true){w:World}{p p':Pl}(h1:p'.blk=p.blk)(h2:p'.off=p.off)(h3:p'.sz=p.sz)
 (hc:@yZ (linSym J K) Ys w p bs):@yZ (linSym J K) YT w p' as:=by
 obtain⟨arr,elem,fz,g1,g2,g3,g4,g5⟩:=hc;obtain⟨q1,q2⟩:=zHV h;refine⟨arr,elem,fz,by rw[h1]; exact g1,by rw[h3]; exact g2,by rw[h2,h3]; omega,by rw[h3]; exact g4,λi c hi=>?_⟩;obtain⟨d,hd,hcd⟩:=q2 i c hi;obtain⟨x,hx,hr⟩:=g5 i d hd;rw[Bool.or_eq_true]at hcd;rcases hcd with hcd |hcd
 . exact⟨x,by rw[h2]; exact hx,@qP J J K K I U Ys YT hI hY c d _ hcd hr⟩
 . exact⟨x,by rw[h2]; exact hx,zWp hb hcd hr⟩
mutual
def zB1(q:Key->Bool):CV->Bool
 |.ptr b _=>q b|.sl b ..=>q b|.map b=>q b|.func _ a c=>v7 q a&&v7 q c|.iface _ x=>zB1 q x|.agg cs=>v7 q cs|.tup cs=>v7 q cs|.win b ..=>q b|.sst l=>v7 q l|.elt b ..=>q b|_=>true
def v7(q:Key->Bool):List CV->Bool
 | []=>true|c::cs=>zB1 q c&&v7 q cs
end
section
variable[Sym]
mutual
theorem zG.on{q:Key->Bool}{Y Y':Psi}(hq:∀k,q k=true->Y' k=Y k):∀(c:CV) {v:Value},zB1 q c=true->zG Y c v->zG Y' c v
 |.bool _,_,_,h=>h|.nat _,_,_,h=>h|.int _ _,_,_,h=>h|.anyi _,_,_,h=>h|.str _,_,_,h=>h|.nilptr,_,_,h=>h|.ptr _ _,_,hn,h=>by unfold zB1 at hn;unfold zG at h ⊢;rw[hq _ hn]; exact h|.nilsl,_,_,h=>h|.sl ..,_,hn,h=>by unfold zB1 at hn;unfold zG at h ⊢;rw[hq _ hn]; exact h|.nilmap,_,_,h=>h|.map _,_,hn,h=>by unfold zB1 at hn;unfold zG at h ⊢;rw[hq _ hn]; exact h|.func _ a c,_,hn,h=>by unfold zB1 at hn;rw[Bool.and_eq_true]at hn;unfold zG at h ⊢;obtain⟨a',c',e,h1,h2⟩:=h;exact⟨a',c',e,zP.on hq a hn.1 h1,zP.on hq c hn.2 h2⟩
 |.nilfunc,_,_,h=>h|.iface _ x,_,hn,h=>by unfold zB1 at hn;unfold zG at h ⊢;obtain⟨y,e,h1⟩:=h;exact⟨y,e,zG.on hq x hn h1⟩
 |.niliface,_,_,h=>h|.agg cs,_,hn,h=>by unfold zB1 at hn;unfold zG at h ⊢;obtain⟨a,e,h1⟩:=h;exact⟨a,e,zP.on hq cs hn h1⟩
 |.tup cs,_,hn,h=>by unfold zB1 at hn;unfold zG at h ⊢;obtain⟨a,e,h1⟩:=h;exact⟨a,e,zP.on hq cs hn h1⟩
 |.sym _,_,_,h=>h|.win ..,_,hn,h=>by unfold zB1 at hn;unfold zG at h ⊢;rw[hq _ hn]; exact h|.sst l,_,hn,h=>by unfold zB1 at hn;unfold zG at h ⊢;obtain⟨b,e,h1⟩:=h;exact⟨b,e,zP.on hq l hn h1⟩
 |.big _,_,_,h=>h|.few _ _,_,_,h=>h|.elt ..,_,hn,h=>by unfold zB1 at hn;unfold zG at h ⊢;rw[hq _ hn]; exact h|.any,_,_,_=>by unfold zG; trivial
theorem zP.on{q:Key->Bool}{Y Y':Psi}(hq:∀k,q k=true->Y' k=Y k):∀(cs:List CV) {l:List Value},v7 q cs=true->zP Y cs l->zP Y' cs l
 | [],_,_,h=>h|c::cs,_,hn,h=>by unfold v7 at hn;rw[Bool.and_eq_true]at hn;unfold zP at h ⊢;obtain⟨v,r,e,h1,h2⟩:=h;exact⟨v,r,e,zG.on hq c hn.1 h1,zP.on hq cs hn.2 h2⟩
end
theorem zBV{q:Key->Bool}:∀{cs:List CV} {i:Nat} {c:CV},v7 q cs=true->cs[i]? = some c->zB1 q c=true
 | [],_,_,_,h=>by simp at h|x::cs,0,c,hn,h=>by unfold v7 at hn;rw[Bool.and_eq_true]at hn;simp at h; subst h; exact hn.1|x::cs,i+1,c,hn,h=>by unfold v7 at hn;rw[Bool.and_eq_true]at hn;exact zBV hn.2 (by simpa using h)
def zVB(q:Key->Bool):List CE->Bool
 | []=>true|e::r=>zB1 q e.key&&zB1 q e.val&&zVB q r
def zWu(q:Key->Bool):CObj->Bool
 |.cells vs=>v7 q vs|.ro vs=>v7 q vs|.full _ vs=>v7 q vs|.map es _=>zVB q es|_=>false
theorem zI3{q:Key->Bool}{Y Y':Psi}(hq:∀k,q k=true->Y' k=Y k){ck:Nat->Nat}:∀{es:List CE} {l:List MapEntry},zVB q es=true->yI Y ck es l->yI Y' ck es l
 | [],_,_,h=>h|c::cs,_,hn,⟨e,r,h1,⟨h2,h3,h4⟩,h5⟩=>by unfold zVB at hn;rw[Bool.and_eq_true,Bool.and_eq_true]at hn;exact⟨e,r,h1,⟨zG.on hq _ hn.1.1 h2,zG.on hq _ hn.1.2 h3,h4⟩,zI3 hq hn.2 h5⟩
theorem zWo{q:Key->Bool}{Y Y':Psi}(hq:∀k,q k=true->Y' k=Y k){w:World}{p:Pl}:∀{o:CObj},zWu q o=true->xQ Y w p o->xQ Y' w p o
 |.cells _,hn,⟨a,e,f,h1,h2,h3,h4,h5⟩=>⟨a,e,f,h1,h2,h3,h4,λi c hc=>let ⟨x,g1,g2⟩:=h5 i c hc; ⟨x,g1,zG.on hq _ (zBV hn hc) g2⟩⟩
 |.ro _,hn,⟨a,e,f,h1,h2,h5⟩=>⟨a,e,f,h1,h2,λi c hc=>let ⟨x,g1,g2⟩:=h5 i c hc; ⟨x,g1,zG.on hq _ (zBV hn hc) g2⟩⟩
 |.map _ _,hn,⟨a,h1,⟨l,h2,h3⟩,h4⟩=>⟨a,h1,⟨l,h2,zI3 hq hn h3⟩,h4⟩
 |.full _ _,hn,⟨a,e,f,h1,h2,h3,h4,h5⟩=>⟨a,e,f,h1,h2,h3,h4,λi c hc=>let ⟨x,g1,g2⟩:=h5 i c hc; ⟨x,g1,zG.on hq _ (zBV hn hc) g2⟩⟩
 |.striter _ _,hn,_=>by cases hn|.mapz _,hn,_=>by cases hn|.seen _,hn,_=>by cases hn|.hid,hn,_=>by cases hn|.bag _,hn,_=>by cases hn|.mapiter ..,hn,_=>by cases hn
end
def zFD(j k0:Key)(m:Nat)(Y:Psi):Psi:=λk=>bif Nat.ble m k.ix then none else bif Nat.beq k.ix k0.ix then Y j else Y k
def zB0(k0:Key)(m:Nat)(k:Key):Bool:=Nat.ble (Nat.succ k.ix) m && !(Nat.beq k.ix k0.ix)
theorem zTz{j k0:Key}{m:Nat}{Y:Psi}{k:Key}(h:zB0 k0 m k=true):zFD j k0 m Y k=Y k:=by
 unfold zB0 at h;rw[Bool.and_eq_true]at h;have h1:=@zH noSym _ _ h.1;have h2:Nat.beq k.ix k0.ix=false:=by simpa using h.2
 unfold zFD
 have:Nat.ble m k.ix=false:=by
  cases e:Nat.ble m k.ix with
  |false=>rfl|true=>
   have:=@zH noSym _ _ e
   omega
 rw[this,h2]; rfl
theorem zVz{j k0:Key}{m:Nat}{Y:Psi}(h:k0.ix<m):zFD j k0 m Y k0=Y j:=by
 unfold zFD
 have:Nat.ble m k0.ix=false:=by
  cases e:Nat.ble m k0.ix with
  |false=>rfl|true=>
   have:=@zH noSym _ _ e
   omega
 rw[this,@qw noSym]; rfl
theorem zQ7{j k0:Key}{m:Nat}{Y:Psi}{k:Key}(h:m<=k.ix):zFD j k0 m Y k=none:=by unfold zFD;rw[Nat.ble_eq_true_of_le h]; rfl
def zED(l:List (Key × Key)):zC:=l.foldr (λp m=>yy (some (.cells [.ptr p.2 0])) p.1 m) .nil
theorem zHt{k b:Key}:∀{l:List (Key × Key)},zl (zED l) k=some b->(k,b)∈l
 | [],h=>by unfold zl at h;rw[show zED []=(.nil:zC)from rfl,jG]at h;cases h|p::l,h=>by
  unfold zl at h;rw[show zED (p::l)=yy (some (.cells [.ptr p.2 0])) p.1 (zED l)from rfl,ke]at h;split at h
  . rename_i h1;split at h1
    . rename_i e;injection h1 with h1; injection h1 with h1; injection h1 with h1 _; injection h1 with h1 _;injection h with h;subst e h h1;exact List.mem_cons_self
    . rename_i e;exact List.mem_cons_of_mem _ (zHt (by unfold zl; rw[h1]; exact h))
  . cases h
def zCM(j k0:Key)(m:Nat):List (Key × Key)->Bool
 | []=>true|p::l=>((Nat.beq p.1.ix k0.ix&&Nat.beq p.2.ix j.ix) || (Nat.beq p.1.ix p.2.ix&&zB0 k0 m p.1))&&zCM j k0 m l
theorem zA7{j k0:Key}{m:Nat}:∀{l:List (Key × Key)},zCM j k0 m l=true->∀p∈l,(p.1=k0/\p.2=j)\/(p.1=p.2/\zB0 k0 m p.1=true)
 | [],_,p,hp=>by cases hp|x::l,h,p,hp=>by
  unfold zCM at h;rw[Bool.and_eq_true]at h;rcases List.mem_cons.1 hp with rfl |hp
  . rw[Bool.or_eq_true,Bool.and_eq_true,Bool.and_eq_true]at h;rcases h.1 with⟨h1,h2⟩ |⟨h1,h2⟩
    . exact .inl ⟨@Key.ix_inj noSym _ _ (@ze noSym _ _ h1),@Key.ix_inj noSym _ _ (@ze noSym _ _ h2)⟩
    . exact .inr ⟨@Key.ix_inj noSym _ _ (@ze noSym _ _ h1),h2⟩
  . exact zA7 h.2 p hp
def zNe(bd:List (Int × Int))(U:zC)(I:TH)(h:zC):List (Key × CObj)->Bool
 | []=>true|q::r=>(match zl U q.1 with
  |some b=>match zb b h,q.2 with
   |some (.cells d),.cells a=>zAn bd U I a d|_,_=>false
  |none=>false)&&zNe bd U I h r
theorem zIn{bd:List (Int × Int)}{U:zC}{I:TH}{h:zC}:∀{l:List (Key × CObj)},zNe bd U I h l=true->∀q∈l,∃b a d,zl U q.1=some b/\zb b h=some (.cells d)/\q.2=.cells a/\zAn bd U I a d=true
 | [],_,q,hq=>by cases hq|x::r,hc,q,hq=>by
  unfold zNe at hc;rw[Bool.and_eq_true]at hc;rcases List.mem_cons.1 hq with rfl |hq
  . have h1:=hc.1;split at h1
    . rename_i b hb;split at h1
      . rename_i d a hd ha;exact⟨b,a,d,hb,hd,ha,h1⟩
      . cases h1
    . cases h1
  . exact zIn hc.2 q hq
def zNw(U:zC)(I:TH)(tm:Tm):List (Nat × CV)->Bool
 | []=>true|q::r=>yH U I q.2 (qC (Loc.ofNat q.1) tm)&&zNw U I tm r
theorem zIK{U:zC}{I:TH}{tm:Tm}:∀{l:List (Nat × CV)},zNw U I tm l=true->∀q∈l,yH U I q.2 (qC (Loc.ofNat q.1) tm)=true
 | [],_,q,hq=>by cases hq|x::r,hc,q,hq=>by
  unfold zNw at hc;rw[Bool.and_eq_true]at hc;rcases List.mem_cons.1 hq with rfl |hq
  . exact hc.1
  . exact zIK hc.2 q hq
structure zJZ(X:zC)(k0:Key)(m:Nat):Prop where
 key:∀k o,zb k X=some o->zB0 k0 m k=true/\zWu (zB0 k0 m) o=true
section
variable{P:Program}{fn:Func}{c b:Code}{p:List Stp}{G:Nat}{w0:World}{F N:Nat}
theorem zVm{J:Nat->Int}{K:zU}{X:zC}{L2 l:List (Nat × CV)}{O2 o:List (Key × CObj)}{n2 n j k0:Key}{prs:List (Key × Key)}{I:TH}
 (hd:HdX P F N fn c b p w0 J K X L2 O2 n2) (hX:zJZ X k0 n2.ix) (hG:P.globals.size<=G) (hG1:G<=n2.ix) (hG2:G<=k0.ix) (hk0:k0.ix<n2.ix) (hj:j=k0\/n2.ix<=j.ix)
 (hap:∀q∈o,zb q.1 X=none) (hprs:zCM j k0 n2.ix prs=true) (hI:qO J J I) (hL:zNw (zED prs) I (wd l) L2=true) {bd:List (Int × Int)} (hbd:zk J 0 bd) (hO:zNe bd (zED prs) I (mkH .nil o) O2=true):HdX P F N fn c b p w0 J K X l o n:=by
 intro Y a w hst hb ho
 letI S:Sym:=linSym J K
 have hR:Rel Y (zC.fam (mkH X o)) w:=hst.rel;have hlow:∀k,zB0 k0 n2.ix k=true->zFD j k0 n2.ix Y k=Y k:=λk h=>zTz h;have hrho:∀k b,zl (zED prs) k=some b->zFD j k0 n2.ix Y k=Y b:=by
  intro k b h;rcases zA7 hprs _ (zHt h)with⟨h1,h2⟩ |⟨h1,h2⟩
  . simp only at h1 h2;rw[h1,h2]; exact zVz hk0
  . simp only at h1 h2;rw[hlow k h2,h1]
 have hPs:zAW (zED prs) Y (zFD j k0 n2.ix Y):=by
  intro k j' q h1 h2;unfold wS at h1;split at h1
  . rename_i b hb';have e:b=j':=Key.ix_inj (@ze noSym _ _ h1);subst e;exact⟨q,by rw[hrho k b hb']; exact h2,rfl,rfl,rfl⟩
  . cases h1
 have hup:∀k q,zb k (mkH .nil o)=some q->zC.fam (mkH X o) k=some q:=λk q h=>zLk h;have hXin:∀k q,zb k X=some q->zC.fam (mkH X o) k=some q:=λk q h=>by
  show zb k (mkH X o)=some q;rw[zCZ λx hx e=>?_]
  . exact h
  . have:=hap x hx
    rw[e,h]at this; cases this
 have src:∀k q,zC.fam (mkH X O2) k=some q->(∃b a d,zl (zED prs) k=some b/\zb b (mkH .nil o)=some (.cells d)/\q=.cells a/\zAn bd (zED prs) I a d=true)\/zb k X=some q:=by
  intro k q h;rcases qE (show zb k (mkH X O2)=some q from h)with⟨i,hi⟩ |h
  . exact .inl (zIn hO _ (List.mem_of_getElem? hi))
  . exact .inr h
 have zFC:∀k q,zC.fam (mkH X O2) k=some q->∃b q',zC.fam (mkH X o) b=some q'/\zFD j k0 n2.ix Y k=Y b/\(q.isRo=false->q'.isRo=false)/\((k=k0/\b=j)\/(k=b/\zB0 k0 n2.ix k=true)):=by
  intro k q h;rcases src k q h with⟨b,a,d,h1,h2,rfl,_⟩ |h
  . refine⟨b,_,hup _ _ h2,hrho k b h1,λ_=>rfl,?_⟩;exact zA7 hprs _ (zHt h1)
  . have hk:=(hX.key k q h).1;exact⟨k,q,hXin k q h,hlow k hk,λh=>h,.inr ⟨rfl,hk⟩⟩
 refine hd (zFD j k0 n2.ix Y) a w ⟨⟨hst.frame.size,λt h1 h2 h3=>?_⟩,hst.dfr,⟨?_,?_,?_⟩,?_,λk hk=>zQ7 hk⟩ hb ?_
 . rcases uq t (locs:=L2)with e |⟨q,hq,e1,e2⟩
   . rw[e]; exact xo
   . rw[e2];have h4:=hst.frame.tmp t h1 h2 h3;have h5:=zIK hL q hq;rw[e1]at h5;exact @qP J J K K I (zED prs) Y (zFD j k0 n2.ix Y) hI hPs q.2 _ _ h5 h4
 . intro k q pl h1 h2;rcases src k q h1 with⟨b,a,d,g1,g2,rfl,g3⟩ |h
   . rw[hrho k b g1]at h2;exact zIa hbd hI hPs g3 (p:=pl) (p':=pl) rfl rfl rfl (hR.on b _ pl (hup _ _ g2) h2)
   . obtain⟨hk,hn⟩:=hX.key k q h;rw[hlow k hk]at h2;exact zWo hlow hn (hR.on k q pl (hXin k q h) h2)
 . intro k q h;obtain⟨b,q',g1,g2,_⟩:=zFC k q h;obtain⟨pl,hpl⟩:=hR.tot b q' g1;exact⟨pl,by rw[g2]; exact hpl⟩
 . intro k1 k2 o1 o2 p1 p2 h1 h2 h3 h4 hor e;obtain⟨b1,q1,a1,a2,a3,a4⟩:=zFC k1 o1 h1;obtain⟨b2,q2,c1,c2,c3,c4⟩:=zFC k2 o2 h2;rw[a2]at h3;rw[c2]at h4;have hbb:=hR.inj b1 b2 q1 q2 p1 p2 a1 c1 h3 h4 (hor.imp a3 c3) e;subst hbb;have low:∀k,zB0 k0 n2.ix k=true->k.ix<n2.ix/\k≠k0:=by intro k h;unfold zB0 at h;rw[Bool.and_eq_true]at h;refine⟨@zH noSym _ _ h.1,λe=>?_⟩;rw[e]at h;simp at h
   rcases a4 with⟨e1,e2⟩ |⟨e1,e2⟩ <;> rcases c4 with⟨e3,e4⟩ |⟨e3,e4⟩
   . rw[e1,e3]
   . exfalso
     have:=low k2 e4
     rw[e3,e2]at this;rcases hj with hj |hj
     . exact this.2 hj
     . omega
   . exfalso
     have:=low k1 e2
     rw[e1,e4]at this;rcases hj with hj |hj
     . exact this.2 hj
     . omega
   . rw[e1,e3]
 . intro g h1 h2;obtain⟨sz,e⟩:=hst.glob g h1 h2;refine⟨sz,?_⟩;have hix:(Key.ofNat g).ix=g:=@Key.ix_ofNat noSym _ (by omega);rw[hlow (Key.ofNat g) ?_]
   . exact e
   . unfold zB0;rw[hix,Bool.and_eq_true];refine⟨Nat.ble_eq_true_of_le (by omega),?_⟩;cases e':Nat.beq g k0.ix with
     |false=>rfl|true=>
      have:=@ze noSym _ _ e'
      omega
 . intro k q pl h1 h2 h3;obtain⟨b,q',g1,g2,g3,_⟩:=zFC k q h1;rw[g2]at h3;exact ho b q' pl g1 (g3 h2) h3
end
theorem zJ9{X h:zC}:∀{l:List (Nat × CV)} {o:List (Key × CObj)},(∀k:List (Key × CObj)->Bool,rdO .nil h l k=k o)->(∀q∈o,zb q.1 X=none)->∀k:List (Key × CObj)->Bool,rdO X h l k=k o
 | [],o,h1,_,k=>h1 k|p::r,o,h1,h2,k=>by
  unfold rdO at h1 ⊢;split
  . rename_i e;simp only[e]at h1;exact zJ9 h1 h2 k
  . rename_i j e;simp only[e]at h1;split
    . rename_i e2;simp only[e2]at h1;exact zJ9 h1 h2 k
    . rename_i o1 e2;simp only[e2]at h1;have h3:∀k:List (Key × CObj)->Bool,rdO .nil h r (λl=>k ((j,o1)::l))=k o:=by
       intro k
       have:=h1 k
       rw[zHI,jG]at this;exact this
      rcases zDJ (X:=.nil) (h:=h) (l:=r)with h4 |⟨o',h4⟩
      . have:=h3 λ_=>true
        rw[h4]at this; cases this
      . have ho:o=(j,o1)::o':=by
         classical
         have:=h3 λx=>decide (x=(j,o1)::o')
         rw[h4]at this;simpa using this.symm
        subst ho;rw[zHI,h2 (j,o1) (by simp)];show rdO X h r (λl=>k ((j,o1)::l))=_;exact zJ9 h4 (λq hq=>h2 q (by simp[hq])) _
theorem zWe{X:zC}{locs:List (Nat × CV)}{r:R}{k' k:List (Nat × CV)->List (Key × CObj)->Key->Bool}(h:zE1 .nil locs r k'=true)(hk:∀l o n,k' l o n=true->(∀q∈o,zb q.1 X=none)/\k l o n=true):zE1 X locs r k=true:=by
 unfold zE1 at h ⊢;split at h
 . rename_i tm hh n;rw[Bool.and_eq_true,zKs]at h;rw[zKs,Bool.and_eq_true];refine⟨h.1,?_⟩;rcases zDJ (X:=.nil) (h:=hh) (l:=locs.map λp=>(p.1,qC (Loc.ofNat p.1) tm))with h4 |⟨o,h4⟩
   . rw[h4]at h; cases h.2
   . rw[h4,wj]at h;obtain⟨h5,h6⟩:=hk _ _ _ h.2;rw[zJ9 h4 h5,wj];exact h6
 . cases h
theorem zJY{X:zC}{locs:List (Nat × CV)}{k' k:List (Nat × CV)->List (Key × CObj)->Key->Bool}(hk:∀l o n,k' l o n=true->(∀q∈o,zb q.1 X=none)/\k l o n=true):∀{r:R},uj .nil locs r k'=true->uj X locs r k=true
 |.fork a b,h=>by unfold uj at h ⊢;rw[Bool.and_eq_true]at h ⊢;exact⟨zJY hk h.1,zJY hk h.2⟩|.ok ..,h=>zWe h hk|.ret ..,h=>by cases h|.err _,h=>by cases h
def vz:LTree->Bool
 |.leaf=>true|.cmpb _ _ a b=>vz a&&vz b|.ne _ _ a b=>vz a&&vz b|.subs _ _ _ t=>vz t|_=>false
theorem j8{ks:List (Key × Kd)}{wins:List Win}{W:World}{i:Int}{J:Nat->Int}:∀(t:LTree) (e:Lf) {ls:List Lf},vz t=true->leaves ks t e=some ls->wz wins W i J e->∃e'∈ls,wz wins W i J e'
 |.leaf,e,ls,_,h,he=>by injection h with h; subst h;exact⟨e,by simp,he⟩
 |.cmpb v cut a b,e,ls,hk,h,he=>by
  have hk:(vz a&&vz b)=true:=hk;rw[Bool.and_eq_true]at hk;unfold leaves at h;split at h
  . cases h
  . rename_i q hq;obtain⟨x,y,hx,hy,rfl⟩:=xy h;obtain⟨g1,g2⟩:=wv he hq;have hv:evL J [(v,1)]=J v:=by show 1*J v+0=_; omega
    rw[hv]at g1 g2;by_cases hc:J v<cut
    . have hx:=jH hx (by omega);obtain⟨e',m,r1⟩:=j8 a _ hk.1 hx ⟨xd he.b (by rw[Nat.zero_add]; exact g1) (by rw[Nat.zero_add]; omega),he.f,he.r,he.w⟩;exact⟨e',List.mem_append_left _ m,r1⟩
    . have hy:=jH hy (by omega);obtain⟨e',m,r1⟩:=j8 b _ hk.2 hy ⟨xd he.b (by rw[Nat.zero_add]; omega) (by rw[Nat.zero_add]; exact g2),he.f,he.r,he.w⟩;exact⟨e',List.mem_append_right _ m,r1⟩
 |.ne c l a b,e,ls,hk,h,he=>by
  have hk:(vz a&&vz b)=true:=hk;rw[Bool.and_eq_true]at hk;unfold leaves at h;obtain⟨x,y,hx,hy,rfl⟩:=xy h;by_cases hc:c+evL J l=0
  . obtain⟨e',m,r1⟩:=j8 a _ hk.1 hx ⟨he.b,⟨⟨by simp only; omega,by simp only; omega⟩,he.f⟩,he.r,he.w⟩;exact⟨e',List.mem_append_left _ m,r1⟩
  . obtain⟨e',m,r1⟩:=j8 b _ hk.2 hy ⟨he.b,he.f,⟨zEQ hc,he.r⟩,he.w⟩;exact⟨e',List.mem_append_right _ m,r1⟩
 |.subs n ys ss t,e,ls,hk,h,he=>by
  have hk:vz t=true:=hk;unfold leaves at h;split at h
  . rename_i k hc;obtain⟨hg,h⟩:=yM h;have hs:=zEw hg he.r;have hcnt:=zKa he hc;have hcs:(ss.map J).count (Int.ofNat n)=k:=by rw[<- hcnt,hs];exact((List.mergeSort_perm (ss.map J) λa b=>decide (a<=b)).count_eq _).symm
    exact zBo (b0:=e.b.length) (u0:=e.u) (C:=λe'=>wz wins W i J e') (λe1 ls1 q1 _ _ q4=>j8 t e1 hk q4 q1) he rfl rfl hcs h
  . cases h
 |.cmp ..,_,_,h,_,_=>by cases h|.and ..,_,_,h,_,_=>by cases h|.rem ..,_,_,h,_,_=>by cases h|.remn ..,_,_,h,_,_=>by cases h|.bit ..,_,_,h,_,_=>by cases h|.shr ..,_,_,h,_,_=>by cases h|.mask ..,_,_,h,_,_=>by cases h|.join ..,_,_,h,_,_=>by cases h|.cellI ..,_,_,h,_,_=>by cases h|.cellB ..,_,_,h,_,_=>by cases h|.pin ..,_,_,h,_,_=>by cases h|.shrb ..,_,_,h,_,_=>by cases h|.dec ..,_,_,h,_,_=>by cases h|.fre ..,_,_,h,_,_=>by cases h|.innl ..,_,_,h,_,_=>by cases h|.isin ..,_,_,h,_,_=>by cases h|.maskz ..,_,_,h,_,_=>by cases h|.remv ..,_,_,h,_,_=>by cases h|.nar ..,_,_,h,_,_=>by cases h|.w3 ..,_,_,h,_,_=>by cases h|.max1 ..,_,_,h,_,_=>by cases h|.eqm ..,_,_,h,_,_=>by cases h|.srtv ..,_,_,h,_,_=>by cases h|.rows ..,_,_,h,_,_=>by cases h|.wcells ..,_,_,h,_,_=>by cases h
def zLK:Nat->Nat->TH
 |_,0=>[]
 |i,n+1=>(0,[(i,1)])::zLK (Nat.succ i) n
theorem zNd{J:Nat->Int}:∀{n i j:Nat} {q:Int × LL},nth (zLK i n) j=some q->J (i+j)=q.1+evL J q.2
 | 0,_,j,_,h=>by cases j <;> cases h|n+1,i,0,q,h=>by
  injection h with h; subst h;show J i=0+(1*J i+0)
  omega
 |n+1,i,j+1,q,h=>by
  have:=zNd (J:=J) (n:=n) (i:=Nat.succ i) (j:=j) h
  rwa [show Nat.succ i+j=i+(j+1)from by omega]at this
theorem zFH{J:Nat->Int}{n:Nat}:qO J J (zLK 0 n):=λj q h=>by
 have:=zNd (J:=J) h
 rwa [Nat.zero_add]at this
def zUy(pl:Nat)(k0:Key):List (Nat × CV)->Key
 | []=>k0|q::r=>match Nat.beq q.1 pl with
  |true=>match q.2 with
   |.sl j ..=>j|_=>k0
  |false=>zUy pl k0 r
def zKu(k:Key):List (Key × CObj)->Bool
 | []=>false|q::r=>Nat.beq k.ix q.1.ix || zKu k r
def zMB(m:Nat)(T:List (Key × CObj)):List (Key × CObj)->Bool
 | []=>true|q::r=>(Nat.ble m q.1.ix || zKu q.1 T)&&zMB m T r
theorem zJa{k:Key}:∀{l:List (Key × CObj)},zKu k l=true->∃q∈l,q.1=k
 | [],h=>by cases h|x::r,h=>by
  unfold zKu at h;rw[Bool.or_eq_true]at h;rcases h with h |h
  . exact⟨x,List.mem_cons_self,(@Key.ix_inj noSym _ _ (@ze noSym _ _ h)).symm⟩
  . obtain⟨q,h1,h2⟩:=zJa h;exact⟨q,List.mem_cons_of_mem _ h1,h2⟩
theorem zMT{m:Nat}{T:List (Key × CObj)}:∀{l:List (Key × CObj)},zMB m T l=true->∀q∈l,m<=q.1.ix\/∃x∈T,x.1=q.1
 | [],_,q,hq=>by cases hq|x::r,h,q,hq=>by
  unfold zMB at h;rw[Bool.and_eq_true]at h;rcases List.mem_cons.1 hq with rfl |hq
  . rw[Bool.or_eq_true]at h;rcases h.1 with h |h
    . exact .inl (@zH noSym _ _ h)
    . exact .inr (zJa h)
  . exact zMT h.2 q hq
variable{code:FuncId->CFn}{nat:Nats}{fuel:Nat}{rs:List CRes}
def zSq(prs:List (Key × Key))(k0:Key)(pl:Nat)(K:zU)(T T':TS)(l:List (Nat × CV))(o:List (Key × CObj))(n:Key):Bool:=
 zK (zUy pl k0 l) λj=>zMB T.n.ix T.objs o&&(Nat.beq j.ix k0.ix || Nat.ble T'.n.ix j.ix)&&zCM j k0 T'.n.ix ((k0,j)::prs)&&zNw (zED ((k0,j)::prs)) (zLK 0 T'.b.length) (wd l) T'.locs&&zNe K.b (zED ((k0,j)::prs)) (zLK 0 T'.b.length) (mkH .nil o) T'.objs &&
  zRH K T'.b (zLK 0 T'.b.length)&&zQ1 K (zLK 0 T'.b.length) T'.f&&ui (zLK 0 T'.b.length) K T'.r
def zLj(P:Program)(code:FuncId->CFn)(nat:Nats)(fuel:Nat)(p:List Stp)(cc:CCode)(prs:List (Key × Key))(k0:Key)(pl:Nat)(s:Nat->Int)(A:Key->Option Value)(T T':TS)(e:Lf):Bool:=
 uj .nil T.locs (@zq (linSym s (e.known A)) P (@ev (linSym s (e.known A)) P code nat fuel) (uc p cc) (wd T.locs) [] (mkH .nil T.objs) T.n) (zSq prs k0 pl (e.known A) T T')
section
variable{P:Program}{fn:Func}{c b:Code}{p:List Stp}{G:Nat}{w0:World}{F N:Nat}{code:FuncId->CFn}{nat:Nats}{fuel:Nat}
theorem zRz(hm:P.follows .mixedOrders=true)(hcode:CodeOk P code)(hnat:∀J K,KnownOk J K->@NatsOk (linSym J K) P nat)(hsub:subC p c=some b)(hn:zt c=true){J:Nat->Int}{A:Key->Option Value}{wins:List Win}{W:World}{i:Int}
 {X:zC} {T T':TS} {e:Lf} {prs:List (Key × Key)} {k0:Key} {pl:Nat} (hG:P.globals.size<=G) (hG1:G<=T'.n.ix) (hG2:G<=k0.ix) (hk0:k0.ix<T'.n.ix) (hnn:T.n=T'.n) (hX:zJZ X k0 T'.n.ix)
 (hap:∀q∈T.objs,zb q.1 X=none) (he:wz wins W i J e) (h:zLj P code nat fuel p (zS P F N c) prs k0 pl J A T T' e=true)
 (hd:zk J 0 T'.b->xI J T'.f->yV J T'.r->∀K:zU,K.arg=A->HdX P F N fn c b p w0 J K X T'.locs T'.objs T'.n):HdX P F N fn c b p w0 J (e.known A) X T.locs T.objs T.n:=by
 have hK:=he.known A;have hlow:∀k,T'.n.ix<=k.ix->zb k X=none:=by
  intro k hk;cases hx:zb k X with
  |none=>rfl|some o=>
   have h1:=(hX.key k o hx).1;unfold zB0 at h1;rw[Bool.and_eq_true]at h1
   have:=@zH noSym _ _ h1.1
   omega
 have hold:∀o:List (Key × CObj),zMB T.n.ix T.objs o=true->∀q∈o,zb q.1 X=none:=by
  intro o ho q hq;rcases zMT ho q hq with h1 |⟨x,h1,h2⟩
  . exact hlow _ (by rw[<- hnn]; exact h1)
  . rw[<- h2]; exact hap x h1
 have h0:=zJY (X:=X) (k':=zSq prs k0 pl (e.known A) T T') (k:=zSq prs k0 pl (e.known A) T T') (λl o n hk=>by refine⟨?_,hk⟩;unfold zSq at hk;rw[wj]at hk;simp only[Bool.and_eq_true]at hk;exact hold o hk.1.1.1.1.1.1.1) h
 exact zR8 hm hcode hnat hsub hn hK hap h0 λl o n' hk ho=>by
  unfold zSq at hk;rw[wj]at hk;simp only[Bool.and_eq_true,Bool.or_eq_true]at hk;obtain⟨⟨⟨⟨⟨⟨⟨a1,a2⟩,a3⟩,a4⟩,a5⟩,a6⟩,a7⟩,a8⟩:=hk;have hb:=(zLi hK (JT:=J) a6 (λj q hq=>by
   have:=zFH (J:=J) j q hq
   rw[Nat.zero_add]; exact this)).2
  have hf:=zKS hK (zFH (J:=J)) a7;have hr:=zBw hK (zFH (J:=J)) a8;refine zVm (hd hb hf hr (e.known A) rfl) hX hG hG1 hG2 hk0 ?_ ho a3 zFH a4 (bd:=(e.known A).b) he.b a5;rcases a2 with a2 |a2
  . exact .inl (@Key.ix_inj noSym _ _ (@ze noSym _ _ a2))
  . exact .inr (@zH noSym _ _ a2)
theorem zUV{Ts:Nat->TS}{M:Nat}{x6:(Nat->Int)->Prop}{nT k0:Key}{pl:Nat}{prs:List (Key × Key)}(hm:P.follows .mixedOrders=true)(hcode:CodeOk P code)(hnat:∀J K,KnownOk J K->@NatsOk (linSym J K) P nat)(hsub:subC p c=some b)(hn:zt c=true)
 {A:Key->Option Value} {X:zC} (hG:P.globals.size<=G) (hG1:G<=nT.ix) (hG2:G<=k0.ix) (hk0:k0.ix<nT.ix) (hX:zJZ X k0 nT.ix) {ok:List (Key × CObj)->Bool} (hap:∀o,ok o=true->∀q∈o,zb q.1 X=none)
 (hts:∀i,i<=M->(Ts i).n=nT/\ok (Ts i).objs=true)
 (hexit:∀(J:Nat->Int),x6 J->zk J 0 (Ts M).b->xI J (Ts M).f->yV J (Ts M).r->∀K:zU,K.arg=A->HdX P F N fn c b p w0 J K X (Ts M).locs (Ts M).objs (Ts M).n)
 (hpass:∀i,i<M->∃tree ls,vz tree=true/\leaves [] tree ⟨(Ts i).b,(Ts i).f,(Ts i).r,[],1000⟩=some ls/\∀e∈ls,∃t,i<t/\t<=M/\∀s,zLj P code nat fuel p (zS P F N c) prs k0 pl s A (Ts i) (Ts t) e=true) :
 ∀(d i:Nat),M - i<=d->i<=M->∀(J:Nat->Int),x6 J->zk J 0 (Ts i).b->xI J (Ts i).f->yV J (Ts i).r->∀K:zU,K.arg=A->HdX P F N fn c b p w0 J K X (Ts i).locs (Ts i).objs (Ts i).n:=by
 intro d;induction d with
 |zero=>
  intro i hd hi J hg hb hf hr K hK;have e:i=M:=by omega
  subst e;exact hexit J hg hb hf hr K hK
 |succ d ih=>
  intro i hd hi J hg hb hf hr K hK;by_cases e:i=M
  . subst e;exact hexit J hg hb hf hr K hK
  . obtain⟨tree,ls,h1,h2,h3⟩:=hpass i (by omega);obtain⟨e',he',hl⟩:=j8 (ks:=[]) (wins:=[]) (W:=w0) (i:=J 0) tree _ h1 h2 ⟨hb,hf,hr,λq hq=>by cases hq⟩;obtain⟨t,g1,g2,g3⟩:=h3 e' he';have n1:=hts i hi;have n2:=hts t g2;refine zUH (K':=e'.known A) (by rw[hK]; rfl) (zRz (k0:=k0) (pl:=pl) (prs:=prs) hm hcode hnat hsub hn hG (by rw[n2.1]; exact hG1) hG2 (by rw[n2.1]; exact hk0) (by rw[n1.1,n2.1]) (by rw[n2.1]; exact hX) (hap _ n1.2) hl (g3 J) ?_);intro hb' hf' hr' K' hK';exact ih t (by omega) g2 J hg hb' hf' hr' K' hK'
theorem zKF{X:zC}{d:List (Key × CObj)}:∀{a:List (Key × CObj)},mkH X (a++d)=mkH (mkH X d) a
 | []=>rfl|q::r=>by show yy (some q.2) q.1 (mkH X (r++d))=yy (some q.2) q.1 (mkH (mkH X d) r);rw[zKF]
theorem zTb{A:Key->Option Value}{Ts:List TS}{wins:List Win}{L:List (Key × Nat)}(hsub:subC p c=some b)
 (h:∀t T,nth Ts t=some T->∃sm X,T.objs=sm++X/\∀J,zk J 0 T.b->xI J T.f->yV J T.r->∀K:zU,K.arg=A->HdX P F N fn c b p w0 J K (mkH .nil X) T.locs sm T.n):LoopOk P F N G A wins L w0 fn c Ts p:=by
 intro t T J Y a w b' hsub' hT hi;rw[hsub]at hsub';injection hsub' with hsub';subst hsub';obtain⟨sm,X,e,hd⟩:=h t T hT;have hst:=hi.st J ⟨[],[],[],A⟩ (λ_ _=>rfl) rfl;rw[e,zKF]at hst;exact hd J hi.bnd hi.fct hi.rul ⟨[],[],[],A⟩ rfl Y a w hst hi.blw λk o q h1 h2 h3=>(hi.own k o q (by rw[e,zKF]; exact h1) h3).2
end
end
end Go.Ev
namespace Go.Ev
noncomputable section
def wkB:List (Int × Int)->List (Int × Int)->Bool
 |_,[]=>true| [],_::_=>false|x::a,y::b=>decide (y.1<=x.1)&&decide (x.2<=y.2)&&wkB a b
theorem zOi{J:Nat->Int}:∀{a b:List (Int × Int)} {k:Nat},wkB a b=true->zk J k a->zk J k b
 |a,[],_,_,_=>by cases a <;> trivial| [],_::_,_,h,_=>by cases h|x::a,y::b,k,h,hb=>by unfold wkB at h;simp only[Bool.and_eq_true,decide_eq_true_eq]at h;exact⟨⟨Int.le_trans h.1.1 hb.1.1,Int.le_trans hb.1.2 h.1.2⟩,zOi h.2 hb.2⟩
theorem zBe{J:Nat->Int}:∀{a b:List (LL × Int × Int)},xI J (a++b)->xI J a/\xI J b
 | [],_,h=>⟨trivial,h⟩
 |_::_,_,h=>⟨⟨h.1,(zBe h.2).1⟩,(zBe h.2).2⟩
theorem zBj{J:Nat->Int}:∀{a b:List SRule},yV J (a++b)->yV J a/\yV J b
 | [],_,h=>⟨trivial,h⟩
 |_::_,_,h=>⟨⟨h.1,(zBj h.2).1⟩,(zBj h.2).2⟩
def restB(k0:Key)(m:Nat):List (Key × CObj)->Bool
 | []=>true|q::r=>zB0 k0 m q.1&&zWu (zB0 k0 m) q.2&&restB k0 m r
theorem zJv{k0:Key}{m:Nat}:∀{l:List (Key × CObj)},restB k0 m l=true->∀q∈l,zB0 k0 m q.1=true/\zWu (zB0 k0 m) q.2=true
 | [],_,q,hq=>by cases hq|x::r,h,q,hq=>by
  unfold restB at h;simp only[Bool.and_eq_true]at h;rcases List.mem_cons.1 hq with rfl |hq
  . exact h.1
  . exact zJv h.2 q hq
theorem zS5{k0:Key}{m:Nat}{l:List (Key × CObj)}(h:restB k0 m l=true):zJZ (mkH .nil l) k0 m:=
 ⟨λk o hk=>zJv h (k,o) (zH5 hk)⟩
def noKeys(X:zC):List Key->Bool
 | []=>true|k::r=>zDP (zb k X)&&noKeys X r
def zMj(k:Key):List Key->Bool
 | []=>false|x::r=>Nat.beq k.ix x.ix || zMj k r
def okS(ks:List Key):List (Key × CObj)->Bool
 | []=>true|q::r=>zMj q.1 ks&&okS ks r
theorem zJL{X:zC}{k:Key}:∀{ks:List Key},noKeys X ks=true->zMj k ks=true->zb k X=none
 | [],_,h=>by cases h|x::r,h,hk=>by
  unfold noKeys at h;unfold zMj at hk;rw[Bool.and_eq_true]at h;rw[Bool.or_eq_true]at hk;rcases hk with hk |hk
  . have e:=@Key.ix_inj noSym _ _ (@ze noSym _ _ hk);rw[e];have h1:=h.1;unfold zDP at h1;split at h1
    . assumption
    . cases h1
  . exact zJL h.2 hk
theorem zQG{ks:List Key}:∀{o:List (Key × CObj)},okS ks o=true->∀q∈o,zMj q.1 ks=true
 | [],_,q,hq=>by cases hq|x::r,h,q,hq=>by
  unfold okS at h;rw[Bool.and_eq_true]at h;rcases List.mem_cons.1 hq with rfl |hq
  . exact h.1
  . exact zQG h.2 q hq
def zVg(f:Lf->Nat->Bool):List Lf->List Nat->Bool
 | [],[]=>true|e::ls,t::ts=>wF e (λe=>f e t)&&zVg f ls ts|_,_=>false
theorem zGj{f:Lf->Nat->Bool}:∀{ls:List Lf} {ts:List Nat},zVg f ls ts=true->∀{j:Nat} {e:Lf},ls[j]? = some e->∃t,ts[j]? = some t/\f e t=true
 | [],[],_,j,e,h=>by simp at h| [],_::_,h,_,_,_=>by cases h|_::_,[],h,_,_,_=>by cases h|x::ls,t::ts,h,j,e,hj=>by
  unfold zVg at h;rw[Bool.and_eq_true,qL]at h;cases j with
  |zero=>simp at hj;subst hj;exact⟨t,rfl,h.1⟩|succ j=>exact zGj h.2 (by simpa using hj)
def rndQ(P:Program)(code:FuncId->CFn)(nat:Nats)(fuel:Nat)(p:List Stp)(cc:CCode)(prs:List (Key × Key))(k0:Key)(pl:Nat)(Ts:Nat->TS)(M:Nat)(tree:LTree)(ts:List Nat)(s:Nat->Int)(A:Key->Option Value)(i:Nat):Bool:=
 vz tree&&zMQ (Ts i) λT=>match leaves [] tree ⟨T.b,T.f,T.r,[],1000⟩with
  |some ls=>zVg (λe t=>Nat.ble (Nat.succ i) t&&Nat.ble t M&&zMQ (Ts t) λT'=>zLj P code nat fuel p cc prs k0 pl s A T T' e) ls ts|none=>false
theorem zVL{P:Program}{code:FuncId->CFn}{nat:Nats}{fuel:Nat}{p:List Stp}{cc:CCode}{prs:List (Key × Key)}{k0:Key}{pl:Nat}{Ts:Nat->TS}{M:Nat}{tree:LTree}{ts:List Nat}{A:Key->Option Value}{i:Nat}(h:∀s,rndQ P code nat fuel p cc prs k0 pl Ts M tree ts s A i=true) :
 ∃tree ls,vz tree=true/\leaves [] tree ⟨(Ts i).b,(Ts i).f,(Ts i).r,[],1000⟩=some ls/\∀e∈ls,∃t,i<t/\t<=M/\∀s,zLj P code nat fuel p cc prs k0 pl s A (Ts i) (Ts t) e=true:=by
 have h0:=h λ_=>0;unfold rndQ at h0;rw[Bool.and_eq_true,wy]at h0;obtain⟨h1,h2⟩:=h0;split at h2
 . rename_i ls hls;refine⟨tree,ls,h1,hls,λe he=>?_⟩;obtain⟨j,hj,hje⟩:=List.mem_iff_getElem.1 he;have hj':ls[j]? = some e:=by rw[List.getElem?_eq_getElem hj,hje]
   obtain⟨t,ht,hf⟩:=zGj h2 hj';rw[Bool.and_eq_true,Bool.and_eq_true]at hf;refine⟨t,@zH noSym _ _ hf.1.1,@zH noSym _ _ hf.1.2,λs=>?_⟩;have h3:=h s;unfold rndQ at h3;rw[Bool.and_eq_true,wy]at h3;have h4:=h3.2;simp only[hls]at h4;obtain⟨t',ht',hf'⟩:=zGj h4 hj';rw[ht]at ht';injection ht' with ht';subst ht';rw[Bool.and_eq_true,wy]at hf';exact hf'.2
 . cases h2
section
variable{P:Program}{fn:Func}{c b:Code}{p:List Stp}{G:Nat}{w0:World}{F N:Nat}{code:FuncId->CFn}{nat:Nats}{natE:Nat->Nats}{fuel:Nat}{rs:List CRes}
theorem zVH{Ts:Nat->TS}{M:Nat}{nT k0:Key}{pl:Nat}{prs:List (Key × Key)}{ks:List Key}(hm:P.follows .mixedOrders=true)(hcode:CodeOk P code)(hnat:∀J K,KnownOk J K->@NatsOk (linSym J K) P nat)(hnE:∀x J K,KnownOk J K->@NatsOk (linSym J K) P (natE x))(hsub:subC p c=some b)(hn:zt c=true)
 (hrs:xH (xc P F N) fn.results.toList=some rs) (hG:P.globals.size<=G) (hk:(Nat.ble G nT.ix&&Nat.ble G k0.ix&&Nat.ble (Nat.succ k0.ix) nT.ix)=true)
 (hts:∀i,i<=M->(Ts i).n=nT/\okS ks (Ts i).objs=true) {tr:Nat->LTree} {tsF:Nat->List Nat} (hr:∀i,i<M->∀s A,rndQ P code nat fuel p (zS P F N c) prs k0 pl Ts M (tr i) (tsF i) s A i=true)
 {T:TS} {X:List (Key × CObj)} {e:Lf} {wt:WT} (hT:T=⟨(Ts 0).locs,(Ts 0).objs++X,(Ts 0).n,T.b,(Ts 0).f++e.f,(Ts 0).r++e.r,[]⟩)
 (hq:(wkB T.b (Ts 0).b&&wkB T.b e.b&&restB k0 nT.ix X&&noKeys (mkH .nil X) ks)=true) (hx:∀s A,goW P code nat natE fuel p (zS P F N c) rs (mkH .nil X) s A wt e (Ts M).locs (Ts M).objs (Ts M).n=true) (A:Key->Option Value) :
 ∃sm X',T.objs=sm++X'/\∀J,zk J 0 T.b->xI J T.f->yV J T.r->∀K:zU,K.arg=A->HdX P F N fn c b p w0 J K (mkH .nil X') T.locs sm T.n:=by
 simp only[Bool.and_eq_true]at hq hk;obtain⟨⟨⟨q1,q2⟩,q3⟩,q4⟩:=hq;have g1:=@zH noSym _ _ hk.1.1;have g2:=@zH noSym _ _ hk.1.2;have g3:=@zH noSym _ _ hk.2;have hap:∀o,okS ks o=true->∀q∈o,zb q.1 (mkH .nil X)=none:=λo ho q hq=>zJL q4 (zQG ho q hq);refine⟨(Ts 0).objs,X,by rw[hT],λJ hb hf hr' K hK=>?_⟩;have hb0:=zOi q1 hb;have hb1:=zOi q2 hb;rw[hT]at hf hr';obtain⟨f0,f1⟩:=zBe hf;obtain⟨r0,r1⟩:=zBj hr';have key:=zUV (P:=P) (fn:=fn) (c:=c) (b:=b) (p:=p) (G:=G) (w0:=w0) (F:=F) (N:=N) (code:=code) (nat:=nat) (fuel:=fuel) (Ts:=Ts) (M:=M) (x6:=λJ=>zk J 0 e.b/\xI J e.f/\yV J e.r) (nT:=nT) (k0:=k0) (pl:=pl) (prs:=prs) hm hcode hnat hsub hn (A:=A) (X:=mkH .nil X) hG g1 g2 (by omega) (zS5 q3) (ok:=okS ks) hap hts
  (λJ hg _ _ _ K hK=>zUH (K':=e.known A) (by rw[hK]; rfl) (zCz hm hcode hnat hnE hsub hn hrs wt e _ _ _ hg.1 hg.2.1 hg.2.2 (hap _ (hts M (Nat.le_refl _)).2) (hx J A)))
  (λi hi=>zVL λs=>hr i hi s A) M 0 (by omega) (Nat.zero_le _) J ⟨hb1,f1,r1⟩ hb0 f0 r0 K hK
 rw[hT];exact key
def HeadGood(P:Program)(code:FuncId->CFn)(nat:Nats)(natE:Nat->Nats)(fuel:Nat)(p:List Stp)(cc:CCode)(rs:List CRes)(prs:List (Key × Key))(k0 nT:Key)(pl:Nat)(ks:List Key)(T:TS):Prop:=
 ∃(Ts:Nat->TS) (M:Nat) (X:List (Key × CObj)) (e:Lf) (wt:WT) (tr:Nat->LTree) (tsF:Nat->List Nat),
  T=⟨(Ts 0).locs,(Ts 0).objs++X,(Ts 0).n,T.b,(Ts 0).f++e.f,(Ts 0).r++e.r,[]⟩ /\
  (wkB T.b (Ts 0).b&&wkB T.b e.b&&restB k0 nT.ix X&&noKeys (mkH .nil X) ks)=true /\
  (∀i,i<=M->(Ts i).n=nT/\okS ks (Ts i).objs=true) /\
  (∀i,i<M->∀s A,rndQ P code nat fuel p cc prs k0 pl Ts M (tr i) (tsF i) s A i=true) /\
  ∀s A,goW P code nat natE fuel p cc rs (mkH .nil X) s A wt e (Ts M).locs (Ts M).objs (Ts M).n=true
theorem loopOk_R{cc:CCode}{f:FuncId}{A:Key->Option Value}{wins:List Win}{L:List (Key × Nat)}{nT k0:Key}{pl:Nat}{prs:List (Key × Key)}{ks:List Key}{Tl:List TS}(hm:P.follows .mixedOrders=true)(hcode:CodeOk P code)(hnat:∀J K,KnownOk J K->@NatsOk (linSym J K) P nat)(hnE:∀x J K,KnownOk J K->@NatsOk (linSym J K) P (natE x))
 (hf:P.funcs[f]? = some fn) (hb:fn.body=some c) (hcf:compFn P f=.mk cc rs) (hsub:∃b,subC p c=some b) (hG:P.globals.size<=G) (hk:(Nat.ble G nT.ix&&Nat.ble G k0.ix&&Nat.ble (Nat.succ k0.ix) nT.ix)=true)
 (h:AllS (HeadGood P code nat natE fuel p cc rs prs k0 nT pl ks) Tl):LoopOk P (frameBits fn c) fn.ntmps G A wins L w0 fn c Tl p:=by
 obtain⟨hrs,hnr,rfl⟩:=compFn_inv hf hb hcf;obtain⟨b,hsub⟩:=hsub;refine zTb hsub λt T hT=>?_;obtain⟨Ts,M,X,e,wt,tr,tsF,h1,h2,h3,h4,h5⟩:=zDY h hT;exact zVH hm hcode hnat hnE hsub hnr hrs hG hk h3 h4 h1 h2 h5 A
end
end
end Go.Ev
