/- A verified evaluator for the model's code: EvN, EvO, EvP, EvQ, EvR, EvS, EvT. -/
import Derived.Test.YtkolecenifiaaaaGreatDoorEv3
import Derived.Laws.MakeOwn
import Derived.MapKept
import Derived.Laws.RangeString
import Derived.Laws.NewFold
import Derived.Laws.AppendOwn
set_option linter.unusedSectionVars false
set_option linter.unusedVariables false
set_option linter.unusedSimpArgs false
namespace Go.Ev
variable[Sym]
noncomputable section
variable{P:Program}{Y:Psi}{es:List CV}{tm:Tm}{h:zC}{n:Key}{U:Operand->Value}{E:Env}{ty:TypeId}{w:World}
variable[SymFact P]
theorem zL9{t:TypeId}{z:CV}(h:vJ P t=some z):∃i v,P.info? t=some i/\i.zero=some v/\∀Y,zG Y z v:=by
 unfold vJ at h;cases hi:P.info? t with
 |none=>rw[hi]at h; cases h|some i=>
  rw[hi]at h;simp only[Option.bind_some]at h;cases hz:i.zero with
  |none=>rw[hz]at h; cases h|some v=>rw[hz]at h;exact⟨i,v,rfl,hz,λY=>kc 20 h⟩
theorem jF{t:TypeId}{z:List CV}(h:ji P t=some z):∃i v,P.info? t=some i/\i.zero=some v/\∀Y,zP Y z v.cells.toList:=by
 unfold ji at h;cases hz:vJ P t with
 |none=>rw[hz]at h; cases h|some c=>rw[hz]at h;obtain⟨i,v,h1,h2,h3⟩:=zL9 hz;exact⟨i,v,h1,h2,λY=>ux (h3 Y) h⟩
theorem zEW{t:TypeId}{i:TypeInfo}{s:Nat}(hi:P.info? t=some i)(hs:qR P t=some s):i.size=s:=by unfold qR at hs; rw[hi]at hs; injection hs
theorem zAt{t:TypeId}{i:TypeInfo}{s:Nat}(hi:P.info? t=some i)(hs:zAD P t=some s):i.bytes=s:=by unfold zAD at hs; rw[hi]at hs; injection hs
theorem zDm{z:List CV}{zs:Array Value}{s:Nat}(hz:zP Y z zs.toList)(hl:z.length=s+1)(c:Nat):zP Y (wW z c) (madeCells zs (c*(s+1))).toList:=by
 have hsz:zs.size=s+1:=by have:=hz.length; simpa [hl]using this
 refine qS.2 ⟨by rw[zE4,hl]; simp[madeCells],λi x v hx hv=>?_⟩;have hi:i<c*z.length:=by
  rcases Nat.lt_or_ge i (wW z c).length with h |h
  . rwa [zE4]at h
  . rw[List.getElem?_eq_none h]at hx; cases hx
 rw[zTd c hi]at hx;obtain⟨u,hu,hr⟩:=hz.get hx;have hm:i % z.length<zs.size:=by rw[hsz,hl]; exact Nat.mod_lt _ (by omega)
 have hv':(madeCells zs (c*(s+1)))[i]? = some v:=by simpa using hv
 unfold madeCells at hv';rw[Array.getElem?_map,Array.getElem?_range,if_pos (by rw[<- hl]; exact hi)]at hv';simp only[Option.map_some]at hv';injection hv' with hv';rw[hl,<- hsz]at hu;have hu:zs[i % zs.size]? = some u:=by simpa using hu
 rw[getElem!_def,hu]at hv';simp only at hv';subst hv'; exact hr
theorem zIe(t:TypeId)(l c:Operand)(ha:yG P Y es tm E U [l,c]):zD P Y h n U (.makeSlice t l c) ty w (yX P (zj P E (.makeSlice t l c)) es tm h n):=by
 rw[zj];unfold und;split
 . rename_i e ht;split
   . rename_i s z b hs hz hb;split
     . rename_i hzl;have hzl:=ze hzl;refine xK (C:=zD P Y h n U (.makeSlice t l c) ty w) zA λcl cc hcl hcc=>?_;have hl:=ha l (by simp) cl hcl;have hc:=ha c (by simp) cc hcc;refine yf (C:=zD P Y h n U (.makeSlice t l c) ty w) _ _ _ (zA _) λi hi=>?_;refine yf (C:=zD P Y h n U (.makeSlice t l c) ty w) _ _ _ (zA _) λj hj=>?_;refine zJ (C:=zD P Y h n U (.makeSlice t l c) ty w) _ _ _ (zA _) λhok=>?_;rw[zw,zw];rw[Bool.and_eq_true,Bool.and_eq_true]at hok;have g1:=zH hok.1.1;have g2:j*(s+1)<=100000:=zH hok.1.2;have g3:b*j<=1000000:=zH hok.2;obtain⟨k1,hl⟩:=zAv hl hi;obtain⟨k2,hc⟩:=zAv hc hj;obtain⟨ti,zv,e1,e2,e3⟩:=jF hz;have hsz:=zEW e1 hs;have hby:=zAt e1 hb;have hj':j<=100000:=Nat.le_trans (Nat.le_mul_of_pos_right _ (by omega)) g2;have hrun:=run_make (P:=P) w t e ti zv ht e1 e2 k1 k2 (Int.ofNat i) (Int.ofNat j) (by simp) (by simpa using g1)
        (by rw[hby]; have:((b*j:Nat):Int)<=281474976710656:=by omega
            rwa [Int.natCast_mul]at this) (by simp; omega)
       refine⟨_,.slice (some ⟨w.heap.size,0,none⟩) i j,j*(s+1),zR ?_,jY _ (.cells (madeCells zv.cells (j*(s+1))) e),λY' _ hn=>⟨?_,?_⟩,by simp[zG0,madeCells]⟩
       . simp only[execOp,Sem.run_bind,hl,hc,hrun,hsz,Result.andThen_ok]; rfl
       . exact yJ.2 ⟨_,0,j,hn,rfl,Nat.le_refl _,g1,λ_=>rfl,.inl ⟨rfl,by simp⟩⟩
       . have:=zAf (Y':=Y') w (madeCells zv.cells (j*(s+1))) e (zDm (e3 Y') hzl j)
         rwa [size_madeCells]at this
     . exact zA _
   . exact zA _
 . exact zA _
theorem zNt(xs:List Value):∀(off k:Nat) (cs:Array Value),off+k+xs.length<=cs.size ->
 (xs.zipIdx k |>.foldl (λcs (p:Value × Nat)=>cs.setIfInBounds (off+p.2) p.1) cs).size=cs.size /\
 ∀i,(xs.zipIdx k |>.foldl (λcs (p:Value × Nat)=>cs.setIfInBounds (off+p.2) p.1) cs)[i]? =
  if off+k<=i/\i<off+k+xs.length then xs[i - (off+k)]? else cs[i]?:=by
 induction xs with
 |nil=>intro off k cs _;refine⟨rfl,λi=>?_⟩;rw[if_neg (by simp)];rfl
 |cons x xs ih=>
  intro off k cs hle;simp only[List.length_cons]at hle;rw[List.zipIdx_cons,List.foldl_cons];obtain⟨h1,h2⟩:=ih off (k+1) (cs.setIfInBounds (off+k) x) (by simp; omega);refine⟨by rw[h1]; simp,λi=>?_⟩;rw[h2 i,Array.getElem?_setIfInBounds];by_cases e:off+k=i
  . subst e;rw[if_neg (by omega),if_pos rfl,if_pos (by omega),if_pos (by simp)];simp
  . rw[if_neg e];by_cases hi:off+(k+1)<=i/\i<off+(k+1)+xs.length
    . rw[if_pos hi,if_pos (by simp; omega)]
      have:i - (off+k)=(i - (off+(k+1)))+1:=by omega
      rw[this]; simp
    . rw[if_neg hi,if_neg (by simp; omega)]
theorem zTC{cs xs r:List CV}{vs us:Array Value}{off s:Nat}(hc:zP Y cs vs.toList)(hx:zP Y xs us.toList)(ho:jv xs s cs off=some r) :
 us.size=s/\off+us.size<=vs.size/\zP Y r (us.zipIdx.foldl (λcs (p:Value × Nat)=>cs.setIfInBounds (off+p.2) p.1) vs).toList:=by
 obtain⟨h1,h2,h3,h4⟩:=zAx ho;have hus:us.size=s:=by have:=hx.length; simpa [h1]using this
 have hvs:vs.size=cs.length:=by have:=hc.length; simpa using this
 have hle:off+us.size<=vs.size:=by rw[hus,hvs]; exact h2
 refine⟨hus,hle,?_⟩;have hf:us.zipIdx.foldl (λcs (p:Value × Nat)=>cs.setIfInBounds (off+p.2) p.1) vs =
  (us.toList.zipIdx 0).foldl (λcs (p:Value × Nat)=>cs.setIfInBounds (off+p.2) p.1) vs:=by
  rw[<- Array.foldl_toList,Array.toList_zipIdx]
 obtain⟨g1,g2⟩:=zNt us.toList off 0 vs (by simpa using hle);rw[hf];refine qS.2 ⟨by rw[Array.length_toList,g1,hvs,h3],λi c v hci hvi=>?_⟩;rw[Array.getElem?_toList,g2 i]at hvi;rw[Nat.add_zero]at hvi;by_cases hi:off<=i/\i<off+us.size
 . rw[if_pos (by simpa using hi)]at hvi;obtain⟨k,rfl⟩:∃k,i=off+k:=⟨i - off,by omega⟩
   rw[h4.1 k (by omega)]at hci;rw[Nat.add_sub_cancel_left]at hvi;exact(qS.1 hx).2 k c v hci hvi
 . rw[if_neg (by simpa using hi)]at hvi;rw[h4.2 i (by omega)]at hci;exact(qS.1 hc).2 i c v hci (by simpa using hvi)
theorem zCT(place:Nat->Option (Nat × Nat)):∀{ps:List (Nat × Operand)} {l:List zKf} {cs r:List CV} {vs:Array Value},yG P Y es tm E U (ps.map (·.2)) ->
 uX P E place ps=some l->zP Y cs vs.toList->zBx es tm l cs=some r ->
 ∃us,Instr.fill place vs (ps.map λp=>(p.1,U p.2))=some us/\zP Y r us.toList
 | [],l,cs,r,vs,_,hp,hc,hf=>by injection hp with hp; subst hp;injection hf with hf; subst hf;exact⟨vs,rfl,hc⟩
 |(i,x)::ps,l,cs,r,vs,ha,hp,hc,hf=>by
  unfold uX xH at hp;cases h1:place i with
  |none=>simp only[h1]at hp; cases hp|some os=>
   obtain⟨o,s⟩:=os;cases h2:zn P E x with
   |none=>simp only[h1,h2]at hp; cases hp|some c=>
    simp only[h1,h2]at hp;split at hp
    . cases hp
    . rename_i q hq;injection hp with hp; subst hp;have hf':Option.rec (motive:=λ_=>Option (List CV)) none (zBx es tm q) (zDR s o cs (cellsOf (aV es tm c)))=some r:=hf;cases h3:cellsOf (aV es tm c)with
      |none=>rw[h3]at hf'; cases hf'|some xs=>
       rw[h3]at hf';have hf':Option.rec (motive:=λ_=>Option (List CV)) none (zBx es tm q) (jv xs s cs o)=some r:=hf';cases h4:jv xs s cs o with
       |none=>rw[h4]at hf'; cases hf'|some cs'=>
        rw[h4]at hf';have hx:=ux (ha x (by simp) c h2) h3;obtain⟨g1,g2,g3⟩:=zTC hc hx h4;obtain⟨us,g4,g5⟩:=zCT place (ha.sub λy hy=>by simp at hy ⊢; exact .inr hy) hq g3 hf';refine⟨us,?_,g5⟩;rw[List.map_cons,Instr.fill];simp only[h1];rw[if_neg]
        . exact g4
        . simp[g1]; omega
theorem zGm:∀{fl:List Field},jz P fl=true->∀w:World,(fl.mapM λ(f:Field)=>(do pure (f.offset,<- sizeOf f.type):Sem (Nat × Nat))).run P w =
 .ok (fl.map λf=>(f.offset,(qR P f.type).getD 0)) w
 | [],_,w=>rfl|f::fl,hk,w=>by unfold jz at hk;rw[Bool.and_eq_true]at hk;obtain⟨s,hs⟩:=Option.isSome_iff_exists.1 hk.1;have ih:=zGm hk.2 w;simp only[List.mapM_cons,Sem.run_bind,yl hs,Result.andThen_ok,Sem.run_pure,ih,List.map_cons,hs,Option.getD_some]
theorem zIU:∀{fl:List Field} {f:Field},jz P fl=true->f∈fl->(qR P f.type).isSome=true
 |g::r,f,hk,hm=>by
  unfold jz at hk;rw[Bool.and_eq_true]at hk;rcases List.mem_cons.1 hm with rfl |hm
  . exact hk.1
  . exact zIU hk.2 hm
theorem zQ2(t:TypeId)(ps:Array (Nat × Operand))(ha:yG P Y es tm E U (ps.toList.map (·.2))):zD P Y h n U (.build t ps) ty w (yX P (zj P E (.build t ps)) es tm h n):=by
 rw[zj];unfold und;split
 . rename_i z fs hz ht;split
   . rename_i hkn;split
     . rename_i l hl;refine vC (C:=zD P Y h n U (.build t ps) ty w) _ _ (zA _) λr hr=>?_;obtain⟨ti,zv,e1,e2,e3⟩:=jF hz;obtain⟨us,h1,h2⟩:=zCT _ ha hl (e3 Y) hr;refine⟨.agg us,zR ?_,yx.2 ⟨_,rfl,h2⟩⟩;have hpl:=zGm (P:=P) hkn w;have hfun:((fs.toList.map λf=>(f.offset,(qR P f.type).getD 0)).toArray[·]? : Nat->Option (Nat × Nat))=zBp P fs.toList:=by
        funext i
        unfold zBp;rw[nth_eq];simp only[List.getElem?_toArray,List.getElem?_map];cases hf:fs.toList[i]? with
        |none=>rfl|some f=>
         simp only[Option.map_some]
         have:=zIU hkn (List.mem_of_getElem? hf)
         obtain⟨s,hs⟩:=Option.isSome_iff_exists.1 this;rw[hs]; rfl
       have hmap:(fs.mapM λ(f:Field)=>(do pure (f.offset,<- sizeOf f.type):Sem (Nat × Nat))).run P w=.ok (fs.toList.map λf=>(f.offset,(qR P f.type).getD 0)).toArray w:=by rw[Array.mapM_eq_mapM_toList];rw[Sem.run_map,hpl]; rfl
       simp only[execOp,Instr.build,Sem.run_bind,Sem.run_map,zeroValue,jb e1,e2,Result.andThen_ok,Sem.run_pure,run_underlying ht,hmap];rw[hfun,Array.toList_map];rw[h1];rfl
     . exact zA _
   . exact zA _
 . rename_i z len e hz ht;split
   . exact zA _
   . rename_i s hs;split
     . rename_i l hl;refine vC (C:=zD P Y h n U (.build t ps) ty w) _ _ (zA _) λr hr=>?_;obtain⟨ti,zv,e1,e2,e3⟩:=jF hz;obtain⟨us,h1,h2⟩:=zCT _ ha hl (e3 Y) hr;refine⟨.agg us,zR ?_,yx.2 ⟨_,rfl,h2⟩⟩;simp only[execOp,Instr.build,Sem.run_bind,zeroValue,jb e1,e2,Result.andThen_ok,Sem.run_pure,run_underlying ht,yl hs];rw[Array.toList_map];rw[h1];rfl
     . exact zA _
 . exact zA _
theorem zH4(t:TypeId)(len:Nat)(ps:Array (Nat × Operand))(ha:yG P Y es tm E U (ps.toList.map (·.2))) :
 zD P Y h n U (.buildSlice t len ps) ty w (yX P (zj P E (.buildSlice t len ps)) es tm h n):=by
 rw[zj];unfold und;split
 . rename_i e ht;split
   . rename_i s z hs hz;split
     . rename_i hok;rw[Bool.and_eq_true]at hok;have g1:len*(s+1)<=100000:=zH hok.1;have g2:=ze hok.2;split
       . rename_i l hl;refine yb (C:=zD P Y h n U (.buildSlice t len ps) ty w) _ _ _ (zA _) λr hr=>?_;obtain⟨ti,zv,e1,e2,e3⟩:=jF hz;obtain⟨us,h1,h2⟩:=zCT _ ha hl (zDm (e3 Y) g2 len) hr;have hrun:(execOp U (qM (.buildSlice t len ps) ty)).run P w=.ok (.value (.slice (some ⟨w.heap.size,0,none⟩) len len)) { w with heap:=w.heap.push (.cells us e) }:=by
          have hlim:¬(len*(s+1) > 2 ^ 24):=by omega
          by_cases h0:len*(s+1)=0
          . have hm:madeCells zv.cells (len*(s+1))=(Array.range (len*(s+1))).map ((#[]:Array Value)[· % (#[]:Array Value).size]!):=by rw[h0]; unfold madeCells; simp[Array.range_zero']
            rw[hm]at h1;simp only[execOp,Instr.buildSlice,Sem.run_bind,run_underlying ht,yl hs,Result.andThen_ok,if_neg hlim,if_pos h0,Sem.run_pure,Array.toList_map,h1,newRow,run_newObj]
          . have hm:madeCells zv.cells (len*(s+1))=(Array.range (len*(s+1))).map (zv.cells[· % zv.cells.size]!):=rfl;rw[hm]at h1;simp only[execOp,Instr.buildSlice,Sem.run_bind,run_underlying ht,yl hs,Result.andThen_ok,if_neg hlim,if_neg h0,Sem.run_pure,Array.toList_map,h1,newRow,run_newObj,zeroValue,jb e1,e2]
         refine⟨_,_,us.size,zR hrun,jY _ (.cells us e),λY' hle hn=>⟨?_,?_⟩,by simp[zG0]⟩
         . exact yJ.2 ⟨_,0,len,hn,rfl,Nat.le_refl _,Nat.le_refl _,λ_=>rfl,.inl ⟨rfl,by simp⟩⟩
         . cases(Nat.beq len 1&&Nat.beq (s+1) 6)with
           |false=>exact zAf w us e (h2.mono hle)|true=>exact zUd w us e (h2.mono hle)
       . exact zA _
     . exact zA _
   . exact zA _
 . exact zA _
theorem zK1{ok:Bool}{v:CV}{x:Value}(h:zG Y v x):zG Y (okV ok v) (if ok then .tuple #[x,.bool true]else x):=by
 cases ok with
 |false=>exact h|true=>exact yU.2 ⟨_,rfl,zW.2 ⟨h,zW.2 ⟨zL.2 rfl,zM.2 rfl⟩⟩⟩
theorem zG3(x:Operand)(xt t:TypeId)(ok:Bool)(ha:yG P Y es tm E U [x]) :
 zD P Y h n U (.typeAssert x xt t ok) ty w (yX P (zj P E (.typeAssert x xt t ok)) es tm h n):=by
 have no:∀{s d:Option TypeId} {m:String},(∀w,(execOp U (qM (.typeAssert x xt t ok) ty)).run P w=((do
  if ok then pure (.tuple #[<- zeroValue t,.bool false])else runtimePanic (.typeAssertion s d t m):Sem Value).run P w).andThen λv w=>.ok (.value v) w) ->
  zD P Y h n U (.typeAssert x xt t ok) ty w (noV ok (vJ P t)):=by
  intro s d m hr;unfold noV;split
  . rename_i z hz;obtain⟨v,h1,h2⟩:=zCw hz;refine⟨.tuple #[v,.bool false],zR ?_,yU.2 ⟨_,rfl,zW.2 ⟨h2 Y,zW.2 ⟨zL.2 rfl,zM.2 rfl⟩⟩⟩⟩;rw[hr]; simp[h1]
  . exact zA _
 rw[zj];unfold und;split
 . rename_i want ht;refine zu (C:=zD P Y h n U (.typeAssert x xt t ok) ty w) zA λc hc=>?_;have hx:=ha x (by simp) c hc;refine qF (C:=zD P Y h n U (.typeAssert x xt t ok) ty w) _ _ _ _ (zA _) (λhv=>?_) λd v hv=>?_
   . rw[hv,yu]at hx;refine no (s:=none) (d:=none) (m := "") λw=>?_;simp[execOp,Instr.typeAssert,hx,run_underlying ht]
   . rw[hv,yr]at hx;obtain⟨y,hx,hr⟩:=hx;have hx0:zG Y (.iface d v) (U x):=yr.2 ⟨y,hx,hr⟩;unfold zUr und;rw[ht];cases hi:P.info? d with
     |none=>exact zA _|some ti=>
      simp only;cases hm:Instr.missingMethod want ti.methods with
      |none=>refine⟨_,zR ?_,zK1 hx0⟩;rw[hx];simp[execOp,Instr.typeAssert,hx,run_underlying ht,jb hi,hm]|some m=>refine no (s:=none) (d:=some d) (m:=m) λw=>?_;simp[execOp,Instr.typeAssert,hx,run_underlying ht,jb hi,hm]
 . rename_i D hD ht;refine zu (C:=zD P Y h n U (.typeAssert x xt t ok) ty w) zA λc hc=>?_;have hx:=ha x (by simp) c hc;refine qF (C:=zD P Y h n U (.typeAssert x xt t ok) ty w) _ _ _ _ (zA _) (λhv=>?_) λd v hv=>?_
   . rw[hv,yu]at hx;refine no (s:=some xt) (d:=none) (m := "") λw=>?_;cases D <;> first |exact absurd rfl (hD _) |simp[execOp,Instr.typeAssert,hx,run_underlying ht]
   . rw[hv,yr]at hx;obtain⟨y,hx,hr⟩:=hx;rw[jx];by_cases e:d=t
     . subst e;rw[qw,if_pos rfl];refine⟨_,zR ?_,zK1 hr⟩;cases D <;> first |exact absurd rfl (hD _) |simp[execOp,Instr.typeAssert,hx,run_underlying ht]
     . rw[vG e,if_neg (by simp)];refine no (s:=some xt) (d:=some d) (m := "") λw=>?_;cases D <;> first |exact absurd rfl (hD _) |simp[execOp,Instr.typeAssert,hx,run_underlying ht,e]
 . exact zA _
end
end Go.Ev
namespace Go.Ev
variable[Sym]
open Go.MapKept
noncomputable section
variable{ck:Nat->Nat}{P:Program}{Y:Psi}{es:List CV}{tm:Tm}{h:zC}{n:Key}{U:Operand->Value}{E:Env}{ty:TypeId}{w:World}
variable[SymFact P]
theorem zEJ(P:Program)[SymFact P]{a b:CV}{u v:Value}{r:Bool}{kd:IntKind}(w:World)(ha:zG Y a u)(hb:zG Y b v)(hr:zAT a b=some r):Instr.sameNow (.int kd) u v=some r/\(r=true->u=v):=by
 unfold zAT at hr;split at hr
 . rename_i l r1 r2 hc he1 he2;injection hr with hr; subst hr;obtain⟨k,m,rfl,_⟩:=(SymFact.ok (P:=P)).2 _ _ _ hc Y u ha;obtain⟨_,z1,hz1,c1,hc1,hr1⟩:=(SymFact.ok (P:=P)).1 _ _ _ _ he1 Y 0 _ v w ha hb;obtain⟨_,z2,hz2,c2,hc2,hr2⟩:=(SymFact.ok (P:=P)).1 _ _ _ _ he2 Y 0 _ v w ha hb;obtain rfl:c1=.bool r1:=by simpa using hc1
   obtain rfl:c2=.bool r2:=by simpa using hc2
   rw[zL.1 hr1]at hz1;rw[zL.1 hr2]at hz2;cases v with
   |int j n=>
    by_cases ej:k=j
    . subst ej;have hz1:decide (m<=n)=r1:=by simpa [binOp,Op.intCmp]using hz1
      have hz2:decide (n<=m)=r2:=by simpa [binOp,Op.intCmp]using hz2
      have hz:(m == n)=(r1&&r2):=by rw[<- hz1,<- hz2,Bool.eq_iff_iff,Bool.and_eq_true,decide_eq_true_eq,decide_eq_true_eq,beq_iff_eq];omega
      refine⟨?_,λh=>?_⟩
      . show(if k=k then some (m == n)else none)=some (r1&&r2);rw[if_pos rfl,hz]
      . rw[h]at hz
        have:m=n:=by simpa using hz
        rw[this]
    . simp[binOp,ej]at hz1
   |_=>simp[binOp]at hz1
 . cases hr
theorem zCE(P:Program)[SymFact P]{a b:CV}{u v:Value}{r:Bool}(hu:∃s,u=.string s)(hv:∃s,v=.string s)(ha:zG Y a u)(hb:zG Y b v)(hr:zHL a b=some r):Instr.sameNow .string u v=some r/\(r=true->u=v):=by
 unfold zHL at hr;split at hr
 . rename_i r1 he;injection hr with hr; subst hr;obtain⟨s,rfl⟩:=hu;obtain⟨q,rfl⟩:=hv;obtain⟨_,z,hz,c,hc,hr1⟩:=(SymFact.ok (P:=P)).1 _ _ _ _ he Y 0 _ _ default ha hb;obtain rfl:c=.bool r1:=by simpa using hc
   rw[zL.1 hr1]at hz;obtain⟨z',h1,h2⟩:=ul (P:=P) (Y:=Y) (op:=.eql) (a:=s) (b:=q) 0 default rfl;rw[h1]at hz;injection hz with hz _;rw[hz]at h2;have h2:=zL.1 h2;injection h2 with h2;subst h2;rw[qX,<- beq_toListBytes];exact⟨rfl,λh=>by rw[bytes_beq]at h; rw[h]⟩
 . cases hr
theorem zM0{kk:kW}{a b:CV}{u v:Value}{r:Bool}{d:TypeDesc}{kt:TypeId}(hk:xr P kt=some kk)(hd:P.underlying kt=some d)(ha:zG Y a u)(hb:zG Y b v)
 (hr:kJ kk a b=some r) (hn:∀n,kk≠.ints n):Instr.sameNow d u v=some r/\(r=true->u=v):=by
 unfold xr und at hk;rw[hd]at hk;have hint:∀{j k:IntKind} {x y:Int} {kd:IntKind},Instr.sameNow (.int kd) (.int j x) (.int k y)=(if j=k then some (x == y)else none):=by intros; rfl
 unfold kJ at hr;split at hr
 . exact absurd rfl (hn _)
 . -- nat nat
   rename_i x y;split at hk <;> first |cases hk |(split at hk <;> first |cases hk |(split at hk <;> cases hk)) |skip
   rename_i kd e;injection e with e; subst e;rw[zT]at ha hb;subst ha hb;injection hr with hr;rw[hint,if_pos rfl]
   have:=@Nat.beq_eq x y
   subst hr;cases hb:Nat.beq x y
   . rw[hb]at this; simp at this; refine⟨?_,by simp⟩; congr 1; simp; omega
   . rw[hb]at this; simp at this; subst this; simp
 . rename_i j x k y;split at hr
   . rename_i hjk;rw[yj]at hjk;have hjk:j=k:=by simpa using hjk
     subst hjk;split at hk <;> first |cases hk |(split at hk <;> first |cases hk |(split at hk <;> cases hk)) |skip
     rename_i kd e;injection e with e; subst e;rw[zf]at ha hb;subst ha hb;injection hr with hr;rw[hint,if_pos rfl];rw[zX]at hr;subst hr;refine⟨rfl,λh=>by simp at h; rw[h]⟩
   . cases hr
 . rename_i x y;split at hk <;> first |cases hk |(split at hk <;> first |cases hk |(split at hk <;> cases hk)) |skip
   rename_i e;injection e with e; subst e;rw[zg]at ha hb;obtain⟨p,rfl,rfl⟩:=ha;obtain⟨q,rfl,rfl⟩:=hb;injection hr with hr;rw[qX,<- beq_toListBytes]at hr;subst hr;exact⟨rfl,λh=>by rw[bytes_beq]at h; rw[h]⟩
 . rename_i x y;split at hk <;> first |cases hk |(split at hk <;> first |cases hk |(split at hk <;> cases hk)) |skip
   rename_i e;injection e with e; subst e;rw[zL]at ha hb;subst ha hb;injection hr with hr;subst hr;exact⟨rfl,λh=>by simp at h; rw[h]⟩
 . split at hk <;> first |cases hk |(split at hk <;> first |cases hk |(split at hk <;> cases hk)) |skip
   rename_i kd e;injection e with e; subst e;exact zEJ P default ha hb hr
 . split at hk <;> first |cases hk |(split at hk <;> first |cases hk |(split at hk <;> cases hk)) |skip
   rename_i kd e;injection e with e; subst e;exact zEJ P default ha hb hr
 . split at hk <;> first |cases hk |(split at hk <;> first |cases hk |(split at hk <;> cases hk)) |skip
   rename_i kd e;injection e with e; subst e;exact zEJ P default ha hb hr
 . split at hk <;> first |cases hk |(split at hk <;> first |cases hk |(split at hk <;> cases hk)) |skip
   rename_i e;injection e with e; subst e;exact zCE P (by obtain⟨s,h,_⟩:=ya.1 ha; exact⟨s,h⟩) (by obtain⟨s,h,_⟩:=ya.1 hb; exact⟨s,h⟩) ha hb hr
 . split at hk <;> first |cases hk |(split at hk <;> first |cases hk |(split at hk <;> cases hk)) |skip
   rename_i e;injection e with e; subst e;exact zCE P (by obtain⟨s,h,_⟩:=ya.1 ha; exact⟨s,h⟩) (by obtain⟨s,h,_⟩:=zg.1 hb; exact⟨s,h⟩) ha hb hr
 . split at hk <;> first |cases hk |(split at hk <;> first |cases hk |(split at hk <;> cases hk)) |skip
   rename_i e;injection e with e; subst e;exact zCE P (by obtain⟨s,h,_⟩:=zg.1 ha; exact⟨s,h⟩) (by obtain⟨s,h,_⟩:=ya.1 hb; exact⟨s,h⟩) ha hb hr
 . cases hr
theorem zHo(dd:Nat)(w:World){us vs:Array Value}:∀(fs:List Field) (i:Nat) {a b:List CV} {r:Bool},zHF P fs i=true->zP Y a (us.toList.drop i)->zP Y b (vs.toList.drop i) ->
 zEp a b fs.length=some r->(Op.eqFields (dd+1) us vs fs).run P w=.ok r w/\(r=true->us.toList.drop i=vs.toList.drop i)
 | [],i,a,b,r,_,ha,hb,hr=>by
  unfold zEp at hr;split at hr
  . injection hr with hr; subst hr;rw[zM]at ha hb;exact⟨rfl,λ_=>by rw[ha,hb]⟩
  . rename_i e; cases e
  . cases hr
 |f::fs,i,a,b,r,hk,ha,hb,hr=>by
  unfold zEp at hr;split at hr
  . rename_i e; cases e
  . rename_i x a y b n e;obtain rfl:fs.length=n:=by simpa using e
    unfold zHF und at hk;simp only[Bool.and_eq_true,Bool.not_eq_true']at hk;obtain⟨⟨⟨hname,hoff⟩,hty⟩,hrest⟩:=hk;have hname:f.name ≠ "_":=by simpa using hname
    have hoff:f.offset=i:=by simpa using hoff
    split at hty
    . rename_i k ht;rw[za]at ha hb;obtain⟨u,ur,hu,hxu,hau⟩:=ha;obtain⟨v,vr,hv,hyv,hbv⟩:=hb;have hu1:us[f.offset]? = some u:=by
       have:=congrArg (·[0]?) hu
       simpa [hoff]using this
      have hv1:vs[f.offset]? = some v:=by
       have:=congrArg (·[0]?) hv
       simpa [hoff]using this
      have hu2:us.toList.drop (i+1)=ur:=by
       have:=congrArg List.tail hu
       simpa using this
      have hv2:vs.toList.drop (i+1)=vr:=by
       have:=congrArg List.tail hv
       simpa using this
      rw[<- hu2]at hau;rw[<- hv2]at hbv;cases hc:zAH .int x y with
      |none=>simp only[hc]at hr; cases hr|some c=>
       rcases vc P hxu hyv hc with⟨e,_⟩ |⟨_,j,p,q,rfl,rfl,rfl⟩ |⟨e,_⟩
       . cases e
       . have he:(Op.equalIn (dd+1) f.type (.int j p) (.int j q)).run P w=.ok (p == q) w:=run_equalIn_int w dd _ j k p q ht;have one:=qA (P:=P) (zBK ht) hu1 w;have two:=qA (P:=P) (zBK ht) hv1 w;cases hpq:p == q with
         |false=>simp only[hc,hpq]at hr;injection hr with hr; subst hr;rw[hpq]at he;exact⟨by simp[Op.eqFields,hname,one,two,he],λh=>by cases h⟩
         |true=>
          simp only[hc,hpq]at hr;rw[hpq]at he;obtain⟨q1,q2⟩:=zHo dd w fs (i+1) hrest hau hbv hr;refine⟨by simp[Op.eqFields,hname,one,two,he,q1],λh=>?_⟩;have hpq:p=q:=by simpa using hpq
          rw[hu,hv,<- hu2,<- hv2,q2 h,hpq]
       . cases e
    . cases hty
  . cases hr
def wJ(P:Program)(kk:kW)(kt:TypeId)(d:TypeDesc)(u v:Value)(r:Bool):Prop:=match kk with
 |.ints _=>Instr.sameNow d u v=none/\∀w,(Op.equal kt u v).run P w=.ok r w|_=>Instr.sameNow d u v=some r
theorem zDT{kt:TypeId}{n:Nat}{d:TypeDesc}(hk:xr P kt=some (.ints n))(hd:P.underlying kt=some d):∃fs,d=.struct fs/\P.stoodInHeld kt=false/\zHF P fs.toList 0=true/\n=fs.size:=by
 unfold xr und at hk;rw[hd]at hk;split at hk <;> first |cases hk |skip
 rename_i fs e;injection e with e; subst e;split at hk
 . cases hk
 . rename_i hg;split at hk
   . rename_i hi;injection hk with hk; injection hk with hk;exact⟨fs,rfl,by simpa using hg,hi,hk.symm⟩
   . cases hk
theorem w7{kk:kW}{a b:CV}{u v:Value}{r:Bool}{d:TypeDesc}{kt:TypeId}(hk:xr P kt=some kk)(hd:P.underlying kt=some d)(ha:zG Y a u)(hb:zG Y b v)
 (hr:kJ kk a b=some r):wJ P kk kt d u v r/\(r=true->u=v):=by
 by_cases hi:∃n,kk=.ints n
 . obtain⟨n,rfl⟩:=hi;obtain⟨fs,rfl,hg,hf,rfl⟩:=zDT hk hd;have hr':∃x y,a=.agg x/\b=.agg y/\zEp x y fs.size=some r:=by cases a <;> cases b <;> first |exact⟨_,_,rfl,rfl,hr⟩ |cases hr
   clear hr;obtain⟨x,y,rfl,rfl,hr⟩:=hr';rw[yx]at ha hb;obtain⟨us,rfl,ha⟩:=ha;obtain⟨vs,rfl,hb⟩:=hb;have hfo:P.fieldsOf kt=fs:=by unfold Program.fieldsOf; rw[hd]
   have main:=λw=>zHo (P:=P) (Y:=Y) 9998 w (us:=us) (vs:=vs) fs.toList 0 hf (by simpa using ha) (by simpa using hb) (by simpa using hr);refine⟨⟨rfl,λw=>?_⟩,λh=>?_⟩
   . show(Op.equalIn (9998+1+1) kt _ _).run P w=_;rw[run_equalIn_struct w (9998+1) kt us vs (by rw[hfo]; exact hd) hg,hfo];exact(main w).1
   . have:=(main default).2 h
     congr 1
     apply Array.toList_inj.1;simpa using this
 . have hn:∀n,kk≠.ints n:=λn e=>hi ⟨n,e⟩;obtain⟨h1,h2⟩:=zM0 hk hd ha hb hr hn;refine⟨?_,h2⟩;cases kk <;> first |exact h1 |exact absurd rfl (hn _)
theorem zAR(e:Bool)(m:Nat)(w:World){us:Array Value}:∀(L:List Field) (i:Nat),zHF P L i=true->i+L.length<=us.size ->
 ∀f∈L,f.name ≠ "_"/\∃a,(part f.type us f.offset).run P w=.ok a w/\(Instr.checkKey e (m+1) f.type a).run P w=.ok () w
 | [],_,_,_=>by simp|f::fs,i,hk,hs=>by
  unfold zHF und at hk;simp only[Bool.and_eq_true,Bool.not_eq_true']at hk;obtain⟨⟨⟨hname,hoff⟩,hty⟩,hrest⟩:=hk;have hname:f.name ≠ "_":=by simpa using hname
  have hoff:f.offset=i:=by simpa using hoff
  split at hty
  . rename_i k ht;simp only[List.length_cons]at hs;have hlt:f.offset<us.size:=by omega
    have one:=qA (P:=P) (zBK ht) (Array.getElem?_eq_getElem hlt) w;have two:(Instr.checkKey e (m+1) f.type us[f.offset]).run P w=.ok () w:=by unfold Instr.checkKey;simp only[Sem.run_bind,run_underlying ht,Result.andThen_ok];rfl
    intro g hg;rcases List.mem_cons.1 hg with rfl |hg
    . exact⟨hname,_,one,two⟩
    . exact zAR e m w fs (i+1) hrest (by omega) g hg
  . cases hty
theorem uU{kk:kW}{kt:TypeId}{d:TypeDesc}{k:CV}{v:Value}(hk:xr P kt=some kk)(hd:P.underlying kt=some d)(hv:zG Y k v)(hok:zB2 kk k=true)(e:Bool)(w:World) :
 (Instr.checkKey e 10000 kt v).run P w=.ok () w:=by
 by_cases hi:∃n,kk=.ints n
 . obtain⟨n,rfl⟩:=hi;obtain⟨fs,rfl,hg,hf,rfl⟩:=zDT hk hd;have hr':∃x,k=.agg x/\um x=fs.size:=by cases k <;> first |(unfold zB2 at hok; simp only[Bool.and_eq_true]at hok; exact⟨_,rfl,by simpa using hok.1⟩) |(unfold zB2 at hok; cases hok)
   obtain⟨x,rfl,hl⟩:=hr';rw[yx]at hv;obtain⟨us,rfl,hv⟩:=hv;have hsz:us.size=fs.size:=by
    have:=hv.length
    have e2:um x=x.length:=by
     clear hv hl this hok;induction x with
     |nil=>rfl|cons y x ih=>exact congrArg Nat.succ ih
    simp at this; omega
   have:=zAR (P:=P) e 9998 w (us:=us) fs.toList 0 hf (by simp[hsz])
   show(Instr.checkKey e (9999+1) kt (.agg us)).run P w=_;rw[Instr.checkKey];simp only[Sem.run_bind,run_underlying hd,Result.andThen_ok];rw[<- Array.forIn_toList];clear hf hsz hl hv;generalize fs.toList=L at this;induction L with
   |nil=>simp|cons f L ih=>obtain⟨hn,a,p1,p2⟩:=this f (by simp);simp only[List.forIn_cons,Sem.run_bind,hn,ne_eq,not_false_eq_true,if_true,Result.andThen_ok,p1,p2,Sem.run_pure];exact ih λg hg=>this g (by simp[hg])
 . have hn:∀n,kk≠.ints n:=λn e=>hi ⟨n,e⟩;have main:∀n,(Instr.checkKey e (n+1) kt v).run P w=.ok () w:=by
    intro n;unfold xr und at hk;rw[hd]at hk;unfold Instr.checkKey;simp only[Sem.run_bind,run_underlying hd,Result.andThen_ok];cases d <;> first |rfl |cases hk |skip
    simp only at hk;split at hk
    . cases hk
    . split at hk
      . injection hk with hk; exact absurd hk.symm (hn _)
      . cases hk
   exact main 9999
theorem zEe(n:Nat):∀{cs:List CV} {l:List Value},zDI cs=true->zP Y cs l->(l.zip l).all (λ(x,y)=>Instr.sameBits n x y)=true
 | [],l,_,h=>by rw[zM]at h; subst h; rfl|c::cs,l,hc,h=>by
  rw[za]at h;obtain⟨v,r,rfl,h1,h2⟩:=h;unfold zDI at hc;split at hc
  . rename_i e; cases e
  . rename_i e; injection e with e1 e2; subst e1 e2;rw[zT]at h1; subst h1;simp[Instr.sameBits,zEe n hc h2]
  . rename_i e; injection e with e1 e2; subst e1 e2;rw[zf]at h1; subst h1;simp[Instr.sameBits,zEe n hc h2]
  . cases hc
theorem zMd{kk:kW}{k:CV}{v:Value}(hv:zG Y k v)(hk:zB2 kk k=true)(w:World):(Instr.keyThatStays v v).run P w=.ok v w:=by
 have:Instr.sameBits 10000 v v=true:=by
  unfold zB2 at hk;split at hk
  . rw[yx]at hv; obtain⟨us,rfl,hv⟩:=hv;simp only[Bool.and_eq_true]at hk;show(us.size == us.size&&(us.toList.zip us.toList).all λ(x,y)=>Instr.sameBits 9999 x y)=true;rw[zEe 9999 hk.2 hv]; simp
  . rw[zT]at hv; subst hv; simp[Instr.sameBits]
  . rw[zf]at hv; subst hv; simp[Instr.sameBits]
  . rw[zg]at hv; obtain⟨b,rfl,_⟩:=hv; simp[Instr.sameBits,bytes_beq]
  . rw[zL]at hv; subst hv; simp[Instr.sameBits]
  . rename_i e;obtain⟨l,hl⟩:=Option.isSome_iff_exists.1 hk;obtain⟨j,m,rfl,_⟩:=(SymFact.ok (P:=P)).2 _ _ _ hl Y v hv;simp[Instr.sameBits]
  . rw[ya]at hv; obtain⟨b,rfl,_⟩:=hv; simp[Instr.sameBits,bytes_beq]
  . cases hk
 simp[Instr.keyThatStays,this]
inductive wm(P:Program)(kk:kW)(kt:TypeId)(d:TypeDesc)(u:Value):List MapEntry->Nat->Option (Nat × Value)->Prop
 |nil (i:Nat):wm P kk kt d u [] i none
 |hit {e:MapEntry} {l:List MapEntry} {i:Nat} (h:wJ P kk kt d u e.key true):wm P kk kt d u (e::l) i (some (i,e.val))
 |miss {e:MapEntry} {l:List MapEntry} {i:Nat} {r:Option (Nat × Value)} (h:wJ P kk kt d u e.key false) (hr:wm P kk kt d u l (i+1) r):wm P kk kt d u (e::l) i r
theorem jK{kk:kW}{kt:TypeId}{d:TypeDesc}{u:Value}{l:List MapEntry}{r:Option (Nat × Value)}(hd:P.underlying kt=some d)(h:wm P kk kt d u l 0 r)(w:World):(Instr.findKey kt u l).run P w=.ok r w:=by
 by_cases hi:∃n,kk=.ints n
 . obtain⟨n,rfl⟩:=hi;have ask:∀{l:List MapEntry} {i:Nat} {r:Option (Nat × Value)},wm P (.ints n) kt d u l i r->(Instr.findAsking kt u l i).run P w=.ok r w:=by
    intro l i r h;induction h with
    |nil=>rfl|hit h=>simp[Instr.findAsking,h.2 w]|miss h _ ih=>simp[Instr.findAsking,h.2 w,ih]
   have hl:=ask h;cases h with
   |nil=>exact run_findKey hd rfl|hit h=>simp[Instr.findKey,run_underlying hd,Instr.findNow,h.1,hl]|miss h _=>simp[Instr.findKey,run_underlying hd,Instr.findNow,h.1,hl]
 . have hn:∀n,kk≠.ints n:=λn e=>hi ⟨n,e⟩;have same:∀{v:Value} {b:Bool},wJ P kk kt d u v b->Instr.sameNow d u v=some b:=by intro v b h;cases kk <;> first |exact h |exact absurd rfl (hn _)
   have now:∀{l:List MapEntry} {i:Nat} {r:Option (Nat × Value)},wm P kk kt d u l i r->Instr.findNow d u l i=some r:=by
    intro l i r h;induction h with
    |nil=>rfl|hit h=>simp[Instr.findNow,same h]|miss h _ ih=>simp[Instr.findNow,same h,ih]
   exact run_findKey hd (now h)
theorem zGG{c:CV}{v:Value}(h:zJ0 c=true)(hv:zG Y c v):∃s,v=.string s:=by
 cases c <;> try (cases h)
 . obtain⟨s,h,_⟩:=zg.1 hv; exact⟨s,h⟩
 . obtain⟨s,h,_⟩:=ya.1 hv; exact⟨s,h⟩
theorem zEH{kt:TypeId}{s0:ByteArray}:∀{l:List MapEntry} (i:Nat),(∀x∈l,∃s,x.key=.string s)->Value.string s0∈l.map (λ(e:MapEntry)=>e.key)->∃(j:Nat) (e:MapEntry),wm P .str kt .string (.string s0) l i (some (j,e.val))
 | [],_,_,h=>by cases h|x::l,i,hs,h=>by
  obtain⟨s,hx⟩:=hs x List.mem_cons_self;by_cases e:s0=s
  . subst e;refine⟨i,x,.hit ?_⟩;rw[hx];show some (s0 == s0)=some true;rw[(bytes_beq s0 s0).2 rfl]
  . rw[List.map_cons,List.mem_cons]at h;rcases h with h |h
    . rw[hx]at h; injection h with h; exact absurd h e
    . obtain⟨j,y,hf⟩:=zEH (l:=l) (i+1) (λz hz=>hs z (List.mem_cons_of_mem _ hz)) h;refine⟨j,y,.miss ?_ hf⟩;rw[hx];show some (s0 == s)=some false;cases hb:(s0 == s)with
      |false=>rfl|true=>exact absurd ((bytes_beq _ _).1 hb) e
theorem zM3{ck:Nat->Nat}:∀{cs:List CE} {l:List MapEntry},zA2 cs=true->yI Y ck cs l->(∀x∈l,∃s,x.key=.string s)/\zP Y (cs.map CE.key) (l.map λe=>e.key)
 | [],l,_,h=>by have h:l=[]:=h;subst h;exact⟨by simp,zM.2 rfl⟩|c::cs,l,hk,h=>by
  obtain⟨x,r,rfl,hx,hr⟩:=h;unfold zA2 at hk;rw[Bool.and_eq_true]at hk;obtain⟨h1,h2⟩:=zM3 hk.2 hr;refine⟨λy hy=>?_,zW.2 ⟨hx.1,h2⟩⟩;rcases List.mem_cons.1 hy with rfl |hy
  . exact zGG hk.1 hx.1
  . exact h1 y hy
theorem zU4{kt:TypeId}{d:TypeDesc}{ck:Nat->Nat}{k:CV}{u:Value}{cs:List CE}{A:List MapEntry}(hk:xr P kt=some .str)(hd:P.underlying kt=some d)(hu:zG Y k u)(hm:xg Y ck cs A)
 (h1:zJ0 k=true) (h2:zA2 cs=true) (h3:Sym.inn k (cs.map CE.key)=true):∃(j:Nat) (e:MapEntry),wm P .str kt d u A 0 (some (j,e.val)):=by
 obtain⟨l,hp,hc⟩:=hm;obtain⟨g1,g2⟩:=zM3 h2 hc;have hin:=SymFact.inn (P:=P) k _ h3 Y u _ hu g2;obtain⟨s0,rfl⟩:=zGG h1 hu;unfold xr und at hk;rw[hd]at hk;split at hk <;> first |cases hk |(split at hk <;> first |cases hk |(split at hk <;> cases hk)) |skip
 rename_i e;injection e with e; subst e
 first
  |exact zEH 0 (λx hx=>g1 x (hp.mem_iff.1 hx)) ((hp.map λe=>e.key).mem_iff.2 hin)
  |exact zEH 0 (λx hx=>g1 x (hp.mem_iff.2 hx)) ((hp.map λe=>e.key).mem_iff.1 hin)
section
variable{kk:kW}{kt:TypeId}{d:TypeDesc}(hk:xr P kt=some kk)(hd:P.underlying kt=some d){k:CV}{u:Value}(hu:zG Y k u)
include hk hd hu
theorem zHC:∀{cs:List CE} {l:List MapEntry},yI Y ck cs l->uZ kk k cs=some none->∀x∈l,wJ P kk kt d u x.key false
 | [],l,hc,_=>by rw[yI]at hc; subst hc; simp|c::cs,l,hc,hf=>by
  obtain⟨e,r,rfl,⟨h1,h2,h3⟩,h4⟩:=hc;unfold uZ at hf;cases hq:kJ kk k c.key with
  |none=>rw[hq]at hf; cases hf|some b=>
   rw[hq]at hf;cases b with
   |true=>
    simp only at hf;cases hn:uZ kk k cs with
    |none=>rw[hn]at hf; cases hf|some o=>rw[hn]at hf; cases o <;> cases hf
   |false=>
    simp only at hf;obtain⟨g1,_⟩:=w7 hk hd hu h1 hq;intro x hx;rcases List.mem_cons.1 hx with rfl |hx
    . exact g1
    . exact zHC h4 hf x hx
theorem zJi:∀{cs:List CE} {l:List MapEntry} {v:CV},yI Y ck cs l->uZ kk k cs=some (some v) ->
 ∃l1 e l2 c1 c c2,l=l1++e::l2/\cs=c1++c::c2/\yI Y ck c1 l1/\zD3 Y ck c e/\yI Y ck c2 l2/\c.val=v/\kJ kk k c.key=some true/\wJ P kk kt d u e.key true/\e.key=u /\
  (∀x∈l1,wJ P kk kt d u x.key false)/\(∀x∈l2,wJ P kk kt d u x.key false)/\∀x∈c1,kJ kk k x.key=some false
 | [],l,v,hc,hf=>by cases hf|c::cs,l,v,hc,hf=>by
  obtain⟨e,r,rfl,⟨h1,h2,h3⟩,h4⟩:=hc;unfold uZ at hf;cases hq:kJ kk k c.key with
  |none=>rw[hq]at hf; cases hf|some b=>
   rw[hq]at hf;cases b with
   |true=>
    simp only at hf;cases hno:uZ kk k cs with
    |none=>rw[hno]at hf; cases hf|some o=>
     rw[hno]at hf;cases o with
     |some _=>cases hf|none=>injection hf with hf; injection hf with hf; subst hf;obtain⟨g1,g2⟩:=w7 hk hd hu h1 hq;exact⟨[],e,r,[],c,cs,rfl,rfl,rfl,⟨h1,h2,h3⟩,h4,rfl,hq,g1,(g2 rfl).symm,by simp,zHC hk hd hu h4 hno,by simp⟩
   |false=>
    simp only at hf;obtain⟨g1,_⟩:=w7 hk hd hu h1 hq;obtain⟨l1,e',l2,c1,c',c2,q1,q2,q3,q4,q5,q6,q7,q8,q9,q10,q11,q12⟩:=zJi h4 hf;refine⟨e::l1,e',l2,c::c1,c',c2,by rw[q1]; rfl,by rw[q2]; rfl,⟨e,l1,rfl,⟨h1,h2,h3⟩,q3⟩,q4,q5,q6,q7,q8,q9,λx hx=>?_,q11,λx hx=>?_⟩
    . rcases List.mem_cons.1 hx with rfl |hx
      . exact g1
      . exact q10 x hx
    . rcases List.mem_cons.1 hx with rfl |hx
      . exact hq
      . exact q12 x hx
omit hk hd hu in
theorem zEP:∀{l:List MapEntry} (i:Nat),(∀x∈l,wJ P kk kt d u x.key false)->wm P kk kt d u l i none
 | [],i,_=>.nil i|e::l,i,h=>.miss (h e (by simp)) (zEP (i+1) λx hx=>h x (by simp[hx]))
omit hk hd hu in
theorem zEf{e:MapEntry}{l2:List MapEntry}:∀{l1:List MapEntry} (i:Nat),(∀x∈l1,wJ P kk kt d u x.key false)->wJ P kk kt d u e.key true->wm P kk kt d u (l1++e::l2) i (some (i+l1.length,e.val))
 | [],i,_,h=>.hit h|x::l1,i,h1,h=>.miss (h1 x (by simp)) (by rw[show i+(x::l1).length=i+1+l1.length from by simp; omega];exact zEf (i+1) (λy hy=>h1 y (by simp[hy])) h)
omit hk hd hu in
theorem zCK{α:Type}{e:α}{f:α->α}{l2:List α}:∀{l1:List α},(l1++e::l2).modify l1.length f=l1++f e::l2
 | []=>rfl|x::l1=>by show(x::(l1++e::l2)).modify (l1.length+1) f=_;rw[List.modify_succ_cons,zCK]; rfl
omit hk hd hu in
theorem zJg{α:Type}{e:α}{l2:List α}:∀{l1:List α},(l1++e::l2).eraseIdx l1.length=l1++l2
 | []=>rfl|x::l1=>by show(x::(l1++e::l2)).eraseIdx (l1.length+1)=_;rw[List.eraseIdx_cons_succ,zJg]; rfl
omit hk hd hu in
theorem zMY{v:CV}{c:CE}{c2:List CE}(hc:kJ kk k c.key=some true):∀{c1:List CE},(∀x∈c1,kJ kk k x.key=some false)->zMC kk k v (c1++c::c2)=some (c1++⟨k,v,c.born⟩::c2)
 | [],_=>by show zMC kk k v (c::c2)=_; unfold zMC; rw[hc]; rfl|x::c1,h=>by show zMC kk k v (x::(c1++c::c2))=_;unfold zMC;rw[h x (by simp),zMY hc λy hy=>h y (by simp[hy])]; rfl
omit hk hd hu in
theorem zLO{c:CE}{c2:List CE}(hc:kJ kk k c.key=some true):∀{c1:List CE},(∀x∈c1,kJ kk k x.key=some false)->zMA kk k (c1++c::c2)=some (c1++c2)
 | [],_=>by show zMA kk k (c::c2)=_; unfold zMA; rw[hc]; rfl|x::c1,h=>by show zMA kk k (x::(c1++c::c2))=_;unfold zMA;rw[h x (by simp),zLO hc λy hy=>h y (by simp[hy])]; rfl
omit hk hd hu in
theorem zEy{cs ds:List CE}{l m:List MapEntry}(h1:yI Y ck cs l)(h2:yI Y ck ds m):yI Y ck (cs++ds) (l++m):=by
 induction cs generalizing l with
 |nil=>rw[yI]at h1; subst h1; exact h2|cons c cs ih=>obtain⟨e,r,rfl,q,h⟩:=h1;exact⟨e,r++m,rfl,q,ih h⟩
theorem map_none{cs:List CE}{A:List MapEntry}(hm:xg Y ck cs A)(hf:uZ kk k cs=some none):wm P kk kt d u A 0 none:=by obtain⟨l,hp,hc⟩:=hm;exact zEP 0 λx hx=>zHC hk hd hu hc hf x (hp.mem_iff.2 hx)
theorem zHT{cs:List CE}{A:List MapEntry}{v:CV}(hm:xg Y ck cs A)(hf:uZ kk k cs=some (some v)) :
 ∃j e,wm P kk kt d u A 0 (some (j,e.val))/\A[j]? = some e/\e.key=u/\zG Y v e.val /\
  (∀{v':CV} {x:Value} {cs':List CE},zG Y v' x->zMC kk k v' cs=some cs'->xg Y ck cs' (A.modify j λe=>{ e with key:=u,val:=x })) /\
  ∀{cs':List CE},zMA kk k cs=some cs'->xg Y ck cs' (A.eraseIdx j):=by
 obtain⟨l,hp,hc⟩:=hm;obtain⟨l1,e,l2,c1,c,c2,rfl,rfl,q3,q4,q5,q6,q7,q8,q9,q10,q11,q12⟩:=zJi hk hd hu hc hf;obtain⟨a1,a2,rfl⟩:=List.append_of_mem (hp.mem_iff.1 (show e∈l1++e::l2 by simp));have hp':(l1++l2).Perm (a1++a2):=List.Perm.cons_inv ((List.perm_middle.symm.trans hp).trans List.perm_middle);have hno:∀x∈a1,wJ P kk kt d u x.key false:=λx hx=>by
  have:x∈l1++l2:=hp'.mem_iff.2 (by simp[hx])
  rcases List.mem_append.1 this with h |h
  . exact q10 x h
  . exact q11 x h
 refine⟨a1.length,e,by have:=zEf (P:=P) (kk:=kk) (kt:=kt) (d:=d) (u:=u) (l2:=a2) 0 hno q8; rwa [Nat.zero_add]at this,by simp,q9,by rw[<- q6]; exact q4.2.1,λ{v' x cs'} hv hup=>?_,λ{cs'} hdl=>?_⟩
 . rw[zMY q7 q12]at hup;injection hup with hup; subst hup;rw[zCK];refine⟨l1 ++ { e with key:=u,val:=x }::l2,?_,zEy q3 ⟨_,l2,rfl,⟨hu,hv,q4.2.2⟩,q5⟩⟩;exact(List.perm_middle.trans (List.Perm.cons _ hp')).trans List.perm_middle.symm
 . rw[zLO q7 q12]at hdl;injection hdl with hdl; subst hdl;rw[zJg];exact⟨l1++l2,hp',zEy q3 q5⟩
end
section
variable{kk:kW}{kt:TypeId}{d:TypeDesc}(hk:xr P kt=some kk)(hd:P.underlying kt=some d){k:CV}{u:Value}(hu:zG Y k u)
include hk hd hu
theorem zFJ:∀{qs:List (CV × CV)} {l:List MapEntry},wl Y qs l->noZ kk k qs=true->∀x∈l,wJ P kk kt d u x.key false
 | [],l,hz,_,x,hx=>by have hz:l=[]:=hz;rw[hz]at hx; cases hx|q::qs,l,hz,hn,x,hx=>by
  unfold noZ at hn;split at hn
  . rename_i hq;rcases hz with⟨_,hz⟩ |⟨e,m,rfl,h1,h2,hz⟩
    . exact zFJ hz hn x hx
    . rcases List.mem_cons.1 hx with rfl |hx
      . exact(w7 hk hd hu h1 hq).1
      . exact zFJ hz hn x hx
  . cases hn
theorem zCo:∀{qs:List (CV × CV)} {l:List MapEntry} {v:CV},wl Y qs l->zI7 kk k qs=some v ->
 ∃l1 mid l2,l=l1++(mid++l2)/\(∀x∈l1,wJ P kk kt d u x.key false)/\(∀x∈l2,wJ P kk kt d u x.key false)/\((mid=[]/\zG Y v (.string .empty))\/∃e,mid=[e]/\wJ P kk kt d u e.key true/\e.key=u/\zG Y v e.val) /\
  ∀{v':CV} {e':MapEntry},zG Y v' e'.val->e'.key=u->wl Y (zFB kk k v' qs) (l1++e'::l2)
 | [],l,v,_,hf=>by cases hf|q::qs,l,v,hz,hf=>by
  unfold zI7 at hf;split at hf
  . rename_i hq;have hup:∀v',zFB kk k v' (q::qs)=(k,v')::qs:=λv'=>by show(match kJ kk k q.1 with |some true=>(k,v')::qs |_=>q::zFB kk k v' qs)=_; rw[hq]
    split at hf
    . rename_i hn;injection hf with hf; subst hf;rcases hz with⟨h,hz⟩ |⟨e,m,rfl,h1,h2,hz⟩
      . exact⟨[],[],l,rfl,by simp,zFJ hk hd hu hz hn,.inl ⟨rfl,h⟩,λhv he=>by rw[hup]; exact .inr ⟨_,l,rfl,by rw[he]; exact hu,hv,hz⟩⟩
      . obtain⟨g1,g2⟩:=w7 hk hd hu h1 hq;exact⟨[],[e],m,rfl,by simp,zFJ hk hd hu hz hn,.inr ⟨e,rfl,g1,(g2 rfl).symm,h2⟩,λhv he=>by rw[hup]; exact .inr ⟨_,m,rfl,by rw[he]; exact hu,hv,hz⟩⟩
    . cases hf
  . rename_i hq;have hup:∀v',zFB kk k v' (q::qs)=q::zFB kk k v' qs:=λv'=>by show(match kJ kk k q.1 with |some true=>(k,v')::qs |_=>q::zFB kk k v' qs)=_; rw[hq]
    rcases hz with⟨h,hz⟩ |⟨e,m,rfl,h1,h2,hz⟩
    . obtain⟨l1,mid,l2,r1,r2,r3,r4,r5⟩:=zCo hz hf;exact⟨l1,mid,l2,r1,r2,r3,r4,λhv he=>by rw[hup]; exact .inl ⟨h,r5 hv he⟩⟩
    . obtain⟨l1,mid,l2,rfl,r2,r3,r4,r5⟩:=zCo hz hf;refine⟨e::l1,mid,l2,rfl,λx hx=>?_,r3,r4,λhv he=>by rw[hup]; exact .inr ⟨e,_,rfl,h1,h2,r5 hv he⟩⟩;rcases List.mem_cons.1 hx with rfl |hx
      . exact(w7 hk hd hu h1 hq).1
      . exact r2 x hx
  . cases hf
theorem zI9{qs:List (CV × CV)}{A:List MapEntry}{v:CV}(hm:zNN Y qs A)(hf:zI7 kk k qs=some v) :
 (wm P kk kt d u A 0 none/\zG Y v (.string .empty)/\∀{v':CV} {e':MapEntry},zG Y v' e'.val->e'.key=u->zNN Y (zFB kk k v' qs) (A++[e'])) \/
 ∃j e,wm P kk kt d u A 0 (some (j,e.val))/\A[j]? = some e/\e.key=u/\zG Y v e.val/\∀{v':CV} {x:Value},zG Y v' x->zNN Y (zFB kk k v' qs) (A.modify j λe=>{ e with key:=u,val:=x }):=by
 obtain⟨l,hp,hz⟩:=hm;obtain⟨l1,mid,l2,rfl,r2,r3,r4,r5⟩:=zCo hk hd hu hz hf;rcases r4 with⟨rfl,h⟩ |⟨e,rfl,g1,g2,g3⟩
 . refine .inl ⟨zEP 0 λx hx=>?_,h,λ{v' e'} hv he=>⟨l1++e'::l2,?_,r5 hv he⟩⟩
   . rcases List.mem_append.1 (hp.mem_iff.2 hx)with h |h
     . exact r2 x h
     . exact r3 x h
   . exact List.perm_middle.trans ((List.Perm.cons e' hp).trans (List.perm_append_singleton e' A).symm)
 . obtain⟨a1,a2,rfl⟩:=List.append_of_mem (hp.mem_iff.1 (show e∈l1++([e]++l2)by simp));have hp':(l1++l2).Perm (a1++a2):=List.Perm.cons_inv ((List.perm_middle.symm.trans hp).trans List.perm_middle);have hno:∀x∈a1,wJ P kk kt d u x.key false:=λx hx=>by
    have:x∈l1++l2:=hp'.mem_iff.2 (by simp[hx])
    rcases List.mem_append.1 this with h |h
    . exact r2 x h
    . exact r3 x h
   refine .inr ⟨a1.length,e,by have:=zEf (P:=P) (kk:=kk) (kt:=kt) (d:=d) (u:=u) (l2:=a2) 0 hno g1; rwa [Nat.zero_add]at this,by simp,g2,g3,λ{v' x} hv=>?_⟩;rw[zCK];exact⟨l1 ++ { e with key:=u,val:=x }::l2,(List.perm_middle.trans (List.Perm.cons _ hp')).trans List.perm_middle.symm,r5 hv rfl⟩
end
theorem xg.push{cs:List CE}{c:CE}{l:List MapEntry}{e:MapEntry}(h:xg Y ck cs l)(hc:zD3 Y ck c e):xg Y ck (cs++[c]) (l++[e]):=
 let ⟨l',hp,hr⟩:=h
 ⟨l'++[e],hp.append_right _,zEy hr ⟨e,[],rfl,hc,rfl⟩⟩
theorem zRS{cs:List CE}{l:List MapEntry}(h1:yI Y ck cs l):l.length=cs.length:=by
 induction cs generalizing l with
 |nil=>rw[yI]at h1; subst h1; rfl|cons c cs ih=>obtain⟨e,r,rfl,q,h⟩:=h1;simp[ih h]
theorem xg.length{cs:List CE}{l:List MapEntry}(h:xg Y ck cs l):l.length=cs.length:=by obtain⟨l',hp,hc⟩:=h;rw[<- hp.length_eq]; exact zRS hc
theorem xg.nil_eq{l:List MapEntry}(h:xg Y ck [] l):l=[]:=by
 have:=h.length
 exact List.length_eq_zero_iff.1 this
end
end Go.Ev
namespace Go.Ev
variable[Sym]
open Go.MapKept
noncomputable section
variable{ck:Nat->Nat}{P:Program}{Y:Psi}{es:List CV}{tm:Tm}{h:zC}{n:Key}{U:Operand->Value}{E:Env}{ty:TypeId}{w:World}
variable[SymFact P]
theorem zA3{kt:TypeId}{kk:kW}(hk:xr P kt=some kk):∃d,P.underlying kt=some d:=by
 unfold xr und at hk;cases hd:P.underlying kt with
 |none=>rw[hd]at hk; cases hk|some d=>exact⟨d,rfl⟩
theorem zNQ(t:TypeId)(x i:Operand)(ok:Bool)(ha:yG P Y es tm E U [x,i]):zD P Y h n U (.lookup t x i ok) ty w (yX P (zj P E (.lookup t x i ok)) es tm h n):=by
 rw[zj];unfold und;split
 . rename_i kt et ht;split
   . rename_i kk z hkk hz;refine xK (C:=zD P Y h n U (.lookup t x i ok) ty w) zA λcx ck hcx hck=>?_;have hx:=ha x (by simp) cx hcx;have hi:=ha i (by simp) ck hck;obtain⟨d,hd⟩:=zA3 hkk;obtain⟨zv,hzr,hzv⟩:=zCw hz;have main:∀(cf:Nat->Nat) (cs:List CE) (arr:Array MapEntry) (r:Option Nat),U x=.map r->(jC Y (zC.fam h) w->(match r with
      |none=>arr=#[]|some r=>∃clock,w.heap[r]? = some (.map arr clock))/\xg Y cf cs arr.toList) ->
      zD P Y h n U (.lookup t x i ok) ty w (zDB kk z ok (aV es tm ck) cs):=by
      intro cf cs arr r hr hmem;refine zJ (C:=zD P Y h n U (.lookup t x i ok) ty w) _ _ _ (zA _) λhok=>?_;have run:∀{a:Option (Nat × Value)} {v:Value},jC Y (zC.fam h) w->wm P kk kt d (U i) arr.toList 0 a->(match a with
       |some (_,y)=>v=(if ok then .tuple #[y,.bool true]else y)
       |none=>v=(if ok then .tuple #[zv,.bool false]else zv))->(execOp U (qM (.lookup t x i ok) ty)).run P w=.ok (.value v) w:=by
       intro a v hrel hf hv;have hm:=(hmem hrel).1;have hck:∀e,(Instr.checkKey e 10000 kt (U i)).run P w=.ok () w:=λe=>uU hkk hd hi hok e w;have hfk:=jK hd hf w;cases r with
       |none=>
        simp only at hm;subst hm;cases a with
        |none=>subst hv; simp[execOp,Instr.lookup,hr,run_underlying ht,hck,hfk,hzr]|some a=>subst hv; simp[execOp,Instr.lookup,hr,run_underlying ht,hck,hfk,hzr]
       |some r=>
        obtain⟨clock,hb⟩:=hm;cases a with
        |none=>subst hv; simp[execOp,Instr.lookup,hr,run_underlying ht,hck,hfk,hzr,run_getObj_map hb]|some a=>subst hv; simp[execOp,Instr.lookup,hr,run_underlying ht,hck,hfk,hzr,run_getObj_map hb]
      split
      . rename_i v hf;intro hrel;obtain⟨j,e,h1,h2,h3,h4,_,_⟩:=zHT hkk hd hi (hmem hrel).2 hf;exact⟨_,zR (run hrel h1 rfl),zK1 h4⟩
      . rename_i hf;intro hrel;have h1:=map_none hkk hd hi (hmem hrel).2 hf;refine⟨_,zR (run hrel h1 rfl),?_⟩;cases ok with
        |true=>exact yU.2 ⟨_,rfl,zW.2 ⟨hzv Y,zW.2 ⟨zL.2 rfl,zM.2 rfl⟩⟩⟩|false=>exact hzv Y
      . unfold zUt;split
        . refine zJ (C:=zD P Y h n U (.lookup t x i true) ty w) _ _ _ (zA _) λhq=>?_;simp only[Bool.and_eq_true]at hq;intro hrel;obtain⟨j,e,hf⟩:=zU4 hkk hd hi (hmem hrel).2 hq.1.1 hq.1.2 hq.2;exact⟨_,zR (run hrel hf rfl),yU.2 ⟨_,rfl,zW.2 ⟨xo,zW.2 ⟨zL.2 rfl,zM.2 rfl⟩⟩⟩⟩
        . exact zA _
     refine xT (C:=zD P Y h n U (.lookup t x i ok) ty w) _ _ _ _ (zA _) (λhv=>?_) λb hv=>?_
     . rw[hv,yg]at hx;exact main (λn=>n) [] #[] none hx λ_=>⟨rfl,xg.nil⟩
     . refine v8 (C:=zD P Y h n U (.lookup t x i ok) ty w) _ _ _ ?_ λl hl=>?_
       rotate_left
       . refine zJ (C:=zD P Y h n U (.lookup t x i ok) ty w) _ _ _ (zA _) λhok=>?_;simp only[Bool.and_eq_true,Bool.not_eq_true']at hok;obtain⟨⟨hok1,hz1⟩,hok⟩:=hok;subst hok1;split
         . rename_i v hf;intro hrel;rw[hv,xC]at hx;obtain⟨p,hp,hx⟩:=hx;obtain⟨arr,clock,h1,h2⟩:=hrel b _ p hl hp;have hck:∀e,(Instr.checkKey e 10000 kt (U i)).run P w=.ok () w:=λe=>uU hkk hd hi hok e w;have hz2:z=.str []:=by
            unfold zM7 at hz1;split at hz1
            . rfl
            . cases hz1
           have hz3:zv=.string .empty:=by
            have:=hzv Y
            rw[hz2,zg]at this;obtain⟨b,rfl,hb⟩:=this
            congr 1
            have:b.data.toList=[]:=by unfold zy at hb;exact List.map_eq_nil_iff.1 hb
            apply ByteArray.ext;exact Array.toList_eq_nil_iff.1 this
           rcases zI9 hkk hd hi h2 hf with⟨f1,f2,_⟩ |⟨j,e,f1,f2,f3,f4,_⟩
           . refine⟨.string .empty,zR ?_,zNa P w f2⟩;simp[execOp,Instr.lookup,hx,run_underlying ht,hck,jK hd f1 w,hzr,run_getObj_map h1,hz3]
           . refine⟨e.val,zR ?_,zNa P w f4⟩;simp[execOp,Instr.lookup,hx,run_underlying ht,hck,jK hd f1 w,hzr,run_getObj_map h1]
         . exact zA _
       refine ye (C:=zD P Y h n U (.lookup t x i ok) ty w) _ _ _ (zA _) λl clock hl=>?_;rw[hv,xC]at hx;obtain⟨p,hp,hx⟩:=hx;by_cases hrel:jC Y (zC.fam h) w
       . obtain⟨arr,h1,h2,_⟩:=hrel b _ p hl hp;exact main p.ck l arr (some p.blk) hx λ_=>⟨⟨_,h1⟩,h2⟩
       . exact main p.ck l #[] (some p.blk) hx λh=>absurd h hrel
   . exact zA _
 . exact zA _
theorem jq{B:Nat}{es:Array MapEntry}{clock:Nat}(o:Obj)(hb:w.heap[B]? = some (.map es clock)):(setObj B o).run P w=.ok () (w.upB B o):=run_setObj_map o hb
theorem zF5(o:Op)(t:TypeId)(m k x:Operand)(hop:∀w,(execOp U (qM o ty)).run P w=((Instr.mapUpdate t (U m) (U k) (U x)).run P w).andThen λ_ w'=>.ok .skip w')(ha:yG P Y es tm E U [m,k,x]) :
 zD P Y h n U o ty w (yX P (match und P t with
 |some (.map kt _)=>match xr P kt,zn P E m,zn P E k,zn P E x with
  |some kk,some m,some k,some x=>.mapupd kk m k x|_,_,_,_=>.bad 35
 |_=>.bad 35) es tm h n):=by
 unfold und;split
 . rename_i kt et ht;split
   . rename_i kk cm ck cx hkk hcm hck hcx;have hm:=ha m (by simp) cm hcm;have hk:=ha k (by simp) ck hck;have hx:=ha x (by simp) cx hcx;obtain⟨d,hd⟩:=zA3 hkk;refine xT (C:=zD P Y h n U o ty w) _ _ _ _ (zA _) (λ_=>zA _) λb hv=>?_;refine v8 (C:=zD P Y h n U o ty w) _ _ _ ?_ λl hl=>?_
     rotate_left
     . refine zJ (C:=zD P Y h n U o ty w) _ _ _ (zA _) λhok=>?_;rw[hv,xC]at hm;obtain⟨p,hp,hm⟩:=hm;have hck:∀e,(Instr.checkKey e 10000 kt (U k)).run P w=.ok () w:=λe=>uU hkk hd hk hok e w;have hst:=zMd (P:=P) hk hok w;split
       . rename_i v hf;intro hrel _ _;obtain⟨arr,clock,h1,h2⟩:=hrel.on b _ p hl hp;have hlt:=(hrel.on b _ p hl hp).lt;rcases zI9 hkk hd hk h2 hf with⟨f1,f2,g⟩ |⟨j,e,f1,f2,f3,f4,g⟩
         . have hpost:=qj (n:=n) hrel hl rfl hp (o':=.mapz (zFB kk (aV es tm ck) (aV es tm cx) l)) (ob:=.map (arr.push { key:=U k,val:=U x,born:=clock }) (clock+1))
            ⟨_,_,xe _ hlt,by rw[Array.toList_push]; exact g hx rfl⟩
           refine⟨_,undef,Y,wK ?_,by rw[z7]; exact hpost,qb⟩;rw[hop];simp[Instr.mapUpdate,hm,run_underlying ht,run_getObj_map h1,hck,jK hd f1 w,jq _ h1]
         . have hpost:=qj (n:=n) hrel hl rfl hp (o':=.mapz (zFB kk (aV es tm ck) (aV es tm cx) l)) (ob:=.map (arr.modify j λe=>{ e with key:=U k,val:=U x }) clock)
            ⟨_,_,xe _ hlt,by rw[Array.toList_modify]; exact g hx⟩
           refine⟨_,undef,Y,wK ?_,by rw[z7]; exact hpost,qb⟩;rw[hop];have f2':arr[j]? = some e:=by simpa using f2
           simp[Instr.mapUpdate,hm,run_underlying ht,run_getObj_map h1,hck,jK hd f1 w,f2',f3,hst,jq _ h1]
       . exact zA _
     refine ye (C:=zD P Y h n U o ty w) _ _ _ (zA _) λl clock hl=>?_;refine zJ (C:=zD P Y h n U o ty w) _ _ _ (zA _) λhok=>?_;rw[hv,xC]at hm;obtain⟨p,hp,hm⟩:=hm;have hck:∀e,(Instr.checkKey e 10000 kt (U k)).run P w=.ok () w:=λe=>uU hkk hd hk hok e w;have hst:=zMd (P:=P) hk hok w;split
     . rename_i v0 hf;split
       . rename_i l' hl';intro hrel _ _;obtain⟨arr,h1,h2,hck0⟩:=hrel.on b _ p hl hp;obtain⟨j,e,f1,f2,f3,f4,g1,_⟩:=zHT hkk hd hk h2 hf;have hup:=g1 hx hl';have hlt:=(hrel.on b _ p hl hp).lt;have hpost:=qj (n:=n) hrel hl rfl hp (o':=.map l' clock) (ob:=.map (arr.modify j λe=>{ e with key:=U k,val:=U x }) (p.ck clock))
          ⟨_,xe _ hlt,by rw[Array.toList_modify]; exact hup,hck0⟩
         refine⟨_,undef,Y,wK ?_,by rw[z7]; exact hpost,qb⟩;rw[hop];have f2':arr[j]? = some e:=by simpa using f2
         simp[Instr.mapUpdate,hm,run_underlying ht,run_getObj_map h1,hck,jK hd f1 w,f2',f3,hst,jq _ h1]
       . exact zA _
     . rename_i hf;rw[zw];intro hrel _ _;obtain⟨arr,h1,h2,hck0⟩:=hrel.on b _ p hl hp;have f1:=map_none hkk hd hk h2 hf;have hlt:=(hrel.on b _ p hl hp).lt;have hpost:=qj (n:=n) hrel hl rfl hp (o':=.map (l++[⟨aV es tm ck,aV es tm cx,clock⟩]) (clock+1)) (ob:=.map (arr.push { key:=U k,val:=U x,born:=p.ck clock }) (p.ck clock+1))
        ⟨_,by rw[xe _ hlt,hck0.step],by rw[Array.toList_push]; exact h2.push ⟨hk,hx,rfl⟩,hck0.succ⟩
       refine⟨_,undef,Y,wK ?_,by rw[z7]; exact hpost,qb⟩;rw[hop];simp[Instr.mapUpdate,hm,run_underlying ht,run_getObj_map h1,hck,jK hd f1 w,jq _ h1]
     . exact zA _
   . exact zA _
 . exact zA _
theorem zId(t:TypeId)(m k x:Operand)(ha:yG P Y es tm E U [m,k,x]):zD P Y h n U (.mapUpdate t m k x) ty w (yX P (zj P E (.mapUpdate t m k x)) es tm h n):=by rw[zj];exact zF5 _ t m k x (λw=>by simp[execOp]) ha
theorem zNX(t:TypeId)(m k x:Operand)(ha:yG P Y es tm E U [m,k,x]):zD P Y h n U (.insert t m k x) ty w (yX P (zj P E (.insert t m k x)) es tm h n):=by rw[zj];exact zF5 _ t m k x (λw=>by simp[execOp]) ha
theorem zRR(t:TypeId)(x:Operand)(ha:yG P Y es tm E U [x]):zD P Y h n U (.range t x) ty w (yX P (zj P E (.range t x)) es tm h n):=by
 rw[zj];unfold und;split
 . rename_i ht;refine zu (C:=zD P Y h n U (.range t x) ty w) zA λc hc=>?_;have hx:=ha x (by simp) c hc;refine qK (C:=zD P Y h n U (.range t x) ty w) _ _ _ ?_ λs hs=>?_
   case refine_2=>rw[hs,ya]at hx;obtain⟨b,hx,hr⟩:=hx;refine⟨_,.pointer (some ⟨w.heap.size,0,none⟩),0,zR ?_,jY _ (.stringIter b 0),λY' hle hn=>⟨zx.2 ⟨_,hn,rfl⟩,b,by simp,hr.mono hle,rfl⟩,by simp[zG0]⟩;simp[execOp,Instr.range,hx,run_underlying ht]
   refine yP (C:=zD P Y h n U (.range t x) ty w) _ _ _ (zA _) λs hs=>?_;rw[hs,zg]at hx;obtain⟨b,hx,rfl⟩:=hx;refine⟨_,.pointer (some ⟨w.heap.size,0,none⟩),0,zR ?_,jY _ (.stringIter b 0),λY' _ hn=>⟨zx.2 ⟨_,hn,rfl⟩,b,by simp,?_,rfl⟩,by simp[zG0]⟩
   case refine_2=>have:=zBT (Y:=Y') b; rw[Array.toList_map]at this; exact this
   simp[execOp,Instr.range,hx,run_underlying ht]
 . rename_i kt et ht;refine zu (C:=zD P Y h n U (.range t x) ty w) zA λc hc=>?_;have hx:=ha x (by simp) c hc;refine xT (C:=zD P Y h n U (.range t x) ty w) _ _ _ _ (zA _) (λhv=>?_) λb hv=>?_
   . rw[hv,yg]at hx;refine⟨_,.pointer (some ⟨w.heap.size,0,none⟩),0,zR ?_,jY _ (.mapIter none 0 #[] 0),λY' _ hn=>⟨zx.2 ⟨_,hn,rfl⟩,none,λn=>n,by simp,rfl,rfl⟩,by simp[zG0]⟩;simp[execOp,Instr.range,hx,run_underlying ht]
   . refine ye (C:=zD P Y h n U (.range t x) ty w) _ _ _ (zA _) λl clock hl=>?_;intro hrel hnew hroom;rw[hv,xC]at hx;obtain⟨p,hp,hx⟩:=hx;obtain⟨arr,h1,h2,hck0⟩:=hrel.on b _ p hl hp;have hr:=Key.room_of_succ hroom;have hix:=Key.ix_succ hr;have hnone:Y n=none:=hnew n (Nat.le_refl _) (by omega);have hw:=jY w (.mapIter (some p.blk) (p.ck clock) #[] (p.ck clock));have hne:b≠n:=λe=>by subst e; rw[hnone]at hp; cases hp
     have hpost:=vH (n:=n) (sz:=0) (ck:=λn=>n) (o:=.mapiter (some b) clock [] clock) hrel hr hnone hw ⟨some p.blk,p.ck,by simp,rfl,p,by rw[Psi.upd_other _ _ hne]; exact hp,rfl,rfl,hck0.here,hck0.here⟩;refine⟨_,.pointer (some ⟨w.heap.size,0,none⟩),_,zR ?_,by rw[z7]; exact hpost,zx.2 ⟨_,Psi.upd_same _ _ _,rfl⟩⟩;simp[execOp,Instr.range,hx,run_underlying ht,run_getObj_map h1]
 . exact zA _
end
end Go.Ev
namespace Go.Ev
variable[Sym]
open Go.MapKept
noncomputable section
variable{ck:Nat->Nat}{P:Program}{Y:Psi}{es:List CV}{tm:Tm}{h:zC}{n:Key}{U:Operand->Value}{E:Env}{ty:TypeId}{w:World}
variable[SymFact P]
theorem Rel.congr{g:Fam}{w':World}(hr:Rel Y g w)(e:w'.heap=w.heap):Rel Y g w':=
 ⟨λk o p a b=>xQ.congr (by rw[e]) (hr.on k o p a b),hr.tot,hr.inj⟩
theorem jC.congr{g:Fam}{w':World}(hr:jC Y g w)(e:w'.heap=w.heap):jC Y g w':=λk o p a b=>xQ.congr (by rw[e]) (hr k o p a b)
theorem zIp{g:Fam}{w':World}(hr:Rel Y g w)(e:w'.heap=w.heap)(e1:w'.tape=w.tape)(e2:w'.os=w.os)(e3:w'.output=w.output):yF Y g n w Y g n w':=
 ⟨Psi.le_refl _,λ_ _=>rfl,hr.congr e,λ_ _ _=>by rw[e],λk o p h1 h2 h3=>.inl ⟨k,o,p,h1,h2,h3,rfl⟩,by rw[e]; exact Nat.le_refl _,e1,e2,e3,Nat.le_refl _,λk o p h1 h3=>.inl ⟨k,o,p,h1,h3,rfl⟩⟩
theorem zGA{B:Nat}{o o':Obj}(hb:w.heap[B]? = some o)(hn:∀c e f,o≠.cells c e f):(setObj B o').run P w=.ok () (w.upB B o'):=by cases o <;> first |exact absurd rfl (hn _ _ _) |simp[setObj,Sem.run,hb,World.upB]
theorem kj{B:Nat}{o:Obj}(hb:w.heap[B]? = some o)(hn:∀c e f,o≠.cells c e f):(getObj B).run P w=.ok o w:=by cases o <;> first |exact absurd rfl (hn _ _ _) |simp[getObj,Sem.run,hb]
theorem zRP(x:Nat)(l:List Nat):zOn x l=l.contains x:=by
 induction l with
 |nil=>rfl|cons y l ih=>
  show Bool.rec (motive:=λ_=>Bool) (zOn x l) true (Nat.beq x y)=_;rw[ih,List.contains_cons];by_cases e:x=y
  . subst e; simp
  . rw[vG e]; simp[e]
theorem zVv(hck:∀a b,ck a=ck b ↔ a=b)(x:Nat)(seen:List Nat):(seen.map ck).contains (ck x)=seen.contains x:=by
 induction seen with
 |nil=>rfl|cons y l ih=>
  rw[List.map_cons,List.contains_cons,List.contains_cons,ih]
  have:(ck x == ck y)=(x == y):=by rw[Bool.eq_iff_iff,beq_iff_eq,beq_iff_eq];exact hck x y
  rw[this]
theorem zEV(hck:∀a b,ck a=ck b ↔ a=b){seen:List Nat}:∀{cs:List CE} {l:List MapEntry},yI Y ck cs l->yI Y ck (zJX seen cs) (l.filter λe=>!(seen.map ck).contains e.born)
 | [],l,hc=>by rw[yI]at hc; subst hc; rfl|c::cs,l,hc=>by
  obtain⟨e,r,rfl,⟨h1,h2,h3⟩,h4⟩:=hc;unfold zJX;rw[zRP,List.filter_cons,h3,zVv hck];cases seen.contains c.born with
  |true=>rw[show(!true)=false from rfl,if_neg (by simp)]; exact zEV hck h4|false=>exact⟨e,_,rfl,⟨h1,h2,h3⟩,zEV hck h4⟩
theorem zEY{last:Nat}(hck:zCQ ck last):∀{cs:List CE} {l:List MapEntry},yI Y ck cs l->zDW last cs=l.all λe=>decide (e.born >= ck last)
 | [],l,hc=>by rw[yI]at hc; subst hc; rfl|c::cs,l,hc=>by
  obtain⟨e,r,rfl,⟨h1,h2,h3⟩,h4⟩:=hc;unfold zDW;rw[List.all_cons,zEY hck h4,h3]
  congr 1
  have hc:=hck c.born;cases hb:Nat.ble last c.born with
  |true=>have:=zH hb; symm; rw[decide_eq_true_eq]; omega|false=>symm; rw[decide_eq_false_iff_not]; intro h;rw[Nat.ble_eq_true_of_le (by omega)]at hb; cases hb
theorem zHe{since:Nat}(hck:zCQ ck since):∀{cs:List CE} {l:List MapEntry},yI Y ck cs l->zHO since cs=true->∀e∈l,e.born<ck since
 | [],l,hc,_=>by rw[yI]at hc; subst hc; simp|c::cs,l,hc,ho=>by
  obtain⟨e,r,rfl,⟨h1,h2,h3⟩,h4⟩:=hc;unfold zHO at ho;rw[Bool.and_eq_true]at ho
  have:=zH ho.1
  intro x hx;rcases List.mem_cons.1 hx with rfl |hx
  . have:=(hck _).1 this; omega
  . exact zHe hck h4 ho.2 x hx
theorem zXp{cs:List CE}{l:List MapEntry}(h:yI Y ck cs l):∀{i:Nat} {e:MapEntry},l[i]? = some e->∃c,cs[i]? = some c/\zD3 Y ck c e:=by
 induction cs generalizing l with
 |nil=>intro i e he; rw[yI]at h; subst h; cases he
 |cons c cs ih=>
  obtain⟨e0,r,rfl,q,h⟩:=h;intro i e he;cases i with
  |zero=>simp at he; subst he; exact⟨c,rfl,q⟩|succ i=>exact ih h (by simpa using he)
theorem xg.left(hck:∀a b,ck a=ck b ↔ a=b){seen:List Nat}{cs:List CE}{l:List MapEntry}(h:xg Y ck cs l):xg Y ck (zJX seen cs) (l.filter λe=>!(seen.map ck).contains e.born):=
 let ⟨l',hp,hc⟩:=h
 ⟨_,hp.filter _,zEV hck hc⟩
theorem xg.late{last:Nat}(hck:zCQ ck last){cs:List CE}{l:List MapEntry}(h:xg Y ck cs l):zDW last cs=l.all λe=>decide (e.born >= ck last):=by obtain⟨l',hp,hc⟩:=h;rw[zEY hck hc,Bool.eq_iff_iff,List.all_eq_true,List.all_eq_true];exact⟨λq x hx=>q x (hp.mem_iff.2 hx),λq x hx=>q x (hp.mem_iff.1 hx)⟩
theorem xg.old{since:Nat}(hck:zCQ ck since){cs:List CE}{l:List MapEntry}(h:xg Y ck cs l)(ho:zHO since cs=true):∀e∈l,e.born<ck since:=by obtain⟨l',hp,hc⟩:=h;exact λe he=>zHe hck hc ho e (hp.mem_iff.2 he)
theorem xg.get{cs:List CE}{l:List MapEntry}(h:xg Y ck cs l){e:MapEntry}(he:e∈l):∃(i:Nat) (c:CE),cs[i]? = some c/\zD3 Y ck c e:=by obtain⟨l',hp,hc⟩:=h;obtain⟨i,hi⟩:=List.getElem?_of_mem (hp.mem_iff.2 he);obtain⟨c,h1,h2⟩:=zXp hc hi;exact⟨i,c,h1,h2⟩
theorem zFj{o:Op}{f:CE->OR}(hf:∀c,(Rel Y (zC.fam h) w->zD P Y h n U o ty w (f c))->zD P Y h n U o ty w (f c)) :
 ∀(l:List CE) (e:CE),(Rel Y (zC.fam h) w->∃(i:Nat) (c:CE),(e::l)[i]? = some c/\zD P Y h n U o ty w (f c))->zD P Y h n U o ty w (zFF f e l)
 | [],e,hx=>by
  refine hf e λhrel=>?_;obtain⟨i,c,hi,hc⟩:=hx hrel;cases i with
  |zero=>simp at hi; subst hi; exact hc|succ i=>simp at hi
 |e'::l,e,hx=>by
  intro hrel;obtain⟨i,c,hi,hc⟩:=hx hrel;cases i with
  |zero=>simp at hi; subst hi; exact .inl hc|succ i=>exact .inr (zFj hf l e' λ_=>⟨i,c,by simpa using hi,hc⟩)
theorem zTo(it:Operand)(s:Bool)(ha:yG P Y es tm E U [it]):zD P Y h n U (.next it s) ty w (yX P (zj P E (.next it s)) es tm h n):=by
 refine zu (C:=zD P Y h n U (.next it s) ty w) zA λc hc=>?_;have hx:=ha it (by simp) c hc;refine xU (C:=zD P Y h n U (.next it s) ty w) _ _ _ (zA _) λb off hv=>?_;refine zJ (C:=zD P Y h n U (.next it s) ty w) _ _ _ (zA _) λhoff=>?_;have hoff:=ze hoff;subst hoff;rw[hv,zx]at hx;obtain⟨p,hp,hx⟩:=hx;unfold zUT;split
 . -- a string
   rename_i q pos ho;unfold zKp;split
   . rename_i hq;intro hrel _ _;obtain⟨bs,h1,h2,h3⟩:=hrel.on b _ p ho hp;rw[h3]at hx;rw[qp,List.getElem?_eq_none_iff,zFW h2]at hq;refine⟨w,.tuple #[.bool false],Y,zR ?_,yF.refl hrel,yU.2 ⟨_,rfl,zW.2 ⟨zL.2 rfl,zM.2 rfl⟩⟩⟩;have hn:¬pos<bs.size:=by omega
     simp[execOp,Instr.next,hx,kj h1 (by simp),hn]
   . rename_i c hq;split
     . rename_i r hrc;rw[zw];intro hrel _ _;obtain⟨bs,h1,h2,h3⟩:=hrel.on b _ p ho hp;rw[h3]at hx;rw[qp]at hq;obtain⟨v,hv,hvr⟩:=h2.get hq;rw[List.getElem?_map]at hv;cases hg:bs.data.toList[pos]? with
       |none=>rw[hg]at hv; cases hv|some u=>
        rw[hg]at hv;injection hv with hv;subst hv;obtain⟨q',hq',hle,hrr⟩:=zRn P (w:=w) hrc hvr;have hu':u.toNat=q':=by injection hq' with _ e; injection e
        have hj:pos<bs.size:=by
         rcases Nat.lt_or_ge pos bs.data.toList.length with h |h
         . exact h
         . rw[List.getElem?_eq_none h]at hg; cases hg
        have hu:bs[pos]=u:=by rw[List.getElem?_eq_getElem (show pos<bs.data.toList.length from hj)]at hg;injection hg
        have hdec:=decode_ascii bs pos hj (by rw[hu,hu']; omega);rw[hu,hu']at hdec;have hlt:=(hrel.on b _ p ho hp).lt;have hpost:=qj (n:=n) hrel ho rfl hp (o':=.striter q (pos+1)) (ob:=.stringIter bs (pos+1)) ⟨bs,xe _ hlt,h2,h3⟩;refine⟨_,.tuple #[.bool true,.int .i64 pos,.int .i32 q'],Y,zR ?_,by rw[z7]; exact hpost,
         yU.2 ⟨_,rfl,zW.2 ⟨zL.2 rfl,zW.2 ⟨zT.2 rfl,zW.2 ⟨hrr,zM.2 rfl⟩⟩⟩⟩⟩
        simp[execOp,Instr.next,hx,kj h1 (by simp),hj,hdec,zGA h1 (by simp),goInt]
     . exact zA _
 . -- a nil map
   rename_i q1 q2 q3 ho;intro hrel _ _;obtain⟨m',cf,h1,h3,h2⟩:=hrel.on b _ p ho hp;rw[h3]at hx;simp only at h2;subst h2;refine⟨w,.tuple #[.bool false],Y,zR ?_,yF.refl hrel,yU.2 ⟨_,rfl,zW.2 ⟨zL.2 rfl,zM.2 rfl⟩⟩⟩;simp[execOp,Instr.next,hx,kj h1 (by simp)]
 . -- a map
   rename_i m since seen last ho;refine ye (C:=zD P Y h n U (.next it false) ty w) _ _ _ (zA _) λcs clock hm=>?_;split
   . exact zA _
   . rename_i hlate;have facts:Rel Y (zC.fam h) w->∃q arr,Y m=some q/\p.off=0/\w.heap[p.blk]? = some (.mapIter (some q.blk) (q.ck since) (seen.map q.ck).toArray (q.ck last))/\w.heap[q.blk]? = some (.map arr (q.ck clock))/\xg Y q.ck cs arr.toList/\vd q.ck clock/\zCQ q.ck since/\zCQ q.ck last /\
      (!(seen.map q.ck).toArray.isEmpty && !arr.isEmpty&&arr.all λe=>decide (e.born >= q.ck last))=false:=by
      intro hrel;obtain⟨m',cf,h1,h3,q,h4,h5,h8,hs1,hs2⟩:=hrel.on b _ p ho hp;subst h8;obtain⟨arr,h6,h7,hcq⟩:=hrel.on m _ q hm h4;refine⟨q,arr,h4,h3,by rw[h1,h5],h6,h7,hcq,hs1,hs2,?_⟩;rw[<- hlate,h7.late hs2];have e1:(seen.map q.ck).toArray.isEmpty=zSs seen:=by cases seen <;> rfl
      have e2:arr.isEmpty=zOK cs:=by
       have:=h7.length
       rw[<- Array.isEmpty_toList];cases hl:arr.toList <;> cases cs <;> simp_all [zOK]
      have e3:(arr.all λe=>decide (e.born >= q.ck last))=arr.toList.all λe=>decide (e.born >= q.ck last):=by rw[Array.all_toList]
      rw[e1,e2,e3]
     split
     . rename_i hleft;intro hrel _ _;obtain⟨q,arr,h4,h3,h1,h6,h7,hcq,hs1,hs2,hl⟩:=facts hrel;rw[h3]at hx;have hf:=h7.left (λ_ _=>hcq.inj) (seen:=seen);rw[hleft]at hf;have hf:(arr.filter λe=>!(seen.map q.ck).toArray.contains e.born)=#[]:=by apply Array.ext';rw[Array.toList_filter];have hf:=hf.nil_eq;simpa using hf
       refine⟨w,.tuple #[.bool false],Y,zR ?_,yF.refl hrel,yU.2 ⟨_,rfl,zW.2 ⟨zL.2 rfl,zM.2 rfl⟩⟩⟩;simp only[execOp,Instr.next,hx,Sem.run_bind,kj h1 (by simp),Result.andThen_ok,run_getObj_map h6,hl,hf,Bool.false_eq_true,if_false];simp[Question.forced]
     . rename_i e l hleft;refine zJ (C:=zD P Y h n U (.next it false) ty w) _ _ _ (zA _) λhold=>?_;refine zFj (λc hc=>by intro hrel; exact(show Rel Y (zC.fam h) w->_ from hc hrel) hrel) l e λhrel=>?_;obtain⟨q,arr,h4,h3,h1,h6,h7,hcq,hs1,hs2,hl⟩:=facts hrel;rw[h3]at hx;have hf:=h7.left (λ_ _=>hcq.inj) (seen:=seen);rw[hleft]at hf;have hold:=hf.old hs1 hold;have hlen:=hf.length;obtain⟨left,hL⟩:∃left,arr.filter (λe=>!(seen.map q.ck).toArray.contains e.born)=left:=⟨_,rfl⟩
       have hleftL:left.toList=arr.toList.filter λe=>!(seen.map q.ck).contains e.born:=by rw[<- hL,Array.toList_filter]; simp
       have hsz:left.size=l.length+1:=by
        have:left.toList.length=l.length+1:=by rw[hleftL,hlen]; rfl
        simpa using this
       have hnew:(left.filter λe=>decide (e.born >= q.ck since))=#[]:=by
        apply Array.ext';rw[Array.toList_filter,hleftL];simp only[Array.toList_empty,List.filter_eq_nil_iff];intro x hx
        have:=hold x hx
        simp; omega
       have holdF:(left.filter λe=>decide (e.born<q.ck since))=left:=by
        apply Array.ext';rw[Array.toList_filter,hleftL,List.filter_eq_self];intro x hx
        have:=hold x hx
        simpa using this
       have hne:left.isEmpty=false:=by rw[Array.isEmpty,hsz]; simp
       obtain⟨i,w1,hi,hch,hw1,ht1,ho1,hu1⟩:∃i w1,i<left.size/\(choose (.mapNext left.size)).run P w=.ok i w1/\w1.heap=w.heap/\w1.tape=w.tape/\w1.os=w.os/\w1.output=w.output:=by
        rw[run_choose];by_cases hfo:(Question.mapNext left.size).forced=true
        . rw[if_pos hfo]; exact⟨0,w,by omega,rfl,rfl,rfl,rfl,rfl⟩
        . rw[if_neg hfo]; exact⟨_,_,Nat.mod_lt _ (by omega),rfl,rfl,rfl,rfl,rfl⟩
       have hge:(left.toList)[i]? = some left[i]:=by rw[Array.getElem?_toList,Array.getElem?_eq_getElem hi]
       rw[hleftL]at hge;obtain⟨ic,c',hc',hk',hv',hb'⟩:=hf.get (List.mem_of_getElem? hge);refine⟨ic,c',hc',λhrel _ _=>?_⟩;have hlt:=(hrel.on b _ p ho hp).lt;have hpost1:=zIp (n:=n) hrel hw1 ht1 ho1 hu1;have hrel1:=hpost1.rel;have h1':w1.heap[p.blk]? = some (.mapIter (some q.blk) (q.ck since) (seen.map q.ck).toArray (q.ck last)):=by rw[hw1]; exact h1
       have hpost:=qj (n:=n) hrel1 ho rfl hp (o':=.mapiter (some m) since (seen++[c'.born]) clock) (ob:=.mapIter (some q.blk) (q.ck since) ((seen.map q.ck).toArray.push left[i].born) (q.ck clock))
        ⟨some q.blk,q.ck,by rw[xe _ (by rw[hw1]; exact hlt),hb']; simp,h3,q,h4,rfl,rfl,hs1,hcq.here⟩
       refine⟨_,.tuple #[.bool true,left[i].key,left[i].val],Y,zR ?_,by rw[z7]; exact hpost1.trans hpost,
        yU.2 ⟨_,rfl,zW.2 ⟨zL.2 rfl,zW.2 ⟨hk',zW.2 ⟨hv',zM.2 rfl⟩⟩⟩⟩⟩
       have hcand:((if(left.filter λe=>decide (e.born<q.ck since)).isEmpty then #[none]else #[])++((left.filter λe=>decide (e.born<q.ck since))++left.filter λe=>decide (e.born >= q.ck since)).map some)=left.map some:=by rw[hnew,holdF,hne]; simp
       have hgi:(left.map some)[i]? = some (some left[i]):=by rw[Array.getElem?_map,Array.getElem?_eq_getElem hi]; rfl
       simp only[execOp,Instr.next,hx,Sem.run_bind,kj h1 (by simp),Result.andThen_ok,run_getObj_map h6,hl,Bool.false_eq_true,if_false];rw[hL,hcand,Array.size_map,hch];simp only[Result.andThen_ok,hgi,Sem.run_bind,zGA h1' (by simp),Sem.run_pure]
 . exact zA _
end
end Go.Ev
namespace Go.Ev
variable[Sym]
open Go.MapKept
noncomputable section
variable{ck:Nat->Nat}{P:Program}{Y:Psi}{es:List CV}{tm:Tm}{h:zC}{n:Key}{U:Operand->Value}{E:Env}{ty:TypeId}{w:World}
variable[SymFact P]
theorem zGb(hck:∀a b,ck a=ck b ↔ a=b){b:Nat}:∀{cs:List CE} {l:List MapEntry},yI Y ck cs l->zLo b cs=true->∀x∈l,x.born≠ck b
 | [],l,hc,_=>by rw[yI]at hc; subst hc; simp|c::cs,l,hc,hb=>by
  obtain⟨e,r,rfl,hr,h4⟩:=hc;unfold zLo at hb;split at hb
  . cases hb
  . rename_i hq;intro x hx;rcases List.mem_cons.1 hx with rfl |hx
    . rw[hr.2.2]; intro h;rw[hck]at h; rw[h,qw]at hq; cases hq
    . exact zGb hck h4 hb x hx
theorem zJN(hck:∀a b,ck a=ck b ↔ a=b){b:Nat}:∀{cs:List CE} {l:List MapEntry} {c:CE},yI Y ck cs l->zL5 b cs=some c->∃e,e∈l/\zD3 Y ck c e/\e.born=ck b/\∀x∈l,x.born=ck b->x=e
 | [],_,_,_,hb=>by cases hb|c::cs,l,d,hc,hb=>by
  obtain⟨e,r,rfl,hr,h4⟩:=hc;unfold zL5 at hb;split at hb
  . rename_i hq;split at hb
    . rename_i hno;injection hb with hb; subst hb;refine⟨e,by simp,hr,by rw[hr.2.2,ze hq],λx hx hxb=>?_⟩;rcases List.mem_cons.1 hx with rfl |hx
      . rfl
      . exact absurd hxb (zGb hck h4 hno x hx)
    . cases hb
  . rename_i hq;obtain⟨e',h1,h2,h3,h5⟩:=zJN hck h4 hb;refine⟨e',by simp[h1],h2,h3,λx hx hxb=>?_⟩;rcases List.mem_cons.1 hx with rfl |hx
    . rw[hr.2.2,hck]at hxb;rw[hxb,qw]at hq; cases hq
    . exact h5 x hx hxb
theorem zQ4(hck:∀a b,ck a=ck b ↔ a=b){b:Nat}{cs:List CE}{l:List MapEntry}{c:CE}(hm:xg Y ck cs l)(hb:zL5 b cs=some c):∃e,l.find? (λe=>e.born == ck b)=some e/\zD3 Y ck c e:=by
 obtain⟨l',hp,hc⟩:=hm;obtain⟨e,h1,h2,h3,h4⟩:=zJN hck hc hb;cases hf:l.find? (λe=>e.born == ck b)with
 |none=>
  have:=List.find?_eq_none.1 hf e (hp.mem_iff.1 h1)
  rw[h3]at this; simp at this
 |some x=>have g1:=List.find?_some hf;have g2:=h4 x (hp.mem_iff.2 (List.mem_of_find?_eq_some hf)) (by simpa using g1);exact⟨x,rfl,by rw[g2]; exact h2⟩
theorem zNy:∀(l:List Nat),zPx l=l.getLast?
 | []=>rfl| [x]=>rfl|_::y::r=>by show zPx (y::r)=_;rw[zNy (y::r)]; simp
theorem zRl(it:Operand)(ha:yG P Y es tm E U [it]):zD P Y h n U (.entry it) ty w (yX P (zj P E (.entry it)) es tm h n):=by
 refine zu (C:=zD P Y h n U (.entry it) ty w) zA λc hc=>?_;have hx:=ha it (by simp) c hc;refine xU (C:=zD P Y h n U (.entry it) ty w) _ _ _ (zA _) λb off hv=>?_;refine zJ (C:=zD P Y h n U (.entry it) ty w) _ _ _ (zA _) λhoff=>?_;have hoff:=ze hoff;subst hoff;rw[hv,zx]at hx;obtain⟨p,hp,hx⟩:=hx;unfold zNL;split
 . rename_i m since seen stepped ho;split
   . rename_i st hst;rw[zNy]at hst;refine ye (C:=zD P Y h n U (.entry it) ty w) _ _ _ (zA _) λcs clock hm=>?_;split
     . rename_i e hcl hbo;have hcl:=ze hcl;subst hcl;intro hrel;obtain⟨m',cf,h1,h3,q,h4,h5,h9,_,_⟩:=hrel b _ p ho hp;subst h9;obtain⟨arr,h6,h7,hcq⟩:=hrel m _ q hm h4;subst h5;rw[h3]at hx;obtain⟨e',h8,hk,hv',_⟩:=zQ4 (λ_ _=>hcq.inj) h7 hbo;have h8:arr.find? (λe=>e.born == q.ck st)=some e':=by rw[<- Array.find?_toList]; exact h8
       have hback:(seen.map q.ck).toArray.back? = some (q.ck st):=by simp[hst]
       refine⟨.tuple #[e'.key,e'.val],zR ?_,yU.2 ⟨_,rfl,zW.2 ⟨hk,zW.2 ⟨hv',zM.2 rfl⟩⟩⟩⟩;simp only[execOp,Instr.entry,hx,Sem.run_bind,kj h1 (by simp),Result.andThen_ok,hback,run_getObj_map h6,bne_self_eq_false,Bool.false_eq_true,if_false,h8,Sem.run_pure]
     . exact zA _
   . exact zA _
 . exact zA _
theorem zD5{c:Call}{b:Builtin}(hc:c.callee=.builtin b)(w:World) :
 (execOp U (qM (.call c) ty)).run P w=(builtin b c.argTypes ty (c.args.map λ|.const _=>true |_=>false) (c.args.map U)).run P w:=by
 simp only[execOp,resolve,hc,Sem.run_bind,Sem.run_pure,Result.andThen_ok,invoke];rfl
theorem zCv{α:Type}{a:Array α}{l:List α}(h:a.toList=l):a=l.toArray:=by subst h; rfl
section
variable{c:Call}{b:Builtin}{o:Op}
theorem zVZ{t:TypeId}{r:List TypeId}{x:Operand}(hrun:∀w,(execOp U (qM o ty)).run P w=(do pure (.value (<- Builtin.len_ (t::r).toArray ty #[U x])):Sem Next).run P w)(ha:yG P Y es tm E U [x]) :
 zD P Y h n U o ty w (yX P (qa P E .len (t::r) [x]) es tm h n):=by
 have hr:∀{v:Value},(Builtin.len_ (t::r).toArray ty #[U x]).run P w=.ok v w->(execOp U (qM o ty)).run P w=.ok (.value v) w:=by intro v hv; rw[hrun]; simp[hv]
 show zD P Y h n U o ty w (yX P (match und P t with
  |some .string=>xX P E .lenStr x|some (.array k _)=>.mv (.k (.nat k))|some (.pointer a)=>match und P a with
   |some (.array k _)=>.mv (.k (.nat k))|_=>.bad 6
  |some (.slice _)=>xX P E .lenSl x|some (.map _ _)=>xX P E .lenMap x|_=>.bad 6) es tm h n)
 unfold und;split
 . rename_i ht;refine zu (C:=zD P Y h n U o ty w) zA λc hc=>?_;have hx:=ha x (by simp) c hc;refine qK (C:=zD P Y h n U o ty w) _ _ _ ?_ λl hs=>?_
   case refine_2=>
    rw[hs,ya]at hx;obtain⟨b,hx,hl⟩:=hx;have hlen:um l=b.size:=by
     have:=hl.length
     rw[List.length_map]at this;have e:∀l:List CV,um l=l.length:=by
      intro l;induction l with
      |nil=>rfl|cons c l ih=>show Nat.succ (um l)=_; rw[ih]; rfl
     rw[e,<- this]; rfl
    rw[hlen];exact⟨_,zR (hr (by simp[Builtin.len_,hx,run_underlying ht]; rfl)),xx _⟩
   refine yP (C:=zD P Y h n U o ty w) _ _ _ (zA _) λs hs=>?_;rw[hs,zg]at hx;obtain⟨b,hx,rfl⟩:=hx;rw[zAi,xu];exact⟨_,zR (hr (by simp[Builtin.len_,hx,run_underlying ht]; rfl)),xx _⟩
 . rename_i k e ht;exact⟨_,zR (hr (v:=goInt k) (by simp[Builtin.len_,run_underlying ht])),zT.2 rfl⟩
 . rename_i a ht;split
   . rename_i k e ht';exact⟨_,zR (hr (v:=goInt k) (by simp[Builtin.len_,run_underlying ht,run_underlying ht'])),zT.2 rfl⟩
   . exact zA _
 . rename_i e ht;refine zu (C:=zD P Y h n U o ty w) zA λc hc=>?_;have hx:=ha x (by simp) c hc;refine qy (C:=zD P Y h n U o ty w) _ _ _ ?_ λb s0 e0 n0 hv=>?_
   case refine_2=>rw[hv,qW]at hx;obtain⟨_,base,len,cap,iv,hx,hn,_⟩:=hx;exact⟨_,zR (hr (v:=goInt len) (by simp[Builtin.len_,hx,run_underlying ht])),zp.2 hn.symm⟩
   refine yY (C:=zD P Y h n U o ty w) _ _ _ _ (zA _) (λhv=>?_) λb off len cap s ex hv=>?_
   . rw[hv,yD]at hx;exact⟨_,zR (hr (v:=goInt 0) (by simp[Builtin.len_,hx,run_underlying ht])),zT.2 rfl⟩
   . rw[hv,yJ]at hx;obtain⟨p,x',cap',_,hx,_⟩:=hx;exact⟨_,zR (hr (v:=goInt len) (by simp[Builtin.len_,hx,run_underlying ht])),zT.2 rfl⟩
 . rename_i e e' ht;refine zu (C:=zD P Y h n U o ty w) zA λc hc=>?_;have hx:=ha x (by simp) c hc;refine xT (C:=zD P Y h n U o ty w) _ _ _ _ (zA _) (λhv=>?_) λb hv=>?_
   . rw[hv,yg]at hx;exact⟨_,zR (hr (v:=goInt 0) (by simp[Builtin.len_,hx,run_underlying ht])),zT.2 rfl⟩
   . refine ye (C:=zD P Y h n U o ty w) _ _ _ (zA _) λcs clock hm=>?_;intro hrel;rw[hv,xC]at hx;obtain⟨p,hp,hx⟩:=hx;obtain⟨arr,h6,h7,_⟩:=hrel b _ p hm hp;have hl:arr.size=cs.length:=by have:=h7.length; simpa using this
     rw[zDv,<- hl];exact⟨_,zR (hr (v:=goInt arr.size) (by simp[Builtin.len_,hx,run_underlying ht,run_getObj_map h6])),xx _⟩
 . exact zA _
theorem zUb(k:Nat):wW [.any] k=List.replicate k .any:=by
 induction k with
 |zero=>rfl|succ k ih=>exact congrArg (CV.any :: ·) ih
theorem yZ.more{Y:Psi}{w:World}{p:Pl}{vs:List CV}(h:yZ Y w p vs){k:Nat}(hk:p.off+(vs.length+k)<=p.sz):yZ Y w p (vs++List.replicate k .any):=by
 obtain⟨arr,elem,fz,h1,h2,h3,h4,h5⟩:=h;refine⟨arr,elem,fz,h1,h2,by rw[List.length_append,List.length_replicate]; exact hk,h4,λi c hi=>?_⟩;by_cases hlt:i<vs.length
 . rw[List.getElem?_append_left hlt]at hi;exact h5 i c hi
 . rw[List.getElem?_append_right (by omega),List.getElem?_replicate]at hi;split at hi
   . injection hi with hi; subst hi;exact⟨_,Array.getElem?_eq_getElem (by omega),by unfold zG; trivial⟩
   . cases hi
theorem zEv{Y:Psi}{g:Fam}{n b:Key}{w:World}{p:Pl}{o o':CObj}(h:Rel Y g w)(hb:g b=some o)(hp:Y b=some p)(ho':xQ Y w p o')(hro:o.isRo=false:=by rfl)(hro':o'.isRo=false:=by rfl) :
 yF Y g n w Y (g.upd b (some o')) n w:=by
 have hs:∀k q,g.upd b (some o') k=some q->∃q',g k=some q'/\(q'.isRo=q.isRo):=by
  intro k q hk;by_cases e:k=b
  . subst e; rw[Fam.upd_same]at hk; injection hk with hk; subst hk; exact⟨o,hb,by rw[hro,hro']⟩
  . rw[Fam.upd_other _ _ e]at hk; exact⟨q,hk,rfl⟩
 refine⟨Psi.le_refl _,λ_ _=>rfl,⟨λk q pk hk hpk=>?_,λk q hk=>?_,λk₁ k₂ o₁ o₂ p₁ p₂ h1 h2 h3 h4 hr e=>?_⟩,λ_ _ _=>rfl,λk q pk h1 h2 h3=>?_,Nat.le_refl _,rfl,rfl,rfl,Nat.le_refl _,λk q pk h1 h3=>?_⟩
 . by_cases e:k=b
   . subst e; rw[Fam.upd_same]at hk; injection hk with hk; subst hk; rw[hp]at hpk; injection hpk with hpk; subst hpk; exact ho'
   . rw[Fam.upd_other _ _ e]at hk; exact h.on k q pk hk hpk
 . obtain⟨q',hq,_⟩:=hs k q hk; exact h.tot k q' hq
 . obtain⟨q₁,e1,r1⟩:=hs k₁ o₁ h1;obtain⟨q₂,e2,r2⟩:=hs k₂ o₂ h2;exact h.inj k₁ k₂ q₁ q₂ p₁ p₂ e1 e2 h3 h4 (by rw[r1,r2]; exact hr) e
 . obtain⟨q',e1,e2⟩:=hs k q h1;exact .inl ⟨k,q',pk,e1,by rw[e2]; exact h2,h3,rfl⟩
 . obtain⟨q',e1,_⟩:=hs k q h1;exact .inl ⟨k,q',pk,e1,h3,rfl⟩
theorem zVp{t:TypeId}{r:List TypeId}{x:Operand}(hrun:∀w,(execOp U (qM o ty)).run P w=(do pure (.value (<- Builtin.cap_ (t::r).toArray ty #[U x])):Sem Next).run P w)(ha:yG P Y es tm E U [x]) :
 zD P Y h n U o ty w (yX P (qa P E .cap (t::r) [x]) es tm h n):=by
 have hr:∀{v:Value},(Builtin.cap_ (t::r).toArray ty #[U x]).run P w=.ok v w->(execOp U (qM o ty)).run P w=.ok (.value v) w:=by intro v hv; rw[hrun]; simp[hv]
 show zD P Y h n U o ty w (yX P (match und P t with
  |some (.slice _)=>xX P E .capSl x|some (.array k _)=>.mv (.k (.nat k))|_=>.bad 7) es tm h n)
 unfold und;split
 . rename_i e ht;refine zu (C:=zD P Y h n U o ty w) zA λc hc=>?_;have hx:=ha x (by simp) c hc;refine yY (C:=zD P Y h n U o ty w) _ _ _ _ (zA _) (λhv=>?_) λb off len cap s ex hv=>?_
   . rw[hv,yD]at hx;exact⟨_,zR (hr (v:=goInt 0) (by simp[Builtin.cap_,hx,run_underlying ht])),zT.2 rfl⟩
   . rw[hv,yJ]at hx;obtain⟨p,x',cap',hp,hx,hcap,_,hc',hor⟩:=hx;have hout:kz P U o ty w w (goInt cap'):=zR (hr (v:=goInt cap') (by simp[Builtin.cap_,hx,run_underlying ht]));cases ex with
     |true=>
      have:=hc' rfl
      subst this;exact⟨_,hout,zT.2 rfl⟩
     |false=>
      show zD P Y h n U o ty w (zUu b off len cap s h n);unfold zUu;rw[jx];split
      . exact⟨_,hout,wX.2 ⟨cap',rfl,hcap⟩⟩
      . refine yh (C:=zD P Y h n U o ty w) _ _ _ (zA _) λvs hvs=>?_;refine zJ (C:=zD P Y h n U o ty w) _ _ _ (zA _) λh1=>?_;have h1:=zH h1;have e:x'=p.off+off/\x'+cap'*s=p.sz:=by
         rcases hor with⟨e,h⟩ |e
         . exact⟨e,h rfl⟩
         . omega
        have hup:∀k,zSv vs k=vs++List.replicate (k - vs.length) .any:=by intro k;show zEg vs (wW [.any] (k - um vs))=_;rw[uA,vQ,zUb]
        unfold zD;intro _;rcases Nat.lt_or_ge cap cap' with hlt |hge
        . refine .inr ?_;intro hrel _ _;have hcells:yZ Y w p vs:=hrel.on b _ p hvs hp;have hmul:(cap+1)*s<=cap'*s:=Nat.mul_le_mul_right _ hlt;have hmore:xQ Y w p (.cells (zSv vs (off+(cap+1)*s))):=by
           rw[hup];exact hcells.more (by obtain⟨_,_,_,_,_,h3,_⟩:=hcells;omega)
          exact⟨w,_,Y,hout,by rw[z7]; exact zEv hrel hvs hp hmore,wX.2 ⟨cap',rfl,hlt⟩⟩
        . have:cap'=cap:=by omega
          subst this;refine .inl ?_;intro hrel _ _;have hcells:yZ Y w p vs:=hrel.on b _ p hvs hp;have hfull:xQ Y w p (.full false (zSv vs (off+cap'*s))):=by
           rw[hup];have hle:p.off+vs.length<=p.sz:=by obtain⟨_,_,_,_,_,h3,_⟩:=hcells;exact h3
           obtain⟨arr,elem,fz,c1,c2,c3,c4,c5⟩:=hcells.more (k:=off+cap'*s - vs.length) (by omega);exact⟨arr,elem,fz,c1,c2,by rw[List.length_append,List.length_replicate]; omega,c4.elim .inl (λh=>.inr ⟨rfl,h⟩),c5⟩
          exact⟨w,_,Y,hout,by rw[z7]; exact zEv hrel hvs hp hfull,zT.2 rfl⟩
 . rename_i k e ht;exact⟨_,zR (hr (v:=goInt k) (by simp[Builtin.cap_,run_underlying ht])),zT.2 rfl⟩
 . exact zA _
theorem zI8{v:CV}{k:IntKind}{a:Int}{x:Value}(hi:intOf v=some (k,a))(hx:zG Y v x):x=.int k a:=by
 unfold intOf at hi;split at hi
 . injection hi with hi; injection hi with h1 h2; subst h1 h2; exact zT.1 hx
 . injection hi with hi; injection hi with h1 h2; subst h1 h2; exact zf.1 hx
 . cases hi
theorem zPS{mx:Bool}{k:IntKind}:∀{l:List CV} {a:Int} {r:CV} {xs:List Value} (w:World),zP Y l xs->zVe mx k a l=some r ->
 ∃y,(xs.foldlM (match mx with |true=>Builtin.max2 |false=>Builtin.min2) (Value.int k a)).run P w=.ok y w/\zG Y r y
 | [],a,r,xs,w,hx,hr=>by rw[zM]at hx; subst hx;injection hr with hr; subst hr;exact⟨_,rfl,xF _ _⟩
 |v::l,a,r,xs,w,hx,hr=>by
  obtain⟨y,ys,rfl,h1,h2⟩:=za.1 hx;unfold zVe at hr;split at hr
  . rename_i j b hi;have hy:=zI8 hi h1;subst hy;split at hr
    . rename_i hjk;rw[yj]at hjk;have hjk:k=j:=by simpa using hjk
      subst hjk;obtain⟨y',g1,g2⟩:=zPS w h2 hr;refine⟨y',?_,g2⟩;rw[List.foldlM_cons,Sem.run_bind];cases mx with
      |true=>
       by_cases q:a<b
       . have hq:vL a b=true:=by rw[ql]; simpa using q
         simp only[hq]at g1;have e:(Builtin.max2 (.int k a) (.int k b)).run P w=.ok (.int k b) w:=by simp[Builtin.max2,q]
         simp only[e]; exact g1
       . have hq:vL a b=false:=by rw[ql]; simpa using q
         simp only[hq]at g1;have e:(Builtin.max2 (.int k a) (.int k b)).run P w=.ok (.int k a) w:=by simp[Builtin.max2,q]
         simp only[e]; exact g1
      |false=>
       by_cases q:b<a
       . have hq:vL b a=true:=by rw[ql]; simpa using q
         simp only[hq]at g1;have e:(Builtin.min2 (.int k a) (.int k b)).run P w=.ok (.int k b) w:=by simp[Builtin.min2,q]
         simp only[e]; exact g1
       . have hq:vL b a=false:=by rw[ql]; simpa using q
         simp only[hq]at g1;have e:(Builtin.min2 (.int k a) (.int k b)).run P w=.ok (.int k a) w:=by simp[Builtin.min2,q]
         simp only[e]; exact g1
    . cases hr
  . cases hr
theorem zV7{t:TypeId}{k:IntKind}{a:Int}{v:Value}{r:Bool}{w:World}(h:(binOp .lss t (.int k a) v).run P w=.ok (.bool r) w):∃b,v=.int k b/\r=decide (a<b):=by
 cases v with
 |int j b=>
  by_cases e:k=j
  . subst e;refine⟨b,rfl,?_⟩;simp[binOp,Op.intCmp]at h;exact h.symm
  . simp[binOp,e]at h
 |_=>simp[binOp]at h
theorem uh{mx:Bool}:∀{l:List CV} {x r:CV} {u:Value} {xs:List Value} (w:World),zG Y x u->zP Y l xs->zLN mx x l=some r ->
 ∃y,(xs.foldlM (match mx with |true=>Builtin.max2 |false=>Builtin.min2) u).run P w=.ok y w/\zG Y r y
 | [],x,r,u,xs,w,hu,hx,hr=>by rw[zM]at hx; subst hx;injection hr with hr; subst hr;exact⟨_,rfl,hu⟩
 |v::l,x,r,u,xs,w,hu,hx,hr=>by
  obtain⟨y,ys,rfl,h1,h2⟩:=za.1 hx;unfold zLN at hr;split at hr
  . rename_i l0 b hc hb;obtain⟨k,m,e,_⟩:=(SymFact.ok (P:=P)).2 _ _ _ hc Y u hu;cases mx with
    |true=>
     obtain⟨_,z,hz,c,hc',hz'⟩:=(SymFact.ok (P:=P)).1 _ _ _ _ hb Y 0 u y w hu h1;obtain rfl:c=.bool b:=by simpa using hc'
     obtain rfl:=zL.1 hz';rw[e]at hz;obtain⟨b',e',hr'⟩:=zV7 hz;have step:(Builtin.max2 u y).run P w=.ok (if m<b' then y else u) w:=by rw[e,e'];by_cases q:m<b' <;> simp[Builtin.max2,q]
     rw[List.foldlM_cons,Sem.run_bind];simp only[step];refine uh w ?_ h2 hr;rw[hr'];by_cases q:m<b'
     . simp only[q,decide_true,if_true]; exact h1
     . simp only[q,decide_false,if_false]; exact hu
    |false=>
     obtain⟨_,z,hz,c,hc',hz'⟩:=(SymFact.ok (P:=P)).1 _ _ _ _ hb Y 0 y u w h1 hu;obtain rfl:c=.bool b:=by simpa using hc'
     obtain rfl:=zL.1 hz';obtain⟨b',e',hr'⟩:∃b',y=.int k b'/\b=decide (b'<m):=by
      rw[e]at hz;cases y with
      |int j b'=>
       by_cases ee:j=k
       . subst ee;refine⟨b',rfl,?_⟩;simp[binOp,Op.intCmp]at hz;exact hz.symm
       . simp[binOp,ee]at hz
      |_=>simp[binOp]at hz
     have step:(Builtin.min2 u y).run P w=.ok (if b'<m then y else u) w:=by rw[e,e'];by_cases q:b'<m <;> simp[Builtin.min2,q]
     rw[List.foldlM_cons,Sem.run_bind];simp only[step];refine uh w ?_ h2 hr;rw[hr'];by_cases q:b'<m
     . simp only[q,decide_true,if_true]; exact h1
     . simp only[q,decide_false,if_false]; exact hu
  . rename_i l0 hc _;obtain⟨k,m,e,_⟩:=(SymFact.ok (P:=P)).2 _ _ _ hc Y u hu;split at hr
    . rename_i hb;cases mx with
      |true=>
       obtain⟨_,z,hz,c,hc',hz'⟩:=(SymFact.ok (P:=P)).1 _ _ _ _ hb Y 0 u y w hu h1;obtain rfl:c=.bool true:=by simpa using hc'
       obtain rfl:=zL.1 hz';rw[e]at hz;obtain⟨b',e',hr'⟩:∃b',y=.int k b'/\m<=b':=by
        cases y with
        |int j b'=>
         by_cases ee:k=j
         . subst ee;refine⟨b',rfl,?_⟩;simpa [binOp,Op.intCmp]using hz
         . simp[binOp,ee]at hz
        |_=>simp[binOp]at hz
       have step:(Builtin.max2 u y).run P w=.ok y w:=by
        rw[e,e'];by_cases q:m<b'
        . simp[Builtin.max2,q]
        . have:m=b':=by omega
          subst this;simp[Builtin.max2]
       rw[List.foldlM_cons,Sem.run_bind];simp only[step];exact uh w h1 h2 hr
      |false=>
       obtain⟨_,z,hz,c,hc',hz'⟩:=(SymFact.ok (P:=P)).1 _ _ _ _ hb Y 0 y u w h1 hu;obtain rfl:c=.bool true:=by simpa using hc'
       obtain rfl:=zL.1 hz';obtain⟨b',e',hr'⟩:∃b',y=.int k b'/\b'<=m:=by
        rw[e]at hz;cases y with
        |int j b'=>
         by_cases ee:j=k
         . subst ee;refine⟨b',rfl,?_⟩;simpa [binOp,Op.intCmp]using hz
         . simp[binOp,ee]at hz
        |_=>simp[binOp]at hz
       have step:(Builtin.min2 u y).run P w=.ok y w:=by
        rw[e,e'];by_cases q:b'<m
        . simp[Builtin.min2,q]
        . have:m=b':=by omega
          subst this;simp[Builtin.min2]
       rw[List.foldlM_cons,Sem.run_bind];simp only[step];exact uh w h1 h2 hr
    . split at hr
      . rename_i cm hcm _ _;obtain⟨x0,y0,q1,q2,q3⟩:=(SymFact.mx (P:=P)) _ _ _ hcm Y _ _ hu h1;have step:(Builtin.max2 u y).run P w=.ok (.int .i64 (max x0 y0)) w:=by
         rw[q1,q2];by_cases q:x0<y0
         . rw[show max x0 y0=y0 by omega]; simp[Builtin.max2,q]
         . rw[show max x0 y0=x0 by omega]; simp[Builtin.max2,q]
        rw[List.foldlM_cons,Sem.run_bind];simp only[step];exact uh w q3 h2 hr
      . cases hr
  . cases hr
theorem zGJ(mx:Bool){x:Operand}{r:List Operand}
 (hrun:∀w,(execOp U (qM o ty)).run P w=(do pure (.value (<- (r.map U).foldlM (match mx with |true=>Builtin.max2 |false=>Builtin.min2) (U x))):Sem Next).run P w) (ha:yG P Y es tm E U (x::r)) :
 zD P Y h n U o ty w (yX P (match zn P E x,jB P E r with
 |some x,some r=>.minmax mx x r|_,_=>.bad 10) es tm h n):=by
 split
 . rename_i cx cr hcx hcr;refine jQ (C:=zD P Y h n U o ty w) _ _ (zA _) λv hv=>?_;have hx:=ha x (by simp) cx hcx;have hr:=wU r (ha.sub λy hy=>by simp[hy]) hcr;have gen:∀{v:CV},zLN mx (aV es tm cx) (aVs es tm cr)=some v->zD P Y h n U o ty w (.val v):=by intro v hv;obtain⟨y,h1,h2⟩:=uh (P:=P) w hx hr hv;refine⟨y,zR ?_,h2⟩;rw[hrun];simp[h1]
   unfold zX8 at hv;split at hv
   . rename_i k a hi;split at hv
     . rename_i v' hv';obtain rfl:v'=v:=by injection hv
       have hx:=zI8 hi hx;obtain⟨y,h1,h2⟩:=zPS (P:=P) w hr hv';refine⟨y,zR ?_,h2⟩;rw[hrun,hx];simp[h1]
     . exact gen hv
   . exact gen hv
 . exact zA _
theorem zOF{t:TypeId}{r:List TypeId}{m k:Operand}(hrun:∀w,(execOp U (qM o ty)).run P w=(do pure (.value (<- Builtin.delete_ (t::r).toArray ty #[U m,U k])):Sem Next).run P w)(ha:yG P Y es tm E U [m,k]) :
 zD P Y h n U o ty w (yX P (qa P E .delete (t::r) [m,k]) es tm h n):=by
 have hr:∀{v:Value} {w':World},(Builtin.delete_ (t::r).toArray ty #[U m,U k]).run P w=.ok v w'->(execOp U (qM o ty)).run P w=.ok (.value v) w':=by intro v w' hv; rw[hrun]; simp[hv]
 show zD P Y h n U o ty w (yX P (match und P t with
  |some (.map kt _)=>match xr P kt with
   |some kk=>jc P E (.delete kk) m k|none=>.bad 8
  |_=>.bad 8) es tm h n)
 unfold und;split
 . rename_i kt et ht;split
   . rename_i kk hkk;obtain⟨d,hd⟩:=zA3 hkk;refine xK (C:=zD P Y h n U o ty w) zA λcm ck hcm hck'=>?_;have hm:=ha m (by simp) cm hcm;have hk:=ha k (by simp) ck hck';refine zJ (C:=zD P Y h n U o ty w) _ _ _ (zA _) λhok=>?_;have hck:∀e,(Instr.checkKey e 10000 kt (U k)).run P w=.ok () w:=λe=>uU hkk hd hk hok e w;refine xT (C:=zD P Y h n U o ty w) _ _ _ _ (zA _) (λhv=>?_) λb hv=>?_
     . intro hrel _ _;rw[hv,yg]at hm;exact⟨w,.tuple #[],Y,zR (hr (by simp[Builtin.delete_,run_underlying ht,hm,hck])),yF.refl hrel,yU.2 ⟨_,rfl,zM.2 rfl⟩⟩
     . refine ye (C:=zD P Y h n U o ty w) _ _ _ (zA _) λcs clock hl=>?_;rw[hv,xC]at hm;obtain⟨p,hp,hm⟩:=hm;split
       . rename_i v0 hf;split
         . rename_i l' hl';intro hrel _ _;obtain⟨arr,h1,h2,hcp⟩:=hrel.on b _ p hl hp;obtain⟨j,e,f1,f2,f3,f4,_,g2⟩:=zHT hkk hd hk h2 hf;have hup:=g2 hl';have hlt:=(hrel.on b _ p hl hp).lt;have herase:(arr.eraseIdxIfInBounds j).toList=arr.toList.eraseIdx j:=by
            unfold Array.eraseIdxIfInBounds;split
            . rw[Array.toList_eraseIdx]
            . rename_i hj;rw[List.eraseIdx_of_length_le (by simpa using hj)]
           have hpost:=qj (n:=n) hrel hl rfl hp (o':=.map l' clock) (ob:=.map (arr.eraseIdxIfInBounds j) (p.ck clock))
            ⟨_,xe _ hlt,by rw[herase]; exact hup,hcp⟩
           refine⟨_,.tuple #[],Y,zR (hr ?_),by rw[z7]; exact hpost,yU.2 ⟨_,rfl,zM.2 rfl⟩⟩;simp[Builtin.delete_,run_underlying ht,hm,hck,run_getObj_map h1,jK hd f1 w,jq _ h1]
         . exact zA _
       . rename_i hf;intro hrel _ _;obtain⟨arr,h1,h2,hcp⟩:=hrel.on b _ p hl hp;have f1:=map_none hkk hd hk h2 hf;have hlt:=(hrel.on b _ p hl hp).lt;have hpost:=qj (n:=n) hrel hl rfl hp (o':=.map cs clock) (ob:=.map arr (p.ck clock)) ⟨_,xe _ hlt,h2,hcp⟩;have hsame:(zC.fam h).upd b (some (.map cs clock))=zC.fam h:=by
          funext j; unfold Fam.upd; split
          . rename_i e; subst e; exact hl.symm
          . rfl
         rw[hsame]at hpost;refine⟨_,.tuple #[],Y,zR (hr ?_),hpost,yU.2 ⟨_,rfl,zM.2 rfl⟩⟩;simp[Builtin.delete_,run_underlying ht,hm,hck,run_getObj_map h1,jK hd f1 w,jq _ h1]
       . exact zA _
   . exact zA _
 . exact zA _
end
end
end Go.Ev
namespace Go.Ev
variable[Sym]
open Go.MapKept
noncomputable section
variable{P:Program}{Y:Psi}{es:List CV}{tm:Tm}{h:zC}{n:Key}{U:Operand->Value}{E:Env}{ty:TypeId}{w:World}
variable[SymFact P]
theorem zBI{C:OR->Prop}{x:CV}{v:Value}(hx:zG Y x v)(s:Nat)(nf:Nat->Nat)(hn:∀l,nf l<=l)(k:Nat->List CV->OR)(e:Nat)(he:C (.err e))
 (hk:∀L cs,(∀w,(Builtin.lenOf v).run P w=.ok L w)->(∀w,jC Y (zC.fam h) w->∃xs:List Value,(Builtin.firstCells s (nf L) v).run P w=.ok xs.toArray w/\zP Y cs xs) ->
   cs.length=nf L*s->C (k (nf L) cs)):C (zFC h s x k nf e):=by
 unfold zFC;split
 . rename_i l;refine zJ (C:=C) _ _ _ he λhs=>?_;have hs:=ze hs;subst hs;refine yb (C:=C) _ _ _ he λcs hcs=>?_;rw[zg]at hx;obtain⟨b,rfl,rfl⟩:=hx;rw[zAi,xu]at hcs ⊢;rw[zLM]at hcs;have hle:nf b.size<=(zy b).length:=by rw[xu]; exact hn _
   rw[if_pos hle]at hcs;injection hcs with hcs; subst hcs;refine hk b.size _ (λw=>rfl) (λw _=>?_) (by rw[zAd,List.length_map,List.length_take]; omega);refine⟨((b.extract 0 (nf b.size)).data.map λ(b:UInt8)=>Value.int .u8 b.toNat).toList,by unfold Builtin.firstCells; simp only[Sem.run_pure,Array.toArray_toList],?_⟩
   have:=zBT (Y:=Y) (b.extract 0 (nf b.size))
   have hnat:zy (b.extract 0 (nf b.size))=(zy b).take (nf b.size):=by unfold zy;rw[ByteArray.data_extract,Array.toList_extract,List.extract_eq_take_drop];simp
   rw[hnat]at this;exact this
 . rename_i l;refine zJ (C:=C) _ _ _ he λhs=>?_;have hs:=ze hs;subst hs;refine yb (C:=C) _ _ _ he λcs hcs=>?_;rw[ya]at hx;obtain⟨b,rfl,hr⟩:=hx;have hlen:l.length=b.size:=zFW hr;rw[vQ,hlen]at hcs ⊢;rw[zLU]at hcs;have hle:nf b.size<=l.length:=by rw[hlen]; exact hn _
   rw[if_pos hle]at hcs;injection hcs with hcs; subst hcs;refine hk b.size _ (λw=>rfl) (λw _=>?_) (by rw[List.length_take]; omega);refine⟨((b.extract 0 (nf b.size)).data.map λ(b:UInt8)=>Value.int .u8 b.toNat).toList,by unfold Builtin.firstCells; simp only[Sem.run_pure,Array.toArray_toList],?_⟩;rw[Array.toList_map,ByteArray.data_extract,Array.toList_extract,List.extract_eq_take_drop,List.map_take,List.map_drop];simpa using hr.take (nf b.size)
 . rename_i b z e0 m;refine zJ (C:=C) _ _ _ he λhm=>?_;rw[qW]at hx;obtain⟨_,base,len,cap,iv,rfl,hn',_⟩:=hx;obtain rfl:=zL8 P hm hn' default;have h0:nf 0=0:=by have:=hn 0; omega
   refine hk 0 [] (λw=>rfl) (λw _=>⟨[],?_,zM.2 rfl⟩) (by rw[h0,Nat.zero_mul]; rfl);rw[h0];cases base with
   |none=>rfl|some a=>show(loadCells a (0*s)).run P w=_; rw[Nat.zero_mul]; rfl
 . rename_i hns;refine yY (C:=C) _ _ _ _ he (λhv=>?_) λb off len cap s' ex hv=>?_
   . subst hv;rw[yD]at hx;subst hx;have h0:nf 0=0:=by have:=hn 0; omega
     have:=hk 0 [] (λw=>rfl) (λw _=>⟨[],by rw[h0]; rfl,zM.2 rfl⟩) (by rw[h0,Nat.zero_mul]; rfl)
     rwa [h0]at this
   . subst hv;refine xR (C:=C) _ _ _ he λvs hvs=>?_;refine yb (C:=C) _ _ _ he λcs hcs=>?_;rw[yJ]at hx;obtain⟨p,x',cap',hp,rfl,_,hl,_,hor⟩:=hx;refine hk len cs (λw=>rfl) (λw hrel=>?_) (qh hcs).1;have hcells:zBf Y w p vs:=by
      rcases hvs with hvs |hvs |⟨u,hvs⟩
      . exact yZ.toRo (hrel b _ p hvs hp)
      . exact hrel b _ p hvs hp
      . exact yZ.toRo (jt.toCells (hrel b _ p hvs hp))
     obtain⟨xs,hrun,hxs⟩:=qD (P:=P) hcells hcs;refine⟨xs,?_,hxs⟩;show(loadCells ⟨p.blk,x',none⟩ (nf len*s)).run P w=_;rcases hor with⟨e,_⟩ |e
     . rw[e]; exact hrun
     . have h0:nf len=0:=by have:=hn len; omega
       have hcs0:=(qh hcs).1;have hxl:=hxs.length;rw[h0]at hcs0 ⊢
       have:xs=[]:=by
        have hz:Nat.mul 0 s=0:=Nat.zero_mul s;cases xs with
        |nil=>rfl|cons a b=>simp at hxl; omega
       subst this;rw[Nat.zero_mul]; rfl
section
variable{o:Op}
theorem zTe{t:TypeId}{r:List TypeId}{d x:Operand}(hrun:∀w,(execOp U (qM o ty)).run P w=(do pure (.value (<- Builtin.copy_ (t::r).toArray ty #[U d,U x])):Sem Next).run P w)(ha:yG P Y es tm E U [d,x]) :
 zD P Y h n U o ty w (yX P (qa P E .copy (t::r) [d,x]) es tm h n):=by
 have hr:∀{v:Value} {w':World},(Builtin.copy_ (t::r).toArray ty #[U d,U x]).run P w=.ok v w'->(execOp U (qM o ty)).run P w=.ok (.value v) w':=by intro v w' hv; rw[hrun]; simp[hv]
 show zD P Y h n U o ty w (yX P (match und P t with
  |some (.slice e)=>match qR P e with
   |some s=>jc P E (.copy s) d x|none=>.bad 5
  |_=>.bad 5) es tm h n)
 unfold und;split
 . rename_i e ht;split
   . rename_i s hs;refine xK (C:=zD P Y h n U o ty w) zA λcd cx hcd hcx=>?_;have hd:=ha d (by simp) cd hcd;have hx:=ha x (by simp) cx hcx;show zD P Y h n U o ty w (zJe s cd cx es tm h n);unfold zJe;cases hcv:aV es tm cd <;> try exact zA _
     case str l=>simp only[zUn,zAV];refine zBI (P:=P) (C:=zD P Y h n U o ty w) hx s _ (λl=>Nat.min_le_left _ _) _ _ (zA _) λL cs _ _ _=>?_;exact zA _
     case nilsl=>
      simp only[zUn,zAV];refine zBI (P:=P) (C:=zD P Y h n U o ty w) hx s (λxl=>Nat.min xl 0) (λl=>Nat.min_le_left _ _) _ _ (zA _) λL cs hL hcs _=>?_;intro hrel _ _;rw[hcv,yD]at hd;obtain⟨xs,h1,h2⟩:=hcs w hrel.on;refine⟨w,goInt 0,Y,zR (hr ?_),yF.refl hrel,zT.2 rfl⟩;have hz:Nat.min L 0=0:=Nat.min_zero L;have h1:(Builtin.firstCells s 0 (U x)).run P w=.ok xs.toArray w:=by rw[<- hz]; exact h1
      simp[Builtin.copy_,run_underlying ht,hd,hL,yl hs,h1]
     case sl b off len cap s' ex=>
      simp only[zUn,zAV];refine zBI (P:=P) (C:=zD P Y h n U o ty w) hx s (λxl=>Nat.min xl len) (λl=>Nat.min_le_left _ _) _ _ (zA _) λL cs hL hcs _=>?_;refine yh (C:=zD P Y h n U o ty w) _ _ _ (zA _) λvs hvs=>?_;refine zJ (C:=zD P Y h n U o ty w) _ _ _ (zA _) λhsing=>?_;refine yb (C:=zD P Y h n U o ty w) _ _ _ (zA _) λl hl hrel _ _=>?_;rw[hcv,yJ]at hd;obtain⟨p,x',cap',hp,hd,_,hlen,_,hor⟩:=hd;obtain⟨xs,h1,h2⟩:=hcs w hrel.on;obtain⟨w',hst,hpost⟩:=wD (P:=P) n hrel hvs hp hl h2 hsing;have hst':(storeCells ⟨p.blk,x',none⟩ xs).run P w=.ok () w':=by
       rcases hor with⟨e,_⟩ |e
       . rw[e]; exact hst
       . have h0:Nat.min L len=0:=Nat.le_zero.1 (Nat.le_trans (Nat.min_le_right L len) (by omega));have hxl:=h2.length;have hcl:=(zAx hl).1;rw[h0]at hcl
         have:xs=[]:=by
          have hz:Nat.mul 0 s=0:=Nat.zero_mul s;cases xs with
          |nil=>rfl|cons a b=>simp at hxl; omega
         subst this;exact hst
      refine⟨w',goInt (Nat.min L len),Y,zR (hr ?_),by rw[z7]; exact hpost,xx _⟩;simp[Builtin.copy_,run_underlying ht,hd,hL,yl hs,h1,hst']
   . exact zA _
 . exact zA _
theorem kF(z:Array Value)(n:Nat):Builtin.zeroCells z n=madeCells z (n*z.size):=rfl
theorem zRf{t:TypeId}{r:List TypeId}{x:Operand}(hrun:∀w,(execOp U (qM o ty)).run P w=(do pure (.value (<- Builtin.clear_ (t::r).toArray ty #[U x])):Sem Next).run P w)(ha:yG P Y es tm E U [x]) :
 zD P Y h n U o ty w (yX P (qa P E .clear (t::r) [x]) es tm h n):=by
 have hr:∀{v:Value} {w':World},(Builtin.clear_ (t::r).toArray ty #[U x]).run P w=.ok v w'->(execOp U (qM o ty)).run P w=.ok (.value v) w':=by intro v w' hv; rw[hrun]; simp[hv]
 show zD P Y h n U o ty w (yX P (match und P t with
  |some (.map _ _)=>xX P E .clearMap x|some (.slice e)=>match ji P e,qR P e with
   |some z,some s=>xX P E (.clearSl z s) x|_,_=>.bad 9
  |_=>.bad 9) es tm h n)
 unfold und;split
 . rename_i kt et ht;refine zu (C:=zD P Y h n U o ty w) zA λc hc=>?_;have hx:=ha x (by simp) c hc;refine xT (C:=zD P Y h n U o ty w) _ _ _ _ (zA _) (λhv hrel _ _=>?_) λb hv=>?_
   . rw[hv,yg]at hx;exact⟨w,.tuple #[],Y,zR (hr (by simp[Builtin.clear_,run_underlying ht,hx])),yF.refl hrel,yU.2 ⟨_,rfl,zM.2 rfl⟩⟩
   . refine ye (C:=zD P Y h n U o ty w) _ _ _ (zA _) λcs clock hl hrel _ _=>?_;rw[hv,xC]at hx;obtain⟨p,hp,hx⟩:=hx;obtain⟨arr,h1,h2,hcp⟩:=hrel.on b _ p hl hp;have hlt:=(hrel.on b _ p hl hp).lt;have hpost:=qj (n:=n) hrel hl rfl hp (o':=.map [] clock) (ob:=.map #[] (p.ck clock)) ⟨#[],xe _ hlt,xg.nil,hcp⟩;refine⟨_,.tuple #[],Y,zR (hr ?_),by rw[z7]; exact hpost,yU.2 ⟨_,rfl,zM.2 rfl⟩⟩;simp[Builtin.clear_,run_underlying ht,hx,run_getObj_map h1,jq _ h1]
 . rename_i e ht;split
   . rename_i z s hz hs;refine zu (C:=zD P Y h n U o ty w) zA λc hc=>?_;have hx:=ha x (by simp) c hc;refine yY (C:=zD P Y h n U o ty w) _ _ _ _ (zA _) (λhv hrel _ _=>?_) λb off len cap s' ex hv=>?_
     . rw[hv,yD]at hx;exact⟨w,.tuple #[],Y,zR (hr (by simp[Builtin.clear_,run_underlying ht,hx])),yF.refl hrel,yU.2 ⟨_,rfl,zM.2 rfl⟩⟩
     . refine yh (C:=zD P Y h n U o ty w) _ _ _ (zA _) λvs hvs=>?_;refine zJ (C:=zD P Y h n U o ty w) _ _ _ (zA _) λhsing=>?_;refine yb (C:=zD P Y h n U o ty w) _ _ _ (zA _) λl hl hrel _ _=>?_;rw[hv,yJ]at hx;obtain⟨p,x',cap',hp,hx,_,hlen,_,hor⟩:=hx;obtain⟨ti,zv,e1,e2,e3⟩:=jF hz;have hzl:=(e3 Y).length;have hzs:zv.cells.size=z.length:=by simpa using hzl
       have hmade:zP Y (wW z len) (Builtin.zeroCells zv.cells len).toList:=by
        rw[kF,hzs];cases hzn:z.length with
        |zero=>
         have h0:z=[]:=by cases z <;> simp_all
         subst h0
         have:∀m,wW ([]:List CV) m=[]:=by intro m; induction m with
          |zero=>rfl|succ m ih=>show []++wW [] m=[]; rw[ih]; rfl
         rw[this];exact zM.2 (by simp[madeCells,Array.range_zero'])
        |succ k=>exact zDm (e3 Y) hzn len
       obtain⟨w',hst,hpost⟩:=wD (P:=P) n hrel hvs hp hl hmade (by
        rw[uJ]at hsing ⊢
        have:∀m,∀c∈wW z m,c∈z:=by
         intro m;induction m with
         |zero=>intro c hc; cases hc
         |succ m ih=>
          intro c hc;rcases List.mem_append.1 (show c∈z++wW z m from hc)with h |h
          . exact h
          . exact ih c h
        exact λc hc=>hsing c (this _ c hc))
       cases len with
       |zero=>
        have hz0:(Builtin.zeroCells zv.cells 0).toList=[]:=by rw[kF,Nat.zero_mul]; simp[madeCells,Array.range_zero']
        rw[hz0]at hst
        have:w'=w:=by
         have:(Result.ok () w:Result Unit)=.ok () w':=hst
         injection this with _ this; exact this.symm
        subst this;refine⟨w',.tuple #[],Y,zR (hr ?_),by rw[z7]; exact hpost,yU.2 ⟨_,rfl,zM.2 rfl⟩⟩;simp[Builtin.clear_,run_underlying ht,hx]
       |succ len=>
        have hxe:x'=p.off+off:=by
         rcases hor with⟨e,_⟩ |e
         . exact e
         . omega
        refine⟨w',.tuple #[],Y,zR (hr ?_),by rw[z7]; exact hpost,yU.2 ⟨_,rfl,zM.2 rfl⟩⟩;rw[hxe]at hx;simp[Builtin.clear_,run_underlying ht,hx,zeroValue,jb e1,e2,hst]
   . exact zA _
 . exact zA _
end
end
end Go.Ev
namespace Go.Ev
variable[Sym]
open Go.MapKept
noncomputable section
variable{P:Program}{Y:Psi}{es:List CV}{tm:Tm}{h:zC}{n:Key}{U:Operand->Value}{E:Env}{ty:TypeId}{w:World}
variable[SymFact P]
theorem zU3{cs:List CV}{xs:List Value}{rest:Array Value}{Y':Psi}{w:World}{e:TypeId}(hx:zP Y' cs xs) :
 xQ Y' { w with heap:=w.heap.push (.cells (xs.toArray++rest) e) } ⟨w.heap.size,0,(xs.toArray++rest).size,λn=>n⟩ (.cells cs):=by
 refine zIx w _ e (m:=xs.length) ?_ (by simp)
 have:((xs.toArray++rest).toList.take xs.length)=xs:=by simp
 rw[this]; exact hx
theorem zTU{t u e ty:TypeId}{ud:TypeDesc}{r:List TypeId}{ti:TypeInfo}{zv:Value}{x:Value}{base:Option Addr}{sLen sCap L:Nat}{old new:List Value}
 (ht:P.underlying t=some (.slice e)) (hu:P.underlying u=some ud) (hni:∀k,ud≠.int k) (e1:P.info? e=some ti) (e2:ti.zero=some zv)
 (hL:(Builtin.lenOf x).run P w=.ok L w) (h1:(Builtin.firstCells ti.size sLen (.slice base sLen sCap)).run P w.drew=.ok old.toArray w.drew)
 (h2:(Builtin.firstCells ti.size L x).run P w.drew=.ok new.toArray w.drew) (hlt:sCap<sLen+L) (hle:sLen+L<=100000) (hb:ti.bytes<=100000) :
 (Builtin.append_ (t::u::r).toArray ty #[.slice base sLen sCap,x]).run P w=.ok (.slice (some ⟨w.heap.size,0,none⟩) (sLen+L) (grownCap w (sLen+L) sCap e))
   (w.drew.alloc (.cells ((old++new).toArray++Builtin.zeroCells zv.cells (grownCap w (sLen+L) sCap e - (sLen+L))) e)):=by
 have hno:¬(sLen+L<=sCap):=by omega
 have hbig:¬(281474976710656<Builtin.nextslicecap (sLen+L) sCap*ti.bytes):=by
  have:=growslice_fits (bytes:=ti.bytes) hlt (by
   have:(sLen+L)*ti.bytes<=100000*100000:=Nat.mul_le_mul hle hb
   omega)
  omega
 have h63:¬(9223372036854775807<((sLen:Int)+(L:Int))):=by omega
 have hsz:(sizeOf e).run P w=.ok ti.size w:=by simp[sizeOf,typeInfo,e1]
 have hti:∀w,(typeInfo e).run P w=.ok ti w:=λw=>jb e1 w;have hzv:∀w,(zeroValue e).run P w=.ok zv w:=λw=>by simp[zeroValue,typeInfo,e1,e2]
 unfold Builtin.append_;simp only[List.getElem?_toArray,List.getElem?_cons_zero,List.getElem?_cons_succ];rw[Sem.run_bind,run_underlying ht,Result.andThen_ok];simp only[];rw[Sem.run_bind,hsz,Result.andThen_ok,Sem.run_bind,run_underlying hu,Result.andThen_ok,Sem.run_bind,Sem.run_pure];have hnb:¬(((sLen+L:Nat):Int) > IntKind.i64.max/\(false=true\/ti.bytes=0)):=by rintro⟨h,_⟩;rw[IntKind.max_i64]at h;omega
 have hbig':¬(Builtin.nextslicecap (sLen+L) sCap*ti.bytes > 2 ^ 48):=by omega
 split
 . rename_i k;exact absurd rfl (hni k)
 . rw[Result.andThen_ok,if_neg Bool.false_ne_true,Sem.run_bind,hL,Result.andThen_ok,if_neg hno,Sem.run_bind,hti,Result.andThen_ok,if_neg hnb,Sem.run_bind,hti,Result.andThen_ok,if_neg hbig',
    Sem.run_bind,run_choose_drew,if_neg (by simp[Question.forced]),Result.andThen_ok,Sem.run_bind,hti,Result.andThen_ok,Sem.run_bind,run_askRoom,Result.andThen_ok,Sem.run_bind,h1,Result.andThen_ok,
    if_pos (by rfl),Sem.run_bind,h2,Result.andThen_ok,Sem.run_bind,hzv,Result.andThen_ok,Sem.run_bind,newRow,Sem.run_bind,run_newObj,Result.andThen_ok,Sem.run_pure,Result.andThen_ok,Sem.run_pure]
   simp[grownCap];rfl
theorem zLX{t u e ty:TypeId}{ud:TypeDesc}{r:List TypeId}{ti:TypeInfo}{x:Value}{base:Option Addr}{sLen sCap L:Nat}{new:List Value}{w':World}
 (ht:P.underlying t=some (.slice e)) (hu:P.underlying u=some ud) (hni:∀k,ud≠.int k) (e1:P.info? e=some ti)
 (hL:(Builtin.lenOf x).run P w=.ok L w) (h2:(Builtin.firstCells ti.size L x).run P w=.ok new.toArray w) (hle:sLen+L<=sCap)
 (hst:(match base with
   |some a=>storeCells (a.add (sLen*ti.size)) new|none=>pure ()).run P w=.ok () w') :
 (Builtin.append_ (t::u::r).toArray ty #[.slice base sLen sCap,x]).run P w=.ok (.slice base (sLen+L) sCap) w':=by
 have hsz:(sizeOf e).run P w=.ok ti.size w:=by simp[sizeOf,typeInfo,e1]
 unfold Builtin.append_;simp only[List.getElem?_toArray,List.getElem?_cons_zero,List.getElem?_cons_succ];rw[Sem.run_bind,run_underlying ht,Result.andThen_ok];simp only[];rw[Sem.run_bind,hsz,Result.andThen_ok,Sem.run_bind,run_underlying hu,Result.andThen_ok,Sem.run_bind,Sem.run_pure];split
 . rename_i k;exact absurd rfl (hni k)
 . rw[Result.andThen_ok,if_neg Bool.false_ne_true,Sem.run_bind,hL,Result.andThen_ok,if_pos hle,Sem.run_bind,if_pos (by rfl),h2,Result.andThen_ok];cases base with
   |none=>
    have:(Result.ok () w:Result Unit)=.ok () w':=hst
    injection this with _ this;subst this;rfl
   |some a=>simp only at hst ⊢;rw[Sem.run_bind,hst,Result.andThen_ok,Sem.run_pure]
theorem zUp(z:List CV)(k:Nat):(wW z k).length=k*z.length:=by
 induction k with
 |zero=>simp[wW]|succ k ih=>simp[wW,ih,Nat.succ_mul,Nat.add_comm]
theorem zRL{t u e ty:TypeId}{k j:IntKind}{r:List TypeId}{ti:TypeInfo}{zv:Value}{x:Value}{base:Option Addr}{sLen sCap L:Nat}{old:List Value}
 (ht:P.underlying t=some (.slice e)) (hu:P.underlying u=some (.int k)) (e1:P.info? e=some ti) (e2:ti.zero=some zv) (hx:x=.int j (Int.ofNat L)) (hL:L<=1000)
 (h1:(Builtin.firstCells ti.size sLen (.slice base sLen sCap)).run P w.drew=.ok old.toArray w.drew) (hlt:sCap<sLen+L) (hle:sLen+L<=100000) (hb:ti.bytes<=100000) (hs0:0<ti.size) :
 (Builtin.append_ (t::u::r).toArray ty #[.slice base sLen sCap,x]).run P w=.ok (.slice (some ⟨w.heap.size,0,none⟩) (sLen+L) (grownCap w (sLen+L) sCap e))
   (w.drew.alloc (.cells ((old++(Builtin.zeroCells zv.cells L).toList).toArray++Builtin.zeroCells zv.cells (grownCap w (sLen+L) sCap e - (sLen+L))) e)):=by
 subst hx;have hno:¬(sLen+L<=sCap):=by omega
 have hbig:¬(281474976710656<Builtin.nextslicecap (sLen+L) sCap*ti.bytes):=by
  have:=growslice_fits (bytes:=ti.bytes) hlt (by
   have:(sLen+L)*ti.bytes<=100000*100000:=Nat.mul_le_mul hle hb
   omega)
  omega
 have h63:¬(9223372036854775807<((sLen:Int)+(L:Int))):=by omega
 have hsz:(sizeOf e).run P w=.ok ti.size w:=by simp[sizeOf,typeInfo,e1]
 have hti:∀w,(typeInfo e).run P w=.ok ti w:=λw=>jb e1 w;have hzv:∀w,(zeroValue e).run P w=.ok zv w:=λw=>by simp[zeroValue,typeInfo,e1,e2]
 have hw:IntKind.i64.wrap (Int.ofNat L)=(L:Int):=by rw[IntKind.wrap_i64]; simp; omega
 have hl0:¬((L:Int)<0):=by omega
 have hlb:¬((L:Int)*(ti.bytes:Int) > 2 ^ 48):=by
  have:L*ti.bytes<=1000*100000:=Nat.mul_le_mul hL hb
  have h2:((L*ti.bytes:Nat):Int)=(L:Int)*(ti.bytes:Int):=by simp
  omega
 have hnb:¬(((sLen+L:Nat):Int) > IntKind.i64.max/\(True\/ti.bytes=0)):=by rintro⟨h,_⟩;rw[IntKind.max_i64]at h;omega
 have hbig':¬(Builtin.nextslicecap (sLen+L) sCap*ti.bytes > 2 ^ 48):=by omega
 have hnew:(if L*ti.size=0 then pure #[]else do pure (Builtin.zeroCells (<- zeroValue e).cells L):Sem (Array Value)).run P w.drew=.ok (Builtin.zeroCells zv.cells L) w.drew:=by
  by_cases h0:L*ti.size=0
  . have hL0:L=0:=by
     rcases Nat.mul_eq_zero.1 h0 with h |h
     . exact h
     . omega
    subst hL0;rw[if_pos h0];simp[Builtin.zeroCells]
  . rw[if_neg h0,Sem.run_bind,hzv];rfl
 unfold Builtin.append_;simp only[List.getElem?_toArray,List.getElem?_cons_zero,List.getElem?_cons_succ];rw[Sem.run_bind,run_underlying ht,Result.andThen_ok];simp only[];rw[Sem.run_bind,hsz,Result.andThen_ok,Sem.run_bind,run_underlying hu,Result.andThen_ok,Sem.run_bind,Sem.run_pure,Result.andThen_ok,if_pos rfl];have hasI:(asInt (Value.int j (Int.ofNat L))).run P w=.ok (Int.ofNat L) w:=rfl;simp only[Sem.run_bind,hasI,Sem.run_pure,Result.andThen_ok,hw,if_neg hl0,hti,if_neg hlb,Int.toNat_natCast];rw[if_neg hno];simp only[Sem.run_bind,hti,Result.andThen_ok,if_neg hnb,if_neg hbig',Sem.run_pure];rw[run_choose_drew,if_neg (by simp[Question.forced]),Result.andThen_ok,run_askRoom,Result.andThen_ok,h1,Result.andThen_ok,
  if_neg (by simp),hnew,Result.andThen_ok,hzv,Result.andThen_ok,newRow,Sem.run_bind,run_newObj,Result.andThen_ok,Sem.run_pure,Result.andThen_ok]
 have e3:(old++(Builtin.zeroCells zv.cells L).toList).toArray=old.toArray++Builtin.zeroCells zv.cells L:=by simp
 rw[e3];rfl
theorem zKg{t u e ty:TypeId}{k j:IntKind}{r:List TypeId}{ti:TypeInfo}{zv:Value}{x:Value}{base:Option Addr}{sLen sCap L:Nat}{w':World}
 (ht:P.underlying t=some (.slice e)) (hu:P.underlying u=some (.int k)) (e1:P.info? e=some ti) (e2:ti.zero=some zv) (hx:x=.int j (Int.ofNat L)) (hL:L<=1000) (hb:ti.bytes<=100000) (hs0:0<ti.size)
 (hle:sLen+L<=sCap)
 (hst:(match base with
   |some a=>storeCells (a.add (sLen*ti.size)) (Builtin.zeroCells zv.cells L).toList|none=>pure ()).run P w=.ok () w') :
 (Builtin.append_ (t::u::r).toArray ty #[.slice base sLen sCap,x]).run P w=.ok (.slice base (sLen+L) sCap) w':=by
 subst hx;have hsz:(sizeOf e).run P w=.ok ti.size w:=by simp[sizeOf,typeInfo,e1]
 have hti:∀w,(typeInfo e).run P w=.ok ti w:=λw=>jb e1 w;have hzv:∀w,(zeroValue e).run P w=.ok zv w:=λw=>by simp[zeroValue,typeInfo,e1,e2]
 have hw:IntKind.i64.wrap (Int.ofNat L)=(L:Int):=by rw[IntKind.wrap_i64]; simp; omega
 have hl0:¬((L:Int)<0):=by omega
 have hlb:¬((L:Int)*(ti.bytes:Int) > 2 ^ 48):=by
  have:L*ti.bytes<=1000*100000:=Nat.mul_le_mul hL hb
  have h2:((L*ti.bytes:Nat):Int)=(L:Int)*(ti.bytes:Int):=by simp
  omega
 have hnew:(if L*ti.size=0 then pure #[]else do pure (Builtin.zeroCells (<- zeroValue e).cells L):Sem (Array Value)).run P w=.ok (Builtin.zeroCells zv.cells L) w:=by
  by_cases h0:L*ti.size=0
  . have hL0:L=0:=by
     rcases Nat.mul_eq_zero.1 h0 with h |h
     . exact h
     . omega
    subst hL0;rw[if_pos h0];simp[Builtin.zeroCells]
  . rw[if_neg h0,Sem.run_bind,hzv];rfl
 unfold Builtin.append_;simp only[List.getElem?_toArray,List.getElem?_cons_zero,List.getElem?_cons_succ];rw[Sem.run_bind,run_underlying ht,Result.andThen_ok];simp only[];rw[Sem.run_bind,hsz,Result.andThen_ok,Sem.run_bind,run_underlying hu,Result.andThen_ok,Sem.run_bind,Sem.run_pure,Result.andThen_ok,if_pos rfl];have hasI:(asInt (Value.int j (Int.ofNat L))).run P w=.ok (Int.ofNat L) w:=rfl;simp only[Sem.run_bind,hasI,Sem.run_pure,Result.andThen_ok,hw,if_neg hl0,hti,if_neg hlb,Int.toNat_natCast];rw[if_pos hle];simp only[Sem.run_bind];rw[if_neg (by simp),hnew,Result.andThen_ok];cases base with
 |none=>
  have:(Result.ok () w:Result Unit)=.ok () w':=hst
  injection this with _ this;subst this;rfl
 |some a=>simp only at hst ⊢;rw[Sem.run_bind,hst,Result.andThen_ok,Sem.run_pure]
theorem zHc{g:Fam}{all:List Value}{cs:List CV}{need cap' sz:Nat}{zs:Array Value}{e:TypeId}(hrel:Rel Y g w)(hr:n.room)(hnone:Y n=none)(hv:zP Y cs all)
 (hl:all.length=need*(sz+1)) (hz:zs.size=sz+1) (hcap:need<=cap') :
 ∃Y',yF Y g n w Y' (g.upd n (some (.cells cs))) n.succ (w.drew.alloc (.cells (all.toArray++Builtin.zeroCells zs (cap' - need)) e)) /\
  zG Y' (.sl n 0 need need (sz+1) false) (.slice (some ⟨w.heap.size,0,none⟩) need cap'):=by
 have hsize:(all.toArray++Builtin.zeroCells zs (cap' - need)).size=cap'*(sz+1):=by rw[kF,Array.size_append,size_madeCells,hz,List.size_toArray,hl,<- Nat.add_mul]; congr 1; omega
 have hnw:New w (w.drew.alloc (.cells (all.toArray++Builtin.zeroCells zs (cap' - need)) e)):=
  ⟨by show(w.heap.push _).size=_; rw[Array.size_push],λB hB=>by show(w.heap.push _)[B]? = _;rw[Array.getElem?_push,if_neg (by omega)],rfl,rfl,rfl⟩
 have hobj:=zU3 (Y':=Y.upd n ⟨w.heap.size,0,cap'*(sz+1),λn=>n⟩) (w:=w.drew) (e:=e) (rest:=Builtin.zeroCells zs (cap' - need)) (hv.mono (Psi.le_upd (Y:=Y) (k:=n) ⟨w.heap.size,0,cap'*(sz+1),λn=>n⟩ hnone));rw[hsize]at hobj;exact⟨_,vH hrel hr hnone hnw hobj,yJ.2 ⟨_,0,cap',Psi.upd_same _ _ _,rfl,hcap,hcap,by simp,.inl ⟨rfl,λ_=>by simp⟩⟩⟩
section
variable{o:Op}
theorem zQC{t u e:TypeId}{r:List TypeId}{s x:Operand}{ti:TypeInfo}{zv:Value}{sz L:Nat}{xs:List CV}{cs:zY}
 (hr:∀{v:Value} {w':World},(Builtin.append_ (t::u::r).toArray ty #[U s,U x]).run P w=.ok v w'->(execOp U (qM o ty)).run P w=.ok (.value v) w')
 (hts:ti.size=sz+1) (hzs:zv.cells.size=sz+1) (hs:zG Y (aV es tm cs) (U s)) (hxl:xs.length=L*(sz+1)) (hsing:xk xs=true)
 (HIn:∀w,jC Y (zC.fam h) w->∃ws:List Value,zP Y xs ws/\∀(base:Option Addr) (sLen sCap:Nat) (w':World),sLen+L<=sCap->(match base with
   |some a=>storeCells (a.add (sLen*ti.size)) ws|none=>pure ()).run P w=.ok () w'->(Builtin.append_ (t::u::r).toArray ty #[.slice base sLen sCap,U x]).run P w=.ok (.slice base (sLen+L) sCap) w')
 (HGr:∀w,jC Y (zC.fam h) w->∃ws:List Value,zP Y xs ws/\∀(base:Option Addr) (sLen sCap:Nat) (old:List Value),(Builtin.firstCells ti.size sLen (.slice base sLen sCap)).run P w.drew=.ok old.toArray w.drew ->
   sCap<sLen+L->sLen+L<=100000->(Builtin.append_ (t::u::r).toArray ty #[.slice base sLen sCap,U x]).run P w=.ok (.slice (some ⟨w.heap.size,0,none⟩) (sLen+L) (grownCap w (sLen+L) sCap e))
    (w.drew.alloc (.cells ((old++ws).toArray++Builtin.zeroCells zv.cells (grownCap w (sLen+L) sCap e - (sLen+L))) e))) :
 zD P Y h n U o ty w (zIA (sz+1) L xs (aV es tm cs) h n):=by
 unfold zIA;refine yY (C:=zD P Y h n U o ty w) _ _ _ _ (zA _) (λhv=>?_) λb off len cap s' ex hv=>?_
 . rw[hv,yD]at hs;cases L with
   |zero=>intro hrel _ _;obtain⟨vs,h2,hin⟩:=HIn w hrel.on;refine⟨w,.slice none 0 0,Y,zR (hr ?_),yF.refl hrel,yD.2 rfl⟩;rw[hs];exact hin _ _ _ _ (Nat.le_refl _) rfl
   |succ k=>refine zJ (C:=zD P Y h n U o ty w) _ _ _ (zA _) λhle=>?_;have hle:k<=99999:=zH hle;rw[zw];intro hrel hnew hroom;have hroom':=Key.room_of_succ hroom;have hix:=Key.ix_succ hroom';have hnone:Y n=none:=hnew n (Nat.le_refl _) (by omega);obtain⟨vs,h2,hgr⟩:=HGr w hrel.on;have hrun':=hgr none 0 0 [] (by rfl) (by omega) (by omega);rw[Nat.zero_add]at hrun';obtain⟨Y',hpost,hval⟩:=zHc (e:=e) hrel hroom' hnone (all:=[]++vs) h2 (by rw[List.nil_append,h2.length,hxl]) hzs (grownCap_ge w (k+1) 0 e);exact⟨_,_,Y',zR (hr (by rw[hs]; exact hrun')),by rw[z7]; exact hpost,hval⟩
 . refine zJ (C:=zD P Y h n U o ty w) _ _ _ (zA _) λhs'=>?_;have hs':s'=sz+1:=ze hs';subst hs';refine vh (C:=zD P Y h n U o ty w) _ _ _ ?_ λu vs hvs=>?_
   rotate_left
   . rw[zw];refine zJ (C:=zD P Y h n U o ty w) _ _ _ (zA _) λhlee=>?_;rw[Bool.and_eq_true]at hlee;have hle:len+L<=100000:=zH hlee.2;refine yb (C:=zD P Y h n U o ty w) _ _ _ (zA _) λold hold hrel hnew hroom=>?_;rw[uA];rw[hv,yJ]at hs;obtain⟨p,x',cap',hp,hs,hcap,hlen,hex,hor⟩:=hs;have hroom':=Key.room_of_succ hroom;have hix:=Key.ix_succ hroom';have hnone:Y n=none:=hnew n (Nat.le_refl _) (by omega);have hfull:jt Y w p u vs:=hrel.on b _ p hvs hp;have hll:=vQ vs;have hlt:cap'<len+L:=by
      have hq:=hlee.1;cases ex with
      |true=>
       have:=hex rfl
       have hq:cap+1<=len+L:=zH hq;omega
      |false=>
       simp only[Bool.and_eq_true]at hq;have q1:1<=len+L:=zH hq.1;have q2:um vs+1<=off+(len+L)*(sz+1):=zH hq.2;rcases hor with⟨e,h⟩ |e
       . have h:=h rfl;have h3:p.off+vs.length=p.sz:=by obtain⟨_,_,_,_,_,h3,_⟩:=hfull;exact h3
         rcases Nat.lt_or_ge cap' (len+L)with hlt |hge
         . exact hlt
         . have:=Nat.mul_le_mul_right (sz+1) hge
           omega
       . omega
     obtain⟨ws,h2,hgr⟩:=HGr w hrel.on;obtain⟨os,h3,h4⟩:=qD (P:=P) (w:=w.drew) (yZ.toRo (jt.toCells (show xQ Y w.drew p (.full u vs)from xQ.congr rfl hfull))) hold;have h3':(Builtin.firstCells ti.size len (.slice (some ⟨p.blk,x',none⟩) len cap')).run P w.drew=.ok os.toArray w.drew:=by
      show(loadCells ⟨p.blk,x',none⟩ (len*ti.size)).run P w.drew=_;rw[hts];rcases hor with⟨e,_⟩ |e
      . rw[e]; exact h3
      . have h0:len=0:=by omega
        have hol:=h4.length;rw[(qh hold).1,h0]at hol
        have:os=[]:=by
         cases os with
         |nil=>rfl|cons a b=>simp at hol
        subst this;rw[h0,Nat.zero_mul]; rfl
     have hrun':=hgr (some ⟨p.blk,x',none⟩) len cap' os h3' hlt hle;have hol:old.length=len*(sz+1):=(qh hold).1;obtain⟨Y',hpost,hval⟩:=zHc (e:=e) hrel hroom' hnone (h4.append h2) (by rw[List.length_append,h4.length,h2.length,hol,hxl,Nat.add_mul]) hzs (grownCap_ge w (len+L) cap' e);exact⟨_,_,Y',zR (hr (by rw[hs]; exact hrun')),by rw[z7]; exact hpost,hval⟩
   refine yh (C:=zD P Y h n U o ty w) _ _ _ (zA _) λvs hvs=>?_;rw[zw,jx];rw[hv,yJ]at hs;obtain⟨p,x',cap',hp,hs,hcap,hlen,hex,hor⟩:=hs;split
   . rename_i hle;have hle:len+L<=cap:=zH hle;refine yb (C:=zD P Y h n U o ty w) _ _ _ (zA _) λl hl hrel _ _=>?_;obtain⟨ws,h2,hin⟩:=HIn w hrel.on;obtain⟨w',hst,hpost⟩:=wD (P:=P) n hrel hvs hp hl h2 hsing;refine⟨w',.slice (some ⟨p.blk,x',none⟩) (len+L) cap',Y,zR (hr ?_),by rw[z7]; exact hpost,
      yJ.2 ⟨p,x',cap',hp,rfl,hcap,Nat.le_trans hle hcap,hex,hor⟩⟩
     rw[hs];refine hin _ _ _ _ (Nat.le_trans hle hcap) ?_;simp only;rw[xf,hts];rcases hor with⟨e,_⟩ |e
     . rw[e,Nat.add_assoc]; exact hst
     . have h0:L=0:=by omega
       subst h0;have hxl2:=h2.length
       have:ws=[]:=by rw[hxl,Nat.zero_mul]at hxl2;cases ws <;> simp_all
       subst this
       have:(Result.ok () w:Result Unit)=.ok () w':=hst
       rw[<- this]; rfl
   . rename_i hnle;have hnle:cap<len+L:=by
      rcases Nat.lt_or_ge cap (len+L)with h |h
      . exact h
      . exact absurd (Nat.ble_eq_true_of_le h) hnle
     refine zJ (C:=zD P Y h n U o ty w) _ _ _ (zA _) λhle=>?_;have hle:len+L<=100000:=zH hle;refine yb (C:=zD P Y h n U o ty w) _ _ _ (zA _) λold hold hrel hnew hroom=>?_;rw[uA];have hroom':=Key.room_of_succ hroom;have hix:=Key.ix_succ hroom';have hnone:Y n=none:=hnew n (Nat.le_refl _) (by omega);have hcells:=hrel.on b _ p hvs hp;have grow:cap'<len+L->∀g,Rel Y g w->yF Y (zC.fam h) n w Y g n w->∃w' x Y',kz P U o ty w w' x/\yF Y (zC.fam h) n w Y' (g.upd n (some (.cells (old++xs)))) n.succ w' /\
      zG Y' (.sl n 0 (len+L) (len+L) (sz+1) false) x:=by
      intro hlt g hg hpost0;obtain⟨ws,h2,hgr⟩:=HGr w hrel.on;obtain⟨os,h3,h4⟩:=qD (P:=P) (w:=w.drew) (yZ.toRo (show xQ Y w.drew p (.cells vs)from xQ.congr rfl hcells)) hold;have h3':(Builtin.firstCells ti.size len (.slice (some ⟨p.blk,x',none⟩) len cap')).run P w.drew=.ok os.toArray w.drew:=by
       show(loadCells ⟨p.blk,x',none⟩ (len*ti.size)).run P w.drew=_;rw[hts];rcases hor with⟨e,_⟩ |e
       . rw[e]; exact h3
       . have h0:len=0:=by omega
         have hol:=h4.length;rw[(qh hold).1,h0]at hol
         have:os=[]:=by
          cases os with
          |nil=>rfl|cons a b=>simp at hol
         subst this;rw[h0,Nat.zero_mul]; rfl
      have hrun':=hgr (some ⟨p.blk,x',none⟩) len cap' os h3' hlt hle;have hol:old.length=len*(sz+1):=(qh hold).1;obtain⟨Y',hpost,hval⟩:=zHc (e:=e) hg hroom' hnone (h4.append h2) (by rw[List.length_append,h4.length,h2.length,hol,hxl,Nat.add_mul]) hzs (grownCap_ge w (len+L) cap' e);exact⟨_,_,Y',zR (hr (by rw[hs]; exact hrun')),hpost0.trans hpost,hval⟩
     cases ex with
     |true=>
      have:=hex rfl
      obtain⟨w',x,Y',h1,h2,h3⟩:=grow (by omega) _ hrel (yF.refl hrel);exact⟨w',x,Y',h1,by rw[z7]; exact h2,h3⟩
     |false=>
      rcases Nat.lt_or_ge cap' (len+L)with hlt |hge
      . have hdel:=zUm (n:=n) hrel b;obtain⟨w',x,Y',h1,h2,h3⟩:=grow hlt _ hdel.rel hdel;exact⟨w',x,Y',h1,by rw[z7,z7]; exact h2,h3⟩
      . -- it goes on in its place
        obtain⟨ws,h2,hin⟩:=HIn w hrel.on;obtain⟨e0,hbound⟩:x'=p.off+off/\x'+cap'*(sz+1)=p.sz:=by
         rcases hor with⟨e,h⟩ |e
         . exact⟨e,h rfl⟩
         . omega
        obtain⟨arr,el,fz,c1,c2,c3,c4,c5⟩:=hcells;have hol:old.length=len*(sz+1):=(qh hold).1;have hwl:ws.length=L*(sz+1):=by rw[h2.length,hxl]
        have hfit:(len+L)*(sz+1)<=cap'*(sz+1):=Nat.mul_le_mul_right _ hge;rw[Nat.add_mul]at hfit;have hst:=vM (P:=P) p.blk (x'+len*(sz+1)) el fz ws 0 arr w c1 (by rw[c2]; exact c4) (by omega) (zFo h2 hsing);have hlt:=(hrel.on b _ p hvs hp).lt;have hle':=Psi.le_upd (Y:=Y) (k:=n) ⟨p.blk,x',p.sz,p.ck⟩ hnone;have hpost:=zJj (n:=n) (p':=⟨p.blk,x',p.sz,p.ck⟩) (o':=.cells (old++xs)) hrel hroom' hnone hvs rfl hp rfl
         (ob:=.cells (arr.toList.take (x'+len*(sz+1)+0)++ws++arr.toList.drop (x'+len*(sz+1)+0+ws.length)).toArray el fz) (by
           refine⟨_,el,fz,xe _ hlt,by simp; omega,by simp only[List.length_append,hol,hxl]; omega,c4,λi c hi=>?_⟩;simp only[Nat.add_zero,List.getElem?_toArray];have htake:(arr.toList.take (x'+len*(sz+1))).length=x'+len*(sz+1):=by simp; omega
           by_cases hi':i<len*(sz+1)
           . rw[List.getElem?_append_left (by omega),(qh hold).2 i hi']at hi;obtain⟨y,hy,hyr⟩:=c5 _ c hi;refine⟨y,?_,hyr.mono hle'⟩;rw[List.append_assoc,List.getElem?_append_left (by omega),List.getElem?_take_of_lt (by omega),e0,Nat.add_assoc];simpa using hy
           . rw[List.getElem?_append_right (by omega),hol]at hi;obtain⟨y,hy,hyr⟩:=h2.get hi;refine⟨y,?_,hyr.mono hle'⟩;have hyl:i - len*(sz+1)<ws.length:=by
              rcases Nat.lt_or_ge (i - len*(sz+1)) ws.length with h |h
              . exact h
              . rw[List.getElem?_eq_none h]at hy; cases hy
             rw[List.append_assoc,List.getElem?_append_right (by omega),htake,List.getElem?_append_left (by omega)];rw[show x'+i - (x'+len*(sz+1))=i - len*(sz+1)from by omega]; exact hy)
        refine⟨_,.slice (some ⟨p.blk,x',none⟩) (len+L) cap',Y.upd n ⟨p.blk,x',p.sz,p.ck⟩,zR (hr ?_),by rw[z7,z7]; exact hpost,
         yJ.2 ⟨_,x',cap',Psi.upd_same _ _ _,rfl,hge,hge,by simp,.inl ⟨rfl,λ_=>hbound⟩⟩⟩
        rw[hs];refine hin _ _ _ _ hge ?_;simp only;rw[xf,hts];exact hst
theorem zOa{t u:TypeId}{r:List TypeId}{s x:Operand}(hrun:∀w,(execOp U (qM o ty)).run P w=(do pure (.value (<- Builtin.append_ (t::u::r).toArray ty #[U s,U x])):Sem Next).run P w)(ha:yG P Y es tm E U [s,x]) :
 zD P Y h n U o ty w (yX P (qa P E .append (t::u::r) [s,x]) es tm h n):=by
 have hr:∀{v:Value} {w':World},(Builtin.append_ (t::u::r).toArray ty #[U s,U x]).run P w=.ok v w'->(execOp U (qM o ty)).run P w=.ok (.value v) w':=by intro v w' hv; rw[hrun]; simp[hv]
 show zD P Y h n U o ty w (yX P (match und P t,und P u with
  |some (.slice e),some ud=>match ud with
   |.int _=>match qR P e,zAD P e,ji P e with
    |some (sz+1),some b,some z=>if Nat.ble b 100000&&Nat.beq z.length (sz+1)then jc P E (.appz z (sz+1)) s x else .bad 4|_,_,_=>.bad 4
   |_=>match qR P e,zAD P e,ji P e with
    |some (sz+1),some b,some z=>if Nat.ble b 100000&&Nat.beq z.length (sz+1)then jc P E (.append (sz+1) b) s x else .bad 4|_,_,_=>.bad 4
  |_,_=>.bad 4) es tm h n)
 unfold und;split
 . rename_i e ud ht hu;split
   . rename_i kd;split
     . rename_i sz bb z hsz hbb hz;split
       . rename_i hok;rw[Bool.and_eq_true]at hok;have hb1:=zH hok.1;have hzl:=ze hok.2;obtain⟨ti,zv,e1,e2,e3⟩:=jF hz;have hts:=zEW e1 hsz;have htb:=zAt e1 hbb;have hzs:zv.cells.size=sz+1:=by have:=(e3 Y).length; rw[hzl]at this; simpa using this
         refine xK (C:=zD P Y h n U o ty w) zA λcs cx hcs hcx=>?_;have hs:=ha s (by simp) cs hcs;have hx:=ha x (by simp) cx hcx;show zD P Y h n U o ty w (zQm z (sz+1) cs cx es tm h n);unfold zQm;refine yf (C:=zD P Y h n U o ty w) _ _ _ (zA _) λk hk=>?_;obtain⟨j,hxv⟩:=zAv hx hk;refine zJ (C:=zD P Y h n U o ty w) _ _ _ (zA _) λhk1=>?_;have hk1:k<=1000:=zH hk1;rw[zw];refine zJ (C:=zD P Y h n U o ty w) _ _ _ (zA _) λhsing=>?_;have hrel0:zP Y (wW z k) (Builtin.zeroCells zv.cells k).toList:=by rw[kF,hzs];exact zDm (e3 Y) hzl k
         have hlen:(wW z k).length=k*(sz+1):=by rw[zUp,hzl]
         exact zQC hr hts hzs hs hlen hsing
          (λw _=>⟨_,hrel0,λbase sLen sCap w' hle hst=>zKg ht hu e1 e2 hxv hk1 (by rw[htb]; exact hb1) (by omega) hle hst⟩)
          (λw _=>⟨_,hrel0,λbase sLen sCap old h3 hlt hle=>zRL ht hu e1 e2 hxv hk1 h3 hlt hle (by rw[htb]; exact hb1) (by omega)⟩)
       . exact zA _
     . exact zA _
   . rename_i hni;split
     . rename_i sz bb z hsz hbb hz;split
       . rename_i hok;rw[Bool.and_eq_true]at hok;have hb1:=zH hok.1;have hzl:=ze hok.2;obtain⟨ti,zv,e1,e2,e3⟩:=jF hz;have hts:=zEW e1 hsz;have htb:=zAt e1 hbb;have hzs:zv.cells.size=sz+1:=by have:=(e3 Y).length; rw[hzl]at this; simpa using this
         refine xK (C:=zD P Y h n U o ty w) zA λcs cx hcs hcx=>?_;have hs:=ha s (by simp) cs hcs;have hx:=ha x (by simp) cx hcx;show zD P Y h n U o ty w (zBU (sz+1) bb cs cx es tm h n);unfold zBU;have hunder:∀w,(underlying u).run P w=.ok ud w:=λw=>run_underlying hu w;have hni':∀k,ud≠.int k:=λk e=>hni k e;refine zBI (P:=P) (C:=zD P Y h n U o ty w) hx (sz+1) (λk=>k) (λl=>Nat.le_refl l) _ _ (zA _) λL xs hL hfirst hxl=>?_;refine zJ (C:=zD P Y h n U o ty w) _ _ _ (zA _) λhsing=>?_;exact zQC hr hts hzs hs hxl hsing
          (λw hrel=>by obtain⟨ws,h1,h2⟩:=hfirst w hrel;exact⟨ws,h2,λbase sLen sCap w' hle hst=>zLX ht hu hni' e1 (hL w) (by rw[hts]; exact h1) hle hst⟩)
          (λw hrel=>by obtain⟨ws,h1,h2⟩:=hfirst w.drew (hrel.congr rfl);exact⟨ws,h2,λbase sLen sCap old h3 hlt hle=>zTU ht hu hni' e1 e2 (hL w) h3 (by rw[hts]; exact h1) hlt hle (by rw[htb]; exact hb1)⟩)
       . exact zA _
     . exact zA _
 . exact zA _
end
end
end Go.Ev
