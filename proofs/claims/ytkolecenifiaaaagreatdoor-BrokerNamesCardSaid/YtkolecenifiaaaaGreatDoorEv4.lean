/- A verified evaluator for the model's code: EvN, EvO, EvP, EvQ, EvR, EvS, EvT. -/
import Derived.Test.YtkolecenifiaaaaGreatDoorEv3
import Derived.Laws.MakeOwn
import Derived.MapKept
import Derived.Laws.RangeString
import Derived.Laws.NewFold
import Derived.Laws.AppendOwn
set_option linter.unusedSectionVars false
set_option linter.unusedVariables false
set_option linter.unusedSimpArgs false
namespace Go.Ev
variable [Sym]
noncomputable section
variable {P:Program} {ψ:Psi} {es:List CV} {tm:Tm} {h:zC} {n:Key} {ρ:Operand→Value} {E:Env} {ty:TypeId} {w:World}
variable [SymFact P]
theorem zKb {t:TypeId} {z:CV} (h:wd P t=some z):∃ i v,P.info? t=some i∧i.zero=some v∧∀ ψ,zH ψ z v:=by
 unfold wd at h
 cases hi:P.info? t with
 | none=>rw [hi] at h; cases h
 | some i=>
  rw [hi] at h
  simp only [Option.bind_some] at h
  cases hz:i.zero with
  | none=>rw [hz] at h; cases h
  | some v=>
   rw [hz] at h
   exact ⟨i,v,rfl,hz,fun ψ=>kD 20 h⟩
theorem qn {t:TypeId} {z:List CV} (h:jR P t=some z):∃ i v,P.info? t=some i∧i.zero=some v∧∀ ψ,zS ψ z v.cells.toList:=by
 unfold jR at h
 cases hz:wd P t with
 | none=>rw [hz] at h; cases h
 | some c=>
  rw [hz] at h
  obtain ⟨i,v,h1,h2,h3⟩:=zKb hz
  exact ⟨i,v,h1,h2,fun ψ=>v6 (h3 ψ) h⟩
theorem zDD {t:TypeId} {i:TypeInfo} {s:Nat} (hi:P.info? t=some i) (hs:x6 P t=some s):i.size=s:=by
 unfold x6 at hs; rw [hi] at hs; injection hs
theorem uV {t:TypeId} {i:TypeInfo} {s:Nat} (hi:P.info? t=some i) (hs:ug P t=some s):i.bytes=s:=by
 unfold ug at hs; rw [hi] at hs; injection hs
theorem zCm {z:List CV} {zs:Array Value} {s:Nat} (hz:zS ψ z zs.toList) (hl:z.length=s+1) (c:Nat):zS ψ (k8 z c) (madeCells zs (c*(s+1))).toList:=by
 have hsz:zs.size=s+1:=by have:=hz.length; simpa [hl] using this
 refine qN.2 ⟨by rw [zDL,hl]; simp [madeCells],fun i x v hx hv=>?_⟩
 have hi:i<c*z.length:=by
  rcases Nat.lt_or_ge i (k8 z c).length with h | h
  · rwa [zDL] at h
  · rw [List.getElem?_eq_none h] at hx; cases hx
 rw [zQ4 c hi] at hx
 obtain ⟨u,hu,hr⟩:=hz.get hx
 have hm:i % z.length<zs.size:=by rw [hsz,hl]; exact Nat.mod_lt _ (by omega)
 have hv':(madeCells zs (c*(s+1)))[i]? = some v:=by simpa using hv
 unfold madeCells at hv'
 rw [Array.getElem?_map,Array.getElem?_range,if_pos (by rw [← hl]; exact hi)] at hv'
 simp only [Option.map_some] at hv'
 injection hv' with hv'
 rw [hl,← hsz] at hu
 have hu:zs[i % zs.size]? = some u:=by simpa using hu
 rw [getElem!_def,hu] at hv'
 simp only at hv'
 subst hv'; exact hr
theorem zGI (t:TypeId) (l c:Operand) (ha:yG P ψ es tm E ρ [l,c]):zD P ψ h n ρ (.makeSlice t l c) ty w (yU P (zh P E (.makeSlice t l c)) es tm h n):=by
 rw [zh]
 unfold und
 split
 · rename_i e ht
   split
   · rename_i s z b hs hz hb
     split
     · rename_i hzl
       have hzl:=yD hzl
       refine y7 (C:=zD P ψ h n ρ (.makeSlice t l c) ty w) zA fun cl cc hcl hcc=>?_
       have hl:=ha l (by simp) cl hcl
       have hc:=ha c (by simp) cc hcc
       refine ya (C:=zD P ψ h n ρ (.makeSlice t l c) ty w) _ _ _ (zA _) fun i hi=>?_
       refine ya (C:=zD P ψ h n ρ (.makeSlice t l c) ty w) _ _ _ (zA _) fun j hj=>?_
       refine zG (C:=zD P ψ h n ρ (.makeSlice t l c) ty w) _ _ _ (zA _) fun hok=>?_
       rw [zt,zt]
       rw [Bool.and_eq_true,Bool.and_eq_true] at hok
       have g1:=zL hok.1.1
       have g2:j*(s+1)≤100000:=zL hok.1.2
       have g3:b*j≤1000000:=zL hok.2
       obtain ⟨k1,hl⟩:=uX hl hi
       obtain ⟨k2,hc⟩:=uX hc hj
       obtain ⟨ti,zv,e1,e2,e3⟩:=qn hz
       have hsz:=zDD e1 hs
       have hby:=uV e1 hb
       have hj':j≤100000:=Nat.le_trans (Nat.le_mul_of_pos_right _ (by omega)) g2
       have hrun:=run_make (P:=P) w t e ti zv ht e1 e2 k1 k2 (Int.ofNat i) (Int.ofNat j) (by simp) (by simpa using g1)
        (by rw [hby]; have:((b*j:Nat):Int)≤281474976710656:=by omega
            rwa [Int.natCast_mul] at this) (by simp; omega)
       refine ⟨_,.slice (some ⟨w.heap.size,0,none⟩) i j,j*(s+1),zR ?_,jI _ (.cells (madeCells zv.cells (j*(s+1))) e),fun ψ' _ hn=>⟨?_,?_⟩,by simp [zFD,madeCells]⟩
       · simp only [execOp,Sem.run_bind,hl,hc,hrun,hsz,Result.andThen_ok]; rfl
       · exact yF.2 ⟨_,0,j,hn,rfl,Nat.le_refl _,g1,fun _=>rfl,.inl ⟨rfl,by simp⟩⟩
       · have:=uJ (ψ':=ψ') w (madeCells zv.cells (j*(s+1))) e (zCm (e3 ψ') hzl j)
         rwa [size_madeCells] at this
     · exact zA _
   · exact zA _
 · exact zA _
theorem zLm (xs:List Value):∀ (off k:Nat) (cs:Array Value),off+k+xs.length≤cs.size →
 (xs.zipIdx k |>.foldl (fun cs (p:Value × Nat)=>cs.setIfInBounds (off+p.2) p.1) cs).size=cs.size ∧
 ∀ i,(xs.zipIdx k |>.foldl (fun cs (p:Value × Nat)=>cs.setIfInBounds (off+p.2) p.1) cs)[i]? =
  if off+k≤i∧i<off+k+xs.length then xs[i - (off+k)]? else cs[i]?:=by
 induction xs with
 | nil=>
  intro off k cs _
  refine ⟨rfl,fun i=>?_⟩
  rw [if_neg (by simp)]
  rfl
 | cons x xs ih=>
  intro off k cs hle
  simp only [List.length_cons] at hle
  rw [List.zipIdx_cons,List.foldl_cons]
  obtain ⟨h1,h2⟩:=ih off (k+1) (cs.setIfInBounds (off+k) x) (by simp; omega)
  refine ⟨by rw [h1]; simp,fun i=>?_⟩
  rw [h2 i,Array.getElem?_setIfInBounds]
  by_cases e:off+k=i
  · subst e
    rw [if_neg (by omega),if_pos rfl,if_pos (by omega),if_pos (by simp)]
    simp
  · rw [if_neg e]
    by_cases hi:off+(k+1)≤i∧i<off+(k+1)+xs.length
    · rw [if_pos hi,if_pos (by simp; omega)]
      have:i - (off+k)=(i - (off+(k+1)))+1:=by omega
      rw [this]; simp
    · rw [if_neg hi,if_neg (by simp; omega)]
theorem zRx {cs xs r:List CV} {vs us:Array Value} {off s:Nat} (hc:zS ψ cs vs.toList) (hx:zS ψ xs us.toList) (ho:jY xs s cs off=some r) :
 us.size=s∧off+us.size≤vs.size∧zS ψ r (us.zipIdx.foldl (fun cs (p:Value × Nat)=>cs.setIfInBounds (off+p.2) p.1) vs).toList:=by
 obtain ⟨h1,h2,h3,h4⟩:=ua ho
 have hus:us.size=s:=by have:=hx.length; simpa [h1] using this
 have hvs:vs.size=cs.length:=by have:=hc.length; simpa using this
 have hle:off+us.size≤vs.size:=by rw [hus,hvs]; exact h2
 refine ⟨hus,hle,?_⟩
 have hf:us.zipIdx.foldl (fun cs (p:Value × Nat)=>cs.setIfInBounds (off+p.2) p.1) vs =
  (us.toList.zipIdx 0).foldl (fun cs (p:Value × Nat)=>cs.setIfInBounds (off+p.2) p.1) vs:=by
  rw [← Array.foldl_toList,Array.toList_zipIdx]
 obtain ⟨g1,g2⟩:=zLm us.toList off 0 vs (by simpa using hle)
 rw [hf]
 refine qN.2 ⟨by rw [Array.length_toList,g1,hvs,h3],fun i c v hci hvi=>?_⟩
 rw [Array.getElem?_toList,g2 i] at hvi
 rw [Nat.add_zero] at hvi
 by_cases hi:off≤i∧i<off+us.size
 · rw [if_pos (by simpa using hi)] at hvi
   obtain ⟨k,rfl⟩:∃ k,i=off+k:=⟨i - off,by omega⟩
   rw [h4.1 k (by omega)] at hci
   rw [Nat.add_sub_cancel_left] at hvi
   exact (qN.1 hx).2 k c v hci hvi
 · rw [if_neg (by simpa using hi)] at hvi
   rw [h4.2 i (by omega)] at hci
   exact (qN.1 hc).2 i c v hci (by simpa using hvi)
theorem zBY (place:Nat→Option (Nat × Nat)):∀ {ps:List (Nat × Operand)} {l:List zIA} {cs r:List CV} {vs:Array Value},yG P ψ es tm E ρ (ps.map (·.2)) →
 vk P E place ps=some l→zS ψ cs vs.toList→zAF es tm l cs=some r →
 ∃ us,Instr.fill place vs (ps.map fun p=>(p.1,ρ p.2))=some us∧zS ψ r us.toList
 | [],l,cs,r,vs,_,hp,hc,hf=>by
  injection hp with hp; subst hp
  injection hf with hf; subst hf
  exact ⟨vs,rfl,hc⟩
 | (i,x)::ps,l,cs,r,vs,ha,hp,hc,hf=>by
  unfold vk xD at hp
  cases h1:place i with
  | none=>simp only [h1] at hp; cases hp
  | some os=>
   obtain ⟨o,s⟩:=os
   cases h2:zi P E x with
   | none=>simp only [h1,h2] at hp; cases hp
   | some c=>
    simp only [h1,h2] at hp
    split at hp
    · cases hp
    · rename_i q hq
      injection hp with hp; subst hp
      have hf':Option.rec (motive:=fun _=>Option (List CV)) none (zAF es tm q) (zCL s o cs (cellsOf (aV es tm c)))=some r:=hf
      cases h3:cellsOf (aV es tm c) with
      | none=>rw [h3] at hf'; cases hf'
      | some xs=>
       rw [h3] at hf'
       have hf':Option.rec (motive:=fun _=>Option (List CV)) none (zAF es tm q) (jY xs s cs o)=some r:=hf'
       cases h4:jY xs s cs o with
       | none=>rw [h4] at hf'; cases hf'
       | some cs'=>
        rw [h4] at hf'
        have hx:=v6 (ha x (by simp) c h2) h3
        obtain ⟨g1,g2,g3⟩:=zRx hc hx h4
        obtain ⟨us,g4,g5⟩:=zBY place (ha.sub fun y hy=>by simp at hy ⊢; exact .inr hy) hq g3 hf'
        refine ⟨us,?_,g5⟩
        rw [List.map_cons,Instr.fill]
        simp only [h1]
        rw [if_neg]
        · exact g4
        · simp [g1]; omega
theorem zE1:∀ {fl:List Field},jc P fl=true→∀ w:World,(fl.mapM fun (f:Field)=>(do pure (f.offset,← sizeOf f.type):Sem (Nat × Nat))).run P w =
 .ok (fl.map fun f=>(f.offset,(x6 P f.type).getD 0)) w
 | [],_,w=>rfl
 | f::fl,hk,w=>by
  unfold jc at hk
  rw [Bool.and_eq_true] at hk
  obtain ⟨s,hs⟩:=Option.isSome_iff_exists.1 hk.1
  have ih:=zE1 hk.2 w
  simp only [List.mapM_cons,Sem.run_bind,ye hs,Result.andThen_ok,Sem.run_pure,ih,List.map_cons,hs,Option.getD_some]
theorem zHk:∀ {fl:List Field} {f:Field},jc P fl=true→f∈fl→(x6 P f.type).isSome=true
 | g::r,f,hk,hm=>by
  unfold jc at hk
  rw [Bool.and_eq_true] at hk
  rcases List.mem_cons.1 hm with rfl | hm
  · exact hk.1
  · exact zHk hk.2 hm
theorem zO5 (t:TypeId) (ps:Array (Nat × Operand)) (ha:yG P ψ es tm E ρ (ps.toList.map (·.2))):zD P ψ h n ρ (.build t ps) ty w (yU P (zh P E (.build t ps)) es tm h n):=by
 rw [zh]
 unfold und
 split
 · rename_i z fs hz ht
   split
   · rename_i hkn
     split
     · rename_i l hl
       refine wX (C:=zD P ψ h n ρ (.build t ps) ty w) _ _ (zA _) fun r hr=>?_
       obtain ⟨ti,zv,e1,e2,e3⟩:=qn hz
       obtain ⟨us,h1,h2⟩:=zBY _ ha hl (e3 ψ) hr
       refine ⟨.agg us,zR ?_,yn.2 ⟨_,rfl,h2⟩⟩
       have hpl:=zE1 (P:=P) hkn w
       have hfun:((fs.toList.map fun f=>(f.offset,(x6 P f.type).getD 0)).toArray[·]? : Nat→Option (Nat × Nat))=zAx P fs.toList:=by
        funext i
        unfold zAx
        rw [yg]
        simp only [List.getElem?_toArray,List.getElem?_map]
        cases hf:fs.toList[i]? with
        | none=>rfl
        | some f=>
         simp only [Option.map_some]
         have:=zHk hkn (List.mem_of_getElem? hf)
         obtain ⟨s,hs⟩:=Option.isSome_iff_exists.1 this
         rw [hs]; rfl
       have hmap:(fs.mapM fun (f:Field)=>(do pure (f.offset,← sizeOf f.type):Sem (Nat × Nat))).run P w=.ok (fs.toList.map fun f=>(f.offset,(x6 P f.type).getD 0)).toArray w:=by
        rw [Array.mapM_eq_mapM_toList]
        rw [Sem.run_map,hpl]; rfl
       simp only [execOp,Instr.build,Sem.run_bind,Sem.run_map,zeroValue,jL e1,e2,Result.andThen_ok,Sem.run_pure,run_underlying ht,hmap]
       rw [hfun,Array.toList_map]
       rw [h1]
       rfl
     · exact zA _
   · exact zA _
 · rename_i z len e hz ht
   split
   · exact zA _
   · rename_i s hs
     split
     · rename_i l hl
       refine wX (C:=zD P ψ h n ρ (.build t ps) ty w) _ _ (zA _) fun r hr=>?_
       obtain ⟨ti,zv,e1,e2,e3⟩:=qn hz
       obtain ⟨us,h1,h2⟩:=zBY _ ha hl (e3 ψ) hr
       refine ⟨.agg us,zR ?_,yn.2 ⟨_,rfl,h2⟩⟩
       simp only [execOp,Instr.build,Sem.run_bind,zeroValue,jL e1,e2,Result.andThen_ok,Sem.run_pure,run_underlying ht,ye hs]
       rw [Array.toList_map]
       rw [h1]
       rfl
     · exact zA _
 · exact zA _
theorem zGA (t:TypeId) (len:Nat) (ps:Array (Nat × Operand)) (ha:yG P ψ es tm E ρ (ps.toList.map (·.2))) :
 zD P ψ h n ρ (.buildSlice t len ps) ty w (yU P (zh P E (.buildSlice t len ps)) es tm h n):=by
 rw [zh]
 unfold und
 split
 · rename_i e ht
   split
   · rename_i s z hs hz
     split
     · rename_i hok
       rw [Bool.and_eq_true] at hok
       have g1:len*(s+1)≤100000:=zL hok.1
       have g2:=yD hok.2
       split
       · rename_i l hl
         refine yX (C:=zD P ψ h n ρ (.buildSlice t len ps) ty w) _ _ _ (zA _) fun r hr=>?_
         obtain ⟨ti,zv,e1,e2,e3⟩:=qn hz
         obtain ⟨us,h1,h2⟩:=zBY _ ha hl (zCm (e3 ψ) g2 len) hr
         have hrun:(execOp ρ (xw (.buildSlice t len ps) ty)).run P w=.ok (.value (.slice (some ⟨w.heap.size,0,none⟩) len len)) { w with heap:=w.heap.push (.cells us e) }:=by
          have hlim:¬ (len*(s+1) > 2 ^ 24):=by omega
          by_cases h0:len*(s+1)=0
          · have hm:madeCells zv.cells (len*(s+1))=(Array.range (len*(s+1))).map ((#[]:Array Value)[· % (#[]:Array Value).size]!):=by rw [h0]; unfold madeCells; simp [Array.range_zero']
            rw [hm] at h1
            simp only [execOp,Instr.buildSlice,Sem.run_bind,run_underlying ht,ye hs,Result.andThen_ok,if_neg hlim,if_pos h0,Sem.run_pure,Array.toList_map,h1,newRow,run_newObj]
          · have hm:madeCells zv.cells (len*(s+1))=(Array.range (len*(s+1))).map (zv.cells[· % zv.cells.size]!):=rfl
            rw [hm] at h1
            simp only [execOp,Instr.buildSlice,Sem.run_bind,run_underlying ht,ye hs,Result.andThen_ok,if_neg hlim,if_neg h0,Sem.run_pure,Array.toList_map,h1,newRow,run_newObj,zeroValue,jL e1,e2]
         refine ⟨_,_,us.size,zR hrun,jI _ (.cells us e),fun ψ' hle hn=>⟨?_,?_⟩,by simp [zFD]⟩
         · exact yF.2 ⟨_,0,len,hn,rfl,Nat.le_refl _,Nat.le_refl _,fun _=>rfl,.inl ⟨rfl,by simp⟩⟩
         · cases (Nat.beq len 1&&Nat.beq (s+1) 6) with
           | false=>exact uJ w us e (h2.mono hle)
           | true=>exact zR7 w us e (h2.mono hle)
       · exact zA _
     · exact zA _
   · exact zA _
 · exact zA _
theorem zJf {ok:Bool} {v:CV} {x:Value} (h:zH ψ v x):zH ψ (okV ok v) (if ok then .tuple #[x,.bool true] else x):=by
 cases ok with
 | false=>exact h
 | true=>exact yW.2 ⟨_,rfl,zW.2 ⟨h,zW.2 ⟨zJ.2 rfl,zM.2 rfl⟩⟩⟩
theorem zFF (x:Operand) (xt t:TypeId) (ok:Bool) (ha:yG P ψ es tm E ρ [x]) :
 zD P ψ h n ρ (.typeAssert x xt t ok) ty w (yU P (zh P E (.typeAssert x xt t ok)) es tm h n):=by
 have no:∀ {s d:Option TypeId} {m:String},(∀ w,(execOp ρ (xw (.typeAssert x xt t ok) ty)).run P w=((do
  if ok then pure (.tuple #[← zeroValue t,.bool false]) else runtimePanic (.typeAssertion s d t m):Sem Value).run P w).andThen fun v w=>.ok (.value v) w) →
  zD P ψ h n ρ (.typeAssert x xt t ok) ty w (noV ok (wd P t)):=by
  intro s d m hr
  unfold noV
  split
  · rename_i z hz
    obtain ⟨v,h1,h2⟩:=zBA hz
    refine ⟨.tuple #[v,.bool false],zR ?_,yW.2 ⟨_,rfl,zW.2 ⟨h2 ψ,zW.2 ⟨zJ.2 rfl,zM.2 rfl⟩⟩⟩⟩
    rw [hr]; simp [h1]
  · exact zA _
 rw [zh]
 unfold und
 split
 · rename_i want ht
   refine zr (C:=zD P ψ h n ρ (.typeAssert x xt t ok) ty w) zA fun c hc=>?_
   have hx:=ha x (by simp) c hc
   refine xo (C:=zD P ψ h n ρ (.typeAssert x xt t ok) ty w) _ _ _ _ (zA _) (fun hv=>?_) fun d v hv=>?_
   · rw [hv,yj] at hx
     refine no (s:=none) (d:=none) (m := "") fun w=>?_
     simp [execOp,Instr.typeAssert,hx,run_underlying ht]
   · rw [hv,yf] at hx
     obtain ⟨y,hx,hr⟩:=hx
     have hx0:zH ψ (.iface d v) (ρ x):=yf.2 ⟨y,hx,hr⟩
     unfold zSh und
     rw [ht]
     cases hi:P.info? d with
     | none=>exact zA _
     | some ti=>
      simp only
      cases hm:Instr.missingMethod want ti.methods with
      | none=>
       refine ⟨_,zR ?_,zJf hx0⟩
       rw [hx]
       simp [execOp,Instr.typeAssert,hx,run_underlying ht,jL hi,hm]
      | some m=>
       refine no (s:=none) (d:=some d) (m:=m) fun w=>?_
       simp [execOp,Instr.typeAssert,hx,run_underlying ht,jL hi,hm]
 · rename_i D hD ht
   refine zr (C:=zD P ψ h n ρ (.typeAssert x xt t ok) ty w) zA fun c hc=>?_
   have hx:=ha x (by simp) c hc
   refine xo (C:=zD P ψ h n ρ (.typeAssert x xt t ok) ty w) _ _ _ _ (zA _) (fun hv=>?_) fun d v hv=>?_
   · rw [hv,yj] at hx
     refine no (s:=some xt) (d:=none) (m := "") fun w=>?_
     cases D <;> first | exact absurd rfl (hD _) | simp [execOp,Instr.typeAssert,hx,run_underlying ht]
   · rw [hv,yf] at hx
     obtain ⟨y,hx,hr⟩:=hx
     rw [ja]
     by_cases e:d=t
     · subst e
       rw [qe,if_pos rfl]
       refine ⟨_,zR ?_,zJf hr⟩
       cases D <;> first | exact absurd rfl (hD _) | simp [execOp,Instr.typeAssert,hx,run_underlying ht]
     · rw [wb e,if_neg (by simp)]
       refine no (s:=some xt) (d:=some d) (m := "") fun w=>?_
       cases D <;> first | exact absurd rfl (hD _) | simp [execOp,Instr.typeAssert,hx,run_underlying ht,e]
 · exact zA _
end
end Go.Ev
namespace Go.Ev
variable [Sym]
open Go.MapKept
noncomputable section
variable {ck:Nat→Nat} {P:Program} {ψ:Psi} {es:List CV} {tm:Tm} {h:zC} {n:Key} {ρ:Operand→Value} {E:Env} {ty:TypeId} {w:World}
variable [SymFact P]
theorem zDr (P:Program) [SymFact P] {a b:CV} {u v:Value} {r:Bool} {kd:IntKind} (w:World) (ha:zH ψ a u) (hb:zH ψ b v) (hr:zFS a b=some r):Instr.sameNow (.int kd) u v=some r∧(r=true→u=v):=by
 unfold zFS at hr
 split at hr
 · rename_i l r1 r2 hc he1 he2
   injection hr with hr; subst hr
   obtain ⟨k,m,rfl,_⟩:=(SymFact.ok (P:=P)).2 _ _ _ hc ψ u ha
   obtain ⟨_,z1,hz1,c1,hc1,hr1⟩:=(SymFact.ok (P:=P)).1 _ _ _ _ he1 ψ 0 _ v w ha hb
   obtain ⟨_,z2,hz2,c2,hc2,hr2⟩:=(SymFact.ok (P:=P)).1 _ _ _ _ he2 ψ 0 _ v w ha hb
   obtain rfl:c1=.bool r1:=by simpa using hc1
   obtain rfl:c2=.bool r2:=by simpa using hc2
   rw [zJ.1 hr1] at hz1
   rw [zJ.1 hr2] at hz2
   cases v with
   | int j n=>
    by_cases ej:k=j
    · subst ej
      have hz1:decide (m≤n)=r1:=by simpa [binOp,Op.intCmp] using hz1
      have hz2:decide (n≤m)=r2:=by simpa [binOp,Op.intCmp] using hz2
      have hz:(m == n)=(r1&&r2):=by
       rw [← hz1,← hz2,Bool.eq_iff_iff,Bool.and_eq_true,decide_eq_true_eq,decide_eq_true_eq,beq_iff_eq]
       omega
      refine ⟨?_,fun h=>?_⟩
      · show (if k=k then some (m == n) else none)=some (r1&&r2)
        rw [if_pos rfl,hz]
      · rw [h] at hz
        have:m=n:=by simpa using hz
        rw [this]
    · simp [binOp,ej] at hz1
   | _=>simp [binOp] at hz1
 · cases hr
theorem qI (P:Program) [SymFact P] {a b:CV} {u v:Value} {r:Bool} (hu:∃ s,u=.string s) (hv:∃ s,v=.string s) (ha:zH ψ a u) (hb:zH ψ b v) (hr:zGl a b=some r):Instr.sameNow .string u v=some r∧(r=true→u=v):=by
 unfold zGl at hr
 split at hr
 · rename_i r1 he
   injection hr with hr; subst hr
   obtain ⟨s,rfl⟩:=hu
   obtain ⟨q,rfl⟩:=hv
   obtain ⟨_,z,hz,c,hc,hr1⟩:=(SymFact.ok (P:=P)).1 _ _ _ _ he ψ 0 _ _ default ha hb
   obtain rfl:c=.bool r1:=by simpa using hc
   rw [zJ.1 hr1] at hz
   obtain ⟨z',h1,h2⟩:=vy (P:=P) (ψ:=ψ) (op:=.eql) (a:=s) (b:=q) 0 default rfl
   rw [h1] at hz
   injection hz with hz _
   rw [hz] at h2
   have h2:=zJ.1 h2
   injection h2 with h2
   subst h2
   rw [qB,← beq_toListBytes]
   exact ⟨rfl,fun h=>by rw [bytes_beq] at h; rw [h]⟩
 · cases hr
theorem zKV {kk:j7} {a b:CV} {u v:Value} {r:Bool} {d:TypeDesc} {kt:TypeId} (hk:xU P kt=some kk) (hd:P.underlying kt=some d) (ha:zH ψ a u) (hb:zH ψ b v)
 (hr:qL kk a b=some r) (hn:∀ n,kk≠.ints n):Instr.sameNow d u v=some r∧(r=true→u=v):=by
 unfold xU und at hk
 rw [hd] at hk
 have hint:∀ {j k:IntKind} {x y:Int} {kd:IntKind},Instr.sameNow (.int kd) (.int j x) (.int k y)=(if j=k then some (x == y) else none):=by intros; rfl
 unfold qL at hr
 split at hr
 · exact absurd rfl (hn _)
 · -- nat nat
   rename_i x y
   split at hk <;> first | cases hk | (split at hk <;> first | cases hk | (split at hk <;> cases hk)) | skip
   rename_i kd e
   injection e with e; subst e
   rw [zX] at ha hb
   subst ha hb
   injection hr with hr
   rw [hint,if_pos rfl]
   have:=@Nat.beq_eq x y
   subst hr
   cases hb:Nat.beq x y
   · rw [hb] at this; simp at this; refine ⟨?_,by simp⟩; congr 1; simp; omega
   · rw [hb] at this; simp at this; subst this; simp
 · rename_i j x k y
   split at hr
   · rename_i hjk
     rw [yo] at hjk
     have hjk:j=k:=by simpa using hjk
     subst hjk
     split at hk <;> first | cases hk | (split at hk <;> first | cases hk | (split at hk <;> cases hk)) | skip
     rename_i kd e
     injection e with e; subst e
     rw [zg] at ha hb
     subst ha hb
     injection hr with hr
     rw [hint,if_pos rfl]
     rw [za] at hr
     subst hr
     refine ⟨rfl,fun h=>by simp at h; rw [h]⟩
   · cases hr
 · rename_i x y
   split at hk <;> first | cases hk | (split at hk <;> first | cases hk | (split at hk <;> cases hk)) | skip
   rename_i e
   injection e with e; subst e
   rw [ze] at ha hb
   obtain ⟨p,rfl,rfl⟩:=ha
   obtain ⟨q,rfl,rfl⟩:=hb
   injection hr with hr
   rw [qB,← beq_toListBytes] at hr
   subst hr
   exact ⟨rfl,fun h=>by rw [bytes_beq] at h; rw [h]⟩
 · rename_i x y
   split at hk <;> first | cases hk | (split at hk <;> first | cases hk | (split at hk <;> cases hk)) | skip
   rename_i e
   injection e with e; subst e
   rw [zJ] at ha hb
   subst ha hb
   injection hr with hr
   subst hr
   exact ⟨rfl,fun h=>by simp at h; rw [h]⟩
 · split at hk <;> first | cases hk | (split at hk <;> first | cases hk | (split at hk <;> cases hk)) | skip
   rename_i kd e
   injection e with e; subst e
   exact zDr P default ha hb hr
 · split at hk <;> first | cases hk | (split at hk <;> first | cases hk | (split at hk <;> cases hk)) | skip
   rename_i kd e
   injection e with e; subst e
   exact zDr P default ha hb hr
 · split at hk <;> first | cases hk | (split at hk <;> first | cases hk | (split at hk <;> cases hk)) | skip
   rename_i kd e
   injection e with e; subst e
   exact zDr P default ha hb hr
 · split at hk <;> first | cases hk | (split at hk <;> first | cases hk | (split at hk <;> cases hk)) | skip
   rename_i e
   injection e with e; subst e
   exact qI P (by obtain ⟨s,h,_⟩:=zy.1 ha; exact ⟨s,h⟩) (by obtain ⟨s,h,_⟩:=zy.1 hb; exact ⟨s,h⟩) ha hb hr
 · split at hk <;> first | cases hk | (split at hk <;> first | cases hk | (split at hk <;> cases hk)) | skip
   rename_i e
   injection e with e; subst e
   exact qI P (by obtain ⟨s,h,_⟩:=zy.1 ha; exact ⟨s,h⟩) (by obtain ⟨s,h,_⟩:=ze.1 hb; exact ⟨s,h⟩) ha hb hr
 · split at hk <;> first | cases hk | (split at hk <;> first | cases hk | (split at hk <;> cases hk)) | skip
   rename_i e
   injection e with e; subst e
   exact qI P (by obtain ⟨s,h,_⟩:=ze.1 ha; exact ⟨s,h⟩) (by obtain ⟨s,h,_⟩:=zy.1 hb; exact ⟨s,h⟩) ha hb hr
 · cases hr
theorem zF2 (dd:Nat) (w:World) {us vs:Array Value}:∀ (fs:List Field) (i:Nat) {a b:List CV} {r:Bool},zGg P fs i=true→zS ψ a (us.toList.drop i)→zS ψ b (vs.toList.drop i) →
 zDd a b fs.length=some r→(Op.eqFields (dd+1) us vs fs).run P w=.ok r w∧(r=true→us.toList.drop i=vs.toList.drop i)
 | [],i,a,b,r,_,ha,hb,hr=>by
  unfold zDd at hr
  split at hr
  · injection hr with hr; subst hr
    rw [zM] at ha hb
    exact ⟨rfl,fun _=>by rw [ha,hb]⟩
  · rename_i e; cases e
  · cases hr
 | f::fs,i,a,b,r,hk,ha,hb,hr=>by
  unfold zDd at hr
  split at hr
  · rename_i e; cases e
  · rename_i x a y b n e
    obtain rfl:fs.length=n:=by simpa using e
    unfold zGg und at hk
    simp only [Bool.and_eq_true,Bool.not_eq_true'] at hk
    obtain ⟨⟨⟨hname,hoff⟩,hty⟩,hrest⟩:=hk
    have hname:f.name ≠ "_":=by simpa using hname
    have hoff:f.offset=i:=by simpa using hoff
    split at hty
    · rename_i k ht
      rw [zd] at ha hb
      obtain ⟨u,ur,hu,hxu,hau⟩:=ha
      obtain ⟨v,vr,hv,hyv,hbv⟩:=hb
      have hu1:us[f.offset]? = some u:=by
       have:=congrArg (·[0]?) hu
       simpa [hoff] using this
      have hv1:vs[f.offset]? = some v:=by
       have:=congrArg (·[0]?) hv
       simpa [hoff] using this
      have hu2:us.toList.drop (i+1)=ur:=by
       have:=congrArg List.tail hu
       simpa using this
      have hv2:vs.toList.drop (i+1)=vr:=by
       have:=congrArg List.tail hv
       simpa using this
      rw [← hu2] at hau
      rw [← hv2] at hbv
      cases hc:ul .int x y with
      | none=>simp only [hc] at hr; cases hr
      | some c=>
       rcases ww hxu hyv hc with ⟨e,_⟩ | ⟨_,j,p,q,rfl,rfl,rfl⟩ | ⟨e,_⟩
       · cases e
       · have he:(Op.equalIn (dd+1) f.type (.int j p) (.int j q)).run P w=.ok (p == q) w:=run_equalIn_int w dd _ j k p q ht
         have one:=xg (P:=P) (zAS ht) hu1 w
         have two:=xg (P:=P) (zAS ht) hv1 w
         cases hpq:p == q with
         | false=>
          simp only [hc,hpq] at hr
          injection hr with hr; subst hr
          rw [hpq] at he
          exact ⟨by simp [Op.eqFields,hname,one,two,he],fun h=>by cases h⟩
         | true=>
          simp only [hc,hpq] at hr
          rw [hpq] at he
          obtain ⟨q1,q2⟩:=zF2 dd w fs (i+1) hrest hau hbv hr
          refine ⟨by simp [Op.eqFields,hname,one,two,he,q1],fun h=>?_⟩
          have hpq:p=q:=by simpa using hpq
          rw [hu,hv,← hu2,← hv2,q2 h,hpq]
       · cases e
    · cases hty
  · cases hr
def kh (P:Program) (kk:j7) (kt:TypeId) (d:TypeDesc) (u v:Value) (r:Bool):Prop:=match kk with
 | .ints _=>Instr.sameNow d u v=none∧∀ w,(Op.equal kt u v).run P w=.ok r w
 | _=>Instr.sameNow d u v=some r
theorem zCN {kt:TypeId} {n:Nat} {d:TypeDesc} (hk:xU P kt=some (.ints n)) (hd:P.underlying kt=some d):∃ fs,d=.struct fs∧P.stoodInHeld kt=false∧zGg P fs.toList 0=true∧n=fs.size:=by
 unfold xU und at hk
 rw [hd] at hk
 split at hk <;> first | cases hk | skip
 rename_i fs e
 injection e with e; subst e
 split at hk
 · cases hk
 · rename_i hg
   split at hk
   · rename_i hi
     injection hk with hk; injection hk with hk
     exact ⟨fs,rfl,by simpa using hg,hi,hk.symm⟩
   · cases hk
theorem wS {kk:j7} {a b:CV} {u v:Value} {r:Bool} {d:TypeDesc} {kt:TypeId} (hk:xU P kt=some kk) (hd:P.underlying kt=some d) (ha:zH ψ a u) (hb:zH ψ b v)
 (hr:qL kk a b=some r):kh P kk kt d u v r∧(r=true→u=v):=by
 by_cases hi:∃ n,kk=.ints n
 · obtain ⟨n,rfl⟩:=hi
   obtain ⟨fs,rfl,hg,hf,rfl⟩:=zCN hk hd
   have hr':∃ x y,a=.agg x∧b=.agg y∧zDd x y fs.size=some r:=by
    cases a <;> cases b <;> first | exact ⟨_,_,rfl,rfl,hr⟩ | cases hr
   clear hr
   obtain ⟨x,y,rfl,rfl,hr⟩:=hr'
   rw [yn] at ha hb
   obtain ⟨us,rfl,ha⟩:=ha
   obtain ⟨vs,rfl,hb⟩:=hb
   have hfo:P.fieldsOf kt=fs:=by unfold Program.fieldsOf; rw [hd]
   have main:=fun w=>zF2 (P:=P) (ψ:=ψ) 9998 w (us:=us) (vs:=vs) fs.toList 0 hf (by simpa using ha) (by simpa using hb) (by simpa using hr)
   refine ⟨⟨rfl,fun w=>?_⟩,fun h=>?_⟩
   · show (Op.equalIn (9998+1+1) kt _ _).run P w=_
     rw [run_equalIn_struct w (9998+1) kt us vs (by rw [hfo]; exact hd) hg,hfo]
     exact (main w).1
   · have:=(main default).2 h
     congr 1
     apply Array.toList_inj.1
     simpa using this
 · have hn:∀ n,kk≠.ints n:=fun n e=>hi ⟨n,e⟩
   obtain ⟨h1,h2⟩:=zKV hk hd ha hb hr hn
   refine ⟨?_,h2⟩
   cases kk <;> first | exact h1 | exact absurd rfl (hn _)
theorem uz (e:Bool) (m:Nat) (w:World) {us:Array Value}:∀ (L:List Field) (i:Nat),zGg P L i=true→i+L.length≤us.size →
 ∀ f∈L,f.name ≠ "_"∧∃ a,(part f.type us f.offset).run P w=.ok a w∧(Instr.checkKey e (m+1) f.type a).run P w=.ok () w
 | [],_,_,_=>by simp
 | f::fs,i,hk,hs=>by
  unfold zGg und at hk
  simp only [Bool.and_eq_true,Bool.not_eq_true'] at hk
  obtain ⟨⟨⟨hname,hoff⟩,hty⟩,hrest⟩:=hk
  have hname:f.name ≠ "_":=by simpa using hname
  have hoff:f.offset=i:=by simpa using hoff
  split at hty
  · rename_i k ht
    simp only [List.length_cons] at hs
    have hlt:f.offset<us.size:=by omega
    have one:=xg (P:=P) (zAS ht) (Array.getElem?_eq_getElem hlt) w
    have two:(Instr.checkKey e (m+1) f.type us[f.offset]).run P w=.ok () w:=by
     unfold Instr.checkKey
     simp only [Sem.run_bind,run_underlying ht,Result.andThen_ok]
     rfl
    intro g hg
    rcases List.mem_cons.1 hg with rfl | hg
    · exact ⟨hname,_,one,two⟩
    · exact uz e m w fs (i+1) hrest (by omega) g hg
  · cases hty
theorem vh {kk:j7} {kt:TypeId} {d:TypeDesc} {k:CV} {v:Value} (hk:xU P kt=some kk) (hd:P.underlying kt=some d) (hv:zH ψ k v) (hok:zA9 kk k=true) (e:Bool) (w:World) :
 (Instr.checkKey e 10000 kt v).run P w=.ok () w:=by
 by_cases hi:∃ n,kk=.ints n
 · obtain ⟨n,rfl⟩:=hi
   obtain ⟨fs,rfl,hg,hf,rfl⟩:=zCN hk hd
   have hr':∃ x,k=.agg x∧wz x=fs.size:=by
    cases k <;> first | (unfold zA9 at hok; simp only [Bool.and_eq_true] at hok; exact ⟨_,rfl,by simpa using hok.1⟩) | (unfold zA9 at hok; cases hok)
   obtain ⟨x,rfl,hl⟩:=hr'
   rw [yn] at hv
   obtain ⟨us,rfl,hv⟩:=hv
   have hsz:us.size=fs.size:=by
    have:=hv.length
    have e2:wz x=x.length:=by
     clear hv hl this hok
     induction x with
     | nil=>rfl
     | cons y x ih=>exact congrArg Nat.succ ih
    simp at this; omega
   have:=uz (P:=P) e 9998 w (us:=us) fs.toList 0 hf (by simp [hsz])
   show (Instr.checkKey e (9999+1) kt (.agg us)).run P w=_
   rw [Instr.checkKey]
   simp only [Sem.run_bind,run_underlying hd,Result.andThen_ok]
   rw [← Array.forIn_toList]
   clear hf hsz hl hv
   generalize fs.toList=L at this
   induction L with
   | nil=>simp
   | cons f L ih=>
    obtain ⟨hn,a,p1,p2⟩:=this f (by simp)
    simp only [List.forIn_cons,Sem.run_bind,hn,ne_eq,not_false_eq_true,if_true,Result.andThen_ok,p1,p2,Sem.run_pure]
    exact ih fun g hg=>this g (by simp [hg])
 · have hn:∀ n,kk≠.ints n:=fun n e=>hi ⟨n,e⟩
   have main:∀ n,(Instr.checkKey e (n+1) kt v).run P w=.ok () w:=by
    intro n
    unfold xU und at hk
    rw [hd] at hk
    unfold Instr.checkKey
    simp only [Sem.run_bind,run_underlying hd,Result.andThen_ok]
    cases d <;> first | rfl | cases hk | skip
    simp only at hk
    split at hk
    · cases hk
    · split at hk
      · injection hk with hk; exact absurd hk.symm (hn _)
      · cases hk
   exact main 9999
theorem zC7 (n:Nat):∀ {cs:List CV} {l:List Value},zCF cs=true→zS ψ cs l→(l.zip l).all (fun (x,y)=>Instr.sameBits n x y)=true
 | [],l,_,h=>by rw [zM] at h; subst h; rfl
 | c::cs,l,hc,h=>by
  rw [zd] at h
  obtain ⟨v,r,rfl,h1,h2⟩:=h
  unfold zCF at hc
  split at hc
  · rename_i e; cases e
  · rename_i e; injection e with e1 e2; subst e1 e2
    rw [zX] at h1; subst h1
    simp [Instr.sameBits,zC7 n hc h2]
  · rename_i e; injection e with e1 e2; subst e1 e2
    rw [zg] at h1; subst h1
    simp [Instr.sameBits,zC7 n hc h2]
  · cases hc
theorem zKf {kk:j7} {k:CV} {v:Value} (hv:zH ψ k v) (hk:zA9 kk k=true) (w:World):(Instr.keyThatStays v v).run P w=.ok v w:=by
 have:Instr.sameBits 10000 v v=true:=by
  unfold zA9 at hk
  split at hk
  · rw [yn] at hv; obtain ⟨us,rfl,hv⟩:=hv
    simp only [Bool.and_eq_true] at hk
    show (us.size == us.size&&(us.toList.zip us.toList).all fun (x,y)=>Instr.sameBits 9999 x y)=true
    rw [zC7 9999 hk.2 hv]; simp
  · rw [zX] at hv; subst hv; simp [Instr.sameBits]
  · rw [zg] at hv; subst hv; simp [Instr.sameBits]
  · rw [ze] at hv; obtain ⟨b,rfl,_⟩:=hv; simp [Instr.sameBits,bytes_beq]
  · rw [zJ] at hv; subst hv; simp [Instr.sameBits]
  · rename_i e
    obtain ⟨l,hl⟩:=Option.isSome_iff_exists.1 hk
    obtain ⟨j,m,rfl,_⟩:=(SymFact.ok (P:=P)).2 _ _ _ hl ψ v hv
    simp [Instr.sameBits]
  · rw [zy] at hv; obtain ⟨b,rfl,_⟩:=hv; simp [Instr.sameBits,bytes_beq]
  · cases hk
 simp [Instr.keyThatStays,this]
inductive wK (P:Program) (kk:j7) (kt:TypeId) (d:TypeDesc) (u:Value):List MapEntry→Nat→Option (Nat × Value)→Prop
 | nil (i:Nat):wK P kk kt d u [] i none
 | hit {e:MapEntry} {l:List MapEntry} {i:Nat} (h:kh P kk kt d u e.key true):wK P kk kt d u (e::l) i (some (i,e.val))
 | miss {e:MapEntry} {l:List MapEntry} {i:Nat} {r:Option (Nat × Value)} (h:kh P kk kt d u e.key false) (hr:wK P kk kt d u l (i+1) r):wK P kk kt d u (e::l) i r
theorem qr {kk:j7} {kt:TypeId} {d:TypeDesc} {u:Value} {l:List MapEntry} {r:Option (Nat × Value)} (hd:P.underlying kt=some d) (h:wK P kk kt d u l 0 r) (w:World):(Instr.findKey kt u l).run P w=.ok r w:=by
 by_cases hi:∃ n,kk=.ints n
 · obtain ⟨n,rfl⟩:=hi
   have ask:∀ {l:List MapEntry} {i:Nat} {r:Option (Nat × Value)},wK P (.ints n) kt d u l i r→(Instr.findAsking kt u l i).run P w=.ok r w:=by
    intro l i r h
    induction h with
    | nil=>rfl
    | hit h=>simp [Instr.findAsking,h.2 w]
    | miss h _ ih=>simp [Instr.findAsking,h.2 w,ih]
   have hl:=ask h
   cases h with
   | nil=>exact run_findKey hd rfl
   | hit h=>simp [Instr.findKey,run_underlying hd,Instr.findNow,h.1,hl]
   | miss h _=>simp [Instr.findKey,run_underlying hd,Instr.findNow,h.1,hl]
 · have hn:∀ n,kk≠.ints n:=fun n e=>hi ⟨n,e⟩
   have same:∀ {v:Value} {b:Bool},kh P kk kt d u v b→Instr.sameNow d u v=some b:=by
    intro v b h
    cases kk <;> first | exact h | exact absurd rfl (hn _)
   have now:∀ {l:List MapEntry} {i:Nat} {r:Option (Nat × Value)},wK P kk kt d u l i r→Instr.findNow d u l i=some r:=by
    intro l i r h
    induction h with
    | nil=>rfl
    | hit h=>simp [Instr.findNow,same h]
    | miss h _ ih=>simp [Instr.findNow,same h,ih]
   exact run_findKey hd (now h)
theorem zFn {c:CV} {v:Value} (h:zIn c=true) (hv:zH ψ c v):∃ s,v=.string s:=by
 cases c <;> try (cases h)
 · obtain ⟨s,h,_⟩:=ze.1 hv; exact ⟨s,h⟩
 · obtain ⟨s,h,_⟩:=zy.1 hv; exact ⟨s,h⟩
theorem zDp {kt:TypeId} {s0:ByteArray}:∀ {l:List MapEntry} (i:Nat),(∀ x∈l,∃ s,x.key=.string s)→Value.string s0∈l.map (fun (e:MapEntry)=>e.key)→∃ (j:Nat) (e:MapEntry),wK P .str kt .string (.string s0) l i (some (j,e.val))
 | [],_,_,h=>by cases h
 | x::l,i,hs,h=>by
  obtain ⟨s,hx⟩:=hs x List.mem_cons_self
  by_cases e:s0=s
  · subst e
    refine ⟨i,x,.hit ?_⟩
    rw [hx]
    show some (s0 == s0)=some true
    rw [(bytes_beq s0 s0).2 rfl]
  · rw [List.map_cons,List.mem_cons] at h
    rcases h with h | h
    · rw [hx] at h; injection h with h; exact absurd h e
    · obtain ⟨j,y,hf⟩:=zDp (l:=l) (i+1) (fun z hz=>hs z (List.mem_cons_of_mem _ hz)) h
      refine ⟨j,y,.miss ?_ hf⟩
      rw [hx]
      show some (s0 == s)=some false
      cases hb:(s0 == s) with
      | false=>rfl
      | true=>exact absurd ((bytes_beq _ _).1 hb) e
theorem zKY {ck:Nat→Nat}:∀ {cs:List CE} {l:List MapEntry},zAe cs=true→yM ψ ck cs l→(∀ x∈l,∃ s,x.key=.string s)∧zS ψ (cs.map CE.key) (l.map fun e=>e.key)
 | [],l,_,h=>by
  have h:l=[]:=h
  subst h
  exact ⟨by simp,zM.2 rfl⟩
 | c::cs,l,hk,h=>by
  obtain ⟨x,r,rfl,hx,hr⟩:=h
  unfold zAe at hk
  rw [Bool.and_eq_true] at hk
  obtain ⟨h1,h2⟩:=zKY hk.2 hr
  refine ⟨fun y hy=>?_,zW.2 ⟨hx.1,h2⟩⟩
  rcases List.mem_cons.1 hy with rfl | hy
  · exact zFn hk.1 hx.1
  · exact h1 y hy
theorem zSR {kt:TypeId} {d:TypeDesc} {ck:Nat→Nat} {k:CV} {u:Value} {cs:List CE} {A:List MapEntry} (hk:xU P kt=some .str) (hd:P.underlying kt=some d) (hu:zH ψ k u) (hm:xJ ψ ck cs A)
 (h1:zIn k=true) (h2:zAe cs=true) (h3:Sym.inn k (cs.map CE.key)=true):∃ (j:Nat) (e:MapEntry),wK P .str kt d u A 0 (some (j,e.val)):=by
 obtain ⟨l,hp,hc⟩:=hm
 obtain ⟨g1,g2⟩:=zKY h2 hc
 have hin:=SymFact.inn (P:=P) k _ h3 ψ u _ hu g2
 obtain ⟨s0,rfl⟩:=zFn h1 hu
 unfold xU und at hk
 rw [hd] at hk
 split at hk <;> first | cases hk | (split at hk <;> first | cases hk | (split at hk <;> cases hk)) | skip
 rename_i e
 injection e with e; subst e
 first
  | exact zDp 0 (fun x hx=>g1 x (hp.mem_iff.1 hx)) ((hp.map fun e=>e.key).mem_iff.2 hin)
  | exact zDp 0 (fun x hx=>g1 x (hp.mem_iff.2 hx)) ((hp.map fun e=>e.key).mem_iff.1 hin)
section
variable {kk:j7} {kt:TypeId} {d:TypeDesc} (hk:xU P kt=some kk) (hd:P.underlying kt=some d) {k:CV} {u:Value} (hu:zH ψ k u)
include hk hd hu
theorem zGd:∀ {cs:List CE} {l:List MapEntry},yM ψ ck cs l→vm kk k cs=some none→∀ x∈l,kh P kk kt d u x.key false
 | [],l,hc,_=>by rw [yM] at hc; subst hc; simp
 | c::cs,l,hc,hf=>by
  obtain ⟨e,r,rfl,⟨h1,h2,h3⟩,h4⟩:=hc
  unfold vm at hf
  cases hq:qL kk k c.key with
  | none=>rw [hq] at hf; cases hf
  | some b=>
   rw [hq] at hf
   cases b with
   | true=>
    simp only at hf
    cases hn:vm kk k cs with
    | none=>rw [hn] at hf; cases hf
    | some o=>rw [hn] at hf; cases o <;> cases hf
   | false=>
    simp only at hf
    obtain ⟨g1,_⟩:=wS hk hd hu h1 hq
    intro x hx
    rcases List.mem_cons.1 hx with rfl | hx
    · exact g1
    · exact zGd h4 hf x hx
theorem zHE:∀ {cs:List CE} {l:List MapEntry} {v:CV},yM ψ ck cs l→vm kk k cs=some (some v) →
 ∃ l1 e l2 c1 c c2,l=l1++e::l2∧cs=c1++c::c2∧yM ψ ck c1 l1∧zBj ψ ck c e∧yM ψ ck c2 l2∧c.val=v∧qL kk k c.key=some true∧kh P kk kt d u e.key true∧e.key=u ∧
  (∀ x∈l1,kh P kk kt d u x.key false)∧(∀ x∈l2,kh P kk kt d u x.key false)∧∀ x∈c1,qL kk k x.key=some false
 | [],l,v,hc,hf=>by cases hf
 | c::cs,l,v,hc,hf=>by
  obtain ⟨e,r,rfl,⟨h1,h2,h3⟩,h4⟩:=hc
  unfold vm at hf
  cases hq:qL kk k c.key with
  | none=>rw [hq] at hf; cases hf
  | some b=>
   rw [hq] at hf
   cases b with
   | true=>
    simp only at hf
    cases hno:vm kk k cs with
    | none=>rw [hno] at hf; cases hf
    | some o=>
     rw [hno] at hf
     cases o with
     | some _=>cases hf
     | none=>
      injection hf with hf; injection hf with hf; subst hf
      obtain ⟨g1,g2⟩:=wS hk hd hu h1 hq
      exact ⟨[],e,r,[],c,cs,rfl,rfl,rfl,⟨h1,h2,h3⟩,h4,rfl,hq,g1,(g2 rfl).symm,by simp,zGd hk hd hu h4 hno,by simp⟩
   | false=>
    simp only at hf
    obtain ⟨g1,_⟩:=wS hk hd hu h1 hq
    obtain ⟨l1,e',l2,c1,c',c2,q1,q2,q3,q4,q5,q6,q7,q8,q9,q10,q11,q12⟩:=zHE h4 hf
    refine ⟨e::l1,e',l2,c::c1,c',c2,by rw [q1]; rfl,by rw [q2]; rfl,⟨e,l1,rfl,⟨h1,h2,h3⟩,q3⟩,q4,q5,q6,q7,q8,q9,fun x hx=>?_,q11,fun x hx=>?_⟩
    · rcases List.mem_cons.1 hx with rfl | hx
      · exact g1
      · exact q10 x hx
    · rcases List.mem_cons.1 hx with rfl | hx
      · exact hq
      · exact q12 x hx
omit hk hd hu in
theorem zDx:∀ {l:List MapEntry} (i:Nat),(∀ x∈l,kh P kk kt d u x.key false)→wK P kk kt d u l i none
 | [],i,_=>.nil i
 | e::l,i,h=>.miss (h e (by simp)) (zDx (i+1) fun x hx=>h x (by simp [hx]))
omit hk hd hu in
theorem zC8 {e:MapEntry} {l2:List MapEntry}:∀ {l1:List MapEntry} (i:Nat),(∀ x∈l1,kh P kk kt d u x.key false)→kh P kk kt d u e.key true→wK P kk kt d u (l1++e::l2) i (some (i+l1.length,e.val))
 | [],i,_,h=>.hit h
 | x::l1,i,h1,h=>.miss (h1 x (by simp)) (by
  rw [show i+(x::l1).length=i+1+l1.length from by simp; omega]
  exact zC8 (i+1) (fun y hy=>h1 y (by simp [hy])) h)
omit hk hd hu in
theorem zBP {α:Type} {e:α} {f:α→α} {l2:List α}:∀ {l1:List α},(l1++e::l2).modify l1.length f=l1++f e::l2
 | []=>rfl
 | x::l1=>by
  show (x::(l1++e::l2)).modify (l1.length+1) f=_
  rw [List.modify_succ_cons,zBP]; rfl
omit hk hd hu in
theorem zHC {α:Type} {e:α} {l2:List α}:∀ {l1:List α},(l1++e::l2).eraseIdx l1.length=l1++l2
 | []=>rfl
 | x::l1=>by
  show (x::(l1++e::l2)).eraseIdx (l1.length+1)=_
  rw [List.eraseIdx_cons_succ,zHC]; rfl
omit hk hd hu in
theorem zKT {v:CV} {c:CE} {c2:List CE} (hc:qL kk k c.key=some true):∀ {c1:List CE},(∀ x∈c1,qL kk k x.key=some false)→zKB kk k v (c1++c::c2)=some (c1++⟨k,v,c.born⟩::c2)
 | [],_=>by show zKB kk k v (c::c2)=_; unfold zKB; rw [hc]; rfl
 | x::c1,h=>by
  show zKB kk k v (x::(c1++c::c2))=_
  unfold zKB
  rw [h x (by simp),zKT hc fun y hy=>h y (by simp [hy])]; rfl
omit hk hd hu in
theorem zJQ {c:CE} {c2:List CE} (hc:qL kk k c.key=some true):∀ {c1:List CE},(∀ x∈c1,qL kk k x.key=some false)→zKA kk k (c1++c::c2)=some (c1++c2)
 | [],_=>by show zKA kk k (c::c2)=_; unfold zKA; rw [hc]; rfl
 | x::c1,h=>by
  show zKA kk k (x::(c1++c::c2))=_
  unfold zKA
  rw [h x (by simp),zJQ hc fun y hy=>h y (by simp [hy])]; rfl
omit hk hd hu in
theorem zDl {cs ds:List CE} {l m:List MapEntry} (h1:yM ψ ck cs l) (h2:yM ψ ck ds m):yM ψ ck (cs++ds) (l++m):=by
 induction cs generalizing l with
 | nil=>rw [yM] at h1; subst h1; exact h2
 | cons c cs ih=>
  obtain ⟨e,r,rfl,q,h⟩:=h1
  exact ⟨e,r++m,rfl,q,ih h⟩
theorem map_none {cs:List CE} {A:List MapEntry} (hm:xJ ψ ck cs A) (hf:vm kk k cs=some none):wK P kk kt d u A 0 none:=by
 obtain ⟨l,hp,hc⟩:=hm
 exact zDx 0 fun x hx=>zGd hk hd hu hc hf x (hp.mem_iff.2 hx)
theorem zGt {cs:List CE} {A:List MapEntry} {v:CV} (hm:xJ ψ ck cs A) (hf:vm kk k cs=some (some v)) :
 ∃ j e,wK P kk kt d u A 0 (some (j,e.val))∧A[j]? = some e∧e.key=u∧zH ψ v e.val ∧
  (∀ {v':CV} {x:Value} {cs':List CE},zH ψ v' x→zKB kk k v' cs=some cs'→xJ ψ ck cs' (A.modify j fun e=>{ e with key:=u,val:=x })) ∧
  ∀ {cs':List CE},zKA kk k cs=some cs'→xJ ψ ck cs' (A.eraseIdx j):=by
 obtain ⟨l,hp,hc⟩:=hm
 obtain ⟨l1,e,l2,c1,c,c2,rfl,rfl,q3,q4,q5,q6,q7,q8,q9,q10,q11,q12⟩:=zHE hk hd hu hc hf
 obtain ⟨a1,a2,rfl⟩:=List.append_of_mem (hp.mem_iff.1 (show e∈l1++e::l2 by simp))
 have hp':(l1++l2).Perm (a1++a2):=List.Perm.cons_inv ((List.perm_middle.symm.trans hp).trans List.perm_middle)
 have hno:∀ x∈a1,kh P kk kt d u x.key false:=fun x hx=>by
  have:x∈l1++l2:=hp'.mem_iff.2 (by simp [hx])
  rcases List.mem_append.1 this with h | h
  · exact q10 x h
  · exact q11 x h
 refine ⟨a1.length,e,by have:=zC8 (P:=P) (kk:=kk) (kt:=kt) (d:=d) (u:=u) (l2:=a2) 0 hno q8; rwa [Nat.zero_add] at this,by simp,q9,by rw [← q6]; exact q4.2.1,fun {v' x cs'} hv hup=>?_,fun {cs'} hdl=>?_⟩
 · rw [zKT q7 q12] at hup
   injection hup with hup; subst hup
   rw [zBP]
   refine ⟨l1 ++ { e with key:=u,val:=x }::l2,?_,zDl q3 ⟨_,l2,rfl,⟨hu,hv,q4.2.2⟩,q5⟩⟩
   exact (List.perm_middle.trans (List.Perm.cons _ hp')).trans List.perm_middle.symm
 · rw [zJQ q7 q12] at hdl
   injection hdl with hdl; subst hdl
   rw [zHC]
   exact ⟨l1++l2,hp',zDl q3 q5⟩
end
section
variable {kk:j7} {kt:TypeId} {d:TypeDesc} (hk:xU P kt=some kk) (hd:P.underlying kt=some d) {k:CV} {u:Value} (hu:zH ψ k u)
include hk hd hu
theorem zEo:∀ {qs:List (CV × CV)} {l:List MapEntry},vL ψ qs l→noZ kk k qs=true→∀ x∈l,kh P kk kt d u x.key false
 | [],l,hz,_,x,hx=>by
  have hz:l=[]:=hz
  rw [hz] at hx; cases hx
 | q::qs,l,hz,hn,x,hx=>by
  unfold noZ at hn
  split at hn
  · rename_i hq
    rcases hz with ⟨_,hz⟩ | ⟨e,m,rfl,h1,h2,hz⟩
    · exact zEo hz hn x hx
    · rcases List.mem_cons.1 hx with rfl | hx
      · exact (wS hk hd hu h1 hq).1
      · exact zEo hz hn x hx
  · cases hn
theorem zBu:∀ {qs:List (CV × CV)} {l:List MapEntry} {v:CV},vL ψ qs l→zHw kk k qs=some v →
 ∃ l1 mid l2,l=l1++(mid++l2)∧(∀ x∈l1,kh P kk kt d u x.key false)∧(∀ x∈l2,kh P kk kt d u x.key false)∧((mid=[]∧zH ψ v (.string .empty))∨∃ e,mid=[e]∧kh P kk kt d u e.key true∧e.key=u∧zH ψ v e.val) ∧
  ∀ {v':CV} {e':MapEntry},zH ψ v' e'.val→e'.key=u→vL ψ (zEj kk k v' qs) (l1++e'::l2)
 | [],l,v,_,hf=>by cases hf
 | q::qs,l,v,hz,hf=>by
  unfold zHw at hf
  split at hf
  · rename_i hq
    have hup:∀ v',zEj kk k v' (q::qs)=(k,v')::qs:=fun v'=>by show (match qL kk k q.1 with | some true=>(k,v')::qs | _=>q::zEj kk k v' qs)=_; rw [hq]
    split at hf
    · rename_i hn
      injection hf with hf; subst hf
      rcases hz with ⟨h,hz⟩ | ⟨e,m,rfl,h1,h2,hz⟩
      · exact ⟨[],[],l,rfl,by simp,zEo hk hd hu hz hn,.inl ⟨rfl,h⟩,fun hv he=>by rw [hup]; exact .inr ⟨_,l,rfl,by rw [he]; exact hu,hv,hz⟩⟩
      · obtain ⟨g1,g2⟩:=wS hk hd hu h1 hq
        exact ⟨[],[e],m,rfl,by simp,zEo hk hd hu hz hn,.inr ⟨e,rfl,g1,(g2 rfl).symm,h2⟩,fun hv he=>by rw [hup]; exact .inr ⟨_,m,rfl,by rw [he]; exact hu,hv,hz⟩⟩
    · cases hf
  · rename_i hq
    have hup:∀ v',zEj kk k v' (q::qs)=q::zEj kk k v' qs:=fun v'=>by show (match qL kk k q.1 with | some true=>(k,v')::qs | _=>q::zEj kk k v' qs)=_; rw [hq]
    rcases hz with ⟨h,hz⟩ | ⟨e,m,rfl,h1,h2,hz⟩
    · obtain ⟨l1,mid,l2,r1,r2,r3,r4,r5⟩:=zBu hz hf
      exact ⟨l1,mid,l2,r1,r2,r3,r4,fun hv he=>by rw [hup]; exact .inl ⟨h,r5 hv he⟩⟩
    · obtain ⟨l1,mid,l2,rfl,r2,r3,r4,r5⟩:=zBu hz hf
      refine ⟨e::l1,mid,l2,rfl,fun x hx=>?_,r3,r4,fun hv he=>by rw [hup]; exact .inr ⟨e,_,rfl,h1,h2,r5 hv he⟩⟩
      rcases List.mem_cons.1 hx with rfl | hx
      · exact (wS hk hd hu h1 hq).1
      · exact r2 x hx
  · cases hf
theorem zHy {qs:List (CV × CV)} {A:List MapEntry} {v:CV} (hm:zLG ψ qs A) (hf:zHw kk k qs=some v) :
 (wK P kk kt d u A 0 none∧zH ψ v (.string .empty)∧∀ {v':CV} {e':MapEntry},zH ψ v' e'.val→e'.key=u→zLG ψ (zEj kk k v' qs) (A++[e'])) ∨
 ∃ j e,wK P kk kt d u A 0 (some (j,e.val))∧A[j]? = some e∧e.key=u∧zH ψ v e.val∧∀ {v':CV} {x:Value},zH ψ v' x→zLG ψ (zEj kk k v' qs) (A.modify j fun e=>{ e with key:=u,val:=x }):=by
 obtain ⟨l,hp,hz⟩:=hm
 obtain ⟨l1,mid,l2,rfl,r2,r3,r4,r5⟩:=zBu hk hd hu hz hf
 rcases r4 with ⟨rfl,h⟩ | ⟨e,rfl,g1,g2,g3⟩
 · refine .inl ⟨zDx 0 fun x hx=>?_,h,fun {v' e'} hv he=>⟨l1++e'::l2,?_,r5 hv he⟩⟩
   · rcases List.mem_append.1 (hp.mem_iff.2 hx) with h | h
     · exact r2 x h
     · exact r3 x h
   · exact List.perm_middle.trans ((List.Perm.cons e' hp).trans (List.perm_append_singleton e' A).symm)
 · obtain ⟨a1,a2,rfl⟩:=List.append_of_mem (hp.mem_iff.1 (show e∈l1++([e]++l2) by simp))
   have hp':(l1++l2).Perm (a1++a2):=List.Perm.cons_inv ((List.perm_middle.symm.trans hp).trans List.perm_middle)
   have hno:∀ x∈a1,kh P kk kt d u x.key false:=fun x hx=>by
    have:x∈l1++l2:=hp'.mem_iff.2 (by simp [hx])
    rcases List.mem_append.1 this with h | h
    · exact r2 x h
    · exact r3 x h
   refine .inr ⟨a1.length,e,by have:=zC8 (P:=P) (kk:=kk) (kt:=kt) (d:=d) (u:=u) (l2:=a2) 0 hno g1; rwa [Nat.zero_add] at this,by simp,g2,g3,fun {v' x} hv=>?_⟩
   rw [zBP]
   exact ⟨l1 ++ { e with key:=u,val:=x }::l2,(List.perm_middle.trans (List.Perm.cons _ hp')).trans List.perm_middle.symm,r5 hv rfl⟩
end
theorem xJ.push {cs:List CE} {c:CE} {l:List MapEntry} {e:MapEntry} (h:xJ ψ ck cs l) (hc:zBj ψ ck c e):xJ ψ ck (cs++[c]) (l++[e]):=
 let ⟨l',hp,hr⟩:=h
 ⟨l'++[e],hp.append_right _,zDl hr ⟨e,[],rfl,hc,rfl⟩⟩
theorem zPS {cs:List CE} {l:List MapEntry} (h1:yM ψ ck cs l):l.length=cs.length:=by
 induction cs generalizing l with
 | nil=>rw [yM] at h1; subst h1; rfl
 | cons c cs ih=>
  obtain ⟨e,r,rfl,q,h⟩:=h1
  simp [ih h]
theorem xJ.length {cs:List CE} {l:List MapEntry} (h:xJ ψ ck cs l):l.length=cs.length:=by
 obtain ⟨l',hp,hc⟩:=h
 rw [← hp.length_eq]; exact zPS hc
theorem xJ.nil_eq {l:List MapEntry} (h:xJ ψ ck [] l):l=[]:=by
 have:=h.length
 exact List.length_eq_zero_iff.1 this
end
end Go.Ev
namespace Go.Ev
variable [Sym]
open Go.MapKept
noncomputable section
variable {ck:Nat→Nat} {P:Program} {ψ:Psi} {es:List CV} {tm:Tm} {h:zC} {n:Key} {ρ:Operand→Value} {E:Env} {ty:TypeId} {w:World}
variable [SymFact P]
theorem zAg {kt:TypeId} {kk:j7} (hk:xU P kt=some kk):∃ d,P.underlying kt=some d:=by
 unfold xU und at hk
 cases hd:P.underlying kt with
 | none=>rw [hd] at hk; cases hk
 | some d=>exact ⟨d,rfl⟩
theorem zLK (t:TypeId) (x i:Operand) (ok:Bool) (ha:yG P ψ es tm E ρ [x,i]):zD P ψ h n ρ (.lookup t x i ok) ty w (yU P (zh P E (.lookup t x i ok)) es tm h n):=by
 rw [zh]
 unfold und
 split
 · rename_i kt et ht
   split
   · rename_i kk z hkk hz
     refine y7 (C:=zD P ψ h n ρ (.lookup t x i ok) ty w) zA fun cx ck hcx hck=>?_
     have hx:=ha x (by simp) cx hcx
     have hi:=ha i (by simp) ck hck
     obtain ⟨d,hd⟩:=zAg hkk
     obtain ⟨zv,hzr,hzv⟩:=zBA hz
     have main:∀ (cf:Nat→Nat) (cs:List CE) (arr:Array MapEntry) (r:Option Nat),ρ x=.map r→(qk ψ (zC.fam h) w→(match r with
      | none=>arr=#[]
      | some r=>∃ clock,w.heap[r]? = some (.map arr clock))∧xJ ψ cf cs arr.toList) →
      zD P ψ h n ρ (.lookup t x i ok) ty w (zCz kk z ok (aV es tm ck) cs):=by
      intro cf cs arr r hr hmem
      refine zG (C:=zD P ψ h n ρ (.lookup t x i ok) ty w) _ _ _ (zA _) fun hok=>?_
      have run:∀ {a:Option (Nat × Value)} {v:Value},qk ψ (zC.fam h) w→wK P kk kt d (ρ i) arr.toList 0 a→(match a with
       | some (_,y)=>v=(if ok then .tuple #[y,.bool true] else y)
       | none=>v=(if ok then .tuple #[zv,.bool false] else zv))→(execOp ρ (xw (.lookup t x i ok) ty)).run P w=.ok (.value v) w:=by
       intro a v hrel hf hv
       have hm:=(hmem hrel).1
       have hck:∀ e,(Instr.checkKey e 10000 kt (ρ i)).run P w=.ok () w:=fun e=>vh hkk hd hi hok e w
       have hfk:=qr hd hf w
       cases r with
       | none=>
        simp only at hm
        subst hm
        cases a with
        | none=>subst hv; simp [execOp,Instr.lookup,hr,run_underlying ht,hck,hfk,hzr]
        | some a=>subst hv; simp [execOp,Instr.lookup,hr,run_underlying ht,hck,hfk,hzr]
       | some r=>
        obtain ⟨clock,hb⟩:=hm
        cases a with
        | none=>subst hv; simp [execOp,Instr.lookup,hr,run_underlying ht,hck,hfk,hzr,run_getObj_map hb]
        | some a=>subst hv; simp [execOp,Instr.lookup,hr,run_underlying ht,hck,hfk,hzr,run_getObj_map hb]
      split
      · rename_i v hf
        intro hrel
        obtain ⟨j,e,h1,h2,h3,h4,_,_⟩:=zGt hkk hd hi (hmem hrel).2 hf
        exact ⟨_,zR (run hrel h1 rfl),zJf h4⟩
      · rename_i hf
        intro hrel
        have h1:=map_none hkk hd hi (hmem hrel).2 hf
        refine ⟨_,zR (run hrel h1 rfl),?_⟩
        cases ok with
        | true=>exact yW.2 ⟨_,rfl,zW.2 ⟨hzv ψ,zW.2 ⟨zJ.2 rfl,zM.2 rfl⟩⟩⟩
        | false=>exact hzv ψ
      · unfold zSj
        split
        · refine zG (C:=zD P ψ h n ρ (.lookup t x i true) ty w) _ _ _ (zA _) fun hq=>?_
          simp only [Bool.and_eq_true] at hq
          intro hrel
          obtain ⟨j,e,hf⟩:=zSR hkk hd hi (hmem hrel).2 hq.1.1 hq.1.2 hq.2
          exact ⟨_,zR (run hrel hf rfl),yW.2 ⟨_,rfl,zW.2 ⟨x7,zW.2 ⟨zJ.2 rfl,zM.2 rfl⟩⟩⟩⟩
        · exact zA _
     refine xC (C:=zD P ψ h n ρ (.lookup t x i ok) ty w) _ _ _ _ (zA _) (fun hv=>?_) fun b hv=>?_
     · rw [hv,yS] at hx
       exact main (fun n=>n) [] #[] none hx fun _=>⟨rfl,xJ.nil⟩
     · refine vO (C:=zD P ψ h n ρ (.lookup t x i ok) ty w) _ _ _ ?_ fun l hl=>?_
       rotate_left
       · refine zG (C:=zD P ψ h n ρ (.lookup t x i ok) ty w) _ _ _ (zA _) fun hok=>?_
         simp only [Bool.and_eq_true,Bool.not_eq_true'] at hok
         obtain ⟨⟨hok1,hz1⟩,hok⟩:=hok
         subst hok1
         split
         · rename_i v hf
           intro hrel
           rw [hv,yq] at hx
           obtain ⟨p,hp,hx⟩:=hx
           obtain ⟨arr,clock,h1,h2⟩:=hrel b _ p hl hp
           have hck:∀ e,(Instr.checkKey e 10000 kt (ρ i)).run P w=.ok () w:=fun e=>vh hkk hd hi hok e w
           have hz2:z=.str []:=by
            unfold zK2 at hz1
            split at hz1
            · rfl
            · cases hz1
           have hz3:zv=.string .empty:=by
            have:=hzv ψ
            rw [hz2,ze] at this
            obtain ⟨b,rfl,hb⟩:=this
            congr 1
            have:b.data.toList=[]:=by
             unfold zo at hb
             exact List.map_eq_nil_iff.1 hb
            apply ByteArray.ext
            exact Array.toList_eq_nil_iff.1 this
           rcases zHy hkk hd hi h2 hf with ⟨f1,f2,_⟩ | ⟨j,e,f1,f2,f3,f4,_⟩
           · refine ⟨.string .empty,zR ?_,zK5 P w f2⟩
             simp [execOp,Instr.lookup,hx,run_underlying ht,hck,qr hd f1 w,hzr,run_getObj_map h1,hz3]
           · refine ⟨e.val,zR ?_,zK5 P w f4⟩
             simp [execOp,Instr.lookup,hx,run_underlying ht,hck,qr hd f1 w,hzr,run_getObj_map h1]
         · exact zA _
       refine yZ (C:=zD P ψ h n ρ (.lookup t x i ok) ty w) _ _ _ (zA _) fun l clock hl=>?_
       rw [hv,yq] at hx
       obtain ⟨p,hp,hx⟩:=hx
       by_cases hrel:qk ψ (zC.fam h) w
       · obtain ⟨arr,h1,h2,_⟩:=hrel b _ p hl hp
         exact main p.ck l arr (some p.blk) hx fun _=>⟨⟨_,h1⟩,h2⟩
       · exact main p.ck l #[] (some p.blk) hx fun h=>absurd h hrel
   · exact zA _
 · exact zA _
theorem jU {B:Nat} {es:Array MapEntry} {clock:Nat} (o:Obj) (hb:w.heap[B]? = some (.map es clock)):(setObj B o).run P w=.ok () (w.upB B o):=run_setObj_map o hb
theorem zEL (o:Op) (t:TypeId) (m k x:Operand) (hop:∀ w,(execOp ρ (xw o ty)).run P w=((Instr.mapUpdate t (ρ m) (ρ k) (ρ x)).run P w).andThen fun _ w'=>.ok .skip w') (ha:yG P ψ es tm E ρ [m,k,x]) :
 zD P ψ h n ρ o ty w (yU P (match und P t with
 | some (.map kt _)=>match xU P kt,zi P E m,zi P E k,zi P E x with
  | some kk,some m,some k,some x=>.mapupd kk m k x
  | _,_,_,_=>.bad 35
 | _=>.bad 35) es tm h n):=by
 unfold und
 split
 · rename_i kt et ht
   split
   · rename_i kk cm ck cx hkk hcm hck hcx
     have hm:=ha m (by simp) cm hcm
     have hk:=ha k (by simp) ck hck
     have hx:=ha x (by simp) cx hcx
     obtain ⟨d,hd⟩:=zAg hkk
     refine xC (C:=zD P ψ h n ρ o ty w) _ _ _ _ (zA _) (fun _=>zA _) fun b hv=>?_
     refine vO (C:=zD P ψ h n ρ o ty w) _ _ _ ?_ fun l hl=>?_
     rotate_left
     · refine zG (C:=zD P ψ h n ρ o ty w) _ _ _ (zA _) fun hok=>?_
       rw [hv,yq] at hm
       obtain ⟨p,hp,hm⟩:=hm
       have hck:∀ e,(Instr.checkKey e 10000 kt (ρ k)).run P w=.ok () w:=fun e=>vh hkk hd hk hok e w
       have hst:=zKf (P:=P) hk hok w
       split
       · rename_i v hf
         intro hrel _ _
         obtain ⟨arr,clock,h1,h2⟩:=hrel.on b _ p hl hp
         have hlt:=(hrel.on b _ p hl hp).lt
         rcases zHy hkk hd hk h2 hf with ⟨f1,f2,g⟩ | ⟨j,e,f1,f2,f3,f4,g⟩
         · have hpost:=qo (n:=n) hrel hl rfl hp (o':=.mapz (zEj kk (aV es tm ck) (aV es tm cx) l)) (ob:=.map (arr.push { key:=ρ k,val:=ρ x,born:=clock }) (clock+1))
            ⟨_,_,xZ _ hlt,by rw [Array.toList_push]; exact g hx rfl⟩
           refine ⟨_,undef,ψ,kj ?_,by rw [z6]; exact hpost,qF⟩
           rw [hop]
           simp [Instr.mapUpdate,hm,run_underlying ht,run_getObj_map h1,hck,qr hd f1 w,jU _ h1]
         · have hpost:=qo (n:=n) hrel hl rfl hp (o':=.mapz (zEj kk (aV es tm ck) (aV es tm cx) l)) (ob:=.map (arr.modify j fun e=>{ e with key:=ρ k,val:=ρ x }) clock)
            ⟨_,_,xZ _ hlt,by rw [Array.toList_modify]; exact g hx⟩
           refine ⟨_,undef,ψ,kj ?_,by rw [z6]; exact hpost,qF⟩
           rw [hop]
           have f2':arr[j]? = some e:=by simpa using f2
           simp [Instr.mapUpdate,hm,run_underlying ht,run_getObj_map h1,hck,qr hd f1 w,f2',f3,hst,jU _ h1]
       · exact zA _
     refine yZ (C:=zD P ψ h n ρ o ty w) _ _ _ (zA _) fun l clock hl=>?_
     refine zG (C:=zD P ψ h n ρ o ty w) _ _ _ (zA _) fun hok=>?_
     rw [hv,yq] at hm
     obtain ⟨p,hp,hm⟩:=hm
     have hck:∀ e,(Instr.checkKey e 10000 kt (ρ k)).run P w=.ok () w:=fun e=>vh hkk hd hk hok e w
     have hst:=zKf (P:=P) hk hok w
     split
     · rename_i v0 hf
       split
       · rename_i l' hl'
         intro hrel _ _
         obtain ⟨arr,h1,h2,hck0⟩:=hrel.on b _ p hl hp
         obtain ⟨j,e,f1,f2,f3,f4,g1,_⟩:=zGt hkk hd hk h2 hf
         have hup:=g1 hx hl'
         have hlt:=(hrel.on b _ p hl hp).lt
         have hpost:=qo (n:=n) hrel hl rfl hp (o':=.map l' clock) (ob:=.map (arr.modify j fun e=>{ e with key:=ρ k,val:=ρ x }) (p.ck clock))
          ⟨_,xZ _ hlt,by rw [Array.toList_modify]; exact hup,hck0⟩
         refine ⟨_,undef,ψ,kj ?_,by rw [z6]; exact hpost,qF⟩
         rw [hop]
         have f2':arr[j]? = some e:=by simpa using f2
         simp [Instr.mapUpdate,hm,run_underlying ht,run_getObj_map h1,hck,qr hd f1 w,f2',f3,hst,jU _ h1]
       · exact zA _
     · rename_i hf
       rw [zt]
       intro hrel _ _
       obtain ⟨arr,h1,h2,hck0⟩:=hrel.on b _ p hl hp
       have f1:=map_none hkk hd hk h2 hf
       have hlt:=(hrel.on b _ p hl hp).lt
       have hpost:=qo (n:=n) hrel hl rfl hp (o':=.map (l++[⟨aV es tm ck,aV es tm cx,clock⟩]) (clock+1)) (ob:=.map (arr.push { key:=ρ k,val:=ρ x,born:=p.ck clock }) (p.ck clock+1))
        ⟨_,by rw [xZ _ hlt,hck0.step],by rw [Array.toList_push]; exact h2.push ⟨hk,hx,rfl⟩,hck0.succ⟩
       refine ⟨_,undef,ψ,kj ?_,by rw [z6]; exact hpost,qF⟩
       rw [hop]
       simp [Instr.mapUpdate,hm,run_underlying ht,run_getObj_map h1,hck,qr hd f1 w,jU _ h1]
     · exact zA _
   · exact zA _
 · exact zA _
theorem zGH (t:TypeId) (m k x:Operand) (ha:yG P ψ es tm E ρ [m,k,x]):zD P ψ h n ρ (.mapUpdate t m k x) ty w (yU P (zh P E (.mapUpdate t m k x)) es tm h n):=by
 rw [zh]
 exact zEL _ t m k x (fun w=>by simp [execOp]) ha
theorem zLT (t:TypeId) (m k x:Operand) (ha:yG P ψ es tm E ρ [m,k,x]):zD P ψ h n ρ (.insert t m k x) ty w (yU P (zh P E (.insert t m k x)) es tm h n):=by
 rw [zh]
 exact zEL _ t m k x (fun w=>by simp [execOp]) ha
theorem zPR (t:TypeId) (x:Operand) (ha:yG P ψ es tm E ρ [x]):zD P ψ h n ρ (.range t x) ty w (yU P (zh P E (.range t x)) es tm h n):=by
 rw [zh]
 unfold und
 split
 · rename_i ht
   refine zr (C:=zD P ψ h n ρ (.range t x) ty w) zA fun c hc=>?_
   have hx:=ha x (by simp) c hc
   refine xv (C:=zD P ψ h n ρ (.range t x) ty w) _ _ _ ?_ fun s hs=>?_
   case refine_2=>
    rw [hs,zy] at hx
    obtain ⟨b,hx,hr⟩:=hx
    refine ⟨_,.pointer (some ⟨w.heap.size,0,none⟩),0,zR ?_,jI _ (.stringIter b 0),fun ψ' hle hn=>⟨zu.2 ⟨_,hn,rfl⟩,b,by simp,hr.mono hle,rfl⟩,by simp [zFD]⟩
    simp [execOp,Instr.range,hx,run_underlying ht]
   refine yO (C:=zD P ψ h n ρ (.range t x) ty w) _ _ _ (zA _) fun s hs=>?_
   rw [hs,ze] at hx
   obtain ⟨b,hx,rfl⟩:=hx
   refine ⟨_,.pointer (some ⟨w.heap.size,0,none⟩),0,zR ?_,jI _ (.stringIter b 0),fun ψ' _ hn=>⟨zu.2 ⟨_,hn,rfl⟩,b,by simp,?_,rfl⟩,by simp [zFD]⟩
   case refine_2=>have:=zA2 (ψ:=ψ') b; rw [Array.toList_map] at this; exact this
   simp [execOp,Instr.range,hx,run_underlying ht]
 · rename_i kt et ht
   refine zr (C:=zD P ψ h n ρ (.range t x) ty w) zA fun c hc=>?_
   have hx:=ha x (by simp) c hc
   refine xC (C:=zD P ψ h n ρ (.range t x) ty w) _ _ _ _ (zA _) (fun hv=>?_) fun b hv=>?_
   · rw [hv,yS] at hx
     refine ⟨_,.pointer (some ⟨w.heap.size,0,none⟩),0,zR ?_,jI _ (.mapIter none 0 #[] 0),fun ψ' _ hn=>⟨zu.2 ⟨_,hn,rfl⟩,none,fun n=>n,by simp,rfl,rfl⟩,by simp [zFD]⟩
     simp [execOp,Instr.range,hx,run_underlying ht]
   · refine yZ (C:=zD P ψ h n ρ (.range t x) ty w) _ _ _ (zA _) fun l clock hl=>?_
     intro hrel hnew hroom
     rw [hv,yq] at hx
     obtain ⟨p,hp,hx⟩:=hx
     obtain ⟨arr,h1,h2,hck0⟩:=hrel.on b _ p hl hp
     have hr:=Key.room_of_succ hroom
     have hix:=Key.ix_succ hr
     have hnone:ψ n=none:=hnew n (Nat.le_refl _) (by omega)
     have hw:=jI w (.mapIter (some p.blk) (p.ck clock) #[] (p.ck clock))
     have hne:b≠n:=fun e=>by subst e; rw [hnone] at hp; cases hp
     have hpost:=wc (n:=n) (sz:=0) (ck:=fun n=>n) (o:=.mapiter (some b) clock [] clock) hrel hr hnone hw ⟨some p.blk,p.ck,by simp,rfl,p,by rw [Psi.upd_other _ _ hne]; exact hp,rfl,rfl,hck0.here,hck0.here⟩
     refine ⟨_,.pointer (some ⟨w.heap.size,0,none⟩),_,zR ?_,by rw [z6]; exact hpost,zu.2 ⟨_,Psi.upd_same _ _ _,rfl⟩⟩
     simp [execOp,Instr.range,hx,run_underlying ht,run_getObj_map h1]
 · exact zA _
end
end Go.Ev
namespace Go.Ev
variable [Sym]
open Go.MapKept
noncomputable section
variable {ck:Nat→Nat} {P:Program} {ψ:Psi} {es:List CV} {tm:Tm} {h:zC} {n:Key} {ρ:Operand→Value} {E:Env} {ty:TypeId} {w:World}
variable [SymFact P]
theorem Rel.congr {g:Fam} {w':World} (hr:Rel ψ g w) (e:w'.heap=w.heap):Rel ψ g w':=
 ⟨fun k o p a b=>xM.congr (by rw [e]) (hr.on k o p a b),hr.tot,hr.inj⟩
theorem qk.congr {g:Fam} {w':World} (hr:qk ψ g w) (e:w'.heap=w.heap):qk ψ g w':=fun k o p a b=>xM.congr (by rw [e]) (hr k o p a b)
theorem zGS {g:Fam} {w':World} (hr:Rel ψ g w) (e:w'.heap=w.heap) (e1:w'.tape=w.tape) (e2:w'.os=w.os) (e3:w'.output=w.output):yH ψ g n w ψ g n w':=
 ⟨Psi.le_refl _,fun _ _=>rfl,hr.congr e,fun _ _ _=>by rw [e],fun k o p h1 h2 h3=>.inl ⟨k,o,p,h1,h2,h3,rfl⟩,by rw [e]; exact Nat.le_refl _,e1,e2,e3,Nat.le_refl _,fun k o p h1 h3=>.inl ⟨k,o,p,h1,h3,rfl⟩⟩
theorem zFi {B:Nat} {o o':Obj} (hb:w.heap[B]? = some o) (hn:∀ c e f,o≠.cells c e f):(setObj B o').run P w=.ok () (w.upB B o'):=by
 cases o <;> first | exact absurd rfl (hn _ _ _) | simp [setObj,Sem.run,hb,World.upB]
theorem kH {B:Nat} {o:Obj} (hb:w.heap[B]? = some o) (hn:∀ c e f,o≠.cells c e f):(getObj B).run P w=.ok o w:=by
 cases o <;> first | exact absurd rfl (hn _ _ _) | simp [getObj,Sem.run,hb]
theorem zPO (x:Nat) (l:List Nat):zMn x l=l.contains x:=by
 induction l with
 | nil=>rfl
 | cons y l ih=>
  show Bool.rec (motive:=fun _=>Bool) (zMn x l) true (Nat.beq x y)=_
  rw [ih,List.contains_cons]
  by_cases e:x=y
  · subst e; simp
  · rw [wb e]; simp [e]
theorem zTg (hck:∀ a b,ck a=ck b ↔ a=b) (x:Nat) (seen:List Nat):(seen.map ck).contains (ck x)=seen.contains x:=by
 induction seen with
 | nil=>rfl
 | cons y l ih=>
  rw [List.map_cons,List.contains_cons,List.contains_cons,ih]
  have:(ck x == ck y)=(x == y):=by
   rw [Bool.eq_iff_iff,beq_iff_eq,beq_iff_eq]
   exact hck x y
  rw [this]
theorem zDC (hck:∀ a b,ck a=ck b ↔ a=b) {seen:List Nat}:∀ {cs:List CE} {l:List MapEntry},yM ψ ck cs l→yM ψ ck (zIl seen cs) (l.filter fun e=>!(seen.map ck).contains e.born)
 | [],l,hc=>by rw [yM] at hc; subst hc; rfl
 | c::cs,l,hc=>by
  obtain ⟨e,r,rfl,⟨h1,h2,h3⟩,h4⟩:=hc
  unfold zIl
  rw [zPO,List.filter_cons,h3,zTg hck]
  cases seen.contains c.born with
  | true=>rw [show (!true)=false from rfl,if_neg (by simp)]; exact zDC hck h4
  | false=>exact ⟨e,_,rfl,⟨h1,h2,h3⟩,zDC hck h4⟩
theorem zDF {last:Nat} (hck:zBW ck last):∀ {cs:List CE} {l:List MapEntry},yM ψ ck cs l→zCQ last cs=l.all fun e=>decide (e.born ≥ ck last)
 | [],l,hc=>by rw [yM] at hc; subst hc; rfl
 | c::cs,l,hc=>by
  obtain ⟨e,r,rfl,⟨h1,h2,h3⟩,h4⟩:=hc
  unfold zCQ
  rw [List.all_cons,zDF hck h4,h3]
  congr 1
  have hc:=hck c.born
  cases hb:Nat.ble last c.born with
  | true=>have:=zL hb; symm; rw [decide_eq_true_eq]; omega
  | false=>
   symm; rw [decide_eq_false_iff_not]; intro h
   rw [Nat.ble_eq_true_of_le (by omega)] at hb; cases hb
theorem zFR {since:Nat} (hck:zBW ck since):∀ {cs:List CE} {l:List MapEntry},yM ψ ck cs l→zGo since cs=true→∀ e∈l,e.born<ck since
 | [],l,hc,_=>by rw [yM] at hc; subst hc; simp
 | c::cs,l,hc,ho=>by
  obtain ⟨e,r,rfl,⟨h1,h2,h3⟩,h4⟩:=hc
  unfold zGo at ho
  rw [Bool.and_eq_true] at ho
  have:=zL ho.1
  intro x hx
  rcases List.mem_cons.1 hx with rfl | hx
  · have:=(hck _).1 this; omega
  · exact zFR hck h4 ho.2 x hx
theorem zUW {cs:List CE} {l:List MapEntry} (h:yM ψ ck cs l):∀ {i:Nat} {e:MapEntry},l[i]? = some e→∃ c,cs[i]? = some c∧zBj ψ ck c e:=by
 induction cs generalizing l with
 | nil=>intro i e he; rw [yM] at h; subst h; cases he
 | cons c cs ih=>
  obtain ⟨e0,r,rfl,q,h⟩:=h
  intro i e he
  cases i with
  | zero=>simp at he; subst he; exact ⟨c,rfl,q⟩
  | succ i=>exact ih h (by simpa using he)
theorem xJ.left (hck:∀ a b,ck a=ck b ↔ a=b) {seen:List Nat} {cs:List CE} {l:List MapEntry} (h:xJ ψ ck cs l):xJ ψ ck (zIl seen cs) (l.filter fun e=>!(seen.map ck).contains e.born):=
 let ⟨l',hp,hc⟩:=h
 ⟨_,hp.filter _,zDC hck hc⟩
theorem xJ.late {last:Nat} (hck:zBW ck last) {cs:List CE} {l:List MapEntry} (h:xJ ψ ck cs l):zCQ last cs=l.all fun e=>decide (e.born ≥ ck last):=by
 obtain ⟨l',hp,hc⟩:=h
 rw [zDF hck hc,Bool.eq_iff_iff,List.all_eq_true,List.all_eq_true]
 exact ⟨fun q x hx=>q x (hp.mem_iff.2 hx),fun q x hx=>q x (hp.mem_iff.1 hx)⟩
theorem xJ.old {since:Nat} (hck:zBW ck since) {cs:List CE} {l:List MapEntry} (h:xJ ψ ck cs l) (ho:zGo since cs=true):∀ e∈l,e.born<ck since:=by
 obtain ⟨l',hp,hc⟩:=h
 exact fun e he=>zFR hck hc ho e (hp.mem_iff.2 he)
theorem xJ.get {cs:List CE} {l:List MapEntry} (h:xJ ψ ck cs l) {e:MapEntry} (he:e∈l):∃ (i:Nat) (c:CE),cs[i]? = some c∧zBj ψ ck c e:=by
 obtain ⟨l',hp,hc⟩:=h
 obtain ⟨i,hi⟩:=List.getElem?_of_mem (hp.mem_iff.2 he)
 obtain ⟨c,h1,h2⟩:=zUW hc hi
 exact ⟨i,c,h1,h2⟩
theorem zD0 {o:Op} {f:CE→OR} (hf:∀ c,(Rel ψ (zC.fam h) w→zD P ψ h n ρ o ty w (f c))→zD P ψ h n ρ o ty w (f c)) :
 ∀ (l:List CE) (e:CE),(Rel ψ (zC.fam h) w→∃ (i:Nat) (c:CE),(e::l)[i]? = some c∧zD P ψ h n ρ o ty w (f c))→zD P ψ h n ρ o ty w (zEl f e l)
 | [],e,hx=>by
  refine hf e fun hrel=>?_
  obtain ⟨i,c,hi,hc⟩:=hx hrel
  cases i with
  | zero=>simp at hi; subst hi; exact hc
  | succ i=>simp at hi
 | e'::l,e,hx=>by
  intro hrel
  obtain ⟨i,c,hi,hc⟩:=hx hrel
  cases i with
  | zero=>simp at hi; subst hi; exact .inl hc
  | succ i=>exact .inr (zD0 hf l e' fun _=>⟨i,c,by simpa using hi,hc⟩)
theorem zRf (it:Operand) (s:Bool) (ha:yG P ψ es tm E ρ [it]):zD P ψ h n ρ (.next it s) ty w (yU P (zh P E (.next it s)) es tm h n):=by
 refine zr (C:=zD P ψ h n ρ (.next it s) ty w) zA fun c hc=>?_
 have hx:=ha it (by simp) c hc
 refine xE (C:=zD P ψ h n ρ (.next it s) ty w) _ _ _ (zA _) fun b off hv=>?_
 refine zG (C:=zD P ψ h n ρ (.next it s) ty w) _ _ _ (zA _) fun hoff=>?_
 have hoff:=yD hoff
 subst hoff
 rw [hv,zu] at hx
 obtain ⟨p,hp,hx⟩:=hx
 unfold zSI
 split
 · -- a string
   rename_i q pos ho
   unfold zIH
   split
   · rename_i hq
     intro hrel _ _
     obtain ⟨bs,h1,h2,h3⟩:=hrel.on b _ p ho hp
     rw [h3] at hx
     rw [qV,List.getElem?_eq_none_iff,zEB h2] at hq
     refine ⟨w,.tuple #[.bool false],ψ,zR ?_,yH.refl hrel,yW.2 ⟨_,rfl,zW.2 ⟨zJ.2 rfl,zM.2 rfl⟩⟩⟩
     have hn:¬ pos<bs.size:=by omega
     simp [execOp,Instr.next,hx,kH h1 (by simp),hn]
   · rename_i c hq
     split
     · rename_i r hrc
       rw [zt]
       intro hrel _ _
       obtain ⟨bs,h1,h2,h3⟩:=hrel.on b _ p ho hp
       rw [h3] at hx
       rw [qV] at hq
       obtain ⟨v,hv,hvr⟩:=h2.get hq
       rw [List.getElem?_map] at hv
       cases hg:bs.data.toList[pos]? with
       | none=>rw [hg] at hv; cases hv
       | some u=>
        rw [hg] at hv
        injection hv with hv
        subst hv
        obtain ⟨q',hq',hle,hrr⟩:=zPp P (w:=w) hrc hvr
        have hu':u.toNat=q':=by injection hq' with _ e; injection e
        have hj:pos<bs.size:=by
         rcases Nat.lt_or_ge pos bs.data.toList.length with h | h
         · exact h
         · rw [List.getElem?_eq_none h] at hg; cases hg
        have hu:bs[pos]=u:=by
         rw [List.getElem?_eq_getElem (show pos<bs.data.toList.length from hj)] at hg
         injection hg
        have hdec:=decode_ascii bs pos hj (by rw [hu,hu']; omega)
        rw [hu,hu'] at hdec
        have hlt:=(hrel.on b _ p ho hp).lt
        have hpost:=qo (n:=n) hrel ho rfl hp (o':=.striter q (pos+1)) (ob:=.stringIter bs (pos+1)) ⟨bs,xZ _ hlt,h2,h3⟩
        refine ⟨_,.tuple #[.bool true,.int .i64 pos,.int .i32 q'],ψ,zR ?_,by rw [z6]; exact hpost,
         yW.2 ⟨_,rfl,zW.2 ⟨zJ.2 rfl,zW.2 ⟨zX.2 rfl,zW.2 ⟨hrr,zM.2 rfl⟩⟩⟩⟩⟩
        simp [execOp,Instr.next,hx,kH h1 (by simp),hj,hdec,zFi h1 (by simp),goInt]
     · exact zA _
 · -- a nil map
   rename_i q1 q2 q3 ho
   intro hrel _ _
   obtain ⟨m',cf,h1,h3,h2⟩:=hrel.on b _ p ho hp
   rw [h3] at hx
   simp only at h2
   subst h2
   refine ⟨w,.tuple #[.bool false],ψ,zR ?_,yH.refl hrel,yW.2 ⟨_,rfl,zW.2 ⟨zJ.2 rfl,zM.2 rfl⟩⟩⟩
   simp [execOp,Instr.next,hx,kH h1 (by simp)]
 · -- a map
   rename_i m since seen last ho
   refine yZ (C:=zD P ψ h n ρ (.next it false) ty w) _ _ _ (zA _) fun cs clock hm=>?_
   split
   · exact zA _
   · rename_i hlate
     have facts:Rel ψ (zC.fam h) w→∃ q arr,ψ m=some q∧p.off=0∧w.heap[p.blk]? = some (.mapIter (some q.blk) (q.ck since) (seen.map q.ck).toArray (q.ck last))∧w.heap[q.blk]? = some (.map arr (q.ck clock))∧xJ ψ q.ck cs arr.toList∧wL q.ck clock∧zBW q.ck since∧zBW q.ck last ∧
      (!(seen.map q.ck).toArray.isEmpty && !arr.isEmpty&&arr.all fun e=>decide (e.born ≥ q.ck last))=false:=by
      intro hrel
      obtain ⟨m',cf,h1,h3,q,h4,h5,h8,hs1,hs2⟩:=hrel.on b _ p ho hp
      subst h8
      obtain ⟨arr,h6,h7,hcq⟩:=hrel.on m _ q hm h4
      refine ⟨q,arr,h4,h3,by rw [h1,h5],h6,h7,hcq,hs1,hs2,?_⟩
      rw [← hlate,h7.late hs2]
      have e1:(seen.map q.ck).toArray.isEmpty=zQn seen:=by cases seen <;> rfl
      have e2:arr.isEmpty=zML cs:=by
       have:=h7.length
       rw [← Array.isEmpty_toList]
       cases hl:arr.toList <;> cases cs <;> simp_all [zML]
      have e3:(arr.all fun e=>decide (e.born ≥ q.ck last))=arr.toList.all fun e=>decide (e.born ≥ q.ck last):=by rw [Array.all_toList]
      rw [e1,e2,e3]
     split
     · rename_i hleft
       intro hrel _ _
       obtain ⟨q,arr,h4,h3,h1,h6,h7,hcq,hs1,hs2,hl⟩:=facts hrel
       rw [h3] at hx
       have hf:=h7.left (fun _ _=>hcq.inj) (seen:=seen)
       rw [hleft] at hf
       have hf:(arr.filter fun e=>!(seen.map q.ck).toArray.contains e.born)=#[]:=by
        apply Array.ext'
        rw [Array.toList_filter]
        have hf:=hf.nil_eq
        simpa using hf
       refine ⟨w,.tuple #[.bool false],ψ,zR ?_,yH.refl hrel,yW.2 ⟨_,rfl,zW.2 ⟨zJ.2 rfl,zM.2 rfl⟩⟩⟩
       simp only [execOp,Instr.next,hx,Sem.run_bind,kH h1 (by simp),Result.andThen_ok,run_getObj_map h6,hl,hf,Bool.false_eq_true,if_false]
       simp [Question.forced]
     · rename_i e l hleft
       refine zG (C:=zD P ψ h n ρ (.next it false) ty w) _ _ _ (zA _) fun hold=>?_
       refine zD0 (fun c hc=>by intro hrel; exact (show Rel ψ (zC.fam h) w→_ from hc hrel) hrel) l e fun hrel=>?_
       obtain ⟨q,arr,h4,h3,h1,h6,h7,hcq,hs1,hs2,hl⟩:=facts hrel
       rw [h3] at hx
       have hf:=h7.left (fun _ _=>hcq.inj) (seen:=seen)
       rw [hleft] at hf
       have hold:=hf.old hs1 hold
       have hlen:=hf.length
       obtain ⟨left,hL⟩:∃ left,arr.filter (fun e=>!(seen.map q.ck).toArray.contains e.born)=left:=⟨_,rfl⟩
       have hleftL:left.toList=arr.toList.filter fun e=>!(seen.map q.ck).contains e.born:=by
        rw [← hL,Array.toList_filter]; simp
       have hsz:left.size=l.length+1:=by
        have:left.toList.length=l.length+1:=by rw [hleftL,hlen]; rfl
        simpa using this
       have hnew:(left.filter fun e=>decide (e.born ≥ q.ck since))=#[]:=by
        apply Array.ext'
        rw [Array.toList_filter,hleftL]
        simp only [Array.toList_empty,List.filter_eq_nil_iff]
        intro x hx
        have:=hold x hx
        simp; omega
       have holdF:(left.filter fun e=>decide (e.born<q.ck since))=left:=by
        apply Array.ext'
        rw [Array.toList_filter,hleftL,List.filter_eq_self]
        intro x hx
        have:=hold x hx
        simpa using this
       have hne:left.isEmpty=false:=by rw [Array.isEmpty,hsz]; simp
       obtain ⟨i,w1,hi,hch,hw1,ht1,ho1,hu1⟩:∃ i w1,i<left.size∧(choose (.mapNext left.size)).run P w=.ok i w1∧w1.heap=w.heap∧w1.tape=w.tape∧w1.os=w.os∧w1.output=w.output:=by
        rw [run_choose]
        by_cases hfo:(Question.mapNext left.size).forced=true
        · rw [if_pos hfo]; exact ⟨0,w,by omega,rfl,rfl,rfl,rfl,rfl⟩
        · rw [if_neg hfo]; exact ⟨_,_,Nat.mod_lt _ (by omega),rfl,rfl,rfl,rfl,rfl⟩
       have hge:(left.toList)[i]? = some left[i]:=by rw [Array.getElem?_toList,Array.getElem?_eq_getElem hi]
       rw [hleftL] at hge
       obtain ⟨ic,c',hc',hk',hv',hb'⟩:=hf.get (List.mem_of_getElem? hge)
       refine ⟨ic,c',hc',fun hrel _ _=>?_⟩
       have hlt:=(hrel.on b _ p ho hp).lt
       have hpost1:=zGS (n:=n) hrel hw1 ht1 ho1 hu1
       have hrel1:=hpost1.rel
       have h1':w1.heap[p.blk]? = some (.mapIter (some q.blk) (q.ck since) (seen.map q.ck).toArray (q.ck last)):=by rw [hw1]; exact h1
       have hpost:=qo (n:=n) hrel1 ho rfl hp (o':=.mapiter (some m) since (seen++[c'.born]) clock) (ob:=.mapIter (some q.blk) (q.ck since) ((seen.map q.ck).toArray.push left[i].born) (q.ck clock))
        ⟨some q.blk,q.ck,by rw [xZ _ (by rw [hw1]; exact hlt),hb']; simp,h3,q,h4,rfl,rfl,hs1,hcq.here⟩
       refine ⟨_,.tuple #[.bool true,left[i].key,left[i].val],ψ,zR ?_,by rw [z6]; exact hpost1.trans hpost,
        yW.2 ⟨_,rfl,zW.2 ⟨zJ.2 rfl,zW.2 ⟨hk',zW.2 ⟨hv',zM.2 rfl⟩⟩⟩⟩⟩
       have hcand:((if (left.filter fun e=>decide (e.born<q.ck since)).isEmpty then #[none] else #[])++((left.filter fun e=>decide (e.born<q.ck since))++left.filter fun e=>decide (e.born ≥ q.ck since)).map some)=left.map some:=by
        rw [hnew,holdF,hne]; simp
       have hgi:(left.map some)[i]? = some (some left[i]):=by rw [Array.getElem?_map,Array.getElem?_eq_getElem hi]; rfl
       simp only [execOp,Instr.next,hx,Sem.run_bind,kH h1 (by simp),Result.andThen_ok,run_getObj_map h6,hl,Bool.false_eq_true,if_false]
       rw [hL,hcand,Array.size_map,hch]
       simp only [Result.andThen_ok,hgi,Sem.run_bind,zFi h1' (by simp),Sem.run_pure]
 · exact zA _
end
end Go.Ev
namespace Go.Ev
variable [Sym]
open Go.MapKept
noncomputable section
variable {ck:Nat→Nat} {P:Program} {ψ:Psi} {es:List CV} {tm:Tm} {h:zC} {n:Key} {ρ:Operand→Value} {E:Env} {ty:TypeId} {w:World}
variable [SymFact P]
theorem zEQ (hck:∀ a b,ck a=ck b ↔ a=b) {b:Nat}:∀ {cs:List CE} {l:List MapEntry},yM ψ ck cs l→zJv b cs=true→∀ x∈l,x.born≠ck b
 | [],l,hc,_=>by rw [yM] at hc; subst hc; simp
 | c::cs,l,hc,hb=>by
  obtain ⟨e,r,rfl,hr,h4⟩:=hc
  unfold zJv at hb
  split at hb
  · cases hb
  · rename_i hq
    intro x hx
    rcases List.mem_cons.1 hx with rfl | hx
    · rw [hr.2.2]; intro h
      rw [hck] at h; rw [h,qe] at hq; cases hq
    · exact zEQ hck h4 hb x hx
theorem zIb (hck:∀ a b,ck a=ck b ↔ a=b) {b:Nat}:∀ {cs:List CE} {l:List MapEntry} {c:CE},yM ψ ck cs l→zJ7 b cs=some c→∃ e,e∈l∧zBj ψ ck c e∧e.born=ck b∧∀ x∈l,x.born=ck b→x=e
 | [],_,_,_,hb=>by cases hb
 | c::cs,l,d,hc,hb=>by
  obtain ⟨e,r,rfl,hr,h4⟩:=hc
  unfold zJ7 at hb
  split at hb
  · rename_i hq
    split at hb
    · rename_i hno
      injection hb with hb; subst hb
      refine ⟨e,by simp,hr,by rw [hr.2.2,yD hq],fun x hx hxb=>?_⟩
      rcases List.mem_cons.1 hx with rfl | hx
      · rfl
      · exact absurd hxb (zEQ hck h4 hno x hx)
    · cases hb
  · rename_i hq
    obtain ⟨e',h1,h2,h3,h5⟩:=zIb hck h4 hb
    refine ⟨e',by simp [h1],h2,h3,fun x hx hxb=>?_⟩
    rcases List.mem_cons.1 hx with rfl | hx
    · rw [hr.2.2,hck] at hxb
      rw [hxb,qe] at hq; cases hq
    · exact h5 x hx hxb
theorem zO7 (hck:∀ a b,ck a=ck b ↔ a=b) {b:Nat} {cs:List CE} {l:List MapEntry} {c:CE} (hm:xJ ψ ck cs l) (hb:zJ7 b cs=some c):∃ e,l.find? (fun e=>e.born == ck b)=some e∧zBj ψ ck c e:=by
 obtain ⟨l',hp,hc⟩:=hm
 obtain ⟨e,h1,h2,h3,h4⟩:=zIb hck hc hb
 cases hf:l.find? (fun e=>e.born == ck b) with
 | none=>
  have:=List.find?_eq_none.1 hf e (hp.mem_iff.1 h1)
  rw [h3] at this; simp at this
 | some x=>
  have g1:=List.find?_some hf
  have g2:=h4 x (hp.mem_iff.2 (List.mem_of_find?_eq_some hf)) (by simpa using g1)
  exact ⟨x,rfl,by rw [g2]; exact h2⟩
theorem zLq:∀ (l:List Nat),zNu l=l.getLast?
 | []=>rfl
 | [x]=>rfl
 | _::y::r=>by
  show zNu (y::r)=_
  rw [zLq (y::r)]; simp
theorem zPn (it:Operand) (ha:yG P ψ es tm E ρ [it]):zD P ψ h n ρ (.entry it) ty w (yU P (zh P E (.entry it)) es tm h n):=by
 refine zr (C:=zD P ψ h n ρ (.entry it) ty w) zA fun c hc=>?_
 have hx:=ha it (by simp) c hc
 refine xE (C:=zD P ψ h n ρ (.entry it) ty w) _ _ _ (zA _) fun b off hv=>?_
 refine zG (C:=zD P ψ h n ρ (.entry it) ty w) _ _ _ (zA _) fun hoff=>?_
 have hoff:=yD hoff
 subst hoff
 rw [hv,zu] at hx
 obtain ⟨p,hp,hx⟩:=hx
 unfold zLE
 split
 · rename_i m since seen stepped ho
   split
   · rename_i st hst
     rw [zLq] at hst
     refine yZ (C:=zD P ψ h n ρ (.entry it) ty w) _ _ _ (zA _) fun cs clock hm=>?_
     split
     · rename_i e hcl hbo
       have hcl:=yD hcl
       subst hcl
       intro hrel
       obtain ⟨m',cf,h1,h3,q,h4,h5,h9,_,_⟩:=hrel b _ p ho hp
       subst h9
       obtain ⟨arr,h6,h7,hcq⟩:=hrel m _ q hm h4
       subst h5
       rw [h3] at hx
       obtain ⟨e',h8,hk,hv',_⟩:=zO7 (fun _ _=>hcq.inj) h7 hbo
       have h8:arr.find? (fun e=>e.born == q.ck st)=some e':=by rw [← Array.find?_toList]; exact h8
       have hback:(seen.map q.ck).toArray.back? = some (q.ck st):=by simp [hst]
       refine ⟨.tuple #[e'.key,e'.val],zR ?_,yW.2 ⟨_,rfl,zW.2 ⟨hk,zW.2 ⟨hv',zM.2 rfl⟩⟩⟩⟩
       simp only [execOp,Instr.entry,hx,Sem.run_bind,kH h1 (by simp),Result.andThen_ok,hback,run_getObj_map h6,bne_self_eq_false,Bool.false_eq_true,if_false,h8,Sem.run_pure]
     · exact zA _
   · exact zA _
 · exact zA _
theorem zCX {c:Call} {b:Builtin} (hc:c.callee=.builtin b) (w:World) :
 (execOp ρ (xw (.call c) ty)).run P w=(builtin b c.argTypes ty (c.args.map fun | .const _=>true | _=>false) (c.args.map ρ)).run P w:=by
 simp only [execOp,resolve,hc,Sem.run_bind,Sem.run_pure,Result.andThen_ok,invoke]
 rfl
theorem zBz {α:Type} {a:Array α} {l:List α} (h:a.toList=l):a=l.toArray:=by subst h; rfl
section
variable {c:Call} {b:Builtin} {o:Op}
theorem zTE {t:TypeId} {r:List TypeId} {x:Operand} (hrun:∀ w,(execOp ρ (xw o ty)).run P w=(do pure (.value (← Builtin.len_ (t::r).toArray ty #[ρ x])):Sem Next).run P w) (ha:yG P ψ es tm E ρ [x]) :
 zD P ψ h n ρ o ty w (yU P (qE P E .len (t::r) [x]) es tm h n):=by
 have hr:∀ {v:Value},(Builtin.len_ (t::r).toArray ty #[ρ x]).run P w=.ok v w→(execOp ρ (xw o ty)).run P w=.ok (.value v) w:=by
  intro v hv; rw [hrun]; simp [hv]
 show zD P ψ h n ρ o ty w (yU P (match und P t with
  | some .string=>xI P E .lenStr x
  | some (.array k _)=>.mv (.k (.nat k))
  | some (.pointer a)=>match und P a with
   | some (.array k _)=>.mv (.k (.nat k))
   | _=>.bad 6
  | some (.slice _)=>xI P E .lenSl x
  | some (.map _ _)=>xI P E .lenMap x
  | _=>.bad 6) es tm h n)
 unfold und
 split
 · rename_i ht
   refine zr (C:=zD P ψ h n ρ o ty w) zA fun c hc=>?_
   have hx:=ha x (by simp) c hc
   refine xv (C:=zD P ψ h n ρ o ty w) _ _ _ ?_ fun l hs=>?_
   case refine_2=>
    rw [hs,zy] at hx
    obtain ⟨b,hx,hl⟩:=hx
    have hlen:wz l=b.size:=by
     have:=hl.length
     rw [List.length_map] at this
     have e:∀ l:List CV,wz l=l.length:=by
      intro l
      induction l with
      | nil=>rfl
      | cons c l ih=>show Nat.succ (wz l)=_; rw [ih]; rfl
     rw [e,← this]; rfl
    rw [hlen]
    exact ⟨_,zR (hr (by simp [Builtin.len_,hx,run_underlying ht]; rfl)),xz _⟩
   refine yO (C:=zD P ψ h n ρ o ty w) _ _ _ (zA _) fun s hs=>?_
   rw [hs,ze] at hx
   obtain ⟨b,hx,rfl⟩:=hx
   rw [w5,xV]
   exact ⟨_,zR (hr (by simp [Builtin.len_,hx,run_underlying ht]; rfl)),xz _⟩
 · rename_i k e ht
   exact ⟨_,zR (hr (v:=goInt k) (by simp [Builtin.len_,run_underlying ht])),zX.2 rfl⟩
 · rename_i a ht
   split
   · rename_i k e ht'
     exact ⟨_,zR (hr (v:=goInt k) (by simp [Builtin.len_,run_underlying ht,run_underlying ht'])),zX.2 rfl⟩
   · exact zA _
 · rename_i e ht
   refine zr (C:=zD P ψ h n ρ o ty w) zA fun c hc=>?_
   have hx:=ha x (by simp) c hc
   refine qf (C:=zD P ψ h n ρ o ty w) _ _ _ ?_ fun b s0 e0 n0 hv=>?_
   case refine_2=>
    rw [hv,qA] at hx
    obtain ⟨_,base,len,cap,iv,hx,hn,_⟩:=hx
    exact ⟨_,zR (hr (v:=goInt len) (by simp [Builtin.len_,hx,run_underlying ht])),zq.2 hn.symm⟩
   refine yV (C:=zD P ψ h n ρ o ty w) _ _ _ _ (zA _) (fun hv=>?_) fun b off len cap s ex hv=>?_
   · rw [hv,zw] at hx
     exact ⟨_,zR (hr (v:=goInt 0) (by simp [Builtin.len_,hx,run_underlying ht])),zX.2 rfl⟩
   · rw [hv,yF] at hx
     obtain ⟨p,x',cap',_,hx,_⟩:=hx
     exact ⟨_,zR (hr (v:=goInt len) (by simp [Builtin.len_,hx,run_underlying ht])),zX.2 rfl⟩
 · rename_i e e' ht
   refine zr (C:=zD P ψ h n ρ o ty w) zA fun c hc=>?_
   have hx:=ha x (by simp) c hc
   refine xC (C:=zD P ψ h n ρ o ty w) _ _ _ _ (zA _) (fun hv=>?_) fun b hv=>?_
   · rw [hv,yS] at hx
     exact ⟨_,zR (hr (v:=goInt 0) (by simp [Builtin.len_,hx,run_underlying ht])),zX.2 rfl⟩
   · refine yZ (C:=zD P ψ h n ρ o ty w) _ _ _ (zA _) fun cs clock hm=>?_
     intro hrel
     rw [hv,yq] at hx
     obtain ⟨p,hp,hx⟩:=hx
     obtain ⟨arr,h6,h7,_⟩:=hrel b _ p hm hp
     have hl:arr.size=cs.length:=by have:=h7.length; simpa using this
     rw [zAU,← hl]
     exact ⟨_,zR (hr (v:=goInt arr.size) (by simp [Builtin.len_,hx,run_underlying ht,run_getObj_map h6])),xz _⟩
 · exact zA _
theorem zR5 (k:Nat):k8 [.any] k=List.replicate k .any:=by
 induction k with
 | zero=>rfl
 | succ k ih=>exact congrArg (CV.any :: ·) ih
theorem yc.more {ψ:Psi} {w:World} {p:Pl} {vs:List CV} (h:yc ψ w p vs) {k:Nat} (hk:p.off+(vs.length+k)≤p.sz):yc ψ w p (vs++List.replicate k .any):=by
 obtain ⟨arr,elem,fz,h1,h2,h3,h4,h5⟩:=h
 refine ⟨arr,elem,fz,h1,h2,by rw [List.length_append,List.length_replicate]; exact hk,h4,fun i c hi=>?_⟩
 by_cases hlt:i<vs.length
 · rw [List.getElem?_append_left hlt] at hi
   exact h5 i c hi
 · rw [List.getElem?_append_right (by omega),List.getElem?_replicate] at hi
   split at hi
   · injection hi with hi; subst hi
     exact ⟨_,Array.getElem?_eq_getElem (by omega),by unfold zH; trivial⟩
   · cases hi
theorem zDj {ψ:Psi} {g:Fam} {n b:Key} {w:World} {p:Pl} {o o':CObj} (h:Rel ψ g w) (hb:g b=some o) (hp:ψ b=some p) (ho':xM ψ w p o') (hro:o.isRo=false:=by rfl) (hro':o'.isRo=false:=by rfl) :
 yH ψ g n w ψ (g.upd b (some o')) n w:=by
 have hs:∀ k q,g.upd b (some o') k=some q→∃ q',g k=some q'∧(q'.isRo=q.isRo):=by
  intro k q hk
  by_cases e:k=b
  · subst e; rw [Fam.upd_same] at hk; injection hk with hk; subst hk; exact ⟨o,hb,by rw [hro,hro']⟩
  · rw [Fam.upd_other _ _ e] at hk; exact ⟨q,hk,rfl⟩
 refine ⟨Psi.le_refl _,fun _ _=>rfl,⟨fun k q pk hk hpk=>?_,fun k q hk=>?_,fun k₁ k₂ o₁ o₂ p₁ p₂ h1 h2 h3 h4 hr e=>?_⟩,fun _ _ _=>rfl,fun k q pk h1 h2 h3=>?_,Nat.le_refl _,rfl,rfl,rfl,Nat.le_refl _,fun k q pk h1 h3=>?_⟩
 · by_cases e:k=b
   · subst e; rw [Fam.upd_same] at hk; injection hk with hk; subst hk; rw [hp] at hpk; injection hpk with hpk; subst hpk; exact ho'
   · rw [Fam.upd_other _ _ e] at hk; exact h.on k q pk hk hpk
 · obtain ⟨q',hq,_⟩:=hs k q hk; exact h.tot k q' hq
 · obtain ⟨q₁,e1,r1⟩:=hs k₁ o₁ h1
   obtain ⟨q₂,e2,r2⟩:=hs k₂ o₂ h2
   exact h.inj k₁ k₂ q₁ q₂ p₁ p₂ e1 e2 h3 h4 (by rw [r1,r2]; exact hr) e
 · obtain ⟨q',e1,e2⟩:=hs k q h1
   exact .inl ⟨k,q',pk,e1,by rw [e2]; exact h2,h3,rfl⟩
 · obtain ⟨q',e1,_⟩:=hs k q h1
   exact .inl ⟨k,q',pk,e1,h3,rfl⟩
theorem zTa {t:TypeId} {r:List TypeId} {x:Operand} (hrun:∀ w,(execOp ρ (xw o ty)).run P w=(do pure (.value (← Builtin.cap_ (t::r).toArray ty #[ρ x])):Sem Next).run P w) (ha:yG P ψ es tm E ρ [x]) :
 zD P ψ h n ρ o ty w (yU P (qE P E .cap (t::r) [x]) es tm h n):=by
 have hr:∀ {v:Value},(Builtin.cap_ (t::r).toArray ty #[ρ x]).run P w=.ok v w→(execOp ρ (xw o ty)).run P w=.ok (.value v) w:=by
  intro v hv; rw [hrun]; simp [hv]
 show zD P ψ h n ρ o ty w (yU P (match und P t with
  | some (.slice _)=>xI P E .capSl x
  | some (.array k _)=>.mv (.k (.nat k))
  | _=>.bad 7) es tm h n)
 unfold und
 split
 · rename_i e ht
   refine zr (C:=zD P ψ h n ρ o ty w) zA fun c hc=>?_
   have hx:=ha x (by simp) c hc
   refine yV (C:=zD P ψ h n ρ o ty w) _ _ _ _ (zA _) (fun hv=>?_) fun b off len cap s ex hv=>?_
   · rw [hv,zw] at hx
     exact ⟨_,zR (hr (v:=goInt 0) (by simp [Builtin.cap_,hx,run_underlying ht])),zX.2 rfl⟩
   · rw [hv,yF] at hx
     obtain ⟨p,x',cap',hp,hx,hcap,_,hc',hor⟩:=hx
     have hout:kS P ρ o ty w w (goInt cap'):=zR (hr (v:=goInt cap') (by simp [Builtin.cap_,hx,run_underlying ht]))
     cases ex with
     | true=>
      have:=hc' rfl
      subst this
      exact ⟨_,hout,zX.2 rfl⟩
     | false=>
      show zD P ψ h n ρ o ty w (zSk b off len cap s h n)
      unfold zSk
      rw [ja]
      split
      · exact ⟨_,hout,k9.2 ⟨cap',rfl,hcap⟩⟩
      · refine yb (C:=zD P ψ h n ρ o ty w) _ _ _ (zA _) fun vs hvs=>?_
        refine zG (C:=zD P ψ h n ρ o ty w) _ _ _ (zA _) fun h1=>?_
        have h1:=zL h1
        have e:x'=p.off+off∧x'+cap'*s=p.sz:=by
         rcases hor with ⟨e,h⟩ | e
         · exact ⟨e,h rfl⟩
         · omega
        have hup:∀ k,zQp vs k=vs++List.replicate (k - vs.length) .any:=by
         intro k
         show zC9 vs (k8 [.any] (k - wz vs))=_
         rw [vP,jv,zR5]
        unfold zD
        intro _
        rcases Nat.lt_or_ge cap cap' with hlt | hge
        · refine .inr ?_
          intro hrel _ _
          have hcells:yc ψ w p vs:=hrel.on b _ p hvs hp
          have hmul:(cap+1)*s≤cap'*s:=Nat.mul_le_mul_right _ hlt
          have hmore:xM ψ w p (.cells (zQp vs (off+(cap+1)*s))):=by
           rw [hup]
           exact hcells.more (by
            obtain ⟨_,_,_,_,_,h3,_⟩:=hcells
            omega)
          exact ⟨w,_,ψ,hout,by rw [z6]; exact zDj hrel hvs hp hmore,k9.2 ⟨cap',rfl,hlt⟩⟩
        · have:cap'=cap:=by omega
          subst this
          refine .inl ?_
          intro hrel _ _
          have hcells:yc ψ w p vs:=hrel.on b _ p hvs hp
          have hfull:xM ψ w p (.full false (zQp vs (off+cap'*s))):=by
           rw [hup]
           have hle:p.off+vs.length≤p.sz:=by
            obtain ⟨_,_,_,_,_,h3,_⟩:=hcells
            exact h3
           obtain ⟨arr,elem,fz,c1,c2,c3,c4,c5⟩:=hcells.more (k:=off+cap'*s - vs.length) (by omega)
           exact ⟨arr,elem,fz,c1,c2,by rw [List.length_append,List.length_replicate]; omega,c4.elim .inl (fun h=>.inr ⟨rfl,h⟩),c5⟩
          exact ⟨w,_,ψ,hout,by rw [z6]; exact zDj hrel hvs hp hfull,zX.2 rfl⟩
 · rename_i k e ht
   exact ⟨_,zR (hr (v:=goInt k) (by simp [Builtin.cap_,run_underlying ht])),zX.2 rfl⟩
 · exact zA _
theorem zHx {v:CV} {k:IntKind} {a:Int} {x:Value} (hi:intOf v=some (k,a)) (hx:zH ψ v x):x=.int k a:=by
 unfold intOf at hi
 split at hi
 · injection hi with hi; injection hi with h1 h2; subst h1 h2; exact zX.1 hx
 · injection hi with hi; injection hi with h1 h2; subst h1 h2; exact zg.1 hx
 · cases hi
theorem zNP {mx:Bool} {k:IntKind}:∀ {l:List CV} {a:Int} {r:CV} {xs:List Value} (w:World),zS ψ l xs→zSZ mx k a l=some r →
 ∃ y,(xs.foldlM (match mx with | true=>Builtin.max2 | false=>Builtin.min2) (Value.int k a)).run P w=.ok y w∧zH ψ r y
 | [],a,r,xs,w,hx,hr=>by
  rw [zM] at hx; subst hx
  injection hr with hr; subst hr
  exact ⟨_,rfl,yy _ _⟩
 | v::l,a,r,xs,w,hx,hr=>by
  obtain ⟨y,ys,rfl,h1,h2⟩:=zd.1 hx
  unfold zSZ at hr
  split at hr
  · rename_i j b hi
    have hy:=zHx hi h1
    subst hy
    split at hr
    · rename_i hjk
      rw [yo] at hjk
      have hjk:k=j:=by simpa using hjk
      subst hjk
      obtain ⟨y',g1,g2⟩:=zNP w h2 hr
      refine ⟨y',?_,g2⟩
      rw [List.foldlM_cons,Sem.run_bind]
      cases mx with
      | true=>
       by_cases q:a<b
       · have hq:wg a b=true:=by rw [qQ]; simpa using q
         simp only [hq] at g1
         have e:(Builtin.max2 (.int k a) (.int k b)).run P w=.ok (.int k b) w:=by simp [Builtin.max2,q]
         simp only [e]; exact g1
       · have hq:wg a b=false:=by rw [qQ]; simpa using q
         simp only [hq] at g1
         have e:(Builtin.max2 (.int k a) (.int k b)).run P w=.ok (.int k a) w:=by simp [Builtin.max2,q]
         simp only [e]; exact g1
      | false=>
       by_cases q:b<a
       · have hq:wg b a=true:=by rw [qQ]; simpa using q
         simp only [hq] at g1
         have e:(Builtin.min2 (.int k a) (.int k b)).run P w=.ok (.int k b) w:=by simp [Builtin.min2,q]
         simp only [e]; exact g1
       · have hq:wg b a=false:=by rw [qQ]; simpa using q
         simp only [hq] at g1
         have e:(Builtin.min2 (.int k a) (.int k b)).run P w=.ok (.int k a) w:=by simp [Builtin.min2,q]
         simp only [e]; exact g1
    · cases hr
  · cases hr
theorem zTK {t:TypeId} {k:IntKind} {a:Int} {v:Value} {r:Bool} {w:World} (h:(binOp .lss t (.int k a) v).run P w=.ok (.bool r) w):∃ b,v=.int k b∧r=decide (a<b):=by
 cases v with
 | int j b=>
  by_cases e:k=j
  · subst e
    refine ⟨b,rfl,?_⟩
    simp [binOp,Op.intCmp] at h
    exact h.symm
  · simp [binOp,e] at h
 | _=>simp [binOp] at h
theorem zAo {mx:Bool}:∀ {l:List CV} {x r:CV} {u:Value} {xs:List Value} (w:World),zH ψ x u→zS ψ l xs→zLH mx x l=some r →
 ∃ y,(xs.foldlM (match mx with | true=>Builtin.max2 | false=>Builtin.min2) u).run P w=.ok y w∧zH ψ r y
 | [],x,r,u,xs,w,hu,hx,hr=>by
  rw [zM] at hx; subst hx
  injection hr with hr; subst hr
  exact ⟨_,rfl,hu⟩
 | v::l,x,r,u,xs,w,hu,hx,hr=>by
  obtain ⟨y,ys,rfl,h1,h2⟩:=zd.1 hx
  unfold zLH at hr
  split at hr
  · rename_i l0 b hc hb
    obtain ⟨k,m,e,_⟩:=(SymFact.ok (P:=P)).2 _ _ _ hc ψ u hu
    cases mx with
    | true=>
     obtain ⟨_,z,hz,c,hc',hz'⟩:=(SymFact.ok (P:=P)).1 _ _ _ _ hb ψ 0 u y w hu h1
     obtain rfl:c=.bool b:=by simpa using hc'
     obtain rfl:=zJ.1 hz'
     rw [e] at hz
     obtain ⟨b',e',hr'⟩:=zTK hz
     have step:(Builtin.max2 u y).run P w=.ok (if m<b' then y else u) w:=by
      rw [e,e']
      by_cases q:m<b' <;> simp [Builtin.max2,q]
     rw [List.foldlM_cons,Sem.run_bind]
     simp only [step]
     refine zAo w ?_ h2 hr
     rw [hr']
     by_cases q:m<b'
     · simp only [q,decide_true,if_true]; exact h1
     · simp only [q,decide_false,if_false]; exact hu
    | false=>
     obtain ⟨_,z,hz,c,hc',hz'⟩:=(SymFact.ok (P:=P)).1 _ _ _ _ hb ψ 0 y u w h1 hu
     obtain rfl:c=.bool b:=by simpa using hc'
     obtain rfl:=zJ.1 hz'
     obtain ⟨b',e',hr'⟩:∃ b',y=.int k b'∧b=decide (b'<m):=by
      rw [e] at hz
      cases y with
      | int j b'=>
       by_cases ee:j=k
       · subst ee
         refine ⟨b',rfl,?_⟩
         simp [binOp,Op.intCmp] at hz
         exact hz.symm
       · simp [binOp,ee] at hz
      | _=>simp [binOp] at hz
     have step:(Builtin.min2 u y).run P w=.ok (if b'<m then y else u) w:=by
      rw [e,e']
      by_cases q:b'<m <;> simp [Builtin.min2,q]
     rw [List.foldlM_cons,Sem.run_bind]
     simp only [step]
     refine zAo w ?_ h2 hr
     rw [hr']
     by_cases q:b'<m
     · simp only [q,decide_true,if_true]; exact h1
     · simp only [q,decide_false,if_false]; exact hu
  · rename_i l0 hc _
    obtain ⟨k,m,e,_⟩:=(SymFact.ok (P:=P)).2 _ _ _ hc ψ u hu
    split at hr
    · rename_i hb
      cases mx with
      | true=>
       obtain ⟨_,z,hz,c,hc',hz'⟩:=(SymFact.ok (P:=P)).1 _ _ _ _ hb ψ 0 u y w hu h1
       obtain rfl:c=.bool true:=by simpa using hc'
       obtain rfl:=zJ.1 hz'
       rw [e] at hz
       obtain ⟨b',e',hr'⟩:∃ b',y=.int k b'∧m≤b':=by
        cases y with
        | int j b'=>
         by_cases ee:k=j
         · subst ee
           refine ⟨b',rfl,?_⟩
           simpa [binOp,Op.intCmp] using hz
         · simp [binOp,ee] at hz
        | _=>simp [binOp] at hz
       have step:(Builtin.max2 u y).run P w=.ok y w:=by
        rw [e,e']
        by_cases q:m<b'
        · simp [Builtin.max2,q]
        · have:m=b':=by omega
          subst this
          simp [Builtin.max2]
       rw [List.foldlM_cons,Sem.run_bind]
       simp only [step]
       exact zAo w h1 h2 hr
      | false=>
       obtain ⟨_,z,hz,c,hc',hz'⟩:=(SymFact.ok (P:=P)).1 _ _ _ _ hb ψ 0 y u w h1 hu
       obtain rfl:c=.bool true:=by simpa using hc'
       obtain rfl:=zJ.1 hz'
       obtain ⟨b',e',hr'⟩:∃ b',y=.int k b'∧b'≤m:=by
        rw [e] at hz
        cases y with
        | int j b'=>
         by_cases ee:j=k
         · subst ee
           refine ⟨b',rfl,?_⟩
           simpa [binOp,Op.intCmp] using hz
         · simp [binOp,ee] at hz
        | _=>simp [binOp] at hz
       have step:(Builtin.min2 u y).run P w=.ok y w:=by
        rw [e,e']
        by_cases q:b'<m
        · simp [Builtin.min2,q]
        · have:m=b':=by omega
          subst this
          simp [Builtin.min2]
       rw [List.foldlM_cons,Sem.run_bind]
       simp only [step]
       exact zAo w h1 h2 hr
    · cases hr
  · cases hr
theorem zFq (mx:Bool) {x:Operand} {r:List Operand}
 (hrun:∀ w,(execOp ρ (xw o ty)).run P w=(do pure (.value (← (r.map ρ).foldlM (match mx with | true=>Builtin.max2 | false=>Builtin.min2) (ρ x))):Sem Next).run P w) (ha:yG P ψ es tm E ρ (x::r)) :
 zD P ψ h n ρ o ty w (yU P (match zi P E x,qi P E r with
 | some x,some r=>.minmax mx x r
 | _,_=>.bad 10) es tm h n):=by
 split
 · rename_i cx cr hcx hcr
   refine jA (C:=zD P ψ h n ρ o ty w) _ _ (zA _) fun v hv=>?_
   have hx:=ha x (by simp) cx hcx
   have hr:=ky r (ha.sub fun y hy=>by simp [hy]) hcr
   have gen:∀ {v:CV},zLH mx (aV es tm cx) (aVs es tm cr)=some v→zD P ψ h n ρ o ty w (.val v):=by
    intro v hv
    obtain ⟨y,h1,h2⟩:=zAo (P:=P) w hx hr hv
    refine ⟨y,zR ?_,h2⟩
    rw [hrun]
    simp [h1]
   unfold zVH at hv
   split at hv
   · rename_i k a hi
     split at hv
     · rename_i v' hv'
       obtain rfl:v'=v:=by injection hv
       have hx:=zHx hi hx
       obtain ⟨y,h1,h2⟩:=zNP (P:=P) w hr hv'
       refine ⟨y,zR ?_,h2⟩
       rw [hrun,hx]
       simp [h1]
     · exact gen hv
   · exact gen hv
 · exact zA _
theorem zMH {t:TypeId} {r:List TypeId} {m k:Operand} (hrun:∀ w,(execOp ρ (xw o ty)).run P w=(do pure (.value (← Builtin.delete_ (t::r).toArray ty #[ρ m,ρ k])):Sem Next).run P w) (ha:yG P ψ es tm E ρ [m,k]) :
 zD P ψ h n ρ o ty w (yU P (qE P E .delete (t::r) [m,k]) es tm h n):=by
 have hr:∀ {v:Value} {w':World},(Builtin.delete_ (t::r).toArray ty #[ρ m,ρ k]).run P w=.ok v w'→(execOp ρ (xw o ty)).run P w=.ok (.value v) w':=by
  intro v w' hv; rw [hrun]; simp [hv]
 show zD P ψ h n ρ o ty w (yU P (match und P t with
  | some (.map kt _)=>match xU P kt with
   | some kk=>jM P E (.delete kk) m k
   | none=>.bad 8
  | _=>.bad 8) es tm h n)
 unfold und
 split
 · rename_i kt et ht
   split
   · rename_i kk hkk
     obtain ⟨d,hd⟩:=zAg hkk
     refine y7 (C:=zD P ψ h n ρ o ty w) zA fun cm ck hcm hck'=>?_
     have hm:=ha m (by simp) cm hcm
     have hk:=ha k (by simp) ck hck'
     refine zG (C:=zD P ψ h n ρ o ty w) _ _ _ (zA _) fun hok=>?_
     have hck:∀ e,(Instr.checkKey e 10000 kt (ρ k)).run P w=.ok () w:=fun e=>vh hkk hd hk hok e w
     refine xC (C:=zD P ψ h n ρ o ty w) _ _ _ _ (zA _) (fun hv=>?_) fun b hv=>?_
     · intro hrel _ _
       rw [hv,yS] at hm
       exact ⟨w,.tuple #[],ψ,zR (hr (by simp [Builtin.delete_,run_underlying ht,hm,hck])),yH.refl hrel,yW.2 ⟨_,rfl,zM.2 rfl⟩⟩
     · refine yZ (C:=zD P ψ h n ρ o ty w) _ _ _ (zA _) fun cs clock hl=>?_
       rw [hv,yq] at hm
       obtain ⟨p,hp,hm⟩:=hm
       split
       · rename_i v0 hf
         split
         · rename_i l' hl'
           intro hrel _ _
           obtain ⟨arr,h1,h2,hcp⟩:=hrel.on b _ p hl hp
           obtain ⟨j,e,f1,f2,f3,f4,_,g2⟩:=zGt hkk hd hk h2 hf
           have hup:=g2 hl'
           have hlt:=(hrel.on b _ p hl hp).lt
           have herase:(arr.eraseIdxIfInBounds j).toList=arr.toList.eraseIdx j:=by
            unfold Array.eraseIdxIfInBounds
            split
            · rw [Array.toList_eraseIdx]
            · rename_i hj
              rw [List.eraseIdx_of_length_le (by simpa using hj)]
           have hpost:=qo (n:=n) hrel hl rfl hp (o':=.map l' clock) (ob:=.map (arr.eraseIdxIfInBounds j) (p.ck clock))
            ⟨_,xZ _ hlt,by rw [herase]; exact hup,hcp⟩
           refine ⟨_,.tuple #[],ψ,zR (hr ?_),by rw [z6]; exact hpost,yW.2 ⟨_,rfl,zM.2 rfl⟩⟩
           simp [Builtin.delete_,run_underlying ht,hm,hck,run_getObj_map h1,qr hd f1 w,jU _ h1]
         · exact zA _
       · rename_i hf
         intro hrel _ _
         obtain ⟨arr,h1,h2,hcp⟩:=hrel.on b _ p hl hp
         have f1:=map_none hkk hd hk h2 hf
         have hlt:=(hrel.on b _ p hl hp).lt
         have hpost:=qo (n:=n) hrel hl rfl hp (o':=.map cs clock) (ob:=.map arr (p.ck clock)) ⟨_,xZ _ hlt,h2,hcp⟩
         have hsame:(zC.fam h).upd b (some (.map cs clock))=zC.fam h:=by
          funext j; unfold Fam.upd; split
          · rename_i e; subst e; exact hl.symm
          · rfl
         rw [hsame] at hpost
         refine ⟨_,.tuple #[],ψ,zR (hr ?_),hpost,yW.2 ⟨_,rfl,zM.2 rfl⟩⟩
         simp [Builtin.delete_,run_underlying ht,hm,hck,run_getObj_map h1,qr hd f1 w,jU _ h1]
       · exact zA _
   · exact zA _
 · exact zA _
end
end
end Go.Ev
namespace Go.Ev
variable [Sym]
open Go.MapKept
noncomputable section
variable {P:Program} {ψ:Psi} {es:List CV} {tm:Tm} {h:zC} {n:Key} {ρ:Operand→Value} {E:Env} {ty:TypeId} {w:World}
variable [SymFact P]
theorem zAO {C:OR→Prop} {x:CV} {v:Value} (hx:zH ψ x v) (s:Nat) (nf:Nat→Nat) (hn:∀ l,nf l≤l) (k:Nat→List CV→OR) (e:Nat) (he:C (.err e))
 (hk:∀ L cs,(∀ w,(Builtin.lenOf v).run P w=.ok L w)→(∀ w,qk ψ (zC.fam h) w→∃ xs:List Value,(Builtin.firstCells s (nf L) v).run P w=.ok xs.toArray w∧zS ψ cs xs) →
   cs.length=nf L*s→C (k (nf L) cs)):C (zMF h s x k nf e):=by
 unfold zMF
 split
 · rename_i l
   refine zG (C:=C) _ _ _ he fun hs=>?_
   have hs:=yD hs
   subst hs
   refine yX (C:=C) _ _ _ he fun cs hcs=>?_
   rw [ze] at hx
   obtain ⟨b,rfl,rfl⟩:=hx
   rw [w5,xV] at hcs ⊢
   rw [zJP] at hcs
   have hle:nf b.size≤(zo b).length:=by rw [xV]; exact hn _
   rw [if_pos hle] at hcs
   injection hcs with hcs; subst hcs
   refine hk b.size _ (fun w=>rfl) (fun w _=>?_) (by rw [uH,List.length_map,List.length_take]; omega)
   refine ⟨((b.extract 0 (nf b.size)).data.map fun (b:UInt8)=>Value.int .u8 b.toNat).toList,by unfold Builtin.firstCells; simp only [Sem.run_pure,Array.toArray_toList],?_⟩
   have:=zA2 (ψ:=ψ) (b.extract 0 (nf b.size))
   have hnat:zo (b.extract 0 (nf b.size))=(zo b).take (nf b.size):=by
    unfold zo
    rw [ByteArray.data_extract,Array.toList_extract,List.extract_eq_take_drop]
    simp
   rw [hnat] at this
   exact this
 · rename_i l
   refine zG (C:=C) _ _ _ he fun hs=>?_
   have hs:=yD hs
   subst hs
   refine yX (C:=C) _ _ _ he fun cs hcs=>?_
   rw [zy] at hx
   obtain ⟨b,rfl,hr⟩:=hx
   have hlen:l.length=b.size:=zEB hr
   rw [jv,hlen] at hcs ⊢
   rw [zJU] at hcs
   have hle:nf b.size≤l.length:=by rw [hlen]; exact hn _
   rw [if_pos hle] at hcs
   injection hcs with hcs; subst hcs
   refine hk b.size _ (fun w=>rfl) (fun w _=>?_) (by rw [List.length_take]; omega)
   refine ⟨((b.extract 0 (nf b.size)).data.map fun (b:UInt8)=>Value.int .u8 b.toNat).toList,by unfold Builtin.firstCells; simp only [Sem.run_pure,Array.toArray_toList],?_⟩
   rw [Array.toList_map,ByteArray.data_extract,Array.toList_extract,List.extract_eq_take_drop,List.map_take,List.map_drop]
   simpa using hr.take (nf b.size)
 · rename_i b z e0 m
   refine zG (C:=C) _ _ _ he fun hm=>?_
   rw [qA] at hx
   obtain ⟨_,base,len,cap,iv,rfl,hn',_⟩:=hx
   obtain rfl:=zKa P hm hn' default
   have h0:nf 0=0:=by have:=hn 0; omega
   refine hk 0 [] (fun w=>rfl) (fun w _=>⟨[],?_,zM.2 rfl⟩) (by rw [h0,Nat.zero_mul]; rfl)
   rw [h0]
   cases base with
   | none=>rfl
   | some a=>show (loadCells a (0*s)).run P w=_; rw [Nat.zero_mul]; rfl
 · rename_i hns
   refine yV (C:=C) _ _ _ _ he (fun hv=>?_) fun b off len cap s' ex hv=>?_
   · subst hv
     rw [zw] at hx
     subst hx
     have h0:nf 0=0:=by have:=hn 0; omega
     have:=hk 0 [] (fun w=>rfl) (fun w _=>⟨[],by rw [h0]; rfl,zM.2 rfl⟩) (by rw [h0,Nat.zero_mul]; rfl)
     rwa [h0] at this
   · subst hv
     refine xB (C:=C) _ _ _ he fun vs hvs=>?_
     refine yX (C:=C) _ _ _ he fun cs hcs=>?_
     rw [yF] at hx
     obtain ⟨p,x',cap',hp,rfl,_,hl,_,hor⟩:=hx
     refine hk len cs (fun w=>rfl) (fun w hrel=>?_) (qJ hcs).1
     have hcells:zAq ψ w p vs:=by
      rcases hvs with hvs | hvs | ⟨u,hvs⟩
      · exact yc.toRo (hrel b _ p hvs hp)
      · exact hrel b _ p hvs hp
      · exact yc.toRo (jW.toCells (hrel b _ p hvs hp))
     obtain ⟨xs,hrun,hxs⟩:=xk (P:=P) hcells hcs
     refine ⟨xs,?_,hxs⟩
     show (loadCells ⟨p.blk,x',none⟩ (nf len*s)).run P w=_
     rcases hor with ⟨e,_⟩ | e
     · rw [e]; exact hrun
     · have h0:nf len=0:=by have:=hn len; omega
       have hcs0:=(qJ hcs).1
       have hxl:=hxs.length
       rw [h0] at hcs0 ⊢
       have:xs=[]:=by
        have hz:Nat.mul 0 s=0:=Nat.zero_mul s
        cases xs with
        | nil=>rfl
        | cons a b=>simp at hxl; omega
       subst this
       rw [Nat.zero_mul]; rfl
section
variable {o:Op}
theorem zQ5 {t:TypeId} {r:List TypeId} {d x:Operand} (hrun:∀ w,(execOp ρ (xw o ty)).run P w=(do pure (.value (← Builtin.copy_ (t::r).toArray ty #[ρ d,ρ x])):Sem Next).run P w) (ha:yG P ψ es tm E ρ [d,x]) :
 zD P ψ h n ρ o ty w (yU P (qE P E .copy (t::r) [d,x]) es tm h n):=by
 have hr:∀ {v:Value} {w':World},(Builtin.copy_ (t::r).toArray ty #[ρ d,ρ x]).run P w=.ok v w'→(execOp ρ (xw o ty)).run P w=.ok (.value v) w':=by
  intro v w' hv; rw [hrun]; simp [hv]
 show zD P ψ h n ρ o ty w (yU P (match und P t with
  | some (.slice e)=>match x6 P e with
   | some s=>jM P E (.copy s) d x
   | none=>.bad 5
  | _=>.bad 5) es tm h n)
 unfold und
 split
 · rename_i e ht
   split
   · rename_i s hs
     refine y7 (C:=zD P ψ h n ρ o ty w) zA fun cd cx hcd hcx=>?_
     have hd:=ha d (by simp) cd hcd
     have hx:=ha x (by simp) cx hcx
     show zD P ψ h n ρ o ty w (zHB s cd cx es tm h n)
     unfold zHB
     cases hcv:aV es tm cd <;> try exact zA _
     case str l=>
      simp only [zSe,u7]
      refine zAO (P:=P) (C:=zD P ψ h n ρ o ty w) hx s _ (fun l=>Nat.min_le_left _ _) _ _ (zA _) fun L cs _ _ _=>?_
      exact zA _
     case nilsl=>
      simp only [zSe,u7]
      refine zAO (P:=P) (C:=zD P ψ h n ρ o ty w) hx s (fun xl=>Nat.min xl 0) (fun l=>Nat.min_le_left _ _) _ _ (zA _) fun L cs hL hcs _=>?_
      intro hrel _ _
      rw [hcv,zw] at hd
      obtain ⟨xs,h1,h2⟩:=hcs w hrel.on
      refine ⟨w,goInt 0,ψ,zR (hr ?_),yH.refl hrel,zX.2 rfl⟩
      have hz:Nat.min L 0=0:=Nat.min_zero L
      have h1:(Builtin.firstCells s 0 (ρ x)).run P w=.ok xs.toArray w:=by rw [← hz]; exact h1
      simp [Builtin.copy_,run_underlying ht,hd,hL,ye hs,h1]
     case sl b off len cap s' ex=>
      simp only [zSe,u7]
      refine zAO (P:=P) (C:=zD P ψ h n ρ o ty w) hx s (fun xl=>Nat.min xl len) (fun l=>Nat.min_le_left _ _) _ _ (zA _) fun L cs hL hcs _=>?_
      refine yb (C:=zD P ψ h n ρ o ty w) _ _ _ (zA _) fun vs hvs=>?_
      refine zG (C:=zD P ψ h n ρ o ty w) _ _ _ (zA _) fun hsing=>?_
      refine yX (C:=zD P ψ h n ρ o ty w) _ _ _ (zA _) fun l hl hrel _ _=>?_
      rw [hcv,yF] at hd
      obtain ⟨p,x',cap',hp,hd,_,hlen,_,hor⟩:=hd
      obtain ⟨xs,h1,h2⟩:=hcs w hrel.on
      obtain ⟨w',hst,hpost⟩:=ka (P:=P) n hrel hvs hp hl h2 hsing
      have hst':(storeCells ⟨p.blk,x',none⟩ xs).run P w=.ok () w':=by
       rcases hor with ⟨e,_⟩ | e
       · rw [e]; exact hst
       · have h0:Nat.min L len=0:=Nat.le_zero.1 (Nat.le_trans (Nat.min_le_right L len) (by omega))
         have hxl:=h2.length
         have hcl:=(ua hl).1
         rw [h0] at hcl
         have:xs=[]:=by
          have hz:Nat.mul 0 s=0:=Nat.zero_mul s
          cases xs with
          | nil=>rfl
          | cons a b=>simp at hxl; omega
         subst this
         exact hst
      refine ⟨w',goInt (Nat.min L len),ψ,zR (hr ?_),by rw [z6]; exact hpost,xz _⟩
      simp [Builtin.copy_,run_underlying ht,hd,hL,ye hs,h1,hst']
   · exact zA _
 · exact zA _
theorem jq (z:Array Value) (n:Nat):Builtin.zeroCells z n=madeCells z (n*z.size):=rfl
theorem zPh {t:TypeId} {r:List TypeId} {x:Operand} (hrun:∀ w,(execOp ρ (xw o ty)).run P w=(do pure (.value (← Builtin.clear_ (t::r).toArray ty #[ρ x])):Sem Next).run P w) (ha:yG P ψ es tm E ρ [x]) :
 zD P ψ h n ρ o ty w (yU P (qE P E .clear (t::r) [x]) es tm h n):=by
 have hr:∀ {v:Value} {w':World},(Builtin.clear_ (t::r).toArray ty #[ρ x]).run P w=.ok v w'→(execOp ρ (xw o ty)).run P w=.ok (.value v) w':=by
  intro v w' hv; rw [hrun]; simp [hv]
 show zD P ψ h n ρ o ty w (yU P (match und P t with
  | some (.map _ _)=>xI P E .clearMap x
  | some (.slice e)=>match jR P e,x6 P e with
   | some z,some s=>xI P E (.clearSl z s) x
   | _,_=>.bad 9
  | _=>.bad 9) es tm h n)
 unfold und
 split
 · rename_i kt et ht
   refine zr (C:=zD P ψ h n ρ o ty w) zA fun c hc=>?_
   have hx:=ha x (by simp) c hc
   refine xC (C:=zD P ψ h n ρ o ty w) _ _ _ _ (zA _) (fun hv hrel _ _=>?_) fun b hv=>?_
   · rw [hv,yS] at hx
     exact ⟨w,.tuple #[],ψ,zR (hr (by simp [Builtin.clear_,run_underlying ht,hx])),yH.refl hrel,yW.2 ⟨_,rfl,zM.2 rfl⟩⟩
   · refine yZ (C:=zD P ψ h n ρ o ty w) _ _ _ (zA _) fun cs clock hl hrel _ _=>?_
     rw [hv,yq] at hx
     obtain ⟨p,hp,hx⟩:=hx
     obtain ⟨arr,h1,h2,hcp⟩:=hrel.on b _ p hl hp
     have hlt:=(hrel.on b _ p hl hp).lt
     have hpost:=qo (n:=n) hrel hl rfl hp (o':=.map [] clock) (ob:=.map #[] (p.ck clock)) ⟨#[],xZ _ hlt,xJ.nil,hcp⟩
     refine ⟨_,.tuple #[],ψ,zR (hr ?_),by rw [z6]; exact hpost,yW.2 ⟨_,rfl,zM.2 rfl⟩⟩
     simp [Builtin.clear_,run_underlying ht,hx,run_getObj_map h1,jU _ h1]
 · rename_i e ht
   split
   · rename_i z s hz hs
     refine zr (C:=zD P ψ h n ρ o ty w) zA fun c hc=>?_
     have hx:=ha x (by simp) c hc
     refine yV (C:=zD P ψ h n ρ o ty w) _ _ _ _ (zA _) (fun hv hrel _ _=>?_) fun b off len cap s' ex hv=>?_
     · rw [hv,zw] at hx
       exact ⟨w,.tuple #[],ψ,zR (hr (by simp [Builtin.clear_,run_underlying ht,hx])),yH.refl hrel,yW.2 ⟨_,rfl,zM.2 rfl⟩⟩
     · refine yb (C:=zD P ψ h n ρ o ty w) _ _ _ (zA _) fun vs hvs=>?_
       refine zG (C:=zD P ψ h n ρ o ty w) _ _ _ (zA _) fun hsing=>?_
       refine yX (C:=zD P ψ h n ρ o ty w) _ _ _ (zA _) fun l hl hrel _ _=>?_
       rw [hv,yF] at hx
       obtain ⟨p,x',cap',hp,hx,_,hlen,_,hor⟩:=hx
       obtain ⟨ti,zv,e1,e2,e3⟩:=qn hz
       have hzl:=(e3 ψ).length
       have hzs:zv.cells.size=z.length:=by simpa using hzl
       have hmade:zS ψ (k8 z len) (Builtin.zeroCells zv.cells len).toList:=by
        rw [jq,hzs]
        cases hzn:z.length with
        | zero=>
         have h0:z=[]:=by cases z <;> simp_all
         subst h0
         have:∀ m,k8 ([]:List CV) m=[]:=by intro m; induction m with
          | zero=>rfl
          | succ m ih=>show []++k8 [] m=[]; rw [ih]; rfl
         rw [this]
         exact zM.2 (by simp [madeCells,Array.range_zero'])
        | succ k=>exact zCm (e3 ψ) hzn len
       obtain ⟨w',hst,hpost⟩:=ka (P:=P) n hrel hvs hp hl hmade (by
        rw [vZ] at hsing ⊢
        have:∀ m,∀ c∈k8 z m,c∈z:=by
         intro m
         induction m with
         | zero=>intro c hc; cases hc
         | succ m ih=>
          intro c hc
          rcases List.mem_append.1 (show c∈z++k8 z m from hc) with h | h
          · exact h
          · exact ih c h
        exact fun c hc=>hsing c (this _ c hc))
       cases len with
       | zero=>
        have hz0:(Builtin.zeroCells zv.cells 0).toList=[]:=by rw [jq,Nat.zero_mul]; simp [madeCells,Array.range_zero']
        rw [hz0] at hst
        have:w'=w:=by
         have:(Result.ok () w:Result Unit)=.ok () w':=hst
         injection this with _ this; exact this.symm
        subst this
        refine ⟨w',.tuple #[],ψ,zR (hr ?_),by rw [z6]; exact hpost,yW.2 ⟨_,rfl,zM.2 rfl⟩⟩
        simp [Builtin.clear_,run_underlying ht,hx]
       | succ len=>
        have hxe:x'=p.off+off:=by
         rcases hor with ⟨e,_⟩ | e
         · exact e
         · omega
        refine ⟨w',.tuple #[],ψ,zR (hr ?_),by rw [z6]; exact hpost,yW.2 ⟨_,rfl,zM.2 rfl⟩⟩
        rw [hxe] at hx
        simp [Builtin.clear_,run_underlying ht,hx,zeroValue,jL e1,e2,hst]
   · exact zA _
 · exact zA _
end
end
end Go.Ev
namespace Go.Ev
variable [Sym]
open Go.MapKept
noncomputable section
variable {P:Program} {ψ:Psi} {es:List CV} {tm:Tm} {h:zC} {n:Key} {ρ:Operand→Value} {E:Env} {ty:TypeId} {w:World}
variable [SymFact P]
theorem zSQ {cs:List CV} {xs:List Value} {rest:Array Value} {ψ':Psi} {w:World} {e:TypeId} (hx:zS ψ' cs xs) :
 xM ψ' { w with heap:=w.heap.push (.cells (xs.toArray++rest) e) } ⟨w.heap.size,0,(xs.toArray++rest).size,fun n=>n⟩ (.cells cs):=by
 refine zG1 w _ e (m:=xs.length) ?_ (by simp)
 have:((xs.toArray++rest).toList.take xs.length)=xs:=by simp
 rw [this]; exact hx
theorem zRP {t u e ty:TypeId} {ud:TypeDesc} {r:List TypeId} {ti:TypeInfo} {zv:Value} {x:Value} {base:Option Addr} {sLen sCap L:Nat} {old new:List Value}
 (ht:P.underlying t=some (.slice e)) (hu:P.underlying u=some ud) (hni:∀ k,ud≠.int k) (e1:P.info? e=some ti) (e2:ti.zero=some zv)
 (hL:(Builtin.lenOf x).run P w=.ok L w) (h1:(Builtin.firstCells ti.size sLen (.slice base sLen sCap)).run P w.drew=.ok old.toArray w.drew)
 (h2:(Builtin.firstCells ti.size L x).run P w.drew=.ok new.toArray w.drew) (hlt:sCap<sLen+L) (hle:sLen+L≤100000) (hb:ti.bytes≤100000) :
 (Builtin.append_ (t::u::r).toArray ty #[.slice base sLen sCap,x]).run P w=.ok (.slice (some ⟨w.heap.size,0,none⟩) (sLen+L) (grownCap w (sLen+L) sCap e))
   (w.drew.alloc (.cells ((old++new).toArray++Builtin.zeroCells zv.cells (grownCap w (sLen+L) sCap e - (sLen+L))) e)):=by
 have hno:¬ (sLen+L≤sCap):=by omega
 have hbig:¬ (281474976710656<Builtin.nextslicecap (sLen+L) sCap*ti.bytes):=by
  have:=growslice_fits (bytes:=ti.bytes) hlt (by
   have:(sLen+L)*ti.bytes≤100000*100000:=Nat.mul_le_mul hle hb
   omega)
  omega
 have h63:¬ (9223372036854775807<((sLen:Int)+(L:Int))):=by omega
 have hsz:(sizeOf e).run P w=.ok ti.size w:=by simp [sizeOf,typeInfo,e1]
 have hti:∀ w,(typeInfo e).run P w=.ok ti w:=fun w=>jL e1 w
 have hzv:∀ w,(zeroValue e).run P w=.ok zv w:=fun w=>by simp [zeroValue,typeInfo,e1,e2]
 unfold Builtin.append_
 simp only [List.getElem?_toArray,List.getElem?_cons_zero,List.getElem?_cons_succ]
 rw [Sem.run_bind,run_underlying ht,Result.andThen_ok]
 simp only []
 rw [Sem.run_bind,hsz,Result.andThen_ok,Sem.run_bind,run_underlying hu,Result.andThen_ok,Sem.run_bind,Sem.run_pure]
 have hnb:¬ (((sLen+L:Nat):Int) > IntKind.i64.max∧(false=true∨ti.bytes=0)):=by
  rintro ⟨h,_⟩
  rw [IntKind.max_i64] at h
  omega
 have hbig':¬ (Builtin.nextslicecap (sLen+L) sCap*ti.bytes > 2 ^ 48):=by omega
 split
 · rename_i k
   exact absurd rfl (hni k)
 · rw [Result.andThen_ok,if_neg Bool.false_ne_true,Sem.run_bind,hL,Result.andThen_ok,if_neg hno,Sem.run_bind,hti,Result.andThen_ok,if_neg hnb,Sem.run_bind,hti,Result.andThen_ok,if_neg hbig',
    Sem.run_bind,run_choose_drew,if_neg (by simp [Question.forced]),Result.andThen_ok,Sem.run_bind,hti,Result.andThen_ok,Sem.run_bind,run_askRoom,Result.andThen_ok,Sem.run_bind,h1,Result.andThen_ok,
    if_pos (by rfl),Sem.run_bind,h2,Result.andThen_ok,Sem.run_bind,hzv,Result.andThen_ok,Sem.run_bind,newRow,Sem.run_bind,run_newObj,Result.andThen_ok,Sem.run_pure,Result.andThen_ok,Sem.run_pure]
   simp [grownCap]
   rfl
theorem zJX {t u e ty:TypeId} {ud:TypeDesc} {r:List TypeId} {ti:TypeInfo} {x:Value} {base:Option Addr} {sLen sCap L:Nat} {new:List Value} {w':World}
 (ht:P.underlying t=some (.slice e)) (hu:P.underlying u=some ud) (hni:∀ k,ud≠.int k) (e1:P.info? e=some ti)
 (hL:(Builtin.lenOf x).run P w=.ok L w) (h2:(Builtin.firstCells ti.size L x).run P w=.ok new.toArray w) (hle:sLen+L≤sCap)
 (hst:(match base with
   | some a=>storeCells (a.add (sLen*ti.size)) new
   | none=>pure ()).run P w=.ok () w') :
 (Builtin.append_ (t::u::r).toArray ty #[.slice base sLen sCap,x]).run P w=.ok (.slice base (sLen+L) sCap) w':=by
 have hsz:(sizeOf e).run P w=.ok ti.size w:=by simp [sizeOf,typeInfo,e1]
 unfold Builtin.append_
 simp only [List.getElem?_toArray,List.getElem?_cons_zero,List.getElem?_cons_succ]
 rw [Sem.run_bind,run_underlying ht,Result.andThen_ok]
 simp only []
 rw [Sem.run_bind,hsz,Result.andThen_ok,Sem.run_bind,run_underlying hu,Result.andThen_ok,Sem.run_bind,Sem.run_pure]
 split
 · rename_i k
   exact absurd rfl (hni k)
 · rw [Result.andThen_ok,if_neg Bool.false_ne_true,Sem.run_bind,hL,Result.andThen_ok,if_pos hle,Sem.run_bind,if_pos (by rfl),h2,Result.andThen_ok]
   cases base with
   | none=>
    have:(Result.ok () w:Result Unit)=.ok () w':=hst
    injection this with _ this
    subst this
    rfl
   | some a=>
    simp only at hst ⊢
    rw [Sem.run_bind,hst,Result.andThen_ok,Sem.run_pure]
theorem zSf (z:List CV) (k:Nat):(k8 z k).length=k*z.length:=by
 induction k with
 | zero=>simp [k8]
 | succ k ih=>simp [k8,ih,Nat.succ_mul,Nat.add_comm]
theorem zPK {t u e ty:TypeId} {k j:IntKind} {r:List TypeId} {ti:TypeInfo} {zv:Value} {x:Value} {base:Option Addr} {sLen sCap L:Nat} {old:List Value}
 (ht:P.underlying t=some (.slice e)) (hu:P.underlying u=some (.int k)) (e1:P.info? e=some ti) (e2:ti.zero=some zv) (hx:x=.int j (Int.ofNat L)) (hL:L≤1000)
 (h1:(Builtin.firstCells ti.size sLen (.slice base sLen sCap)).run P w.drew=.ok old.toArray w.drew) (hlt:sCap<sLen+L) (hle:sLen+L≤100000) (hb:ti.bytes≤100000) (hs0:0<ti.size) :
 (Builtin.append_ (t::u::r).toArray ty #[.slice base sLen sCap,x]).run P w=.ok (.slice (some ⟨w.heap.size,0,none⟩) (sLen+L) (grownCap w (sLen+L) sCap e))
   (w.drew.alloc (.cells ((old++(Builtin.zeroCells zv.cells L).toList).toArray++Builtin.zeroCells zv.cells (grownCap w (sLen+L) sCap e - (sLen+L))) e)):=by
 subst hx
 have hno:¬ (sLen+L≤sCap):=by omega
 have hbig:¬ (281474976710656<Builtin.nextslicecap (sLen+L) sCap*ti.bytes):=by
  have:=growslice_fits (bytes:=ti.bytes) hlt (by
   have:(sLen+L)*ti.bytes≤100000*100000:=Nat.mul_le_mul hle hb
   omega)
  omega
 have h63:¬ (9223372036854775807<((sLen:Int)+(L:Int))):=by omega
 have hsz:(sizeOf e).run P w=.ok ti.size w:=by simp [sizeOf,typeInfo,e1]
 have hti:∀ w,(typeInfo e).run P w=.ok ti w:=fun w=>jL e1 w
 have hzv:∀ w,(zeroValue e).run P w=.ok zv w:=fun w=>by simp [zeroValue,typeInfo,e1,e2]
 have hw:IntKind.i64.wrap (Int.ofNat L)=(L:Int):=by rw [IntKind.wrap_i64]; simp; omega
 have hl0:¬ ((L:Int)<0):=by omega
 have hlb:¬ ((L:Int)*(ti.bytes:Int) > 2 ^ 48):=by
  have:L*ti.bytes≤1000*100000:=Nat.mul_le_mul hL hb
  have h2:((L*ti.bytes:Nat):Int)=(L:Int)*(ti.bytes:Int):=by simp
  omega
 have hnb:¬ (((sLen+L:Nat):Int) > IntKind.i64.max∧(True∨ti.bytes=0)):=by
  rintro ⟨h,_⟩
  rw [IntKind.max_i64] at h
  omega
 have hbig':¬ (Builtin.nextslicecap (sLen+L) sCap*ti.bytes > 2 ^ 48):=by omega
 have hnew:(if L*ti.size=0 then pure #[] else do pure (Builtin.zeroCells (← zeroValue e).cells L):Sem (Array Value)).run P w.drew=.ok (Builtin.zeroCells zv.cells L) w.drew:=by
  by_cases h0:L*ti.size=0
  · have hL0:L=0:=by
     rcases Nat.mul_eq_zero.1 h0 with h | h
     · exact h
     · omega
    subst hL0
    rw [if_pos h0]
    simp [Builtin.zeroCells]
  · rw [if_neg h0,Sem.run_bind,hzv]
    rfl
 unfold Builtin.append_
 simp only [List.getElem?_toArray,List.getElem?_cons_zero,List.getElem?_cons_succ]
 rw [Sem.run_bind,run_underlying ht,Result.andThen_ok]
 simp only []
 rw [Sem.run_bind,hsz,Result.andThen_ok,Sem.run_bind,run_underlying hu,Result.andThen_ok,Sem.run_bind,Sem.run_pure,Result.andThen_ok,if_pos rfl]
 have hasI:(asInt (Value.int j (Int.ofNat L))).run P w=.ok (Int.ofNat L) w:=rfl
 simp only [Sem.run_bind,hasI,Sem.run_pure,Result.andThen_ok,hw,if_neg hl0,hti,if_neg hlb,Int.toNat_natCast]
 rw [if_neg hno]
 simp only [Sem.run_bind,hti,Result.andThen_ok,if_neg hnb,if_neg hbig',Sem.run_pure]
 rw [run_choose_drew,if_neg (by simp [Question.forced]),Result.andThen_ok,run_askRoom,Result.andThen_ok,h1,Result.andThen_ok,
  if_neg (by simp),hnew,Result.andThen_ok,hzv,Result.andThen_ok,newRow,Sem.run_bind,run_newObj,Result.andThen_ok,Sem.run_pure,Result.andThen_ok]
 have e3:(old++(Builtin.zeroCells zv.cells L).toList).toArray=old.toArray++Builtin.zeroCells zv.cells L:=by simp
 rw [e3]
 rfl
theorem zIB {t u e ty:TypeId} {k j:IntKind} {r:List TypeId} {ti:TypeInfo} {zv:Value} {x:Value} {base:Option Addr} {sLen sCap L:Nat} {w':World}
 (ht:P.underlying t=some (.slice e)) (hu:P.underlying u=some (.int k)) (e1:P.info? e=some ti) (e2:ti.zero=some zv) (hx:x=.int j (Int.ofNat L)) (hL:L≤1000) (hb:ti.bytes≤100000) (hs0:0<ti.size)
 (hle:sLen+L≤sCap)
 (hst:(match base with
   | some a=>storeCells (a.add (sLen*ti.size)) (Builtin.zeroCells zv.cells L).toList
   | none=>pure ()).run P w=.ok () w') :
 (Builtin.append_ (t::u::r).toArray ty #[.slice base sLen sCap,x]).run P w=.ok (.slice base (sLen+L) sCap) w':=by
 subst hx
 have hsz:(sizeOf e).run P w=.ok ti.size w:=by simp [sizeOf,typeInfo,e1]
 have hti:∀ w,(typeInfo e).run P w=.ok ti w:=fun w=>jL e1 w
 have hzv:∀ w,(zeroValue e).run P w=.ok zv w:=fun w=>by simp [zeroValue,typeInfo,e1,e2]
 have hw:IntKind.i64.wrap (Int.ofNat L)=(L:Int):=by rw [IntKind.wrap_i64]; simp; omega
 have hl0:¬ ((L:Int)<0):=by omega
 have hlb:¬ ((L:Int)*(ti.bytes:Int) > 2 ^ 48):=by
  have:L*ti.bytes≤1000*100000:=Nat.mul_le_mul hL hb
  have h2:((L*ti.bytes:Nat):Int)=(L:Int)*(ti.bytes:Int):=by simp
  omega
 have hnew:(if L*ti.size=0 then pure #[] else do pure (Builtin.zeroCells (← zeroValue e).cells L):Sem (Array Value)).run P w=.ok (Builtin.zeroCells zv.cells L) w:=by
  by_cases h0:L*ti.size=0
  · have hL0:L=0:=by
     rcases Nat.mul_eq_zero.1 h0 with h | h
     · exact h
     · omega
    subst hL0
    rw [if_pos h0]
    simp [Builtin.zeroCells]
  · rw [if_neg h0,Sem.run_bind,hzv]
    rfl
 unfold Builtin.append_
 simp only [List.getElem?_toArray,List.getElem?_cons_zero,List.getElem?_cons_succ]
 rw [Sem.run_bind,run_underlying ht,Result.andThen_ok]
 simp only []
 rw [Sem.run_bind,hsz,Result.andThen_ok,Sem.run_bind,run_underlying hu,Result.andThen_ok,Sem.run_bind,Sem.run_pure,Result.andThen_ok,if_pos rfl]
 have hasI:(asInt (Value.int j (Int.ofNat L))).run P w=.ok (Int.ofNat L) w:=rfl
 simp only [Sem.run_bind,hasI,Sem.run_pure,Result.andThen_ok,hw,if_neg hl0,hti,if_neg hlb,Int.toNat_natCast]
 rw [if_pos hle]
 simp only [Sem.run_bind]
 rw [if_neg (by simp),hnew,Result.andThen_ok]
 cases base with
 | none=>
  have:(Result.ok () w:Result Unit)=.ok () w':=hst
  injection this with _ this
  subst this
  rfl
 | some a=>
  simp only at hst ⊢
  rw [Sem.run_bind,hst,Result.andThen_ok,Sem.run_pure]
theorem zFP {g:Fam} {all:List Value} {cs:List CV} {need cap' sz:Nat} {zs:Array Value} {e:TypeId} (hrel:Rel ψ g w) (hr:n.room) (hnone:ψ n=none) (hv:zS ψ cs all)
 (hl:all.length=need*(sz+1)) (hz:zs.size=sz+1) (hcap:need≤cap') :
 ∃ ψ',yH ψ g n w ψ' (g.upd n (some (.cells cs))) n.succ (w.drew.alloc (.cells (all.toArray++Builtin.zeroCells zs (cap' - need)) e)) ∧
  zH ψ' (.sl n 0 need need (sz+1) false) (.slice (some ⟨w.heap.size,0,none⟩) need cap'):=by
 have hsize:(all.toArray++Builtin.zeroCells zs (cap' - need)).size=cap'*(sz+1):=by
  rw [jq,Array.size_append,size_madeCells,hz,List.size_toArray,hl,← Nat.add_mul]; congr 1; omega
 have hnw:New w (w.drew.alloc (.cells (all.toArray++Builtin.zeroCells zs (cap' - need)) e)):=
  ⟨by show (w.heap.push _).size=_; rw [Array.size_push],fun B hB=>by
   show (w.heap.push _)[B]? = _
   rw [Array.getElem?_push,if_neg (by omega)],rfl,rfl,rfl⟩
 have hobj:=zSQ (ψ':=ψ.upd n ⟨w.heap.size,0,cap'*(sz+1),fun n=>n⟩) (w:=w.drew) (e:=e) (rest:=Builtin.zeroCells zs (cap' - need)) (hv.mono (Psi.le_upd (ψ:=ψ) (k:=n) ⟨w.heap.size,0,cap'*(sz+1),fun n=>n⟩ hnone))
 rw [hsize] at hobj
 exact ⟨_,wc hrel hr hnone hnw hobj,yF.2 ⟨_,0,cap',Psi.upd_same _ _ _,rfl,hcap,hcap,by simp,.inl ⟨rfl,fun _=>by simp⟩⟩⟩
section
variable {o:Op}
theorem zOE {t u e:TypeId} {r:List TypeId} {s x:Operand} {ti:TypeInfo} {zv:Value} {sz L:Nat} {xs:List CV} {cs:zT}
 (hr:∀ {v:Value} {w':World},(Builtin.append_ (t::u::r).toArray ty #[ρ s,ρ x]).run P w=.ok v w'→(execOp ρ (xw o ty)).run P w=.ok (.value v) w')
 (hts:ti.size=sz+1) (hzs:zv.cells.size=sz+1) (hs:zH ψ (aV es tm cs) (ρ s)) (hxl:xs.length=L*(sz+1)) (hsing:xQ xs=true)
 (HIn:∀ w,qk ψ (zC.fam h) w→∃ ws:List Value,zS ψ xs ws∧∀ (base:Option Addr) (sLen sCap:Nat) (w':World),sLen+L≤sCap→(match base with
   | some a=>storeCells (a.add (sLen*ti.size)) ws
   | none=>pure ()).run P w=.ok () w'→(Builtin.append_ (t::u::r).toArray ty #[.slice base sLen sCap,ρ x]).run P w=.ok (.slice base (sLen+L) sCap) w')
 (HGr:∀ w,qk ψ (zC.fam h) w→∃ ws:List Value,zS ψ xs ws∧∀ (base:Option Addr) (sLen sCap:Nat) (old:List Value),(Builtin.firstCells ti.size sLen (.slice base sLen sCap)).run P w.drew=.ok old.toArray w.drew →
   sCap<sLen+L→sLen+L≤100000→(Builtin.append_ (t::u::r).toArray ty #[.slice base sLen sCap,ρ x]).run P w=.ok (.slice (some ⟨w.heap.size,0,none⟩) (sLen+L) (grownCap w (sLen+L) sCap e))
    (w.drew.alloc (.cells ((old++ws).toArray++Builtin.zeroCells zv.cells (grownCap w (sLen+L) sCap e - (sLen+L))) e))) :
 zD P ψ h n ρ o ty w (zG3 (sz+1) L xs (aV es tm cs) h n):=by
 unfold zG3
 refine yV (C:=zD P ψ h n ρ o ty w) _ _ _ _ (zA _) (fun hv=>?_) fun b off len cap s' ex hv=>?_
 · rw [hv,zw] at hs
   cases L with
   | zero=>
    intro hrel _ _
    obtain ⟨vs,h2,hin⟩:=HIn w hrel.on
    refine ⟨w,.slice none 0 0,ψ,zR (hr ?_),yH.refl hrel,zw.2 rfl⟩
    rw [hs]
    exact hin _ _ _ _ (Nat.le_refl _) rfl
   | succ k=>
    refine zG (C:=zD P ψ h n ρ o ty w) _ _ _ (zA _) fun hle=>?_
    have hle:k≤99999:=zL hle
    rw [zt]
    intro hrel hnew hroom
    have hroom':=Key.room_of_succ hroom
    have hix:=Key.ix_succ hroom'
    have hnone:ψ n=none:=hnew n (Nat.le_refl _) (by omega)
    obtain ⟨vs,h2,hgr⟩:=HGr w hrel.on
    have hrun':=hgr none 0 0 [] (by rfl) (by omega) (by omega)
    rw [Nat.zero_add] at hrun'
    obtain ⟨ψ',hpost,hval⟩:=zFP (e:=e) hrel hroom' hnone (all:=[]++vs) h2 (by rw [List.nil_append,h2.length,hxl]) hzs (grownCap_ge w (k+1) 0 e)
    exact ⟨_,_,ψ',zR (hr (by rw [hs]; exact hrun')),by rw [z6]; exact hpost,hval⟩
 · refine zG (C:=zD P ψ h n ρ o ty w) _ _ _ (zA _) fun hs'=>?_
   have hs':s'=sz+1:=yD hs'
   subst hs'
   refine w7 (C:=zD P ψ h n ρ o ty w) _ _ _ ?_ fun u vs hvs=>?_
   rotate_left
   · rw [zt]
     refine zG (C:=zD P ψ h n ρ o ty w) _ _ _ (zA _) fun hlee=>?_
     rw [Bool.and_eq_true] at hlee
     have hle:len+L≤100000:=zL hlee.2
     refine yX (C:=zD P ψ h n ρ o ty w) _ _ _ (zA _) fun old hold hrel hnew hroom=>?_
     rw [vP]
     rw [hv,yF] at hs
     obtain ⟨p,x',cap',hp,hs,hcap,hlen,hex,hor⟩:=hs
     have hroom':=Key.room_of_succ hroom
     have hix:=Key.ix_succ hroom'
     have hnone:ψ n=none:=hnew n (Nat.le_refl _) (by omega)
     have hfull:jW ψ w p u vs:=hrel.on b _ p hvs hp
     have hll:=jv vs
     have hlt:cap'<len+L:=by
      have hq:=hlee.1
      cases ex with
      | true=>
       have:=hex rfl
       have hq:cap+1≤len+L:=zL hq
       omega
      | false=>
       simp only [Bool.and_eq_true] at hq
       have q1:1≤len+L:=zL hq.1
       have q2:wz vs+1≤off+(len+L)*(sz+1):=zL hq.2
       rcases hor with ⟨e,h⟩ | e
       · have h:=h rfl
         have h3:p.off+vs.length=p.sz:=by
          obtain ⟨_,_,_,_,_,h3,_⟩:=hfull
          exact h3
         rcases Nat.lt_or_ge cap' (len+L) with hlt | hge
         · exact hlt
         · have:=Nat.mul_le_mul_right (sz+1) hge
           omega
       · omega
     obtain ⟨ws,h2,hgr⟩:=HGr w hrel.on
     obtain ⟨os,h3,h4⟩:=xk (P:=P) (w:=w.drew) (yc.toRo (jW.toCells (show xM ψ w.drew p (.full u vs) from xM.congr rfl hfull))) hold
     have h3':(Builtin.firstCells ti.size len (.slice (some ⟨p.blk,x',none⟩) len cap')).run P w.drew=.ok os.toArray w.drew:=by
      show (loadCells ⟨p.blk,x',none⟩ (len*ti.size)).run P w.drew=_
      rw [hts]
      rcases hor with ⟨e,_⟩ | e
      · rw [e]; exact h3
      · have h0:len=0:=by omega
        have hol:=h4.length
        rw [(qJ hold).1,h0] at hol
        have:os=[]:=by
         cases os with
         | nil=>rfl
         | cons a b=>simp at hol
        subst this
        rw [h0,Nat.zero_mul]; rfl
     have hrun':=hgr (some ⟨p.blk,x',none⟩) len cap' os h3' hlt hle
     have hol:old.length=len*(sz+1):=(qJ hold).1
     obtain ⟨ψ',hpost,hval⟩:=zFP (e:=e) hrel hroom' hnone (h4.append h2) (by rw [List.length_append,h4.length,h2.length,hol,hxl,Nat.add_mul]) hzs (grownCap_ge w (len+L) cap' e)
     exact ⟨_,_,ψ',zR (hr (by rw [hs]; exact hrun')),by rw [z6]; exact hpost,hval⟩
   refine yb (C:=zD P ψ h n ρ o ty w) _ _ _ (zA _) fun vs hvs=>?_
   rw [zt,ja]
   rw [hv,yF] at hs
   obtain ⟨p,x',cap',hp,hs,hcap,hlen,hex,hor⟩:=hs
   split
   · rename_i hle
     have hle:len+L≤cap:=zL hle
     refine yX (C:=zD P ψ h n ρ o ty w) _ _ _ (zA _) fun l hl hrel _ _=>?_
     obtain ⟨ws,h2,hin⟩:=HIn w hrel.on
     obtain ⟨w',hst,hpost⟩:=ka (P:=P) n hrel hvs hp hl h2 hsing
     refine ⟨w',.slice (some ⟨p.blk,x',none⟩) (len+L) cap',ψ,zR (hr ?_),by rw [z6]; exact hpost,
      yF.2 ⟨p,x',cap',hp,rfl,hcap,Nat.le_trans hle hcap,hex,hor⟩⟩
     rw [hs]
     refine hin _ _ _ _ (Nat.le_trans hle hcap) ?_
     simp only
     rw [xN,hts]
     rcases hor with ⟨e,_⟩ | e
     · rw [e,Nat.add_assoc]; exact hst
     · have h0:L=0:=by omega
       subst h0
       have hxl2:=h2.length
       have:ws=[]:=by
        rw [hxl,Nat.zero_mul] at hxl2
        cases ws <;> simp_all
       subst this
       have:(Result.ok () w:Result Unit)=.ok () w':=hst
       rw [← this]; rfl
   · rename_i hnle
     have hnle:cap<len+L:=by
      rcases Nat.lt_or_ge cap (len+L) with h | h
      · exact h
      · exact absurd (Nat.ble_eq_true_of_le h) hnle
     refine zG (C:=zD P ψ h n ρ o ty w) _ _ _ (zA _) fun hle=>?_
     have hle:len+L≤100000:=zL hle
     refine yX (C:=zD P ψ h n ρ o ty w) _ _ _ (zA _) fun old hold hrel hnew hroom=>?_
     rw [vP]
     have hroom':=Key.room_of_succ hroom
     have hix:=Key.ix_succ hroom'
     have hnone:ψ n=none:=hnew n (Nat.le_refl _) (by omega)
     have hcells:=hrel.on b _ p hvs hp
     have grow:cap'<len+L→∀ g,Rel ψ g w→yH ψ (zC.fam h) n w ψ g n w→∃ w' x ψ',kS P ρ o ty w w' x∧yH ψ (zC.fam h) n w ψ' (g.upd n (some (.cells (old++xs)))) n.succ w' ∧
      zH ψ' (.sl n 0 (len+L) (len+L) (sz+1) false) x:=by
      intro hlt g hg hpost0
      obtain ⟨ws,h2,hgr⟩:=HGr w hrel.on
      obtain ⟨os,h3,h4⟩:=xk (P:=P) (w:=w.drew) (yc.toRo (show xM ψ w.drew p (.cells vs) from xM.congr rfl hcells)) hold
      have h3':(Builtin.firstCells ti.size len (.slice (some ⟨p.blk,x',none⟩) len cap')).run P w.drew=.ok os.toArray w.drew:=by
       show (loadCells ⟨p.blk,x',none⟩ (len*ti.size)).run P w.drew=_
       rw [hts]
       rcases hor with ⟨e,_⟩ | e
       · rw [e]; exact h3
       · have h0:len=0:=by omega
         have hol:=h4.length
         rw [(qJ hold).1,h0] at hol
         have:os=[]:=by
          cases os with
          | nil=>rfl
          | cons a b=>simp at hol
         subst this
         rw [h0,Nat.zero_mul]; rfl
      have hrun':=hgr (some ⟨p.blk,x',none⟩) len cap' os h3' hlt hle
      have hol:old.length=len*(sz+1):=(qJ hold).1
      obtain ⟨ψ',hpost,hval⟩:=zFP (e:=e) hg hroom' hnone (h4.append h2) (by rw [List.length_append,h4.length,h2.length,hol,hxl,Nat.add_mul]) hzs (grownCap_ge w (len+L) cap' e)
      exact ⟨_,_,ψ',zR (hr (by rw [hs]; exact hrun')),hpost0.trans hpost,hval⟩
     cases ex with
     | true=>
      have:=hex rfl
      obtain ⟨w',x,ψ',h1,h2,h3⟩:=grow (by omega) _ hrel (yH.refl hrel)
      exact ⟨w',x,ψ',h1,by rw [z6]; exact h2,h3⟩
     | false=>
      rcases Nat.lt_or_ge cap' (len+L) with hlt | hge
      · have hdel:=zSd (n:=n) hrel b
        obtain ⟨w',x,ψ',h1,h2,h3⟩:=grow hlt _ hdel.rel hdel
        exact ⟨w',x,ψ',h1,by rw [z6,z6]; exact h2,h3⟩
      · -- it goes on in its place
        obtain ⟨ws,h2,hin⟩:=HIn w hrel.on
        obtain ⟨e0,hbound⟩:x'=p.off+off∧x'+cap'*(sz+1)=p.sz:=by
         rcases hor with ⟨e,h⟩ | e
         · exact ⟨e,h rfl⟩
         · omega
        obtain ⟨arr,el,fz,c1,c2,c3,c4,c5⟩:=hcells
        have hol:old.length=len*(sz+1):=(qJ hold).1
        have hwl:ws.length=L*(sz+1):=by rw [h2.length,hxl]
        have hfit:(len+L)*(sz+1)≤cap'*(sz+1):=Nat.mul_le_mul_right _ hge
        rw [Nat.add_mul] at hfit
        have hst:=wj (P:=P) p.blk (x'+len*(sz+1)) el fz ws 0 arr w c1 (by rw [c2]; exact c4) (by omega) (zD4 h2 hsing)
        have hlt:=(hrel.on b _ p hvs hp).lt
        have hle':=Psi.le_upd (ψ:=ψ) (k:=n) ⟨p.blk,x',p.sz,p.ck⟩ hnone
        have hpost:=zHF (n:=n) (p':=⟨p.blk,x',p.sz,p.ck⟩) (o':=.cells (old++xs)) hrel hroom' hnone hvs rfl hp rfl
         (ob:=.cells (arr.toList.take (x'+len*(sz+1)+0)++ws++arr.toList.drop (x'+len*(sz+1)+0+ws.length)).toArray el fz) (by
           refine ⟨_,el,fz,xZ _ hlt,by simp; omega,by simp only [List.length_append,hol,hxl]; omega,c4,fun i c hi=>?_⟩
           simp only [Nat.add_zero,List.getElem?_toArray]
           have htake:(arr.toList.take (x'+len*(sz+1))).length=x'+len*(sz+1):=by simp; omega
           by_cases hi':i<len*(sz+1)
           · rw [List.getElem?_append_left (by omega),(qJ hold).2 i hi'] at hi
             obtain ⟨y,hy,hyr⟩:=c5 _ c hi
             refine ⟨y,?_,hyr.mono hle'⟩
             rw [List.append_assoc,List.getElem?_append_left (by omega),List.getElem?_take_of_lt (by omega),e0,Nat.add_assoc]
             simpa using hy
           · rw [List.getElem?_append_right (by omega),hol] at hi
             obtain ⟨y,hy,hyr⟩:=h2.get hi
             refine ⟨y,?_,hyr.mono hle'⟩
             have hyl:i - len*(sz+1)<ws.length:=by
              rcases Nat.lt_or_ge (i - len*(sz+1)) ws.length with h | h
              · exact h
              · rw [List.getElem?_eq_none h] at hy; cases hy
             rw [List.append_assoc,List.getElem?_append_right (by omega),htake,List.getElem?_append_left (by omega)]
             rw [show x'+i - (x'+len*(sz+1))=i - len*(sz+1) from by omega]; exact hy)
        refine ⟨_,.slice (some ⟨p.blk,x',none⟩) (len+L) cap',ψ.upd n ⟨p.blk,x',p.sz,p.ck⟩,zR (hr ?_),by rw [z6,z6]; exact hpost,
         yF.2 ⟨_,x',cap',Psi.upd_same _ _ _,rfl,hge,hge,by simp,.inl ⟨rfl,fun _=>hbound⟩⟩⟩
        rw [hs]
        refine hin _ _ _ _ hge ?_
        simp only
        rw [xN,hts]
        exact hst
theorem zL8 {t u:TypeId} {r:List TypeId} {s x:Operand} (hrun:∀ w,(execOp ρ (xw o ty)).run P w=(do pure (.value (← Builtin.append_ (t::u::r).toArray ty #[ρ s,ρ x])):Sem Next).run P w) (ha:yG P ψ es tm E ρ [s,x]) :
 zD P ψ h n ρ o ty w (yU P (qE P E .append (t::u::r) [s,x]) es tm h n):=by
 have hr:∀ {v:Value} {w':World},(Builtin.append_ (t::u::r).toArray ty #[ρ s,ρ x]).run P w=.ok v w'→(execOp ρ (xw o ty)).run P w=.ok (.value v) w':=by
  intro v w' hv; rw [hrun]; simp [hv]
 show zD P ψ h n ρ o ty w (yU P (match und P t,und P u with
  | some (.slice e),some ud=>match ud with
   | .int _=>match x6 P e,ug P e,jR P e with
    | some (sz+1),some b,some z=>if Nat.ble b 100000&&Nat.beq z.length (sz+1) then jM P E (.appz z (sz+1)) s x else .bad 4
    | _,_,_=>.bad 4
   | _=>match x6 P e,ug P e,jR P e with
    | some (sz+1),some b,some z=>if Nat.ble b 100000&&Nat.beq z.length (sz+1) then jM P E (.append (sz+1) b) s x else .bad 4
    | _,_,_=>.bad 4
  | _,_=>.bad 4) es tm h n)
 unfold und
 split
 · rename_i e ud ht hu
   split
   · rename_i kd
     split
     · rename_i sz bb z hsz hbb hz
       split
       · rename_i hok
         rw [Bool.and_eq_true] at hok
         have hb1:=zL hok.1
         have hzl:=yD hok.2
         obtain ⟨ti,zv,e1,e2,e3⟩:=qn hz
         have hts:=zDD e1 hsz
         have htb:=uV e1 hbb
         have hzs:zv.cells.size=sz+1:=by have:=(e3 ψ).length; rw [hzl] at this; simpa using this
         refine y7 (C:=zD P ψ h n ρ o ty w) zA fun cs cx hcs hcx=>?_
         have hs:=ha s (by simp) cs hcs
         have hx:=ha x (by simp) cx hcx
         show zD P ψ h n ρ o ty w (zOn z (sz+1) cs cx es tm h n)
         unfold zOn
         refine ya (C:=zD P ψ h n ρ o ty w) _ _ _ (zA _) fun k hk=>?_
         obtain ⟨j,hxv⟩:=uX hx hk
         refine zG (C:=zD P ψ h n ρ o ty w) _ _ _ (zA _) fun hk1=>?_
         have hk1:k≤1000:=zL hk1
         rw [zt]
         refine zG (C:=zD P ψ h n ρ o ty w) _ _ _ (zA _) fun hsing=>?_
         have hrel0:zS ψ (k8 z k) (Builtin.zeroCells zv.cells k).toList:=by
          rw [jq,hzs]
          exact zCm (e3 ψ) hzl k
         have hlen:(k8 z k).length=k*(sz+1):=by rw [zSf,hzl]
         exact zOE hr hts hzs hs hlen hsing
          (fun w _=>⟨_,hrel0,fun base sLen sCap w' hle hst=>zIB ht hu e1 e2 hxv hk1 (by rw [htb]; exact hb1) (by omega) hle hst⟩)
          (fun w _=>⟨_,hrel0,fun base sLen sCap old h3 hlt hle=>zPK ht hu e1 e2 hxv hk1 h3 hlt hle (by rw [htb]; exact hb1) (by omega)⟩)
       · exact zA _
     · exact zA _
   · rename_i hni
     split
     · rename_i sz bb z hsz hbb hz
       split
       · rename_i hok
         rw [Bool.and_eq_true] at hok
         have hb1:=zL hok.1
         have hzl:=yD hok.2
         obtain ⟨ti,zv,e1,e2,e3⟩:=qn hz
         have hts:=zDD e1 hsz
         have htb:=uV e1 hbb
         have hzs:zv.cells.size=sz+1:=by have:=(e3 ψ).length; rw [hzl] at this; simpa using this
         refine y7 (C:=zD P ψ h n ρ o ty w) zA fun cs cx hcs hcx=>?_
         have hs:=ha s (by simp) cs hcs
         have hx:=ha x (by simp) cx hcx
         show zD P ψ h n ρ o ty w (zA3 (sz+1) bb cs cx es tm h n)
         unfold zA3
         have hunder:∀ w,(underlying u).run P w=.ok ud w:=fun w=>run_underlying hu w
         have hni':∀ k,ud≠.int k:=fun k e=>hni k e
         refine zAO (P:=P) (C:=zD P ψ h n ρ o ty w) hx (sz+1) (fun k=>k) (fun l=>Nat.le_refl l) _ _ (zA _) fun L xs hL hfirst hxl=>?_
         refine zG (C:=zD P ψ h n ρ o ty w) _ _ _ (zA _) fun hsing=>?_
         exact zOE hr hts hzs hs hxl hsing
          (fun w hrel=>by
            obtain ⟨ws,h1,h2⟩:=hfirst w hrel
            exact ⟨ws,h2,fun base sLen sCap w' hle hst=>zJX ht hu hni' e1 (hL w) (by rw [hts]; exact h1) hle hst⟩)
          (fun w hrel=>by
            obtain ⟨ws,h1,h2⟩:=hfirst w.drew (hrel.congr rfl)
            exact ⟨ws,h2,fun base sLen sCap old h3 hlt hle=>zRP ht hu hni' e1 e2 (hL w) h3 (by rw [hts]; exact h1) hlt hle (by rw [htb]; exact hb1)⟩)
       · exact zA _
     · exact zA _
 · exact zA _
end
end
end Go.Ev
