/- A verified evaluator for the model's code: EvBag, EvNam. -/
import Derived.Test.YtkolecenifiaaaaGreatDoorEvSeen
set_option linter.unusedSectionVars false
set_option linter.unusedVariables false
set_option linter.unusedSimpArgs false
namespace Go.Ev
open Go.RowKit Go.Maps Go.MapKept
open Go.Proofs (encStr)
noncomputable section
variable [Sym]
variable {P:Program}
variable [SymFact P]
def zEr (e:CE):List CE→Bool
 | []=>true
 | x::r=>!Nat.beq x.born e.born&&(match qL .str x.key e.key with
  | some false=>true
  | _=>false)&&zEr e r
def zTk:CV→Bool
 | .str s=>Nat.ble (zBM s) 1000000
 | .sst l=>Nat.ble (wz l) 1000000
 | _=>false
def zFw (clock:Nat):List CE→Bool
 | []=>true
 | e::r=>zTk e.key&&Nat.ble (Nat.succ e.born) clock&&zEr e r&&zFw clock r
def namesB:NatF:=fun _ d args h n=>match d with
 | true=>.err 462
 | false=>match args with
  | [.map b]=>match zn b h with
   | some (.map es clock)=>match zFw clock es&&Nat.ble (zMi es) 1000000 with
    | true=>match es with
     | []=>.ret .nilsl h n
     | e::r=>jr (Nat.succ r.length) fun m=>.ret (.sl n 0 m m 1 false) (yu (some (.bag ((e::r).map CE.key))) n h) n.succ
    | false=>.err 463
   | _=>.err 460
  | [.nilmap]=>.ret .nilsl h n
  | _=>.err 461
theorem zJg (d:Bool) (args:List CV) (h:zC) (n:Key):zk n (namesB ‹Sym› d args h n):=by
 unfold namesB
 split
 · trivial
 · split
   · split
     · split
       · split
         · exact Nat.le_refl _
         · rw [show ∀ (m:Nat) (k:Nat→R),jr m k=k m from fun m k=>by cases m <;> rfl]
           exact Key.ix_le_succ _
       · trivial
     · trivial
   · exact Nat.le_refl _
   · trivial
theorem zES {ψ:Psi} {c:CV} {v:Value} (h:zTk c=true) (hv:zH ψ c v):∃ k:List UInt8,v=encStr k∧k.length≤1000000:=by
 cases c <;> try (cases h)
 · rename_i s
   rw [ze] at hv
   obtain ⟨b,rfl,q⟩:=hv
   refine ⟨b.data.toList,by simp [encStr],?_⟩
   have:=zL h
   rw [w5,← q,zBC,List.length_map] at this
   exact this
 · rename_i l
   rw [zy] at hv
   obtain ⟨b,rfl,q⟩:=hv
   refine ⟨b.data.toList,by simp [encStr],?_⟩
   have:=zL h
   rw [jv] at this
   have q:=q.length
   rw [List.length_map] at q
   omega
theorem zP2 (P:Program) [SymFact P] {ψ:Psi} {a b:CV} {u v:Value} (ha:zH ψ a u) (hb:zH ψ b v) (h:qL .str a b=some false):u≠v:=by
 have str:∀ {c:CV} {z:Value},zH ψ c z→(∃ s,c=.str s)∨(∃ s,c=.sst s)→∃ s,z=.string s:=by
  intro c z hz hc
  rcases hc with ⟨s,rfl⟩ | ⟨s,rfl⟩
  · obtain ⟨b,h,_⟩:=ze.1 hz; exact ⟨b,h⟩
  · obtain ⟨b,h,_⟩:=zy.1 hz; exact ⟨b,h⟩
 have same:∀ {s q:ByteArray},Instr.sameNow .string (.string s) (.string q)=some false→Value.string s≠Value.string q:=by
  intro s q h e
  injection e with e
  subst e
  have h:some (s == s)=some false:=h
  rw [(bytes_beq s s).2 rfl] at h
  cases h
 unfold qL at h
 split at h <;> first | contradiction | skip
 · rename_i x y e
   obtain ⟨s,rfl⟩:=str ha (.inl ⟨_,rfl⟩)
   obtain ⟨q,rfl⟩:=str hb (.inl ⟨_,rfl⟩)
   intro e
   injection e with e
   subst e
   obtain ⟨b1,q1,q2⟩:=ze.1 ha
   obtain ⟨b2,q3,q4⟩:=ze.1 hb
   injection q1 with q1
   injection q3 with q3
   subst q1 q3
   rw [← q2,← q4,jB] at h
   simp at h
 · obtain ⟨s,rfl⟩:=str ha (.inr ⟨_,rfl⟩)
   obtain ⟨q,rfl⟩:=str hb (.inr ⟨_,rfl⟩)
   exact same (qI P ⟨_,rfl⟩ ⟨_,rfl⟩ ha hb h).1
 · obtain ⟨s,rfl⟩:=str ha (.inr ⟨_,rfl⟩)
   obtain ⟨q,rfl⟩:=str hb (.inl ⟨_,rfl⟩)
   exact same (qI P ⟨_,rfl⟩ ⟨_,rfl⟩ ha hb h).1
 · obtain ⟨s,rfl⟩:=str ha (.inl ⟨_,rfl⟩)
   obtain ⟨q,rfl⟩:=str hb (.inr ⟨_,rfl⟩)
   exact same (qI P ⟨_,rfl⟩ ⟨_,rfl⟩ ha hb h).1
theorem zBV (P:Program) [SymFact P] {ψ:Psi} {ck:Nat→Nat} (hck:∀ a b,ck a=ck b ↔ a=b) {e:CE} {x:MapEntry} (hx:zBj ψ ck e x):∀ {es:List CE} {l:List MapEntry},yM ψ ck es l→zEr e es=true→∀ y∈l,y.born≠x.born∧y.key≠x.key
 | [],l,h,_=>by
  have h:l=[]:=h
  subst h; intro y hy; cases hy
 | c::es,l,h,hu=>by
  obtain ⟨z,r,rfl,hz,hr⟩:=h
  unfold zEr at hu
  rw [Bool.and_eq_true,Bool.and_eq_true] at hu
  intro y hy
  rcases List.mem_cons.1 hy with rfl | hy
  · refine ⟨fun e1=>?_,?_⟩
    · have:=hu.1.1
      rw [hz.2.2,hx.2.2,hck] at e1
      rw [e1,qe] at this; cases this
    · have h2:=hu.1.2
      split at h2
      · rename_i hk
        exact zP2 P hz.1 hx.1 hk
      · cases h2
  · exact zBV P hck hx hr hu.2 y hy
theorem zGZ (P:Program) [SymFact P] {ψ:Psi} {ck:Nat→Nat} {clock:Nat} (hck:wL ck clock):∀ {es:List CE} {l:List MapEntry},yM ψ ck es l→zFw clock es=true→∃ ks:List (List UInt8),l.map (fun e=>e.key)=ks.map encStr∧(∀ k∈ks,k.length≤1000000) ∧
 (∀ x∈l,x.born<ck clock)∧(l.map (fun e=>e.born)).Nodup∧l.Pairwise (fun x y=>x.key≠y.key)∧zS ψ (es.map CE.key) (l.map fun e=>e.key)
 | [],l,h,_=>by
  have h:l=[]:=h
  subst h
  exact ⟨[],rfl,by simp,by simp,by simp,List.Pairwise.nil,zM.2 rfl⟩
 | c::es,l,h,hu=>by
  obtain ⟨x,r,rfl,hx,hr⟩:=h
  unfold zFw at hu
  rw [Bool.and_eq_true,Bool.and_eq_true,Bool.and_eq_true] at hu
  obtain ⟨ks,h2,h3,h4,h5,h6,h7⟩:=zGZ P hck hr hu.2
  have hun:=zBV P (fun _ _=>hck.inj) hx hr hu.1.2
  obtain ⟨key,q1,q2⟩:=zES hu.1.1.1 hx.1
  refine ⟨key::ks,?_,?_,?_,?_,?_,?_⟩
  · show x.key::_=_
    rw [h2,q1]; rfl
  · intro k hk'
    rcases List.mem_cons.1 hk' with rfl | hk'
    · exact q2
    · exact h3 k hk'
  · intro y hy
    rcases List.mem_cons.1 hy with rfl | hy
    · rw [hx.2.2]; exact (hck.here _).1 (zL hu.1.1.2)
    · exact h4 y hy
  · show (x.born::r.map _).Nodup
    refine List.nodup_cons.2 ⟨fun hm=>?_,h5⟩
    obtain ⟨y,hy,e⟩:=List.mem_map.1 hm
    exact (hun y hy).1 e
  · exact List.pairwise_cons.2 ⟨fun y hy e=>(hun y hy).2 e.symm,h6⟩
  · exact zW.2 ⟨hx.1,h7⟩
theorem zIw (P:Program) [SymFact P] {ψ:Psi} {ck:Nat→Nat} {clock:Nat} (hck:wL ck clock) {es:List CE} {l:List MapEntry} (hm:xJ ψ ck es l) (ho:zFw clock es=true):∃ (ks:List (List UInt8)) (vs:List Value),l.map (fun e=>e.key)=ks.map encStr∧(∀ k∈ks,k.length≤1000000) ∧
 (∀ x∈l,x.born<ck clock)∧(l.map (fun e=>e.born)).Nodup∧l.Pairwise (fun x y=>x.key≠y.key)∧zS ψ (es.map CE.key) vs∧(l.map fun e=>e.key).Perm vs:=by
 obtain ⟨l',hp,hc⟩:=hm
 obtain ⟨ks0,h2,h3,h4,h5,h6,h7⟩:=zGZ P hck hc ho
 obtain ⟨ks,g1,g2⟩:=zAR (A:=l.map fun e=>e.key) (f:=encStr) (l:=ks0) (by rw [← h2]; exact (hp.map _).symm)
 exact ⟨ks,_,g2,fun k hk=>h3 k (g1.mem_iff.1 hk),fun x hx=>h4 x (hp.mem_iff.2 hx),(hp.map _).nodup_iff.1 h5,(hp.pairwise_iff fun h e=>h e.symm).1 h6,h7,(hp.map _).symm⟩
theorem zL0 {f:FuncId} {k:TypeId} (hf:NamesFn P f k) {args:List CV} {h:zC} {n:Key} {ψ:Psi} {w:World} {args':Array Value} (ha:zS ψ args args'.toList) (hrel:Rel ψ (zC.fam h) w) (hfr:xc ψ n)
 (hc:zf (namesB ‹Sym› false args h n)):yR P f args' w (zl ψ (zC.fam h) n w (namesB ‹Sym› false args h n)):=by
 unfold yR
 rw [hf.enter]
 show Calls P f args' w fun e w''=>∃ v,e=.returned v∧zl ψ (zC.fam h) n w (namesB ‹Sym› false args h n) v w''
 unfold namesB at hc ⊢
 simp only at hc ⊢
 split at hc
 · rename_i b
   rw [zd] at ha
   obtain ⟨v,r,e1,hv,hr⟩:=ha
   rw [zM] at hr; subst hr
   rw [yq] at hv
   obtain ⟨p,hp,rfl⟩:=hv
   obtain rfl:args'=#[.map (some p.blk)]:=by cases args'; simp_all
   split at hc
   · rename_i es clock hg
     split at hc
     · rename_i hok
       rw [Bool.and_eq_true] at hok
       have ho:=hrel.on b (.map es clock) p hg hp
       obtain ⟨arr,hheap,hce,hck⟩:=ho
       obtain ⟨ks,vs,h2,h3,h4,h5,h6,hvs,hpv⟩:=zIw P hck hce hok.1
       have hlen:arr.size=es.length:=by
        have:=hce.length
        rwa [Array.length_toList] at this
       have hle:=zL hok.2
       rw [zAU] at hle
       have hkl:ks.length=arr.size:=by
        have:=congrArg List.length h2
        simpa using this.symm
       have hread:∀ x∈arr.toList,∃ key:List UInt8,key∈ks∧x.key=encStr key∧Go.WideElems.rd P k R0 x=some (.string key,.nil):=by
        intro x hx
        have hm:x.key∈ks.map encStr:=by rw [← h2]; exact List.mem_map.2 ⟨x,hx,rfl⟩
        obtain ⟨key,hk,e⟩:=List.mem_map.1 hm
        refine ⟨key,hk,e.symm,?_⟩
        have hlen:=h3 key hk
        have hko:keyOf P k x.key=some (.string key):=by
         rw [← e]
         have:(⟨key.toArray⟩:ByteArray).size≤maxLen:=by
          show key.toArray.size≤maxLen
          rw [List.size_toArray]; unfold maxLen; omega
         have:=Go.WideMaps.keyOf_string_mk (k:=k) hf.kstr this
         simpa [encStr] using this
        unfold Go.WideElems.rd
        rw [hko]
        rfl
       have hfit:Go.WideElems.Fit P k R0 arr (p.ck clock):=by
        refine ⟨by rw [hlen]; unfold maxLen; omega,?_,fun x hx=>?_⟩
        · exact (Go.MapKept.stamped_iff arr (p.ck clock)).2 ⟨h4,h5,h6⟩
        · obtain ⟨key,_,_,hr⟩:=hread x hx
          exact ⟨_,hr⟩
       have hown:w.ownsMap P k R0 p.blk arr.size (.map ((arr.toList.map (Go.WideElems.rg P k R0)).foldr DataW.insert [])):=⟨arr,p.ck clock,hheap,hfit,Nat.le_refl _,rfl⟩
       have hsize:Maps.size (DataW.map ((arr.toList.map (Go.WideElems.rg P k R0)).foldr DataW.insert []))=arr.size:=by
        rw [Maps.size_eq]
        have:=(Go.WideShapes.sorted_perm (arr.toList.map (Go.WideElems.rg P k R0))).length_eq
        rw [this]; simp
       have hkeys:(strKeys (DataW.map ((arr.toList.map (Go.WideElems.rg P k R0)).foldr DataW.insert []))).Perm ks:=by
        have hp1:((arr.toList.map (Go.WideElems.rg P k R0)).foldr DataW.insert []).Perm (arr.toList.map (Go.WideElems.rg P k R0)):=Go.WideShapes.sorted_perm _
        refine (hp1.map fun q=>strOf q.1).trans ?_
        have:(arr.toList.map (Go.WideElems.rg P k R0)).map (fun q=>strOf q.1)=ks:=by
         have hinj:((arr.toList.map (Go.WideElems.rg P k R0)).map (fun q=>strOf q.1)).map encStr=ks.map encStr:=by
          rw [← h2,List.map_map,List.map_map]
          refine List.map_congr_left fun x hx=>?_
          obtain ⟨key,_,e,hr⟩:=hread x hx
          show encStr (strOf (Go.WideElems.rg P k R0 x).1)=x.key
          unfold Go.WideElems.rg
          rw [hr,e]; rfl
         have inj:∀ (a b:List (List UInt8)),a.map encStr=b.map encStr→a=b:=by
          intro a
          induction a with
          | nil=>intro b h; cases b with
           | nil=>rfl
           | cons _ _=>cases h
          | cons x a ih=>intro b h; cases b with
           | nil=>cases h
           | cons y b=>
            injection h with e1 e2
            rw [encStr_inj e1,ih b e2]
         exact inj _ _ hinj
        rw [this]
       refine Calls.mono (hf.some_ p.blk arr.size _ w hown (by rw [hsize,hlen]; unfold maxLen; omega) (by rw [hsize,hlen]; omega)) fun e w' ⟨v,ss,e1,hperm,hrow,hnil,hbelow⟩=>⟨v,e1,?_⟩
       have hperm':((ss.mergeSort fun x y=>decide (x≤y)).map encStr).Perm vs:=by
        have e1:((ss.mergeSort fun x y=>decide (x≤y)).map encStr).Perm (ks.map encStr):=((List.mergeSort_perm _ _).trans (hperm.trans hkeys)).map _
        rw [← h2] at e1
        exact e1.trans hpv
       have hvl:vs.length=es.length:=by have:=hvs.length; rw [this,List.length_map]
       have hsl:ss.length=es.length:=by
        have:=hperm'.length_eq
        rw [List.length_map,List.length_mergeSort] at this
        omega
       split at hc
       · have hss:ss=[]:=List.length_eq_zero_iff.1 hsl
         rw [hnil.2 hss]
         exact ⟨ψ,qj hrel hbelow,zw.2 rfl⟩
       · rename_i e0 es0
         rw [show ∀ (m:Nat) (k:Nat→R),jr m k=k m from fun m k=>by cases m <;> rfl] at hc ⊢
         have hslen:ss.length=es0.length+1:=hsl
         have hroom:n.room:=Key.room_of_succ (k:=n) hc
         have hnone:=hfr n (Nat.le_refl _)
         rcases hrow.2 with ⟨_,h0⟩ | ⟨g,cap,cur,rfl,hge,hcell,hncap,hcapm,hcs,htake⟩
         · omega
         · refine ⟨ψ.upd n ⟨g,0,cur.size,fun n=>n⟩,?_,?_⟩
           · rw [z6]
             refine zBF (p:=⟨g,0,cur.size,fun n=>n⟩) hrel hroom hnone hbelow hge ?_
             refine ⟨cur,k,(0,0),vs,hcell,hvs.mono (Psi.le_upd _ hnone),?_⟩
             rw [List.drop_zero,List.length_map,show (e0::es0).length=ss.length from hsl.symm,show cur.toList.take ss.length=_ from (by first | exact htake | simpa using htake)]
             exact hperm'
           · rw [yF]
             refine ⟨_,0,cap,Psi.upd_same _ _ _,by rw [hslen],?_,?_,by simp,.inl ⟨rfl,fun _=>?_⟩⟩
             · omega
             · omega
             · simp only; omega
     · exact hc.elim
   · exact hc.elim
 · rw [zd] at ha
   obtain ⟨v,r,e1,hv,hr⟩:=ha
   rw [zM] at hr; subst hr
   rw [yS] at hv; subst hv
   obtain rfl:args'=#[.map none]:=by cases args'; simp_all
   exact Calls.mono (hf.nil_ w) fun e w' ⟨e1,hb⟩=>⟨_,e1,ψ,qj hrel hb,zw.2 rfl⟩
 · exact hc.elim
structure HasSFn (P:Program) (f:FuncId):Prop where
 enter:∀ args w,(callFunc f args).run P w=.ok (.enter f args) w
 has:∀ (b off n c:Nat) (zs:List ByteArray) (x:ByteArray) (w:World),zs.length=n→n≤1000→(∀ j (hj:j<zs.length),w.cell? ⟨b,off+j,none⟩=some (.string zs[j])) →
  Calls P f #[.slice (some ⟨b,off,none⟩) n c,.string x] w fun e w'=>e=.returned (.bool (zs.any fun z=>z == x))∧Below w.heap.size w w'
def zTq (s:CV):List CV→Bool
 | []=>false
 | k::ks=>(match qL .str k s with
  | some true=>true
  | _=>false) || zTq s ks
def zEH:List CV→Bool
 | []=>true
 | k::ks=>zTk k&&zEH ks
def hasS:NatF:=fun _ d args h n=>match d with
 | true=>.err 466
 | false=>match args with
  | [.sl b 0 len _ 1 _,s]=>match zn b h with
   | some (.bag ks)=>match Nat.beq len (wz ks)&&Nat.ble len 1000&&zEH ks&&zTk s&&zTq s ks with
    | true=>.ret (.bool true) h n
    | false=>.err 464
   | _=>.err 465
  | _=>.err 467
theorem zMx (d:Bool) (args:List CV) (h:zC) (n:Key):zk n (hasS ‹Sym› d args h n):=by
 unfold hasS
 repeat' split
 all_goals first
  | trivial
  | exact Nat.le_refl _
theorem zDK {ψ:Psi}:∀ {ks:List CV} {vs:List Value},zEH ks=true→zS ψ ks vs→∀ v∈vs,∃ b,v=.string b
 | [],vs,_,h=>by rw [zM] at h; subst h; intro v hv; cases hv
 | k::ks,vs,hk,h=>by
  obtain ⟨v,r,rfl,h1,h2⟩:=zd.1 h
  unfold zEH at hk
  rw [Bool.and_eq_true] at hk
  intro x hx
  rcases List.mem_cons.1 hx with rfl | hx
  · obtain ⟨key,e,_⟩:=zES hk.1 h1
    exact ⟨_,e⟩
  · exact zDK hk.2 h2 x hx
theorem zLN (P:Program) [SymFact P] {ψ:Psi} {a b:CV} {u v:Value} (ha:zH ψ a u) (hb:zH ψ b v) (h:qL .str a b=some true):u=v:=by
 unfold qL at h
 split at h <;> first | contradiction | skip
 · obtain ⟨b1,rfl,q2⟩:=ze.1 ha
   obtain ⟨b2,rfl,q4⟩:=ze.1 hb
   injection h with h
   rw [jB,decide_eq_true_eq,← q2,← q4] at h
   have:=zTw (a:=b1.data.toList) (b:=b2.data.toList) h
   congr 1
   obtain ⟨⟨x⟩⟩:=b1
   obtain ⟨⟨y⟩⟩:=b2
   have this:x=y:=this
   rw [this]
 · obtain ⟨s,rfl,_⟩:=zy.1 ha
   obtain ⟨q,rfl,_⟩:=zy.1 hb
   exact (qI P ⟨_,rfl⟩ ⟨_,rfl⟩ ha hb h).2 rfl
 · obtain ⟨s,rfl,_⟩:=zy.1 ha
   obtain ⟨q,rfl,_⟩:=ze.1 hb
   exact (qI P ⟨_,rfl⟩ ⟨_,rfl⟩ ha hb h).2 rfl
 · obtain ⟨s,rfl,_⟩:=ze.1 ha
   obtain ⟨q,rfl,_⟩:=zy.1 hb
   exact (qI P ⟨_,rfl⟩ ⟨_,rfl⟩ ha hb h).2 rfl
theorem zKm (P:Program) [SymFact P] {ψ:Psi} {s:CV} {x:Value} (hx:zH ψ s x):∀ {ks:List CV} {vs:List Value},zTq s ks=true→zS ψ ks vs→x∈vs
 | [],_,h,_=>by cases h
 | k::ks,vs,h,hv=>by
  obtain ⟨v,r,rfl,h1,h2⟩:=zd.1 hv
  unfold zTq at h
  rw [Bool.or_eq_true] at h
  rcases h with h | h
  · split at h
    · rename_i hk
      rw [zLN P h1 hx hk]
      exact List.mem_cons_self
    · cases h
  · exact List.mem_cons_of_mem _ (zKm P hx h h2)
theorem zNL:∀ {l:List Value},(∀ v∈l,∃ b,v=.string b)→∃ zs:List ByteArray,l=zs.map .string
 | [],_=>⟨[],rfl⟩
 | v::l,h=>by
  obtain ⟨b,rfl⟩:=h v List.mem_cons_self
  obtain ⟨zs,rfl⟩:=zNL fun x hx=>h x (List.mem_cons_of_mem _ hx)
  exact ⟨b::zs,rfl⟩
theorem zRL {f:FuncId} (hf:HasSFn P f) {args:List CV} {h:zC} {n:Key} {ψ:Psi} {w:World} {args':Array Value} (ha:zS ψ args args'.toList) (hrel:Rel ψ (zC.fam h) w)
 (hc:zf (hasS ‹Sym› false args h n)):yR P f args' w (zl ψ (zC.fam h) n w (hasS ‹Sym› false args h n)):=by
 unfold yR
 rw [hf.enter]
 show Calls P f args' w fun e w''=>∃ v,e=.returned v∧zl ψ (zC.fam h) n w (hasS ‹Sym› false args h n) v w''
 unfold hasS at hc ⊢
 simp only at hc ⊢
 split at hc
 · rename_i b len cp ex s
   rw [zd] at ha
   obtain ⟨sv,r,hr0,hv,hr⟩:=ha
   rw [zd] at hr
   obtain ⟨x,r',rfl,hv2,hr⟩:=hr
   rw [zM] at hr; subst hr
   split at hc
   · rename_i ks hb0
     have hb:zC.fam h b=some (.bag ks):=hb0
     split at hc
     · rename_i hk
       simp only [Bool.and_eq_true] at hk
       obtain ⟨⟨⟨⟨k1,k2⟩,k3⟩,k4⟩,k5⟩:=hk
       have k1:=Nat.eq_of_beq_eq_true k1
       rw [jv] at k1
       have k2:=zL k2
       rw [yF] at hv
       obtain ⟨p,y,cap',hp,rfl,q1,q2,_,q3⟩:=hv
       obtain ⟨kx,rfl,_⟩:=zES k4 hv2
       have hx0:encStr kx=.string ⟨kx.toArray⟩:=rfl
       obtain rfl:args'=#[.slice (some ⟨p.blk,y,none⟩) len cap',encStr kx]:=by cases args'; simp_all
       obtain ⟨arr,elem,fz,vs,g1,g2,g3⟩:=hrel.on b _ p hb hp
       have hmem:=zKm P hv2 k5 g2
       have hmem:=g3.mem_iff.2 hmem
       have hall:∀ v∈(arr.toList.drop p.off).take ks.length,∃ b,v=.string b:=fun v hv=>zDK k3 g2 v (g3.mem_iff.1 hv)
       have hlen:((arr.toList.drop p.off).take ks.length).length=ks.length:=by rw [g3.length_eq,g2.length]
       obtain ⟨zs,hz⟩:=zNL hall
       have hzl:zs.length=len:=by rw [k1,← hlen,hz,List.length_map]
       have hlpos:len≠0:=by
        intro e
        rw [hz] at hmem
        have:zs=[]:=List.length_eq_zero_iff.1 (hzl.trans e)
        rw [this] at hmem; cases hmem
       have hy:y=p.off:=by
        rcases q3 with ⟨q3,_⟩ | q3
        · omega
        · omega
       refine Calls.mono (hf.has p.blk y len cap' zs ⟨kx.toArray⟩ w hzl k2 fun j hj=>?_) fun e w' ⟨e1,e2⟩=>⟨_,e1,ψ,qj hrel e2,zJ.2 ?_⟩
       · have e3:((arr.toList.drop p.off).take ks.length)[j]? = some (.string zs[j]):=by
          rw [hz,List.getElem?_map,List.getElem?_eq_getElem hj]; rfl
         rw [List.getElem?_take,if_pos (by omega),List.getElem?_drop,Array.getElem?_toList] at e3
         unfold World.cell?
         simp only [g1,hy]
         exact e3
       · rw [hz,hx0] at hmem
         obtain ⟨z,hz1,hz2⟩:=List.mem_map.1 hmem
         have:(zs.any fun z=>z == (⟨kx.toArray⟩:ByteArray))=true:=List.any_eq_true.2 ⟨z,hz1,by injection hz2 with hz2; rw [hz2]; exact (bytes_beq _ _).2 rfl⟩
         rw [this]
     · exact hc.elim
   · exact hc.elim
 · exact hc.elim
end
noncomputable section
variable {P:Program}
def zKH (P:Program) (code:FuncId→CFn) (nat:Nats) (fuel:Nat) (f:FuncId) (sel:List CV→zC→Bool) (q:NatF):NatF:=fun S d args h n=>match u9 d&&sel args h with
 | true=>q S false args h n
 | false=>match nat f with
  | some r=>r S d args h n
  | none=>@ev S P code nat fuel d f args h n
def natH (P:Program) (code:FuncId→CFn) (fuel:Nat) (f:FuncId) (sel:List CV→zC→Bool) (q:NatF) (nat:Nats):Nats:=fun g=>Bool.rec (motive:=fun _=>Option NatF) (nat g) (some (zKH P code nat fuel f sel q)) (Nat.beq g f)
theorem zN2 {code:FuncId→CFn} {fuel:Nat} {f:FuncId} {sel:List CV→zC→Bool} {q:NatF} {nat:Nats} (hm:P.follows .mixedOrders=true) (hcode:CodeOk P code)
 (ha:∀ S args h n,zk n (q S false args h n))
 (hq:∀ (σ:Nat→Int) (K:zY),KnownOk σ K→∀ (args:List CV) (h:zC) (n:Key) (ψ:Psi) (w:World) (args':Array Value),@zS (linSym σ K) ψ args args'.toList→kR P ψ→@Rel (linSym σ K) ψ (zC.fam h) w→xc ψ n→zf (q (linSym σ K) false args h n) →
   yR P f args' w (@zl (linSym σ K) ψ (zC.fam h) n w (q (linSym σ K) false args h n)))
 (hn:∀ σ K,KnownOk σ K→@NatsOk (linSym σ K) P nat):∀ σ K,KnownOk σ K→@NatsOk (linSym σ K) P (natH P code fuel f sel q nat):=by
 intro σ K hK
 have hc:@yP (linSym σ K) P (@ev (linSym σ K) P code nat fuel):=by
  letI S:Sym:=linSym σ K
  haveI hS:SymFact P:=yx hK
  exact vu (fun call hcall F N=>xS hm hcall) hcode (hn _ _ hK) fuel
 have hn:=hn σ K hK
 have key:∀ g r,natH P code fuel f sel q nat g=some r→(g=f∧r=zKH P code nat fuel f sel q)∨nat g=some r:=by
  intro g r h
  unfold natH at h
  cases e:Nat.beq g f with
  | true=>
   rw [e] at h
   injection h with h
   exact .inl ⟨Nat.eq_of_beq_eq_true e,h.symm⟩
  | false=>rw [e] at h; exact .inr h
 refine @NatsOk.mk (linSym σ K) P _ (fun g r hg d args h n=>?_) (fun g r hg args h n ψ w args' h1 h2 h3 h4 hcl=>?_) (fun g r hg args h n ψ w args' h1 h2 h3 h4 hcl=>?_)
 · rcases key g r hg with ⟨rfl,rfl⟩ | hg
   · unfold zKH
     split
     · exact ha _ _ _ _
     · split
       · rename_i r hr
         exact @NatsOk.above (linSym σ K) _ _ hn g r hr d args h n
       · exact @yP.above (linSym σ K) _ _ hc d g args h n
   · exact @NatsOk.above (linSym σ K) _ _ hn g r hg d args h n
 · rcases key g r hg with ⟨rfl,rfl⟩ | hg
   · unfold zKH at hcl ⊢
     split at hcl
     · exact hq σ K hK args h n ψ w args' h1 h2 h3 h4 hcl
     · split at hcl
       · rename_i r hr
         exact @NatsOk.calls (linSym σ K) _ _ hn g r hr args h n ψ w args' h1 h2 h3 h4 hcl
       · exact @yP.calls (linSym σ K) _ _ hc g args h n ψ w args' h1 h2 h3 h4 hcl
   · exact @NatsOk.calls (linSym σ K) _ _ hn g r hg args h n ψ w args' h1 h2 h3 h4 hcl
 · rcases key g r hg with ⟨rfl,rfl⟩ | hg
   · unfold zKH at hcl ⊢
     split at hcl
     · rename_i hs
       cases hs
     · split at hcl
       · rename_i r hr
         exact @NatsOk.defers (linSym σ K) _ _ hn g r hr args h n ψ w args' h1 h2 h3 h4 hcl
       · exact @yP.defers (linSym σ K) _ _ hc g args h n ψ w args' h1 h2 h3 h4 hcl
   · exact @NatsOk.defers (linSym σ K) _ _ hn g r hg args h n ψ w args' h1 h2 h3 h4 hcl
def zUS:List CE→Bool:=List.rec (motive:=fun _=>Bool) false (fun e _ ih=>(match e.key with
 | .sst _=>true
 | _=>false) || ih)
def namesSel (args:List CV) (h:zC):Bool:=match args with
 | [.map b]=>match zn b h with
  | some (.map es _)=>zUS es
  | _=>false
 | _=>false
def hasSSel (args:List CV) (h:zC):Bool:=match args with
 | [.sl b _ _ _ _ _,_]=>match zn b h with
  | some (.bag _)=>true
  | _=>false
 | _=>false
theorem natNames_ok {code:FuncId→CFn} {fuel:Nat} {f:FuncId} {k:TypeId} {nat:Nats} (hm:P.follows .mixedOrders=true) (hcode:CodeOk P code) (hf:NamesFn P f k) (hn:∀ σ K,KnownOk σ K→@NatsOk (linSym σ K) P nat) :
 ∀ σ K,KnownOk σ K→@NatsOk (linSym σ K) P (natH P code fuel f namesSel namesB nat):=
 zN2 hm hcode (fun S args h n=>@zJg S false args h n) (fun σ K hK _ _ _ _ _ _ h1 _ h3 h4 h5=>@zL0 (linSym σ K) P (yx hK) f k hf _ _ _ _ _ _ h1 h3 h4 h5) hn
theorem natHasS_ok {code:FuncId→CFn} {fuel:Nat} {f:FuncId} {nat:Nats} (hm:P.follows .mixedOrders=true) (hcode:CodeOk P code) (hf:HasSFn P f) (hn:∀ σ K,KnownOk σ K→@NatsOk (linSym σ K) P nat) :
 ∀ σ K,KnownOk σ K→@NatsOk (linSym σ K) P (natH P code fuel f hasSSel hasS nat):=
 zN2 hm hcode (fun S args h n=>@zMx S false args h n) (fun σ K hK _ _ _ _ _ _ h1 _ h3 _ h5=>@zRL (linSym σ K) P (yx hK) f hf _ _ _ _ _ _ h1 h3 h5) hn
end
end Go.Ev
namespace Go.Ev
open Go.RowKit Go.Maps Go.MapKept
noncomputable section
variable {P:Program}
def zWM (q:Int × Int):Bool:=zj q.1 (.ofNat 0)&&zj q.2 (.ofNat 7)
def anyB07 (b:List (Int × Int)):Bool:=List.rec (motive:=fun _=>Bool) false (fun q _ ih=>zWM q || ih) b
def zLr (P:Program) (code:FuncId→CFn) (fuel:Nat) (f:FuncId) (sel:Sym→Bool) (a b:Nats):NatF:=fun S d args h n=>match sel S with
 | true=>match a f with
  | some r=>r S d args h n
  | none=>@ev S P code a fuel d f args h n
 | false=>match b f with
  | some r=>r S d args h n
  | none=>@ev S P code b fuel d f args h n
def natK (P:Program) (code:FuncId→CFn) (fuel:Nat) (f:FuncId) (sel:Sym→Bool) (a b:Nats):Nats:=fun g=>Bool.rec (motive:=fun _=>Option NatF) (b g) (some (zLr P code fuel f sel a b)) (Nat.beq g f)
theorem natK_ok {code:FuncId→CFn} {fuel:Nat} {f:FuncId} {sel:Sym→Bool} {a b:Nats} (hm:P.follows .mixedOrders=true) (hcode:CodeOk P code)
 (ha:∀ σ K,KnownOk σ K→@NatsOk (linSym σ K) P a) (hb:∀ σ K,KnownOk σ K→@NatsOk (linSym σ K) P b):∀ σ K,KnownOk σ K→@NatsOk (linSym σ K) P (natK P code fuel f sel a b):=by
 intro σ K hK
 have hcall:∀ {nat:Nats},@NatsOk (linSym σ K) P nat→@yP (linSym σ K) P (@ev (linSym σ K) P code nat fuel):=by
  intro nat hn
  letI S:Sym:=linSym σ K
  haveI hS:SymFact P:=yx hK
  exact vu (fun call hcall F N=>xS hm hcall) hcode hn fuel
 have ha:=ha σ K hK
 have hb:=hb σ K hK
 have hca:=hcall ha
 have hcb:=hcall hb
 have key:∀ g r,natK P code fuel f sel a b g=some r→(g=f∧r=zLr P code fuel f sel a b)∨b g=some r:=by
  intro g r h
  unfold natK at h
  cases e:Nat.beq g f with
  | true=>
   rw [e] at h
   injection h with h
   exact .inl ⟨Nat.eq_of_beq_eq_true e,h.symm⟩
  | false=>rw [e] at h; exact .inr h
 refine @NatsOk.mk (linSym σ K) P _ (fun g r hg d args h n=>?_) (fun g r hg args h n ψ w args' h1 h2 h3 h4 hcl=>?_) (fun g r hg args h n ψ w args' h1 h2 h3 h4 hcl=>?_)
 · rcases key g r hg with ⟨rfl,rfl⟩ | hg
   · unfold zLr
     split <;> split
     · rename_i r hr
       exact @NatsOk.above (linSym σ K) _ _ ha g r hr d args h n
     · exact @yP.above (linSym σ K) _ _ hca d g args h n
     · rename_i r hr
       exact @NatsOk.above (linSym σ K) _ _ hb g r hr d args h n
     · exact @yP.above (linSym σ K) _ _ hcb d g args h n
   · exact @NatsOk.above (linSym σ K) _ _ hb g r hg d args h n
 · rcases key g r hg with ⟨rfl,rfl⟩ | hg
   · unfold zLr at hcl ⊢
     split at hcl <;> split at hcl
     · rename_i r hr
       exact @NatsOk.calls (linSym σ K) _ _ ha g r hr args h n ψ w args' h1 h2 h3 h4 hcl
     · exact @yP.calls (linSym σ K) _ _ hca g args h n ψ w args' h1 h2 h3 h4 hcl
     · rename_i r hr
       exact @NatsOk.calls (linSym σ K) _ _ hb g r hr args h n ψ w args' h1 h2 h3 h4 hcl
     · exact @yP.calls (linSym σ K) _ _ hcb g args h n ψ w args' h1 h2 h3 h4 hcl
   · exact @NatsOk.calls (linSym σ K) _ _ hb g r hg args h n ψ w args' h1 h2 h3 h4 hcl
 · rcases key g r hg with ⟨rfl,rfl⟩ | hg
   · unfold zLr at hcl ⊢
     split at hcl <;> split at hcl
     · rename_i r hr
       exact @NatsOk.defers (linSym σ K) _ _ ha g r hr args h n ψ w args' h1 h2 h3 h4 hcl
     · exact @yP.defers (linSym σ K) _ _ hca g args h n ψ w args' h1 h2 h3 h4 hcl
     · rename_i r hr
       exact @NatsOk.defers (linSym σ K) _ _ hb g r hr args h n ψ w args' h1 h2 h3 h4 hcl
     · exact @yP.defers (linSym σ K) _ _ hcb g args h n ψ w args' h1 h2 h3 h4 hcl
   · exact @NatsOk.defers (linSym σ K) _ _ hb g r hg args h n ψ w args' h1 h2 h3 h4 hcl
end
end Go.Ev
