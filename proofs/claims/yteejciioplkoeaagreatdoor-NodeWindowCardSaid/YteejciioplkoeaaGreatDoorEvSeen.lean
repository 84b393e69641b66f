/- A verified evaluator for the model's code: EvSeen, EvItoa. -/
import Derived.Test.YteejciioplkoeaaGreatDoorEvFrame
set_option linter.unusedSectionVars false
set_option linter.unusedVariables false
set_option linter.unusedSimpArgs false
namespace Go.Ev
open Go.RowKit
noncomputable section
variable {P:Program}
def yA:Key:=.mk .d0 .d1 .d0 .d0
def yB:Key:=.mk .d0 .d1 .d0 .d1
def yC:Key:=.mk .d0 .d1 .d0 .d2
def yE:Key:=.mk .d8 .d0 .d0 .d0
def v6:Nat→List CV
 | 0=>[]
 | n+1=>.nat 1::.anyi .i64::v6 n
def zMx:List CV:=[.ptr yA 0,.agg [.nat 1,.anyi .i64]]
def zCL (v:CV) (k:Key) (n:Nat):Po:=⟨v,[(yA,.cells [.sl k 0 n n 2 false]),(k,.cells (v6 n))]⟩
def zT5:Fs:=⟨zMx,[(yA,.cells [.nilsl])],[],257,yE,[(0,0)],[zCL .any yB 1],[],0,[]⟩
def seE (n:Nat):Fs:=⟨zMx,[(yA,.cells [.sl yB 0 n n 2 false]),(yB,.cells (v6 n))],[],258,yE,[(0,0)],[zCL .any yC (Nat.min (Nat.succ n) 32),zCL .any yB n],[],0,[]⟩
def zJz:Nat→List Fs
 | 0=>[zT5]
 | n+1=>seE (Nat.succ n)::zJz n
theorem zPV:∀ {n:Nat},zT5∈zJz n
 | 0=>List.mem_singleton.2 rfl
 | n+1=>List.mem_cons_of_mem _ zPV
theorem zGI:∀ {m n:Nat},1≤n→n≤m→seE n∈zJz m
 | 0,n,h1,h2=>by omega
 | m+1,n,h1,h2=>by
  unfold zJz
  by_cases e:n=m+1
  · subst e; simp
  · exact List.mem_cons_of_mem _ (zGI h1 (by omega))
structure SeenFn (P:Program) (f:FuncId):Prop where
 glob:P.globals.size≤100
 none:zGr P f zT5
 some:∀ n,1≤n→n≤32→zGr P f (seE n)
theorem seenFn_of {f:FuncId} (hg:P.globals.size≤100) (h:∀ s∈zJz 32,zGr P f s):SeenFn P f:=⟨hg,h _ zPV,fun n h1 h2=>h _ (zGI h1 h2)⟩
theorem zAK:∀ {n:Nat},(v6 n).length=2*n
 | 0=>rfl
 | n+1=>by
  show (v6 n).length+1+1=_
  rw [zAK]; omega
theorem zDs:∀ {n i:Nat},i<n→(v6 n)[2*i]? = some (.nat 1)∧(v6 n)[2*i+1]? = some (.anyi .i64)
 | 0,i,h=>by omega
 | n+1,0,h=>⟨rfl,rfl⟩
 | n+1,i+1,h=>by
  have:=zDs (n:=n) (i:=i) (by omega)
  show (CV.nat 1::CV.anyi .i64::v6 n)[2*(i+1)]? = _∧(CV.nat 1::CV.anyi .i64::v6 n)[2*(i+1)+1]? = _
  rw [show 2*(i+1)=2*i+1+1 from by omega,show 2*i+1+1+1=(2*i+1)+1+1 from by omega]
  simpa using this
theorem zRf {n j:Nat} {c:CV} (h:(v6 n)[j]? = some c):∃ i,i<n∧(j=2*i∧c=.nat 1∨j=2*i+1∧c=.anyi .i64):=by
 have hlt:j<2*n:=by
  have:=(List.getElem?_eq_some_iff.1 h).1
  rwa [zAK] at this
 refine ⟨j / 2,by omega,?_⟩
 obtain ⟨h1,h2⟩:=zDs (n:=n) (i:=j / 2) (by omega)
 rcases Nat.mod_two_eq_zero_or_one j with e | e
 · have ej:2*(j / 2)=j:=by omega
   rw [ej,h] at h1
   exact .inl ⟨ej.symm,Option.some.inj h1⟩
 · have ej:2*(j / 2)+1=j:=by omega
   rw [ej,h] at h2
   exact .inr ⟨ej.symm,Option.some.inj h2⟩
def uU (a:Key) (c2:CV) (h:zC) (n:Key):R:=match zCS .i64 c2 with
 | true=>.ret .any (ya (some .hid) n (ya (some (.seen n)) a h)) n.succ
 | false=>.err 434
def zHT (d:Bool) (args:List CV) (h:zC) (n:Key):R:=match d with
 | true=>.err 432
 | false=>match args with
  | [.ptr a 0,.agg [.nat 1,c2]]=>match zj a h with
   | some (.cells [.nilsl])=>uU a c2 h n
   | some (.seen b)=>match zj b h with
    | some .hid=>uU a c2 (ya none b h) n
    | _=>.err 435
   | _=>.err 433
  | _=>.err 431
def seenN:NatF:=fun _=>zHT
theorem zMg [Sym] (d:Bool) (args:List CV) (h:zC) (n:Key):zi n (zHT d args h n):=by
 unfold zHT uU
 repeat' split
 all_goals first
  | trivial
  | exact Key.ix_le_succ _
section
variable [Sym]
theorem zOq {ψ:Psi} {g g1:Fam} {n a:Key} {w w':World} {pa p':Pl} {oa:CObj} {dr:Option (Key × Pl)} (h:Rel ψ g w) (hn:n.room) (hnone:ψ n=none) (ha:g a=some oa) (hra:oa.isRo=false) (hpa:ψ a=some pa)
 (hdr:∀ q,dr=some q→q.1≠a∧ψ q.1=some q.2∧∃ o,g q.1=some o∧o.isRo=false) (hg1:∀ k,g1 k=g k∨g1 k=none) (hg1b:∀ q,dr=some q→g1 q.1=none)
 (hfr:∀ B,B<w.heap.size→B≠pa.blk→(∀ q,dr=some q→B≠q.2.blk)→w'.heap[B]? = w.heap[B]?) (hsz:w.heap.size≤w'.heap.size) (htp:w'.tape=w.tape) (hos:w'.os=w.os) (hout:w'.output=w.output)
 (hp':(∃ q,dr=some q∧q.2.blk=p'.blk)∨w.heap.size≤p'.blk) (hne:p'.blk≠pa.blk) (ho:xH (ψ.upd n p') w' pa (.seen n)) (hh:xH (ψ.upd n p') w' p' .hid) :
 zy ψ g n w (ψ.upd n p') ((g1.upd a (some (.seen n))).upd n (some .hid)) n.succ w':=by
 have hix:=Key.ix_succ hn
 have hle:=Psi.le_upd (ψ:=ψ) (k:=n) p' hnone
 have han:a≠n:=fun e=>by subst e; rw [hnone] at hpa; cases hpa
 have hold:∀ j q,j≠n→j≠a→((g1.upd a (some (.seen n))).upd n (some .hid)) j=some q→g j=some q∧(∀ q',dr=some q'→j≠q'.1):=by
  intro j q hj hja hq
  rw [Fam.upd_other _ _ hj,Fam.upd_other _ _ hja] at hq
  rcases hg1 j with e | e
  · rw [e] at hq
    refine ⟨hq,fun q' hq' e'=>?_⟩
    have:=hg1b q' hq'
    rw [← e',e] at this; rw [this] at hq; cases hq
  · rw [e] at hq; cases hq
 have hblk:∀ j q pj,g j=some q→ψ j=some pj→j≠a→pj.blk≠pa.blk:=fun j q pj h1 h2 h3 e=>h3 (h.inj j a q oa pj pa h1 ha h2 hpa (.inr hra) e)
 have hblk2:∀ j q pj,g j=some q→ψ j=some pj→∀ q',dr=some q'→j≠q'.1→pj.blk≠q'.2.blk:=fun j q pj h1 h2 q' h3 h4 e=>by
  obtain ⟨_,k2,o,k3,k4⟩:=hdr q' h3
  exact h4 (h.inj j q'.1 q o pj q'.2 h1 k3 h2 k2 (.inr k4) e)
 have hnew:∀ j q pj,g j=some q→ψ j=some pj→(∀ q',dr=some q'→j≠q'.1)→pj.blk≠p'.blk:=fun j q pj h1 h2 h3 e=>by
  rcases hp' with ⟨q',k1,k2⟩ | k1
  · exact hblk2 j q pj h1 h2 q' k1 (h3 q' k1) (e.trans k2.symm)
  · have:=(h.on j q pj h1 h2).lt
    omega
 refine ⟨hle,fun k hk=>?_,⟨?_,?_,?_⟩,?_,?_,hsz,htp,hos,hout,by omega,?_⟩
 · exact Psi.upd_other _ _ (fun e=>by subst e; omega)
 · intro j q pj hq hpj
   by_cases hj:j=n
   · subst hj
     rw [Fam.upd_same] at hq; rw [Psi.upd_same] at hpj
     injection hq with hq; injection hpj with hpj
     subst hq; subst hpj; exact hh
   · rw [Psi.upd_other _ _ hj] at hpj
     by_cases hja:j=a
     · subst hja
       rw [Fam.upd_other _ _ hj,Fam.upd_same] at hq
       injection hq with hq; subst hq
       rw [hpa] at hpj; injection hpj with hpj; subst hpj
       exact ho
     · obtain ⟨h1,h2⟩:=hold j q hj hja hq
       have h3:=h.on j q pj h1 hpj
       exact xH.congr (hfr _ h3.lt (hblk j q pj h1 hpj hja) fun q' hq'=>hblk2 j q pj h1 hpj q' hq' (h2 q' hq')) (h3.mono hle)
 · intro j q hq
   by_cases hj:j=n
   · subst hj; exact ⟨_,Psi.upd_same _ _ _⟩
   · by_cases hja:j=a
     · subst hja; exact ⟨_,hle _ _ hpa⟩
     · obtain ⟨p,hp⟩:=h.tot j q (hold j q hj hja hq).1
       exact ⟨p,hle _ _ hp⟩
 · have one:∀ j q pj,j≠n→((g1.upd a (some (.seen n))).upd n (some .hid)) j=some q→ψ j=some pj→pj.blk≠p'.blk:=by
    intro j q pj hj hq hpj
    by_cases hja:j=a
    · subst hja; rw [hpa] at hpj; injection hpj with hpj; subst hpj; exact fun e=>hne e.symm
    · obtain ⟨h1,h2⟩:=hold j q hj hja hq
      exact hnew j q pj h1 hpj h2
   intro k₁ k₂ o₁ o₂ p₁ p₂ h1 h2 h3 h4 hr e
   by_cases j1:k₁=n <;> by_cases j2:k₂=n
   · rw [j1,j2]
   · exfalso
     subst j1
     rw [Psi.upd_same] at h3; injection h3 with h3; subst h3
     rw [Psi.upd_other _ _ j2] at h4
     exact one _ _ _ j2 h2 h4 e.symm
   · exfalso
     subst j2
     rw [Psi.upd_same] at h4; injection h4 with h4; subst h4
     rw [Psi.upd_other _ _ j1] at h3
     exact one _ _ _ j1 h1 h3 e
   · rw [Psi.upd_other _ _ j1] at h3; rw [Psi.upd_other _ _ j2] at h4
     by_cases a1:k₁=a <;> by_cases a2:k₂=a
     · rw [a1,a2]
     · subst a1
       obtain ⟨h2,_⟩:=hold _ _ j2 a2 h2
       exact h.inj _ _ _ _ _ _ ha h2 h3 h4 (.inl hra) e
     · subst a2
       obtain ⟨h1,_⟩:=hold _ _ j1 a1 h1
       exact h.inj _ _ _ _ _ _ h1 ha h3 h4 (.inr hra) e
     · obtain ⟨h1,_⟩:=hold _ _ j1 a1 h1
       obtain ⟨h2,_⟩:=hold _ _ j2 a2 h2
       exact h.inj _ _ _ _ _ _ h1 h2 h3 h4 hr e
 · intro B hB hfree
   refine hfr B hB (fun e=>hfree a oa pa ha hra hpa e.symm) fun q hq e=>?_
   obtain ⟨_,k2,o,k3,k4⟩:=hdr q hq
   exact hfree q.1 o q.2 k3 k4 k2 e.symm
 · intro j q pj hq hroj hpj
   by_cases hj:j=n
   · subst hj
     rw [Psi.upd_same] at hpj; injection hpj with hpj; subst hpj
     rcases hp' with ⟨q',k1,k2⟩ | k1
     · obtain ⟨_,e2,o,e3,e4⟩:=hdr q' k1
       exact .inl ⟨q'.1,o,q'.2,e3,e4,e2,k2⟩
     · exact .inr k1
   · rw [Psi.upd_other _ _ hj] at hpj
     by_cases hja:j=a
     · subst hja; exact .inl ⟨_,oa,pj,ha,hra,hpj,rfl⟩
     · exact .inl ⟨j,q,pj,(hold j q hj hja hq).1,hroj,hpj,rfl⟩
 · intro j q pj hq hpj
   by_cases hj:j=n
   · subst hj
     rw [Psi.upd_same] at hpj; injection hpj with hpj; subst hpj
     rcases hp' with ⟨q',k1,k2⟩ | k1
     · obtain ⟨_,e2,o,e3,_⟩:=hdr q' k1
       exact .inl ⟨q'.1,o,q'.2,e3,e2,k2⟩
     · exact .inr k1
   · rw [Psi.upd_other _ _ hj] at hpj
     by_cases hja:j=a
     · subst hja; exact .inl ⟨_,oa,pj,ha,hpj,rfl⟩
     · exact .inl ⟨j,q,pj,(hold j q hj hja hq).1,hpj,rfl⟩
end
section
variable {σ:Nat→Int} {K:zc}
def zCj (ψ:Psi) (pa:Pl) (qb:Option Pl):Psi:=fun k=>if k=yA then some pa else if k=yB then qb else if k.ix<256 then ψ k else none
theorem wV {ψ:Psi} {pa:Pl} {qb:Option Pl}:zCj ψ pa qb yA=some pa:=by simp [zCj]
theorem zCY {ψ:Psi} {pa:Pl} {qb:Option Pl}:zCj ψ pa qb yB=qb:=by
 unfold zCj
 rw [if_neg (by decide),if_pos rfl]
theorem zCO {ψ:Psi} {pa:Pl} {qb:Option Pl} (hG:P.globals.size≤100) (h:kK P ψ):kK P (zCj ψ pa qb):=by
 intro g h1 h2
 obtain ⟨sz,e⟩:=h g h1 h2
 have hix:(Key.ofNat g).ix=g:=@Key.ix_ofNat (linSym (fun _=>0) kno) g (by omega)
 have hA:yA.ix=256:=by decide
 have hB:yB.ix=257:=by decide
 refine ⟨sz,?_⟩
 unfold zCj
 rw [if_neg (fun e=>by rw [e,hA] at hix; omega),if_neg (fun e=>by rw [e,hB] at hix; omega),if_pos (by omega)]
 exact e
theorem zBn {ψ:Psi} {pa:Pl} {qb:Option Pl}:xe (zCj ψ pa qb) yE:=by
 intro k hk
 have hE:yE.ix=32768:=by decide
 have hA:yA.ix=256:=by decide
 have hB:yB.ix=257:=by decide
 unfold zCj
 rw [if_neg (fun e=>by rw [e,hA] at hk; omega),if_neg (fun e=>by rw [e,hB] at hk; omega),if_neg (by omega)]
theorem zHm {σ0:Nat→Int} {ψ ψe ψ':Psi} {s:Fs} {g g1:Fam} {n a:Key} {w w':World} {pa:Pl} {oa:CObj} {dr:Option (Key × Pl)} {v:Value} {kk:Key} {m:Nat} (hrel:@Rel (linSym σ K) ψ g w) (hroom:n.room) (hnone:ψ n=none) (ha:g a=some oa) (hra:oa.isRo=false) (hpa:ψ a=some pa)
 (hdr:∀ q,dr=some q→q.1≠a∧ψ q.1=some q.2∧∃ o,g q.1=some o∧o.isRo=false) (hg1:∀ k,g1 k=g k∨g1 k=none) (hg1b:∀ q,dr=some q→g1 q.1=none)
 (hpaz:pa.off+1≤pa.sz)
 (hkk:yA≠kk) (hm1:1≤m) (hm:m≤32) (hA:ψe yA=some pa) (hown:∀ B,zEc ψe s.objs w B→B=pa.blk∨(∃ q,dr=some q∧q.2.blk=B)∨w.heap.size≤B)
 (hmid:yA.ix<s.mid) (hok:zOy (linSym σ0 kno) ψe s w (zCL .any kk m) v ψ' w') :
 ∃ p',@zy (linSym σ K) ψ g n w (ψ.upd n p') ((g1.upd a (some (.seen n))).upd n (some .hid)) n.succ w':=by
 have hpin:ψ' yA=some pa:=hok.pin 0 yA _ rfl hmid pa hA
 have fA:jp (zCL .any kk m).objs yA=some (.cells [.sl kk 0 m m 2 false]):=by
  show zj yA (mkH .nil (zCL .any kk m).objs)=_
  unfold zCL
  show zj yA (ya _ yA _)=_
  rw [qw,if_pos rfl]
 have fB:jp (zCL .any kk m).objs kk=some (.cells (v6 m)):=by
  show zj kk (mkH .nil (zCL .any kk m).objs)=_
  unfold zCL
  show zj kk (ya _ yA (ya _ kk _))=_
  rw [qw,if_neg (fun e=>hkk e.symm),qw,if_pos rfl]
 have hon:=@Rel.on (linSym σ0 kno) _ _ _ hok.rel
 obtain ⟨p2,hp2⟩:=@Rel.tot (linSym σ0 kno) _ _ _ hok.rel kk _ fB
 obtain ⟨arr,elem,fz,e1,e2,e3,e4,e5⟩:=hon yA _ pa fA hpin
 obtain ⟨arr2,elem2,fz2,d1,d2,d3,d4,d5⟩:=hon kk _ p2 fB hp2
 obtain ⟨x0,x1,x2⟩:=e5 0 _ rfl
 rw [@zx (linSym σ0 kno)] at x2
 obtain ⟨q2,y,cap,c1,rfl,c3,c4,_,c6⟩:=x2
 rw [hp2] at c1; injection c1 with c1; subst c1
 have c6:y=p2.off+0∧(false=false→y+cap*2=p2.sz):=c6.resolve_right (by omega)
 obtain ⟨c7,c8⟩:=c6
 have c8:=c8 rfl
 have hne:p2.blk≠pa.blk:=fun e=>hkk (@Rel.inj (linSym σ0 kno) _ _ _ hok.rel yA kk _ _ _ _ fA fB hpin hp2 (.inl rfl) e.symm)
 obtain ⟨_,ho2⟩:=hok.own kk _ p2 fB hp2
 have hlen:(v6 m).length=2*m:=zAK
 have hp':(∃ q,dr=some q∧q.2.blk=p2.blk)∨w.heap.size≤p2.blk:=by
  rcases hown _ ho2 with h | h | h
  · exact absurd h hne
  · exact .inl h
  · exact .inr h
 refine ⟨⟨p2.blk,y,m+64*(y+cap*2),fun n=>n⟩,@zOq (linSym σ K) ψ g g1 n a w w' pa _ oa dr hrel hroom hnone ha hra hpa hdr hg1 hg1b (fun B h1 h2 h3=>hok.lft.block B fun ho=>?_) hok.lft.size hok.lft.tape hok.lft.os hok.lft.output hp' hne ?_ ?_⟩
 · rcases hown B ho with h | ⟨q,h,e⟩ | h
   · exact h2 h
   · exact h3 q h e.symm
   · omega
 · refine ⟨arr,elem,fz,e1,e2,hpaz,e4,⟨p2.blk,y,m+64*(y+cap*2),fun n=>n⟩,m,cap,?_,@Psi.upd_same (linSym σ K) _ _ _,hm1,hm,c3,rfl⟩
   rw [← x1]; congr 1
 · refine ⟨arr2,elem2,fz2,d1,?_,?_,?_,fun i hi=>?_⟩
   · show arr2.size=(m+64*(y+cap*2)) / 64
     omega
   · show y+2*((m+64*(y+cap*2)) % 64)≤arr2.size
     omega
   · rw [d2]; exact d4
   · have hi:i<m:=by
      have:i<(m+64*(y+cap*2)) % 64:=hi
      omega
     obtain ⟨r1,r2⟩:=zDs hi
     obtain ⟨z1,g1,g2⟩:=d5 _ _ r1
     obtain ⟨z2,g3,g4⟩:=d5 _ _ r2
     rw [@zS (linSym σ0 kno)] at g2
     rw [@yP (linSym σ0 kno)] at g4
     obtain ⟨nn,rfl⟩:=g4
     subst g2
     have ey:y=p2.off:=c7
     refine ⟨?_,nn,?_⟩
     · show arr2[y+2*i]? = _
       rw [ey]; exact g1
     · show arr2[y+(2*i+1)]? = _
       rw [ey]; exact g3
theorem zAq {k:Key} {o:CObj} {j:Key} {o':CObj} (h:jp ([(k,o)]++[]) j=some o'):j=k∧o'=o:=by
 have h:zj j (ya (some o) k .nil)=some o':=h
 rw [qw] at h
 split at h
 · rename_i e; exact ⟨e,(Option.some.inj h).symm⟩
 · rw [qh] at h; cases h
theorem zAu {k k2:Key} {o o2:CObj} {j:Key} {o':CObj} (h:jp ([(k,o),(k2,o2)]++[]) j=some o'):(j=k∧o'=o)∨(j=k2∧o'=o2):=by
 have h:zj j (ya (some o) k (ya (some o2) k2 .nil))=some o':=h
 rw [qw] at h
 split at h
 · rename_i e; exact .inl ⟨e,(Option.some.inj h).symm⟩
 · rw [qw] at h
   split at h
   · rename_i e; exact .inr ⟨e,(Option.some.inj h).symm⟩
   · rw [qh] at h; cases h
theorem zRx {f:FuncId} (hf:SeenFn P f) {args:List CV} {h:zC} {n:Key} {ψ:Psi} {w:World} {args':Array Value} (ha:@zX (linSym σ K) ψ args args'.toList) (hglob:kK P ψ) (hrel:@Rel (linSym σ K) ψ (zC.fam h) w) (hfr:xe ψ n)
 (hc:zb (zHT false args h n)):yf P f args' w (@zl (linSym σ K) ψ (zC.fam h) n w (zHT false args h n)):=by
 have fam1:∀ k j,zC.fam (ya none k h) j=if j=k then none else zC.fam h j:=fun k j=>by rw [@zn (linSym σ K)]; rfl
 unfold zHT at hc ⊢
 simp only at hc ⊢
 split at hc
 · rename_i a c2
   rw [@za (linSym σ K)] at ha
   obtain ⟨av,r,hr0,hv,hr⟩:=ha
   rw [@za (linSym σ K)] at hr
   obtain ⟨mv,r',rfl,hv2,hr⟩:=hr
   rw [@zM (linSym σ K)] at hr; subst hr
   rw [@zm (linSym σ K)] at hv
   obtain ⟨pa,hpa,rfl⟩:=hv
   have hmark:zb (uU a c2 h n)∨(∃ b,zb (uU a c2 (ya none b h) n))→∃ m2,mv=.agg #[.int .i64 1,.int .i64 m2]:=by
    intro hq
    have hk:zCS .i64 c2=true:=by
     rcases hq with hq | ⟨b,hq⟩
     · unfold uU at hq
       split at hq
       · assumption
       · exact hq.elim
     · unfold uU at hq
       split at hq
       · assumption
       · exact hq.elim
    rw [@yY (linSym σ K)] at hv2
    obtain ⟨ma,rfl,hm⟩:=hv2
    rw [@za (linSym σ K)] at hm
    obtain ⟨x1,r1,hm0,hx1,hm⟩:=hm
    rw [@za (linSym σ K)] at hm
    obtain ⟨x2,r2,rfl,hx2,hm⟩:=hm
    rw [@zM (linSym σ K)] at hm
    subst hm
    rw [@zS (linSym σ K)] at hx1
    subst hx1
    obtain ⟨m2,rfl⟩:=zHg hk hx2
    exact ⟨m2,by cases ma; simp_all⟩
   have hargsE:∀ (m2:Int) (qb:Option Pl) (σ':Nat→Int) (K':zc),mv=.agg #[.int .i64 1,.int .i64 m2]→@zX (linSym σ' K') (zCj ψ pa qb) zMx args'.toList:=by
    intro m2 qb σ' K' e
    subst e
    rw [hr0]
    unfold zMx
    refine (@zW (linSym σ' K') _ _ _ _ _).2 ⟨(@zm (linSym σ' K') _ _ _ _).2 ⟨pa,wV,rfl⟩,(@zW (linSym σ' K') _ _ _ _ _).2 ⟨(@yY (linSym σ' K') _ _ _).2 ⟨_,rfl,?_⟩,(@zM (linSym σ' K') _ _).2 rfl⟩⟩
    exact (@zW (linSym σ' K') _ _ _ _ _).2 ⟨(@zS (linSym σ' K') _ _ _).2 rfl,(@zW (linSym σ' K') _ _ _ _ _).2 ⟨(@yP (linSym σ' K') _ _ _).2 ⟨m2,rfl⟩,(@zM (linSym σ' K') _ _).2 rfl⟩⟩
   have hAB:yA≠yB:=by decide
   have hAC:yA≠yC:=by decide
   split at hc
   · rename_i hg0
     have hg:zC.fam h a=some (.cells [.nilsl]):=hg0
     obtain ⟨m2,em⟩:=hmark (.inl hc)
     have ho:=@Rel.on (linSym σ K) _ _ _ hrel a _ pa hg hpa
     obtain ⟨arr,elem,fz,e1,e2,e3,e4,e5⟩:=ho
     unfold uU at hc ⊢
     split at hc
     · have hroom:n.room:=@Key.room_of_succ (linSym σ K) n hc
       have hnone:=hfr n (Nat.le_refl _)
       refine jf (hf.none (fun _=>0) ⟨⟨Int.le_refl _,Int.le_refl _⟩,trivial⟩ (zCj ψ pa none) w args' (fun σ' K' _ _=>⟨hargsE m2 none σ' K' em,?_⟩) (zCO hf.glob hglob) zBn) fun v w' ⟨po,hpo,ψ',hok⟩=>?_
       · refine @Rel.mk (linSym σ' K') _ _ _ ?_ ?_ ?_
         · intro k o p hk hp
           obtain ⟨rfl,rfl⟩:=zAq hk
           rw [wV] at hp; injection hp with hp; subst hp
           refine ⟨arr,elem,fz,e1,e2,e3,e4,fun i c hi=>?_⟩
           cases i with
           | zero=>
            simp at hi; subst hi
            obtain ⟨x,x1,x2⟩:=e5 0 .nilsl rfl
            exact ⟨x,x1,(@zu (linSym σ' K') _ _).2 ((@zu (linSym σ K) _ _).1 x2)⟩
           | succ i=>simp at hi
         · intro k o hk
           obtain ⟨rfl,rfl⟩:=zAq hk
           exact ⟨_,wV⟩
         · intro k₁ k₂ o₁ o₂ p₁ p₂ h1 h2 _ _ _ _
           rw [(zAq h1).1,(zAq h2).1]
       · obtain rfl:po=zCL .any yB 1:=List.mem_singleton.1 hpo
         obtain ⟨p',hpost⟩:=zHm (σ:=σ) (K:=K) (g1:=zC.fam h) (dr:=none) hrel hroom hnone hg rfl hpa (fun q hq=>by cases hq) (fun k=>.inl rfl) (fun q hq=>by cases hq) e3 hAB (Nat.le_refl _) (by omega) wV (fun B hB=>by
          rcases hB with ⟨k,o,p,q1,q2,q3⟩ | hB
          · obtain ⟨rfl,rfl⟩:=zAq (by rw [List.append_nil]; exact q1)
            rw [wV] at q2; injection q2 with q2; subst q2
            exact .inl q3.symm
          · exact .inr (.inr hB)) (by decide) hok
         exact ⟨_,by rw [@zn (linSym σ K),@zn (linSym σ K)]; exact hpost,@xo (linSym σ K) _ _⟩
     · exact hc.elim
   · rename_i b hg0
     have hg:zC.fam h a=some (.seen b):=hg0
     split at hc
     · rename_i hb0
       have hb:zC.fam h b=some .hid:=hb0
       obtain ⟨m2,em⟩:=hmark (.inr ⟨b,hc⟩)
       have ho:=@Rel.on (linSym σ K) _ _ _ hrel a _ pa hg hpa
       obtain ⟨arr,elem,fz,e1,e2,e3,e4,q,len,cap,e5,e6,l1,l2,e7,e8⟩:=ho
       have hob:=@Rel.on (linSym σ K) _ _ _ hrel b _ q hb e6
       obtain ⟨arr2,elem2,fz2,d1,d2,d3,d4,d5⟩:=hob
       have hsz:q.sz / 64=q.off+cap*2:=by omega
       have hln:q.sz % 64=len:=by omega
       rw [hsz] at d2
       rw [hln] at d3 d5
       have hab:b≠a:=fun e=>by rw [e,hg] at hb; cases hb
       have hblk:q.blk≠pa.blk:=fun e=>hab (@Rel.inj (linSym σ K) _ _ _ hrel b a _ _ q pa hb hg e6 hpa (.inl rfl) e)
       unfold uU at hc ⊢
       split at hc
       · have hroom:n.room:=@Key.room_of_succ (linSym σ K) n hc
         have hnone:=hfr n (Nat.le_refl _)
         refine jf (hf.some len l1 l2 (fun _=>0) ⟨⟨Int.le_refl _,Int.le_refl _⟩,trivial⟩ (zCj ψ pa (some ⟨q.blk,q.off,q.off+cap*2,fun n=>n⟩)) w args' (fun σ' K' _ _=>⟨hargsE m2 _ σ' K' em,?_⟩) (zCO hf.glob hglob) zBn) fun v w' ⟨po,hpo,ψ',hok⟩=>?_
         · refine @Rel.mk (linSym σ' K') _ _ _ ?_ ?_ ?_
           · intro k o p hk hp
             rcases zAu hk with ⟨rfl,rfl⟩ | ⟨rfl,rfl⟩
             · rw [wV] at hp; injection hp with hp; subst hp
               refine ⟨arr,elem,fz,e1,e2,e3,e4,fun i c hi=>?_⟩
               cases i with
               | zero=>
                simp at hi; subst hi
                refine ⟨_,e5,(@zx (linSym σ' K') _ _ _ _ _ _ _ _).2 ⟨_,q.off,cap,zCY,rfl,e7,e7,(fun h=>by cases h),.inl ⟨rfl,fun _=>rfl⟩⟩⟩
               | succ i=>simp at hi
             · rw [zCY] at hp; injection hp with hp; subst hp
               refine ⟨arr2,elem2,fz2,d1,d2,?_,by rw [d2] at d4; exact d4,fun i c hi=>?_⟩
               · show q.off+(v6 len).length≤q.off+cap*2
                 rw [zAK]; omega
               · obtain ⟨i',hi',h3⟩:=zRf hi
                 obtain ⟨d6,nn,d7⟩:=d5 i' hi'
                 rcases h3 with ⟨rfl,rfl⟩ | ⟨rfl,rfl⟩
                 · exact ⟨_,d6,(@zS (linSym σ' K') _ _ _).2 rfl⟩
                 · exact ⟨_,d7,(@yP (linSym σ' K') _ _ _).2 ⟨nn,rfl⟩⟩
           · intro k o hk
             rcases zAu hk with ⟨rfl,rfl⟩ | ⟨rfl,rfl⟩
             · exact ⟨_,wV⟩
             · exact ⟨_,zCY⟩
           · intro k₁ k₂ o₁ o₂ p₁ p₂ h1 h2 h3 h4 _ e
             rcases zAu h1 with ⟨rfl,_⟩ | ⟨rfl,_⟩ <;> rcases zAu h2 with ⟨rfl,_⟩ | ⟨rfl,_⟩
             · rfl
             · rw [wV] at h3; rw [zCY] at h4; injection h3 with h3; injection h4 with h4; subst h3 h4; exact absurd e.symm hblk
             · rw [zCY] at h3; rw [wV] at h4; injection h3 with h3; injection h4 with h4; subst h3 h4; exact absurd e hblk
             · rfl
         · have hown:∀ B,zEc (zCj ψ pa (some ⟨q.blk,q.off,q.off+cap*2,fun n=>n⟩)) (seE len).objs w B→B=pa.blk∨(∃ q',some (b,q)=some q'∧q'.2.blk=B)∨w.heap.size≤B:=by
            intro B hB
            rcases hB with ⟨k,o,p,q1,q2,q3⟩ | hB
            · rcases zAu (by rw [List.append_nil]; exact q1) with ⟨rfl,rfl⟩ | ⟨rfl,rfl⟩
              · rw [wV] at q2; injection q2 with q2; subst q2
                exact .inl q3.symm
              · rw [zCY] at q2; injection q2 with q2; subst q2
                exact .inr (.inl ⟨(b,q),rfl,q3⟩)
            · exact .inr (.inr hB)
           have fin:∀ (kk:Key) (m:Nat),yA≠kk→1≤m→m≤32→zOy (linSym (fun _=>0) kno) (zCj ψ pa (some ⟨q.blk,q.off,q.off+cap*2,fun n=>n⟩)) (seE len) w (zCL .any kk m) v ψ' w' →
            @zl (linSym σ K) ψ (zC.fam h) n w (.ret .any (ya (some .hid) n (ya (some (.seen n)) a (ya none b h))) n.succ) v w':=by
            intro kk m k1 k2 k3 hok
            obtain ⟨p',hpost⟩:=zHm (σ:=σ) (K:=K) (g1:=zC.fam (ya none b h)) (dr:=some (b,q)) hrel hroom hnone hg rfl hpa (fun q' hq=>by injection hq with hq; subst hq; exact ⟨hab,e6,_,hb,rfl⟩)
             (fun k=>by rw [fam1]; split <;> simp) (fun q' hq=>by injection hq with hq; subst hq; rw [fam1,if_pos rfl]) e3 k1 k2 k3 wV hown (show yA.ix<258 by decide) hok
            exact ⟨_,by rw [@zn (linSym σ K),@zn (linSym σ K)]; exact hpost,@xo (linSym σ K) _ _⟩
           have hpo:po=zCL .any yC (Nat.min (Nat.succ len) 32)∨po=zCL .any yB len:=by
            rcases List.mem_cons.1 hpo with h | h
            · exact .inl h
            · exact .inr (List.mem_singleton.1 h)
           rcases hpo with rfl | rfl
           · exact fin yC _ hAC (by show 1≤min (len+1) 32; omega) (Nat.min_le_right _ _) hok
           · exact fin yB len hAB l1 l2 hok
       · exact hc.elim
     · exact hc.elim
   · exact hc.elim
 · exact hc.elim
def encM (x:Int × Int):List Value:=[.int .i64 x.1,.int .i64 x.2]
structure HasFn (P:Program) (f:FuncId):Prop where
 enter:∀ args w,(callFunc f args).run P w=.ok (.enter f args) w
 has:∀ (b off n c:Nat) (zs:List (Int × Int)) (x:Int × Int) (w:World),n≤zs.length→n≤9223372036854775807→(∀ j,j<zs.length→∀ (i:Nat) v,(encM zs[j]!)[i]? = some v→w.cell? ⟨b,off+j*2+i,none⟩=some v) →
  Calls P f #[.slice (some ⟨b,off,none⟩) n c,.agg (encM x).toArray] w fun e w'=>(∃ bl,e=.returned (.bool bl))∧Below w.heap.size w w'
def isI (c:CV):Bool:=match zJQ c with
 | some k=>kEq k .i64
 | none=>false
def zSt (vs:List CV):Nat→Nat→Bool
 | _,0=>true
 | i,n+1=>(match uv vs i with
  | some c=>isI c
  | none=>false)&&zSt vs (Nat.succ i) n
def zLk (d:Bool) (args:List CV) (h:zC) (n:Key):R:=match d with
 | true=>.err 452
 | false=>match args with
  | [.sl b o len _ 2 _,.agg [c1,c2]]=>match zj b h with
   | some (.cells vs)=>match zSt vs o (2*len)&&isI c1&&isI c2&&Nat.ble len 1000 with
    | true=>.fork (.ret (.bool true) h n) (.ret (.bool false) h n)
    | false=>.err 454
   | _=>.err 453
  | _=>.err 451
def zUW:NatF:=fun _=>zLk
def zTM (args:List CV):Bool:=match args with
 | [.sl ..,.agg [_,.anyi _]]=>true
 | _=>false
theorem zN0 [Sym] (d:Bool) (args:List CV) (h:zC) (n:Key):zi n (zLk d args h n):=by
 unfold zLk
 repeat' split
 all_goals first
  | trivial
  | exact ⟨Nat.le_refl _,Nat.le_refl _⟩
section
variable [Sym]
theorem zIM {ψ:Psi} {c:CV} {v:Value} (h:isI c=true) (hv:zH ψ c v):∃ z,v=.int .i64 z:=by
 unfold isI at h
 split at h
 · rename_i k hk
   rw [yl,decide_eq_true_eq] at h
   subst h
   exact zDw hk hv
 · cases h
theorem zKA {vs:List CV}:∀ {n i:Nat},zSt vs i n=true→∀ j,i≤j→j<i+n→∃ c,vs[j]? = some c∧isI c=true
 | 0,i,_,j,h1,h2=>by omega
 | n+1,i,h,j,h1,h2=>by
  unfold zSt at h
  rw [Bool.and_eq_true] at h
  rcases Nat.eq_or_lt_of_le h1 with rfl | h1
  · have h3:=h.1
    split at h3
    · rename_i c hc
      rw [qG] at hc
      exact ⟨c,hc,h3⟩
    · cases h3
  · exact zKA h.2 j h1 (by omega)
end
theorem zNT {arr:Array Value} {x:Nat}:∀ {n:Nat},(∀ j,j<2*n→∃ z,arr[x+j]? = some (.int .i64 z))→∃ zs:List (Int × Int),zs.length=n∧∀ j,j<zs.length→∀ (i:Nat) v,(encM zs[j]!)[i]? = some v→arr[x+j*2+i]? = some v
 | 0,_=>⟨[],rfl,fun j hj=>by simp at hj⟩
 | n+1,h=>by
  obtain ⟨zs,h1,h2⟩:=zNT (n:=n) (fun j hj=>h j (by omega))
  obtain ⟨a,ha⟩:=h (2*n) (by omega)
  obtain ⟨b,hb⟩:=h (2*n+1) (by omega)
  refine ⟨zs++[(a,b)],by simp [h1],fun j hj i v hi=>?_⟩
  by_cases e:j<zs.length
  · refine h2 j e i v ?_
    rw [← hi]
    congr 2
    rw [getElem!_pos _ j e,getElem!_pos _ j (by simp; omega),List.getElem_append_left e]
  · have ej:j=n:=by simp at hj; omega
    subst ej
    have e2:(zs++[(a,b)])[j]! = (a,b):=by
     rw [getElem!_pos _ j (by simp; omega),List.getElem_append_right (by omega)]
     simp
    rw [e2] at hi
    cases i with
    | zero=>simp [encM] at hi; subst hi; rw [← ha]; congr 1; omega
    | succ i=>cases i with
     | zero=>simp [encM] at hi; subst hi; rw [← hb]; congr 1; omega
     | succ i=>simp [encM] at hi
theorem zRr {f:FuncId} (hf:HasFn P f) {args:List CV} {h:zC} {n:Key} {ψ:Psi} {w:World} {args':Array Value} (ha:@zX (linSym σ K) ψ args args'.toList) (hrel:@Rel (linSym σ K) ψ (zC.fam h) w)
 (hc:zb (zLk false args h n)):yf P f args' w (@zl (linSym σ K) ψ (zC.fam h) n w (zLk false args h n)):=by
 unfold yf
 rw [hf.enter]
 show Calls P f args' w fun e w''=>∃ v,e=.returned v∧@zl (linSym σ K) ψ (zC.fam h) n w (zLk false args h n) v w''
 unfold zLk at hc ⊢
 simp only at hc ⊢
 split at hc
 · rename_i b o len cp ex c1 c2
   rw [@za (linSym σ K)] at ha
   obtain ⟨sv,r,hr0,hv,hr⟩:=ha
   rw [@za (linSym σ K)] at hr
   obtain ⟨mv,r',rfl,hv2,hr⟩:=hr
   rw [@zM (linSym σ K)] at hr; subst hr
   split at hc
   · rename_i vs hb0
     have hb:zC.fam h b=some (.cells vs):=hb0
     split at hc
     · rename_i hk
       simp only [Bool.and_eq_true] at hk
       obtain ⟨⟨⟨k1,k2⟩,k3⟩,k4⟩:=hk
       have k4:=@zL zR _ _ k4
       rw [@yY (linSym σ K)] at hv2
       obtain ⟨ma,rfl,hm⟩:=hv2
       rw [@za (linSym σ K)] at hm
       obtain ⟨x1,r1,hm0,hx1,hm⟩:=hm
       rw [@za (linSym σ K)] at hm
       obtain ⟨x2,r2,rfl,hx2,hm⟩:=hm
       rw [@zM (linSym σ K)] at hm
       subst hm
       obtain ⟨m1,rfl⟩:=@zIM (linSym σ K) _ _ _ k2 hx1
       obtain ⟨m2,rfl⟩:=@zIM (linSym σ K) _ _ _ k3 hx2
       obtain rfl:ma=(encM (m1,m2)).toArray:=by cases ma; simp_all [encM]
       rw [@zx (linSym σ K)] at hv
       obtain ⟨p,x,cap',hp,rfl,q1,q2,_,q3⟩:=hv
       obtain rfl:args'=#[.slice (some ⟨p.blk,x,none⟩) len cap',.agg (encM (m1,m2)).toArray]:=by cases args'; simp_all
       obtain ⟨arr,elem,fz,g1,g2,g3,g4,g5⟩:=@Rel.on (linSym σ K) _ _ _ hrel b _ p hb hp
       have hcells:∀ j,j<2*len→∃ z,arr[x+j]? = some (.int .i64 z):=by
        intro j hj
        rcases q3 with ⟨q3,_⟩ | q3
        · obtain ⟨c,hc1,hc2⟩:=@zKA (linSym σ K) _ _ _ k1 (o+j) (by omega) (by omega)
          obtain ⟨y,y1,y2⟩:=g5 _ c hc1
          obtain ⟨z,rfl⟩:=@zIM (linSym σ K) _ _ _ hc2 y2
          refine ⟨z,?_⟩
          rw [← y1,q3]; congr 1; omega
        · omega
       obtain ⟨zs,z1,z2⟩:=zNT hcells
       refine Calls.mono (hf.has p.blk x len cap' zs (m1,m2) w (by omega) (by omega) fun j hj i v hi=>?_) fun e w' ⟨⟨bl,e1⟩,e2⟩=>⟨_,e1,?_⟩
       · have:=z2 j hj i v hi
         unfold World.cell?
         simp only [g1]
         exact this
       · have hpost:=@wb (linSym σ K) ψ (zC.fam h) n w w' hrel e2
         cases bl with
         | true=>exact .inl ⟨ψ,hpost,(@zJ (linSym σ K) _ _ _).2 rfl⟩
         | false=>exact .inr ⟨ψ,hpost,(@zJ (linSym σ K) _ _ _).2 rfl⟩
     · exact hc.elim
   · exact hc.elim
 · exact hc.elim
def zNr (P:Program) (code:FuncId→CFn) (nat:Nats) (fuel:Nat) (f:FuncId) (sel:List CV→Bool) (q:NatF):NatF:=fun S d args h n=>match zBu d&&sel args with
 | true=>q S false args h n
 | false=>@ev S P code nat fuel d f args h n
def natP (P:Program) (code:FuncId→CFn) (fuel:Nat) (f:FuncId) (sel:List CV→Bool) (q:NatF) (nat:Nats):Nats:=fun g=>Bool.rec (motive:=fun _=>Option NatF) (nat g) (some (zNr P code nat fuel f sel q)) (Nat.beq g f)
theorem zId {code:FuncId→CFn} {fuel:Nat} {f:FuncId} {sel:List CV→Bool} {q:NatF} {nat:Nats} (hm:P.follows .mixedOrders=true) (hcode:CodeOk P code)
 (ha:∀ S args h n,zi n (q S false args h n))
 (hq:∀ (σ:Nat→Int) (K:zc),KnownOk σ K→∀ (args:List CV) (h:zC) (n:Key) (ψ:Psi) (w:World) (args':Array Value),@zX (linSym σ K) ψ args args'.toList→kK P ψ→@Rel (linSym σ K) ψ (zC.fam h) w→xe ψ n→zb (q (linSym σ K) false args h n) →
   yf P f args' w (@zl (linSym σ K) ψ (zC.fam h) n w (q (linSym σ K) false args h n)))
 (hn:∀ σ K,KnownOk σ K→@NatsOk (linSym σ K) P nat):∀ σ K,KnownOk σ K→@NatsOk (linSym σ K) P (natP P code fuel f sel q nat):=by
 intro σ K hK
 have hc:@ym (linSym σ K) P (@ev (linSym σ K) P code nat fuel):=by
  letI S:Sym:=linSym σ K
  haveI hS:SymFact P:=xX hK
  exact zA5 (fun call hcall F N=>x6 hm hcall) hcode (hn _ _ hK) fuel
 have hn:=hn σ K hK
 have key:∀ g r,natP P code fuel f sel q nat g=some r→(g=f∧r=zNr P code nat fuel f sel q)∨nat g=some r:=by
  intro g r h
  unfold natP at h
  cases e:Nat.beq g f with
  | true=>
   rw [e] at h
   injection h with h
   exact .inl ⟨Nat.eq_of_beq_eq_true e,h.symm⟩
  | false=>rw [e] at h; exact .inr h
 refine @NatsOk.mk (linSym σ K) P _ (fun g r hg d args h n=>?_) (fun g r hg args h n ψ w args' h1 h2 h3 h4 hcl=>?_) (fun g r hg args h n ψ w args' h1 h2 h3 h4 hcl=>?_)
 · rcases key g r hg with ⟨rfl,rfl⟩ | hg
   · unfold zNr
     split
     · exact ha _ _ _ _
     · exact @ym.above (linSym σ K) _ _ hc d g args h n
   · exact @NatsOk.above (linSym σ K) _ _ hn g r hg d args h n
 · rcases key g r hg with ⟨rfl,rfl⟩ | hg
   · unfold zNr at hcl ⊢
     split at hcl
     · exact hq σ K hK args h n ψ w args' h1 h2 h3 h4 hcl
     · exact @ym.calls (linSym σ K) _ _ hc g args h n ψ w args' h1 h2 h3 h4 hcl
   · exact @NatsOk.calls (linSym σ K) _ _ hn g r hg args h n ψ w args' h1 h2 h3 h4 hcl
 · rcases key g r hg with ⟨rfl,rfl⟩ | hg
   · exact @ym.defers (linSym σ K) _ _ hc g args h n ψ w args' h1 h2 h3 h4 hcl
   · exact @NatsOk.defers (linSym σ K) _ _ hn g r hg args h n ψ w args' h1 h2 h3 h4 hcl
theorem natHas_ok {code:FuncId→CFn} {fuel:Nat} {f:FuncId} {nat:Nats} (hm:P.follows .mixedOrders=true) (hcode:CodeOk P code) (hf:HasFn P f) (hn:∀ σ K,KnownOk σ K→@NatsOk (linSym σ K) P nat) :
 ∀ σ K,KnownOk σ K→@NatsOk (linSym σ K) P (natP P code fuel f zTM zUW nat):=
 zId hm hcode (fun S args h n=>@zN0 S false args h n) (fun _ _ _ _ _ _ _ _ _ h1 _ h3 _ h5=>zRr hf h1 h3 h5) hn
def seenSel (args:List CV):Bool:=match args with
 | [.ptr _ 0,.agg [.nat 1,.sym _]]=>true
 | _=>false
theorem natSeen_ok {code:FuncId→CFn} {fuel:Nat} {f:FuncId} {nat:Nats} (hm:P.follows .mixedOrders=true) (hcode:CodeOk P code) (hf:SeenFn P f) (hn:∀ σ K,KnownOk σ K→@NatsOk (linSym σ K) P nat) :
 ∀ σ K,KnownOk σ K→@NatsOk (linSym σ K) P (natP P code fuel f seenSel seenN nat):=
 zId hm hcode (fun S args h n=>@zMg S false args h n) (fun _ _ _ _ _ _ _ _ _ h1 h2 h3 h4 h5=>zRx hf h1 h2 h3 h4 h5) hn
end
end
end Go.Ev
namespace Go.Ev
open Go.RowKit
noncomputable section
variable {P:Program}
def zGn (x:Nat):List Nat:=if x<10 then [48+x] else [48+x / 10,48+x % 10]
structure ItoaFn (P:Program) (f:FuncId):Prop where
 glob:P.globals.size≤100
 dig:∀ x:Nat,x≤99→zGr P f (zSw .i64 256 yE x (zGn x))
def zNq:Nat→List Fs
 | 0=>[zSw .i64 256 yE (0:Nat) (zGn 0)]
 | n+1=>zSw .i64 256 yE (Nat.succ n:Nat) (zGn (Nat.succ n))::zNq n
theorem zHL:∀ {m n:Nat},n≤m→zSw .i64 256 yE (n:Nat) (zGn n)∈zNq m
 | 0,n,h=>by
  obtain rfl:n=0:=by omega
  exact List.mem_singleton.2 rfl
 | m+1,n,h=>by
  unfold zNq
  by_cases e:n=m+1
  · subst e; exact List.mem_cons_self
  · exact List.mem_cons_of_mem _ (zHL (by omega))
theorem itoaFn_of {f:FuncId} (hg:P.globals.size≤100) (h:∀ s∈zNq 99,zGr P f s):ItoaFn P f:=⟨hg,fun x hx=>h _ (zHL hx)⟩
section
variable [Sym]
def inR (v:CV) (lo hi:Nat):Bool:=match Sym.bin .geq v (.nat lo),Sym.bin .leq v (.nat hi) with
 | some [.bool true],some [.bool true]=>true
 | _,_=>false
def di1 (c:Int) (l:LL):CV:=.sym ⟨.u8,c+48,l⟩
def dgt (v:CV):Option CV:=match v with
 | .nat m=>match Nat.ble m 9 with
  | true=>some (.int .u8 (.ofNat (48+m)))
  | false=>none
 | .sym e=>match kEq e.k .i64&&inR (.sym e) 0 9 with
  | true=>some (di1 e.c e.l)
  | false=>none
 | _=>none
def ul (d:Bool) (args:List CV) (h:zC) (n:Key):R:=match d with
 | true=>.err 442
 | false=>match args with
  | [.nat x]=>match Nat.ble x 9 with
   | true=>.ret (.str [48+x]) h n
   | false=>match Nat.ble x 99 with
    | true=>.ret (.str [48+x / 10,48+x % 10]) h n
    | false=>.err 444
  | [.sym e]=>match kEq e.k .i64 with
   | true=>match inR (.sym e) 0 9 with
    | true=>.ret (.sst [di1 e.c e.l]) h n
    | false=>match inR (.sym e) 10 99 with
     | true=>match Sym.bin .quo (.sym e) (.nat 10),Sym.bin .rem (.sym e) (.nat 10) with
      | some [q],some [r]=>match dgt q,dgt r with
       | some a,some b=>.ret (.sst [a,b]) h n
       | _,_=>.err 443
      | _,_=>.err 446
     | false=>.err 445
   | false=>.err 447
  | _=>.err 441
def itoaN:NatF:=fun S=>@ul S
theorem zLq (d:Bool) (args:List CV) (h:zC) (n:Key):zi n (ul d args h n):=by
 unfold ul
 repeat' split
 all_goals first
  | trivial
  | exact Nat.le_refl _
end
theorem zRD (P:Program) {σ:Nat→Int} {K:zc} (hK:KnownOk σ K) {e:SE} (he:e.k=.i64) {lo hi:Nat} (h:@inR (linSym σ K) (.sym e) lo hi=true):(lo:Int)≤evE σ e∧evE σ e≤hi:=by
 letI S:Sym:=linSym σ K
 haveI hS:SymFact P:=xX hK
 have hv:zH (fun _=>none) (.sym e) (.int .i64 (evE σ e)):=zt.2 (by rw [← he]; rfl)
 unfold inR at h
 split at h
 · rename_i h1 h2
   have g1:=(vg P (u:=.int .i64 (evE σ e)) (v:=.int .i64 (Int.ofNat lo)) default h1 hv (zS.2 rfl)).2
   have g2:=(vg P (u:=.int .i64 (evE σ e)) (v:=.int .i64 (Int.ofNat hi)) default h2 hv (zS.2 rfl)).2
   exact ⟨by simpa [binOp,Op.intCmp] using g1,by simpa [binOp,Op.intCmp] using g2⟩
 · cases h
theorem zQ1 {σ:Nat→Int} {K:zc} {ψ:Psi} {b:ByteArray} {cs:List CV} (h:@zX (linSym σ K) ψ cs ((zo b).map fun x=>Value.int .u8 (Int.ofNat x))):@zH (linSym σ K) ψ (.sst cs) (.string b):=by
 refine (@yx (linSym σ K) _ _ _).2 ⟨b,rfl,?_⟩
 unfold zo at h
 rw [List.map_map] at h
 exact h
theorem zMp {σ:Nat→Int} {K:zc} {ψ:Psi} {c:Int} {l:LL} {x:Nat} (h:c+evL σ l=(x:Int)):@zH (linSym σ K) ψ (di1 c l) (.int .u8 (Int.ofNat (48+x))):=by
 unfold di1
 rw [@zt (linSym σ K)]
 show Value.int .u8 _=Value.int .u8 (c+48+evL σ l)
 congr 1
 show ((48+x:Nat):Int)=_
 omega
theorem zNz (P:Program) {σ:Nat→Int} {K:zc} (hK:KnownOk σ K) (op:BinOp) {x y:CV} {c:CV} {u v:Value} {ψ:Psi} (m:Nat) (hz:∀ w,(binOp op 0 u v).run P w=.ok (.int .i64 (m:Int)) w) (h:@Sym.bin (linSym σ K) op x y=some [c]) (hx:@zH (linSym σ K) ψ x u) (hy:@zH (linSym σ K) ψ y v) :
 @zH (linSym σ K) ψ c (.int .i64 (m:Int)):=by
 letI S:Sym:=linSym σ K
 haveI hS:SymFact P:=xX hK
 obtain ⟨h1,z,h2,c',h3,h4⟩:=(SymFact.ok (P:=P)).1 op x y _ h ψ 0 u v default hx hy
 obtain rfl:c'=c:=by simpa using h3
 rw [hz] at h2
 injection h2 with h2
 subst h2
 exact h4
theorem zUe (P:Program) (x:Nat) (hx:x≤99) (w:World):(binOp .quo 0 (.int .i64 (x:Int)) (.int .i64 10)).run P w=.ok (.int .i64 ((x / 10:Nat):Int)) w:=by
 have h:IntKind.i64.wrap ((x:Int) / 10)=(x:Int) / 10:=by
  rw [← @yr zR,jH .i64 (by show (-9223372036854775808:Int)≤_; omega) (by show _≤(9223372036854775807:Int); omega)]
 simp [binOp,Op.intDiv,h]
theorem zTV (P:Program) (x:Nat) (w:World):(binOp .rem 0 (.int .i64 (x:Int)) (.int .i64 10)).run P w=.ok (.int .i64 ((x % 10:Nat):Int)) w:=by
 simp [binOp,Op.intDiv]
 exact Int.tmod_eq_emod_of_nonneg (by omega)
theorem zNh (P:Program) {σ:Nat→Int} {K:zc} (hK:KnownOk σ K) {v c:CV} {m:Nat} (h:@dgt (linSym σ K) v=some c) (hv:@zH (linSym σ K) (fun _=>none) v (.int .i64 (m:Int))) {ψ:Psi}:@zH (linSym σ K) ψ c (.int .u8 (Int.ofNat (48+m))):=by
 unfold dgt at h
 split at h
 · rename_i y
   split at h
   · injection h with h; subst h
     rw [@zS (linSym σ K)] at hv
     injection hv with _ hv
     have:m=y:=by have:(m:Int)=(y:Int):=hv; omega
     subst this
     rw [@zd (linSym σ K)]
   · cases h
 · rename_i e
   split at h
   · rename_i hb
     injection h with h; subst h
     rw [Bool.and_eq_true,@yl zR,decide_eq_true_eq] at hb
     rw [@zt (linSym σ K)] at hv
     have hv:Value.int .i64 (m:Int)=.int e.k (evE σ e):=hv
     injection hv with _ hv
     refine zMp ?_
     exact hv.symm
   · cases h
 · cases h
theorem zQl {σ:Nat→Int} {K:zc} (hK:KnownOk σ K) {f:FuncId} (hf:ItoaFn P f) {args:List CV} {h:zC} {n:Key} {ψ:Psi} {w:World} {args':Array Value} (ha:@zX (linSym σ K) ψ args args'.toList) (hglob:kK P ψ) (hrel:@Rel (linSym σ K) ψ (zC.fam h) w)
 (hc:zb (@ul (linSym σ K) false args h n)):yf P f args' w (@zl (linSym σ K) ψ (zC.fam h) n w (@ul (linSym σ K) false args h n)):=by
 have key:∀ (x:Nat) (c:CV),x≤99→args'=#[.int .i64 (x:Int)]→(∀ b,zo b=zGn x→@zH (linSym σ K) ψ c (.string b))→@ul (linSym σ K) false args h n=.ret c h n →
  yf P f args' w (@zl (linSym σ K) ψ (zC.fam h) n w (@ul (linSym σ K) false args h n)):=by
  intro x c hx hargs hb e
  rw [e,hargs]
  refine jf (hf.dig x hx (fun _=>0) ⟨⟨Int.le_refl _,Int.le_refl _⟩,trivial⟩ (zCj ψ ⟨0,0,0,fun n=>n⟩ none) w _ (fun σ' K' _ _=>⟨?_,zQi⟩) (zCO hf.glob hglob) zBn) fun v w' ⟨po,hpo,ψ',hok⟩=>?_
  · exact (@zW (linSym σ' K') _ _ _ _ _).2 ⟨(@zd (linSym σ' K') _ _ _ _).2 rfl,(@zM (linSym σ' K') _ _).2 rfl⟩
  · obtain rfl:po=⟨.str (zGn x),[]⟩:=List.mem_singleton.1 hpo
    obtain ⟨b,rfl,hb'⟩:=(@zf (linSym (fun _=>0) kno) _ _ _).1 hok.val
    refine ⟨ψ,@wb (linSym σ K) _ _ _ _ _ hrel ⟨hok.lft.os,hok.lft.tape,hok.lft.output,hok.lft.size,fun B hB=>hok.lft.block B fun ho=>?_⟩,hb b hb'⟩
    rcases ho with ⟨k,o,p,q1,_⟩ | ho
    · have q1:zj k .nil=some o:=q1
      rw [qh] at q1; cases q1
    · omega
 have one:∀ {v:CV},args=[v]→∃ u,args'=#[u]∧@zH (linSym σ K) ψ v u:=by
  intro v e
  rw [e,@za (linSym σ K)] at ha
  obtain ⟨u,r,h1,h2,h3⟩:=ha
  rw [@zM (linSym σ K)] at h3
  subst h3
  exact ⟨u,by cases args'; simp_all,h2⟩
 have sym1:∀ {e:SE},args=[.sym e]→e.k=.i64→args'=#[.int .i64 (evE σ e)]:=by
  intro e h1 h2
  obtain ⟨u,h3,h4⟩:=one h1
  rw [@zt (linSym σ K)] at h4
  subst h4
  rw [h3,← h2]; rfl
 unfold ul at hc
 simp only at hc
 split at hc
 · rename_i x
   obtain ⟨u,h1,h2⟩:=one rfl
   rw [@zS (linSym σ K)] at h2
   subst h2
   split at hc
   · rename_i hx
     have hx9:=@zL zR _ _ hx
     refine key x (.str [48+x]) (by omega) h1 (fun b hb=>(@zf (linSym σ K) _ _ _).2 ⟨b,rfl,?_⟩) (by unfold ul; simp only [hx])
     rw [hb]; unfold zGn; rw [if_pos (by omega)]
   · rename_i hx
     split at hc
     · rename_i hx2
       have hx9:=@zL zR _ _ hx2
       have hx8:¬ x≤9:=fun q=>by
        rw [Nat.ble_eq_true_of_le q] at hx; cases hx
       refine key x (.str [48+x / 10,48+x % 10]) (by omega) h1 (fun b hb=>(@zf (linSym σ K) _ _ _).2 ⟨b,rfl,?_⟩) (by unfold ul; simp only [hx,hx2])
       rw [hb]; unfold zGn; rw [if_neg (by omega)]
     · exact hc.elim
 · rename_i e
   split at hc
   · rename_i hk0
     have hk:=hk0
     rw [@yl zR,decide_eq_true_eq] at hk
     split at hc
     · rename_i h9
       have g:=zRD P hK hk h9
       have e1:evE σ e=e.c+evL σ e.l:=rfl
       refine key (evE σ e).toNat _ (by omega) (by rw [sym1 rfl hk,Int.toNat_of_nonneg (by omega)]) (fun b hb=>zQ1 ?_) (by unfold ul; simp only; rw [hk0]; simp only; rw [h9])
       rw [hb]
       unfold zGn
       rw [if_pos (by omega)]
       exact (@zW (linSym σ K) _ _ _ _ _).2 ⟨zMp (by rw [Int.toNat_of_nonneg (by omega),e1]),(@zM (linSym σ K) _ _).2 rfl⟩
     · rename_i h9
       split at hc
       · rename_i h99
         have g:=zRD P hK hk h99
         split at hc
         · rename_i q r hq hr
           split at hc
           · rename_i a b ha' hb'
             have hv:@zH (linSym σ K) (fun _=>none) (.sym e) (.int .i64 (evE σ e)):=(@zt (linSym σ K) _ _ _).2 (by rw [← hk]; rfl)
             have h10:@zH (linSym σ K) (fun _=>none) (.nat 10) (.int .i64 10):=(@zS (linSym σ K) _ _ _).2 rfl
             obtain ⟨x,hx⟩:∃ x:Nat,evE σ e=(x:Int):=⟨(evE σ e).toNat,(Int.toNat_of_nonneg (by omega)).symm⟩
             rw [hx] at hv g
             have vq:=zNz P hK .quo (x / 10) (zUe P x (by omega)) hq hv h10
             have vr:=zNz P hK .rem (x % 10) (zTV P x) hr hv h10
             refine key x _ (by omega) (by rw [sym1 rfl hk,hx]) (fun b hb=>zQ1 ?_) (by unfold ul; simp only; rw [hk0]; simp only; rw [h9]; simp only; rw [h99]; simp only; rw [hq,hr]; simp only; rw [ha',hb'])
             rw [hb]
             unfold zGn
             rw [if_neg (by omega)]
             exact (@zW (linSym σ K) _ _ _ _ _).2 ⟨zNh P hK ha' vq,(@zW (linSym σ K) _ _ _ _ _).2 ⟨zNh P hK hb' vr,(@zM (linSym σ K) _ _).2 rfl⟩⟩
           · exact hc.elim
         · exact hc.elim
       · exact hc.elim
   · exact hc.elim
 · exact hc.elim
def itoaSel (args:List CV):Bool:=match args with
 | [.sym _]=>true
 | _=>false
theorem natI10_ok {code:FuncId→CFn} {fuel:Nat} {f:FuncId} {nat:Nats} (hm:P.follows .mixedOrders=true) (hcode:CodeOk P code) (hf:ItoaFn P f) (hn:∀ σ K,KnownOk σ K→@NatsOk (linSym σ K) P nat) :
 ∀ σ K,KnownOk σ K→@NatsOk (linSym σ K) P (natP P code fuel f itoaSel itoaN nat):=
 zId hm hcode (fun S args h n=>@zLq S false args h n) (fun _ _ hK _ _ _ _ _ _ h1 h2 h3 _ h5=>zQl hK hf h1 h2 h3 h5) hn
end
end Go.Ev
