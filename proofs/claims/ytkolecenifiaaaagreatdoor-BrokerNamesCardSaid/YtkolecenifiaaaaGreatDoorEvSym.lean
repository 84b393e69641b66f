/- A verified evaluator for the model's code: EvTop, EvNat, EvLin, EvSym, EvAll, EvWithin, EvWr, EvSpread. -/
import Derived.Test.YtkolecenifiaaaaGreatDoorEv6
import Derived.Below
import Derived.Sort.KeysCollected
import Derived.StringKeys
import Derived.Lib.SlKeysI
set_option linter.unusedSectionVars false
set_option linter.unusedVariables false
set_option linter.unusedSimpArgs false
namespace Go.Ev
variable [Sym]
open Go.RowKit
noncomputable section
variable {P:Program}
variable [SymFact P]
def zDu (v:CV):Bool:=CV.rec (motive_1:=fun _=>Bool) (motive_2:=fun _=>Unit) (fun b=>b) (fun _=>false) (fun _ _=>false) (fun _=>false) (fun _=>false) false (fun _ _=>false) false
 (fun _ _ _ _ _ _=>false) false (fun _=>false) (fun _ _ _ _ _=>false) false (fun _ _ _=>false) false (fun _ _=>false) (fun _ _=>false) (fun _=>false) (fun _ _ _ _=>false) (fun _ _=>false) (fun _=>false) (fun _ _=>false) (fun _ _ _ _=>false) false () (fun _ _ _ _=>()) v
def allTrue (r:R):Bool:=R.rec (motive:=fun _=>Bool) (fun _ _ _ _ _=>false) (fun v _ n=>Bool.rec (motive:=fun _=>Bool) false (Nat.ble (Nat.succ n.ix) 65535) (zDu v)) (fun _=>false)
 (fun _ _ a b=>Bool.rec (motive:=fun _=>Bool) false b a) r
theorem zK9 {v:CV} (h:zDu v=true):v=.bool true:=by
 cases v <;> first | (cases h; rfl) | cases h
theorem jJ:∀ {r:R},allTrue r=true→zf r
 | .ok ..,h=>by cases h
 | .ret v hh n,h=>by
  have h:Bool.rec (motive:=fun _=>Bool) false (Nat.ble (Nat.succ n.ix) 65535) (zDu v)=true:=h
  cases hv:zDu v with
  | false=>rw [hv] at h; cases h
  | true=>rw [hv] at h; exact zL h
 | .err _,h=>by cases h
 | .fork a b,h=>by
  have h:Bool.rec (motive:=fun _=>Bool) false (allTrue b) (allTrue a)=true:=h
  cases ha:allTrue a with
  | false=>rw [ha] at h; cases h
  | true=>rw [ha] at h; exact ⟨jJ ha,jJ h⟩
theorem vK {ψ:Psi} {g:Fam} {n:Key} {w:World} {v:Value} {w':World}:∀ {r:R},allTrue r=true→zl ψ g n w r v w'→v=.bool true∧∃ ψ' g' n',yH ψ g n w ψ' g' n' w'
 | .ok ..,h,_=>by cases h
 | .ret cv hh n',h,ho=>by
  have h:Bool.rec (motive:=fun _=>Bool) false (Nat.ble (Nat.succ n'.ix) 65535) (zDu cv)=true:=h
  cases hv:zDu cv with
  | false=>rw [hv] at h; cases h
  | true=>
   obtain ⟨ψ',hp,hr⟩:=ho
   rw [zK9 hv,zJ] at hr
   exact ⟨hr,ψ',_,_,hp⟩
 | .err _,h,_=>by cases h
 | .fork a b,h,ho=>by
  have h:Bool.rec (motive:=fun _=>Bool) false (allTrue b) (allTrue a)=true:=h
  cases ha:allTrue a with
  | false=>rw [ha] at h; cases h
  | true=>
   rw [ha] at h
   rcases ho with ho | ho
   · exact vK ha ho
   · exact vK h ho
def zJN (G:Nat):Psi:=fun k=>if k.ix<G then some ⟨k.ix,0,0,fun n=>n⟩ else none
theorem zHO {G:Nat} (hG:P.globals.size≤G):kR P (zJN G):=by
 intro g hg h4
 have hix:(Key.ofNat g).ix=g:=Key.ix_ofNat (by omega)
 refine ⟨0,?_⟩
 unfold zJN
 rw [hix,if_pos (by omega)]
theorem zFJ {G:Nat} {n:Key} (hn:G≤n.ix):xc (zJN G) n:=by
 intro k hk
 unfold zJN
 rw [if_neg (by omega)]
theorem zCD (k:Key):zC.fam (.nil:zC) k=none:=by
 obtain ⟨a,b,c,d⟩:=k
 show (((H3.get a .nil).get b).get c).get d=none
 rw [H3.get_nil,H2.get_nil,H1.get_nil,HV.get_nil]
theorem zOD (ψ:Psi) (w:World):Rel ψ (zC.fam (.nil:zC)) w:=
 ⟨fun k o p h _=>by (rw [zCD] at h; cases h),fun k o h=>by (rw [zCD] at h; cases h),fun k₁ _ o₁ _ _ _ h _ _ _ _=>by (rw [zCD] at h; cases h)⟩
theorem zL7 {code:FuncId→CFn} {nat:Nats} {fuel:Nat} {f:FuncId} {fn:Func} {c:Code} {args:List CV} {args':Array Value} {G:Nat} {n:Key} (hm:P.follows .mixedOrders=true) (hcode:CodeOk P code) (hnat:NatsOk P nat)
 (hf:P.funcs[f]? = some fn) (hname:(fn.name == "runtime.NumGoroutine")=false) (hb:fn.body=some c) (hG:P.globals.size≤G) (hn:G≤n.ix) (hargs:zS (zJN G) args args'.toList)
 (hrun:allTrue (ev P code nat fuel false f args .nil n)=true) (w:World):Calls P f args' w fun e w'=>e=.returned (.bool true)∧Below w.heap.size w w':=by
 have hok:=vu (fun call hcall F N=>xS hm hcall) hcode hnat fuel
 have h:=hok.calls f args .nil n (zJN G) w args' hargs (zHO hG) (zOD _ _) (zFJ hn) (jJ hrun)
 unfold yR at h
 rw [run_callFunc_enter hf hname hb] at h
 refine Calls.mono h fun e w' ⟨v,e1,hr⟩=>?_
 obtain ⟨rfl,ψ',g',n',hp⟩:=vK hrun hr
 exact ⟨e1,hp.os,hp.tape,hp.output,hp.size,fun k hk=>hp.frame k hk fun k o p hk' _ _=>by rw [zCD] at hk'; cases hk'⟩
end
end Go.Ev
namespace Go.Ev
variable [Sym]
open Go.RowKit Go.Maps
open Go.Proofs (encStr)
noncomputable section
variable {P:Program}
variable [SymFact P]
def zSg (x:List Nat):List (List Nat)→List (List Nat)
 | []=>[x]
 | y::r=>if zAw y x then y::zSg x r else x::y::r
def zHn:List (List Nat)→List (List Nat)
 | []=>[]
 | x::r=>zSg x (zHn r)
def zBa:List CE→List (List Nat)
 | []=>[]
 | e::r=>match e.key with
  | .str s=>s::zBa r
  | _=>zBa r
def zJs (e:CE):List CE→Bool
 | []=>true
 | x::r=>!Nat.beq x.born e.born && !(match x.key,e.key with
  | .str a,.str b=>qC a b
  | _,_=>true)&&zJs e r
def zKW (clock:Nat):List CE→Bool
 | []=>true
 | e::r=>(match e.key with
  | .str s=>Nat.ble (zBM s) 1000000
  | _=>false)&&Nat.ble (Nat.succ e.born) clock&&zJs e r&&zKW clock r
def namesN:NatF:=fun _ d args h n=>match d with
 | true=>.err 402
 | false=>match args with
  | [.map b]=>match zn b h with
   | some (.map es clock)=>match zKW clock es&&Nat.ble (zMi es) 1000000 with
    | true=>match zHn (zBa es) with
     | []=>.ret .nilsl h n
     | k::ks=>jr (Nat.succ ks.length) fun m=>.ret (.sl n 0 m m 1 false) (yu (some (.cells (.str k::ks.map .str))) n h) n.succ
    | false=>.err 403
   | _=>.err 400
  | [.nilmap]=>.ret .nilsl h n
  | _=>.err 401
abbrev toN (l:List UInt8):List Nat:=l.map UInt8.toNat
theorem zTw {a b:List UInt8} (h:toN a=toN b):a=b:=by
 induction a generalizing b with
 | nil=>cases b with
  | nil=>rfl
  | cons _ _=>cases h
 | cons x a ih=>cases b with
  | nil=>cases h
  | cons y b=>
   injection h with h1 h2
   rw [UInt8.toNat_inj.1 h1,ih h2]
theorem zO2 (a b:List UInt8):zAw (toN a) (toN b)=decide (a<b):=by
 rw [zH9]
 induction a generalizing b with
 | nil=>cases b with
  | nil=>simp [Op.bytesLess]
  | cons y b=>simp [Op.bytesLess]
 | cons x a ih=>cases b with
  | nil=>simp [Op.bytesLess]
  | cons y b=>
   rw [Op.bytesLess,ih,Bool.eq_iff_iff]
   simp only [Bool.or_eq_true,Bool.and_eq_true,decide_eq_true_eq,beq_iff_eq,List.cons_lt_cons_iff]
theorem zOr (x:List UInt8):∀ (l:List (List UInt8)),∃ m:List (List UInt8),m.Perm (x::l)∧zSg (toN x) (l.map toN)=m.map toN∧(l.Pairwise (fun a b=>a≤b)→m.Pairwise (fun a b=>a≤b))
 | []=>⟨[x],List.Perm.refl _,rfl,fun _=>by simp⟩
 | y::r=>by
  obtain ⟨m,h1,h2,h3⟩:=zOr x r
  show ∃ m:List (List UInt8),m.Perm (x::y::r)∧(if zAw (toN y) (toN x) then toN y::zSg (toN x) (r.map toN) else toN x::toN y::r.map toN)=m.map toN∧_
  rw [zO2]
  by_cases hlt:y<x
  · rw [decide_eq_true hlt,if_pos rfl,h2]
    refine ⟨y::m,(List.Perm.cons y h1).trans (List.Perm.swap x y r),rfl,fun hp=>?_⟩
    rw [List.pairwise_cons] at hp ⊢
    refine ⟨fun z hz=>?_,h3 hp.2⟩
    rcases List.mem_cons.1 (h1.mem_iff.1 hz) with rfl | hz
    · exact List.le_of_lt hlt
    · exact hp.1 z hz
  · rw [decide_eq_false hlt,if_neg (by simp)]
    refine ⟨x::y::r,List.Perm.refl _,rfl,fun hp=>?_⟩
    have hxy:x≤y:=List.not_lt.1 hlt
    refine List.pairwise_cons.2 ⟨fun z hz=>?_,hp⟩
    rcases List.mem_cons.1 hz with rfl | hz
    · exact hxy
    · exact List.le_trans hxy ((List.pairwise_cons.1 hp).1 z hz)
theorem zKi:∀ (l:List (List UInt8)),∃ m:List (List UInt8),m.Perm l∧zHn (l.map toN)=m.map toN∧m.Pairwise (fun a b=>a≤b)
 | []=>⟨[],List.Perm.refl _,rfl,List.Pairwise.nil⟩
 | x::l=>by
  obtain ⟨m,h1,h2,h3⟩:=zKi l
  obtain ⟨m',g1,g2,g3⟩:=zOr x m
  refine ⟨m',g1.trans (List.Perm.cons x h1),?_,g3 h3⟩
  show zSg (toN x) (zHn (l.map toN))=_
  rw [h2,g2]
theorem zJC {ss l:List (List UInt8)} (hp:ss.Perm l):zHn (l.map toN)=(ss.mergeSort fun x y=>decide (x≤y)).map toN:=by
 obtain ⟨m,h1,h2,h3⟩:=zKi l
 rw [h2]
 congr 1
 refine List.Perm.eq_of_pairwise (le:=fun a b=>a≤b) (fun a b _ _=>List.le_antisymm) h3 ?_ (h1.trans (hp.symm.trans (List.mergeSort_perm _ _).symm))
 have:=List.pairwise_mergeSort (le:=fun x y:List UInt8=>decide (x≤y)) (fun a b c h h'=>decide_eq_true (List.le_trans (of_decide_eq_true h) (of_decide_eq_true h')))
  (fun a b=>by
    rcases List.le_total a b with h | h
    · rw [decide_eq_true h]; rfl
    · rw [decide_eq_true h,Bool.or_true]) ss
 exact this.imp fun h=>of_decide_eq_true h
theorem zBC (b:ByteArray):zo b=toN b.data.toList:=rfl
theorem zD5 {ψ:Psi} {ck:Nat→Nat} (hck:∀ a b,ck a=ck b ↔ a=b) {e:CE} {x:MapEntry} (hx:zBj ψ ck e x):∀ {es:List CE} {l:List MapEntry},yM ψ ck es l→zJs e es=true→∀ y∈l,y.born≠x.born∧y.key≠x.key
 | [],l,h,_=>by
  have h:l=[]:=h
  subst h; intro y hy; cases hy
 | c::es,l,h,hu=>by
  obtain ⟨z,r,rfl,hz,hr⟩:=h
  unfold zJs at hu
  rw [Bool.and_eq_true,Bool.and_eq_true] at hu
  intro y hy
  rcases List.mem_cons.1 hy with rfl | hy
  · refine ⟨fun e1=>?_,fun e1=>?_⟩
    · have:=hu.1.1
      rw [hz.2.2,hx.2.2,hck] at e1
      rw [e1,qe] at this; cases this
    · have h2:=hu.1.2
      have hzk:=hz.1
      have hxk:=hx.1
      rw [e1] at hzk
      generalize c.key=ck at h2 hzk
      generalize e.key=ek at h2 hxk
      cases ck <;> try (cases ek <;> cases h2)
      rename_i s
      cases ek <;> try (cases h2)
      rename_i t
      rw [ze] at hzk hxk
      obtain ⟨b1,q1,q2⟩:=hzk
      obtain ⟨b2,q3,q4⟩:=hxk
      rw [q1] at q3; injection q3 with q3; subst q3
      rw [← q2,← q4] at h2
      have:qC (zo b1) (zo b1)=true:=by rw [jB]; simp
      simp only at h2
      rw [this] at h2; cases h2
  · exact zD5 hck hx hr hu.2 y hy
theorem zJT {ψ:Psi} {ck:Nat→Nat} {clock:Nat} (hck:wL ck clock):∀ {es:List CE} {l:List MapEntry},yM ψ ck es l→zKW clock es=true→∃ ks:List (List UInt8),zBa es=ks.map toN∧l.map (fun e=>e.key)=ks.map encStr∧(∀ k∈ks,k.length≤1000000) ∧
 (∀ x∈l,x.born<ck clock)∧(l.map (fun e=>e.born)).Nodup∧l.Pairwise (fun x y=>x.key≠y.key)
 | [],l,h,_=>by
  have h:l=[]:=h
  subst h
  exact ⟨[],rfl,rfl,by simp,by simp,by simp,List.Pairwise.nil⟩
 | c::es,l,h,hu=>by
  obtain ⟨x,r,rfl,hx,hr⟩:=h
  unfold zKW at hu
  rw [Bool.and_eq_true,Bool.and_eq_true,Bool.and_eq_true] at hu
  obtain ⟨ks,h1,h2,h3,h4,h5,h6⟩:=zJT hck hr hu.2
  have hun:=zD5 (fun _ _=>hck.inj) hx hr hu.1.2
  have hk:=hu.1.1.1
  have hxk:=hx.1
  have hkeys:zBa (c::es)=match c.key with | .str s=>s::zBa es | _=>zBa es:=rfl
  rw [hkeys]
  generalize c.key=ck at hk hxk ⊢
  cases ck <;> try (cases hk)
  rename_i s
  rw [ze] at hxk
  obtain ⟨b,q1,q2⟩:=hxk
  refine ⟨b.data.toList::ks,?_,?_,?_,?_,?_,?_⟩
  · show s::zBa es=_
    rw [h1,← q2]; rfl
  · show x.key::_=_
    rw [h2,q1]
    simp [encStr]
  · intro k hk'
    rcases List.mem_cons.1 hk' with rfl | hk'
    · have:=zL hk
      rw [w5,← q2,zBC,List.length_map] at this
      exact this
    · exact h3 k hk'
  · intro y hy
    rcases List.mem_cons.1 hy with rfl | hy
    · rw [hx.2.2]; exact (hck.here _).1 (zL hu.1.1.2)
    · exact h4 y hy
  · show (x.born::r.map _).Nodup
    refine List.nodup_cons.2 ⟨fun hm=>?_,h5⟩
    obtain ⟨y,hy,e⟩:=List.mem_map.1 hm
    exact (hun y hy).1 e
  · exact List.pairwise_cons.2 ⟨fun y hy e=>(hun y hy).2 e.symm,h6⟩
theorem zAR {α β:Type} {f:α→β}:∀ {A:List β} {l:List α},A.Perm (l.map f)→∃ l':List α,l'.Perm l∧A=l'.map f
 | [],l,h=>by
  have:l=[]:=by simpa using h.symm.eq_nil
  subst this; exact ⟨[],List.Perm.refl _,rfl⟩
 | a::A,l,h=>by
  obtain ⟨x,hx,rfl⟩:=List.mem_map.1 (h.mem_iff.1 (List.mem_cons_self))
  obtain ⟨l1,l2,rfl⟩:=List.append_of_mem hx
  have h':A.Perm ((l1++l2).map f):=by
   rw [List.map_append,List.map_cons] at h
   rw [List.map_append]
   exact List.Perm.cons_inv (h.trans List.perm_middle)
  obtain ⟨l',g1,g2⟩:=zAR h'
  exact ⟨x::l',(List.Perm.cons x g1).trans List.perm_middle.symm,by rw [List.map_cons,g2]⟩
theorem zM4 {ψ:Psi} {ck:Nat→Nat} {clock:Nat} (hck:wL ck clock) {es:List CE} {l:List MapEntry} (hm:xJ ψ ck es l) (ho:zKW clock es=true):∃ ks0 ks:List (List UInt8),zBa es=ks0.map toN∧ks.Perm ks0∧l.map (fun e=>e.key)=ks.map encStr∧(∀ k∈ks,k.length≤1000000) ∧
 (∀ x∈l,x.born<ck clock)∧(l.map (fun e=>e.born)).Nodup∧l.Pairwise (fun x y=>x.key≠y.key):=by
 obtain ⟨l',hp,hc⟩:=hm
 obtain ⟨ks0,h1,h2,h3,h4,h5,h6⟩:=zJT hck hc ho
 obtain ⟨ks,g1,g2⟩:=zAR (A:=l.map fun e=>e.key) (f:=encStr) (l:=ks0) (by rw [← h2]; exact (hp.map _).symm)
 exact ⟨ks0,ks,h1,g1,g2,fun k hk=>h3 k (g1.mem_iff.1 hk),fun x hx=>h4 x (hp.mem_iff.2 hx),(hp.map _).nodup_iff.1 h5,(hp.pairwise_iff fun h e=>h e.symm).1 h6⟩
theorem qj {ψ:Psi} {g:Fam} {n:Key} {w w':World} (h:Rel ψ g w) (hb:Below w.heap.size w w'):yH ψ g n w ψ g n w':=by
 refine ⟨Psi.le_refl _,fun _ _=>rfl,⟨fun k o p h1 h2=>?_,h.tot,h.inj⟩,fun B hB _=>hb.block B hB,fun k o p h1 h2 h3=>.inl ⟨k,o,p,h1,h2,h3,rfl⟩,hb.size,hb.tape,hb.os,hb.output,Nat.le_refl _,
  fun k o p h1 h3=>.inl ⟨k,o,p,h1,h3,rfl⟩⟩
 have:=h.on k o p h1 h2
 exact xM.congr (hb.block _ this.lt) this
theorem zBF {ψ:Psi} {g:Fam} {n:Key} {w w':World} {p:Pl} {o:CObj} (h:Rel ψ g w) (hn:n.room) (hnone:ψ n=none) (hb:Below w.heap.size w w') (hp:w.heap.size≤p.blk) (ho:xM (ψ.upd n p) w' p o) :
 yH ψ g n w (ψ.upd n p) (g.upd n (some o)) n.succ w':=by
 have hix:=Key.ix_succ hn
 have hle:=Psi.le_upd (ψ:=ψ) (k:=n) p hnone
 have hgn:∀ j q,g j=some q→j≠n:=by
  intro j q hj e
  subst e
  obtain ⟨p,hp⟩:=h.tot j q hj
  rw [hnone] at hp; cases hp
 refine ⟨hle,fun k hk=>?_,⟨?_,?_,?_⟩,fun B hB _=>hb.block B hB,?_,hb.size,hb.tape,hb.os,hb.output,by omega,?_⟩
 · exact Psi.upd_other _ _ (fun e=>by subst e; omega)
 · intro j q pj hq hpj
   by_cases hj:j=n
   · subst hj
     rw [Fam.upd_same] at hq; rw [Psi.upd_same] at hpj
     injection hq with hq; injection hpj with hpj
     subst hq; subst hpj; exact ho
   · rw [Fam.upd_other _ _ hj] at hq; rw [Psi.upd_other _ _ hj] at hpj
     have:=h.on j q pj hq hpj
     exact xM.congr (hb.block _ this.lt) (this.mono hle)
 · intro j q hq
   by_cases hj:j=n
   · subst hj; exact ⟨_,Psi.upd_same _ _ _⟩
   · rw [Fam.upd_other _ _ hj] at hq
     obtain ⟨p,hp⟩:=h.tot j q hq
     exact ⟨p,hle _ _ hp⟩
 · intro k₁ k₂ o₁ o₂ p₁ p₂ h1 h2 h3 h4 hr e
   by_cases j1:k₁=n <;> by_cases j2:k₂=n
   · rw [j1,j2]
   · exfalso
     subst j1
     rw [Psi.upd_same] at h3; injection h3 with h3; subst h3
     rw [Fam.upd_other _ _ j2] at h2; rw [Psi.upd_other _ _ j2] at h4
     have:=(h.on _ _ _ h2 h4).lt
     omega
   · exfalso
     subst j2
     rw [Psi.upd_same] at h4; injection h4 with h4; subst h4
     rw [Fam.upd_other _ _ j1] at h1; rw [Psi.upd_other _ _ j1] at h3
     have:=(h.on _ _ _ h1 h3).lt
     omega
   · rw [Fam.upd_other _ _ j1] at h1; rw [Psi.upd_other _ _ j1] at h3
     rw [Fam.upd_other _ _ j2] at h2; rw [Psi.upd_other _ _ j2] at h4
     exact h.inj _ _ _ _ _ _ h1 h2 h3 h4 hr e
 · intro j q pj hq hro hpj
   by_cases hj:j=n
   · subst hj
     rw [Psi.upd_same] at hpj; injection hpj with hpj; subst hpj
     exact .inr hp
   · rw [Fam.upd_other _ _ hj] at hq; rw [Psi.upd_other _ _ hj] at hpj
     exact .inl ⟨j,q,pj,hq,hro,hpj,rfl⟩
 · intro j q pj hq hpj
   by_cases hj:j=n
   · subst hj
     rw [Psi.upd_same] at hpj; injection hpj with hpj; subst hpj
     exact .inr hp
   · rw [Fam.upd_other _ _ hj] at hq; rw [Psi.upd_other _ _ hj] at hpj
     exact .inl ⟨j,q,pj,hq,hpj,rfl⟩
def R0:Value→Option (DataW Unit × List MemPlace):=fun _=>some (.nil,[])
structure NamesFn (P:Program) (f:FuncId) (k:TypeId):Prop where
 enter:∀ args w,(callFunc f args).run P w=.ok (.enter f args) w
 kstr:P.underlying k=some .string
 some_:∀ (b nn:Nat) (D0:DataW Unit) (w:World),w.ownsMap P k R0 b nn D0→Maps.size D0≤maxLen→Maps.size D0*16≤140737488355328 →
  Calls P f #[.map (some b)] w fun e w'=>∃ (v:Value) (ss:List (List UInt8)),e=.returned v∧ss.Perm (strKeys D0) ∧
   w'.ownsRow w.heap.size k 1 v ss.length ((ss.mergeSort (fun x y=>decide (x≤y))).map encStr)∧(v=.slice none 0 0 ↔ ss=[])∧Below w.heap.size w w'
 nil_:∀ w:World,Calls P f #[.map none] w fun e w'=>e=.returned (.slice none 0 0)∧Below w.heap.size w w'
theorem zLp (d:Bool) (args:List CV) (h:zC) (n:Key):zk n (namesN ‹Sym› d args h n):=by
 unfold namesN
 split
 · trivial
 · split
   · split
     · split
       · split
         · exact Nat.le_refl _
         · rw [show ∀ (m:Nat) (k:Nat→R),jr m k=k m from fun m k=>by cases m <;> rfl]
           exact Key.ix_le_succ _
       · trivial
     · trivial
   · exact Nat.le_refl _
   · trivial
theorem zPu {f:FuncId} {k:TypeId} (hf:NamesFn P f k) {args:List CV} {h:zC} {n:Key} {ψ:Psi} {w:World} {args':Array Value} (ha:zS ψ args args'.toList) (hrel:Rel ψ (zC.fam h) w) (hfr:xc ψ n)
 (hc:zf (namesN ‹Sym› false args h n)):yR P f args' w (zl ψ (zC.fam h) n w (namesN ‹Sym› false args h n)):=by
 unfold yR
 rw [hf.enter]
 show Calls P f args' w fun e w''=>∃ v,e=.returned v∧zl ψ (zC.fam h) n w (namesN ‹Sym› false args h n) v w''
 unfold namesN at hc ⊢
 simp only at hc ⊢
 split at hc
 · rename_i b
   rw [zd] at ha
   obtain ⟨v,r,e1,hv,hr⟩:=ha
   rw [zM] at hr; subst hr
   rw [yq] at hv
   obtain ⟨p,hp,rfl⟩:=hv
   obtain rfl:args'=#[.map (some p.blk)]:=by cases args'; simp_all
   split at hc
   · rename_i es clock hg
     split at hc
     · rename_i hok
       rw [Bool.and_eq_true] at hok
       have ho:=hrel.on b (.map es clock) p hg hp
       obtain ⟨arr,hheap,hce,hck⟩:=ho
       obtain ⟨ks0,ks,h1,hpk,h2,h3,h4,h5,h6⟩:=zM4 hck hce hok.1
       have hlen:arr.size=es.length:=by
        have:=hce.length
        rwa [Array.length_toList] at this
       have hle:=zL hok.2
       rw [zAU] at hle
       have hkl:ks.length=arr.size:=by
        have:=congrArg List.length h2
        simpa using this.symm
       have hread:∀ x∈arr.toList,∃ key:List UInt8,key∈ks∧x.key=encStr key∧Go.WideElems.rd P k R0 x=some (.string key,.nil):=by
        intro x hx
        have hm:x.key∈ks.map encStr:=by rw [← h2]; exact List.mem_map.2 ⟨x,hx,rfl⟩
        obtain ⟨key,hk,e⟩:=List.mem_map.1 hm
        refine ⟨key,hk,e.symm,?_⟩
        have hlen:=h3 key hk
        have hko:keyOf P k x.key=some (.string key):=by
         rw [← e]
         have:(⟨key.toArray⟩:ByteArray).size≤maxLen:=by
          show key.toArray.size≤maxLen
          rw [List.size_toArray]; unfold maxLen; omega
         have:=Go.WideMaps.keyOf_string_mk (k:=k) hf.kstr this
         simpa [encStr] using this
        unfold Go.WideElems.rd
        rw [hko]
        rfl
       have hfit:Go.WideElems.Fit P k R0 arr (p.ck clock):=by
        refine ⟨by rw [hlen]; unfold maxLen; omega,?_,fun x hx=>?_⟩
        · exact (Go.MapKept.stamped_iff arr (p.ck clock)).2 ⟨h4,h5,h6⟩
        · obtain ⟨key,_,_,hr⟩:=hread x hx
          exact ⟨_,hr⟩
       have hown:w.ownsMap P k R0 p.blk arr.size (.map ((arr.toList.map (Go.WideElems.rg P k R0)).foldr DataW.insert [])):=⟨arr,p.ck clock,hheap,hfit,Nat.le_refl _,rfl⟩
       have hsize:Maps.size (DataW.map ((arr.toList.map (Go.WideElems.rg P k R0)).foldr DataW.insert []))=arr.size:=by
        rw [Maps.size_eq]
        have:=(Go.WideShapes.sorted_perm (arr.toList.map (Go.WideElems.rg P k R0))).length_eq
        rw [this]; simp
       have hkeys:(strKeys (DataW.map ((arr.toList.map (Go.WideElems.rg P k R0)).foldr DataW.insert []))).Perm ks:=by
        have hp1:((arr.toList.map (Go.WideElems.rg P k R0)).foldr DataW.insert []).Perm (arr.toList.map (Go.WideElems.rg P k R0)):=Go.WideShapes.sorted_perm _
        refine (hp1.map fun q=>strOf q.1).trans ?_
        have:(arr.toList.map (Go.WideElems.rg P k R0)).map (fun q=>strOf q.1)=ks:=by
         have hinj:((arr.toList.map (Go.WideElems.rg P k R0)).map (fun q=>strOf q.1)).map encStr=ks.map encStr:=by
          rw [← h2,List.map_map,List.map_map]
          refine List.map_congr_left fun x hx=>?_
          obtain ⟨key,_,e,hr⟩:=hread x hx
          show encStr (strOf (Go.WideElems.rg P k R0 x).1)=x.key
          unfold Go.WideElems.rg
          rw [hr,e]; rfl
         have inj:∀ (a b:List (List UInt8)),a.map encStr=b.map encStr→a=b:=by
          intro a
          induction a with
          | nil=>intro b h; cases b with
           | nil=>rfl
           | cons _ _=>cases h
          | cons x a ih=>intro b h; cases b with
           | nil=>cases h
           | cons y b=>
            injection h with e1 e2
            rw [encStr_inj e1,ih b e2]
         exact inj _ _ hinj
        rw [this]
       refine Calls.mono (hf.some_ p.blk arr.size _ w hown (by rw [hsize,hlen]; unfold maxLen; omega) (by rw [hsize,hlen]; omega)) fun e w' ⟨v,ss,e1,hperm,hrow,hnil,hbelow⟩=>⟨v,e1,?_⟩
       have hsort:zHn (zBa es)=(ss.mergeSort fun x y=>decide (x≤y)).map toN:=by
        rw [h1]; exact zJC ((hperm.trans hkeys).trans hpk)
       split at hc
       · rename_i hs
         rw [hsort] at hs
         have hss:ss=[]:=by
          have:=congrArg List.length hs
          rw [List.length_map,List.length_mergeSort] at this
          exact List.length_eq_zero_iff.1 this
         rw [hnil.2 hss]
         exact ⟨ψ,qj hrel hbelow,zw.2 rfl⟩
       · rename_i k0 ks0 hs
         rw [show ∀ (m:Nat) (k:Nat→R),jr m k=k m from fun m k=>by cases m <;> rfl] at hc ⊢
         rw [hsort] at hs
         have hslen:ss.length=ks0.length+1:=by
          have:=congrArg List.length hs
          rw [List.length_map,List.length_mergeSort] at this
          exact this
         have hroom:n.room:=Key.room_of_succ (k:=n) hc
         have hnone:=hfr n (Nat.le_refl _)
         rcases hrow.2 with ⟨_,h0⟩ | ⟨g,cap,cur,rfl,hge,hcell,hncap,hcapm,hcs,htake⟩
         · omega
         · refine ⟨ψ.upd n ⟨g,0,cur.size,fun n=>n⟩,?_,?_⟩
           · rw [z6]
             refine zBF (p:=⟨g,0,cur.size,fun n=>n⟩) hrel hroom hnone hbelow hge ?_
             refine ⟨cur,k,(0,0),hcell,rfl,?_,.inl rfl,fun i c hi=>?_⟩
             · simp only [Nat.zero_add,List.length_cons,List.length_map]; omega
             · have hmap:(CV.str k0::ks0.map CV.str)=((ss.mergeSort fun x y=>decide (x≤y)).map toN).map CV.str:=by rw [hs]; rfl
               rw [hmap,List.map_map] at hi
               obtain ⟨l0,hl,rfl⟩:∃ l0,(ss.mergeSort fun x y=>decide (x≤y))[i]? = some l0∧c=CV.str (toN l0):=by
                rw [List.getElem?_map] at hi
                cases hq:(ss.mergeSort fun x y=>decide (x≤y))[i]? with
                | none=>rw [hq] at hi; cases hi
                | some l0=>rw [hq] at hi; injection hi with hi; exact ⟨l0,rfl,hi.symm⟩
               have hcur:cur.toList[i]? = some (encStr l0):=by
                have hli:i<ss.length:=by
                 have:=(List.getElem?_eq_some_iff.1 hl).1
                 rwa [List.length_mergeSort] at this
                have:=congrArg (fun l=>l[i]?) htake
                simp only [List.getElem?_take,List.getElem?_map,hl,Option.map_some] at this
                rw [if_pos (by omega)] at this
                exact this
               refine ⟨encStr l0,?_,?_⟩
               · rw [Array.getElem?_toList] at hcur
                 simpa using hcur
               · rw [ze]
                 refine ⟨_,rfl,?_⟩
                 rw [zBC]
           · rw [yF]
             refine ⟨_,0,cap,Psi.upd_same _ _ _,by rw [hslen],?_,?_,by simp,.inl ⟨rfl,fun _=>?_⟩⟩
             · omega
             · omega
             · simp only; omega
     · exact hc.elim
   · exact hc.elim
 · rw [zd] at ha
   obtain ⟨v,r,e1,hv,hr⟩:=ha
   rw [zM] at hr; subst hr
   rw [yS] at hv; subst hv
   obtain rfl:args'=#[.map none]:=by cases args'; simp_all
   exact Calls.mono (hf.nil_ w) fun e w' ⟨e1,hb⟩=>⟨_,e1,ψ,qj hrel hb,zw.2 rfl⟩
 · exact hc.elim
end
end Go.Ev
namespace Go.Ev
noncomputable section
variable {P:Program}
@[reducible] def zP:Sym where
 arg:=fun _=>none
 val:=fun _=>.int .i64 0
 one:=fun _=>.inl ⟨_,_,rfl⟩
 bin:=fun _ _ _=>none
 cv:=fun _ _=>none
abbrev LL:=List (Nat × Int)
def evL (σ:Nat→Int):LL→Int
 | []=>0
 | p::r=>p.2*σ p.1+evL σ r
def zPj (i:Nat) (a:Int):LL→LL
 | []=>[(i,a)]
 | p::r=>if i=p.1 then (if a+p.2=0 then r else (i,a+p.2)::r) else if i<p.1 then (i,a)::p::r else p::zPj i a r
def wy:LL→LL→LL
 | [],m=>m
 | p::r,m=>zPj p.1 p.2 (wy r m)
def kg (b:Int):LL→LL
 | []=>[]
 | p::r=>(p.1,b*p.2)::kg b r
variable {σ:Nat→Int}
theorem zOi (i:Nat) (a:Int):∀ (m:LL),evL σ (zPj i a m)=a*σ i+evL σ m
 | []=>rfl
 | p::r=>by
  unfold zPj
  split
  · rename_i h
    split
    · rename_i h0
      show evL σ r=a*σ i+(p.2*σ p.1+evL σ r)
      rw [← h,← Int.add_assoc,← Int.add_mul,h0]; simp
    · show (a+p.2)*σ i+evL σ r=a*σ i+(p.2*σ p.1+evL σ r)
      rw [← h,Int.add_mul,Int.add_assoc]
  · split
    · rfl
    · show p.2*σ p.1+evL σ (zPj i a r)=a*σ i+(p.2*σ p.1+evL σ r)
      rw [zOi i a r]; omega
theorem qu:∀ (l m:LL),evL σ (wy l m)=evL σ l+evL σ m
 | [],m=>by simp [wy,evL]
 | p::r,m=>by
  show evL σ (zPj p.1 p.2 (wy r m))=p.2*σ p.1+evL σ r+evL σ m
  rw [zOi,qu r m]; omega
theorem xy (b:Int):∀ (l:LL),evL σ (kg b l)=b*evL σ l
 | []=>by simp [kg,evL]
 | p::r=>by
  show b*p.2*σ p.1+evL σ (kg b r)=b*(p.2*σ p.1+evL σ r)
  rw [xy b r,Int.mul_add,Int.mul_assoc]
structure SRule where
 op:BinOp
 x:SE
 c:Nat
 v:CV
structure zY where
 b:List (Int × Int)
 f:List (LL × Int × Int)
 rules:List SRule
 arg:Key→Option Value:=fun _=>none
def zTy {α:Type} (l:List α) (k:Nat):Option α:=
 List.rec (motive:=fun _=>Nat→Option α) (fun _=>none) (fun x _ ih k=>Nat.rec (motive:=fun _=>Option α) (some x) (fun k _=>ih k) k) l k
theorem zEA {α:Type}:∀ {l:List α} {k:Nat},zTy l k=nth l k
 | [],_=>rfl
 | _::_,0=>rfl
 | _::l,k+1=>zEA (l:=l) (k:=k)
def zFf (b:List (Int × Int)):LL→Option (Int × Int)
 | []=>some (0,0)
 | p::r=>match zTy b p.1,zFf b r with
  | some q,some s=>if 0≤p.2 then some (p.2*q.1+s.1,p.2*q.2+s.2) else some (p.2*q.2+s.1,p.2*q.1+s.2)
  | _,_=>none
def zOa (l m:LL):List (LL × Int × Int)→Option (Int × Int)
 | []=>none
 | q::r=>match j6 q.1 l with
  | true=>some q.2
  | false=>match j6 q.1 m with
   | true=>some (-q.2.2,-q.2.1)
   | false=>zOa l m r
def zQw (l:LL) (F:List (LL × Int × Int)):Option (Int × Int):=zOa l (kg (-1) l) F
def zIK (p:Int × Int) (o:Option (Int × Int)):Option (Int × Int):=match o with
 | some q=>some (max p.1 q.1,min p.2 q.2)
 | none=>some p
def zWe (i:Nat):LL→Bool
 | []=>false
 | p::r=>match Nat.beq p.1 i with
  | true=>true
  | false=>zWe i r
def zQU:LL→LL→Bool
 | [],_=>false
 | p::r,m=>match zWe p.1 m with
  | true=>true
  | false=>zQU r m
def zLb (b:List (Int × Int)) (l:LL):List (LL × Int × Int)→Option (Int × Int)
 | []=>zFf b l
 | q::r=>match zQU l q.1 with
  | false=>zLb b l r
  | true=>match zFf b (wy l (kg (-1) q.1)) with
   | some s=>zIK (q.2.1+s.1,q.2.2+s.2) (zLb b l r)
   | none=>zLb b l r
def rng (K:zY) (l:LL):Option (Int × Int):=match zQw l K.f with
 | some q=>zIK q (zFf K.b l)
 | none=>zLb K.b l K.f
def loK (k:IntKind):Int:=match k with
 | .i8=>-128
 | .i16=>-32768
 | .i32=>-2147483648
 | .i64=>-9223372036854775808
 | _=>0
def hiK (k:IntKind):Int:=match k with
 | .i8=>127
 | .i16=>32767
 | .i32=>2147483647
 | .i64=>9223372036854775807
 | .u8=>255
 | .u16=>65535
 | .u32=>4294967295
 | .u64=>18446744073709551615
def mkS (k:IntKind) (c:Int) (l:LL):CV:=match l with
 | []=>zb k c
 | l=>.sym ⟨k,c,l⟩
def zKN (K:zY) (k:IntKind) (c:Int) (l:LL):Bool:=(match zFf K.b l with
 | some q=>decide (loK k≤c+q.1)&&decide (c+q.2≤hiK k)
 | none=>false) || (match rng K l with
 | some q=>decide (loK k≤c+q.1)&&decide (c+q.2≤hiK k)
 | none=>false)
def zBn (x:CV):Option (IntKind × Int × LL):=match x with
 | .nat n=>some (.i64,.ofNat n,[])
 | .int k n=>some (k,n,[])
 | .sym e=>some (e.k,e.c,e.l)
 | _=>none
def zFY (op:BinOp) (lo hi:Int):Option Bool:=match op with
 | .lss=>if hi<0 then some true else if 0≤lo then some false else none
 | .leq=>if hi≤0 then some true else if 0<lo then some false else none
 | .gtr=>if 0<lo then some true else if hi≤0 then some false else none
 | .geq=>if 0≤lo then some true else if hi<0 then some false else none
 | .eql=>if lo=0∧hi=0 then some true else if 0<lo∨hi<0 then some false else none
 | .neq=>if lo=0∧hi=0 then some false else if 0<lo∨hi<0 then some true else none
 | _=>none
def zTY (K:zY) (op:BinOp) (c:Int) (l:LL):Option Bool:=match (match zFf K.b l with
 | some q=>zFY op (c+q.1) (c+q.2)
 | none=>none) with
 | some r=>some r
 | none=>match rng K l with
  | some q=>zFY op (c+q.1) (c+q.2)
  | none=>none
def zI0 (b:Int):Option Nat:=match b with
 | .ofNat m=>if 2 ^ Nat.log2 (m+1)=m+1 then some m else none
 | .negSucc _=>none
def zGC (K:zY) (k j:IntKind) (c:Int) (l:LL):Option (List CV):=if k=j∧zKN K k c l=true then some [mkS k c l] else none
def zU5 (K:zY) (k j:IntKind) (c:Int) (l:LL):Option (List CV):=match zGC K k j c l with
 | none=>none
 | some r=>match l with
  | []=>some r
  | _=>match rng K l with
   | some q=>if q.1=q.2 then some [zb k (c+q.1)] else some r
   | none=>some r
def zRa (K:zY) (op:BinOp) (x y:CV) (k:IntKind) (a:Int) (l:LL) (j:IntKind) (b:Int) (m:LL):Option (List CV):=match op with
 | .add=>zU5 K k j (a+b) (wy l m)
 | .sub=>zGC K k j (a - b) (wy l (kg (-1) m))
 | .mul=>match m with
  | []=>zGC K k j (a*b) (kg b l)
  | _=>none
 | .shl=>match m with
  | []=>match b with
   | .ofNat s=>zGC K k k (a*2 ^ min s k.bits) (kg (2 ^ min s k.bits) l)
   | .negSucc _=>none
  | _=>none
 | .rem=>match m with
  | []=>match rng K l with
   | some q=>if k=j∧0≤a+q.1∧a+q.2<b then some [x] else none
   | none=>none
  | _=>none
 | .quo=>match m with
  | []=>match rng K l with
   | some q=>if k=j∧0≤a+q.1∧a+q.2<b then some [zb k 0] else none
   | none=>none
  | _=>none
 | .shr=>match m with
  | []=>match b with
   | .ofNat s=>if s=0 then some [x] else match rng K l with
    | some q=>if 0≤a+q.1∧a+q.2<2 ^ min s k.bits then some [zb k 0] else none
    | none=>none
   | .negSucc _=>none
  | _=>none
 | .and=>match m with
  | []=>match zI0 b,rng K l with
   | some _,some q=>if k=j∧0≤a+q.1∧a+q.2≤b∧b≤hiK k then some [x] else none
   | _,_=>none
  | _=>none
 | .or=>match m,l with
  | [],_=>match rng K l with
   | some q=>if k=j∧b=0∧0≤a+q.1∧a+q.2≤hiK k then some [x] else none
   | none=>none
  | _,[]=>match rng K m with
   | some q=>if k=j∧a=0∧0≤b+q.1∧b+q.2≤hiK k then some [y] else none
   | none=>none
  | _,_=>none
 | op=>if k=j then match zTY K op (a - b) (wy l (kg (-1) m)) with
  | some r=>some [.bool r]
  | none=>none
  else none
def zFp (d:Int):LL→LL × LL
 | []=>([],[])
 | p::r=>match zFp d r with
  | (h,l)=>if p.2 % d=0 then ((p.1,p.2 / d)::h,l) else (h,p::l)
def zO8 (K:zY) (a:Int) (l:LL) (d:Int):Option ((Int × LL) × (Int × LL)):=match rng K l with
 | some q=>match rng K (zFp d l).2 with
  | some s=>if 0≤a+q.1∧0<d∧0≤a % d+s.1∧a % d+s.2<d then some ((a / d,(zFp d l).1),(a % d,(zFp d l).2)) else none
  | none=>none
 | none=>none
def zNp:LL→Bool
 | []=>true
 | p::r=>decide (p.2 % 2=0)&&zNp r
def zIY (K:zY) (op:BinOp) (k:IntKind) (a:Int) (l:LL) (j:IntKind) (b:Int) (m:LL):Option (List CV):=match m with
 | []=>match op with
  | .quo=>match zO8 K a l b with
   | some (p,_)=>zGC K k j p.1 p.2
   | none=>none
  | .rem=>match zO8 K a l b with
   | some (_,p)=>if k=j then some [mkS k p.1 p.2] else none
   | none=>none
  | .shr=>match b with
   | .ofNat s=>match zO8 K a l (2 ^ min s k.bits) with
    | some (p,_)=>some [mkS k p.1 p.2]
    | none=>some [.anyi k]
   | .negSucc _=>none
  | .and=>match zI0 b with
   | some n=>match rng K l,zO8 K a l (Int.ofNat n+1) with
    | some q,some (_,p)=>if k=j∧a+q.2≤hiK k∧b≤hiK k then some [mkS k p.1 p.2] else none
    | _,_=>none
   | none=>none
  | .xor=>match rng K l with
   | some q=>if k=j∧b=1∧zNp l=true∧0≤a+q.1∧a+q.2≤hiK k then some [mkS k (if a % 2=0 then a+1 else a - 1) l] else none
   | none=>none
  | _=>none
 | _=>none
def zJa (d:Int):LL→LL
 | []=>[]
 | p::r=>if p.2 % d=0 then zJa d r else (p.1,p.2 % d)::zJa d r
def zMs (K:zY) (k:IntKind) (a:Int) (l:LL):Option (List CV):=match rng K (zJa (2 ^ k.bits) l) with
 | some q=>if loK k≤a % 2 ^ k.bits - (a % 2 ^ k.bits+q.1) / 2 ^ k.bits*2 ^ k.bits+q.1∧a % 2 ^ k.bits - (a % 2 ^ k.bits+q.1) / 2 ^ k.bits*2 ^ k.bits+q.2≤hiK k
  then some [mkS k (a % 2 ^ k.bits - (a % 2 ^ k.bits+q.1) / 2 ^ k.bits*2 ^ k.bits) (zJa (2 ^ k.bits) l)] else none
 | none=>none
def vt (op:BinOp) (x y:CV):List SRule→Option (List CV)
 | []=>none
 | r::l=>match x,y with
  | .sym e,.nat c=>if r.op=op∧r.x.k=e.k∧r.x.c=e.c∧r.x.l=e.l∧r.c=c then some [r.v] else vt op x y l
  | .sym e,.int _ (.ofNat c)=>if r.op=op∧r.x.k=e.k∧r.x.c=e.c∧r.x.l=e.l∧r.c=c∧yv op=true then some [r.v] else vt op x y l
  | _,_=>none
def zBK (op:BinOp):Bool:=BinOp.rec (motive:=fun _=>Bool) false false false true true true true true true true true false false false false false false op
def zK0 (op:BinOp) (x y:CV) (l:List SRule):Option (List CV):=Bool.rec (motive:=fun _=>Option (List CV)) none (vt op x y l) (zBK op)
theorem zL1 {op:BinOp} {x y:CV} {l:List SRule} {r:List CV} (h:zK0 op x y l=some r):vt op x y l=some r:=by
 unfold zK0 at h
 cases e:zBK op with
 | false=>rw [e] at h; cases h
 | true=>rw [e] at h; exact h
def zSX (K:zY) (d:Int) (l:LL) (c:Int):Bool:=match rng K l with
 | some q=>decide (q.1=q.2)&&decide (d+q.1=c)
 | none=>false
def zTI (K:zY) (d:Int) (l:LL) (r:SRule):Bool:=match r.op,r.v,r.c with
 | .eql,.bool false,0=>zSX K d (wy l (kg (-1) r.x.l)) r.x.c || zSX K d (wy l r.x.l) (-r.x.c)
 | _,_,_=>false
def neK (K:zY) (d:Int) (l:LL):List SRule→Bool:=List.rec (motive:=fun _=>Bool) false (fun r _ ih=>zTI K d l r || ih)
def zVf (d:Int) (l m:LL) (r:SRule):Bool:=match r.op,r.v,r.c with
 | .eql,.bool false,0=>(zj d r.x.c&&j6 l r.x.l) || (zj (-d) r.x.c&&j6 m r.x.l)
 | _,_,_=>false
def neX (d:Int) (l m:LL):List SRule→Bool:=List.rec (motive:=fun _=>Bool) false (fun r _ ih=>zVf d l m r || ih)
def neL (K:zY) (k:IntKind) (a:Int) (l:LL) (j:IntKind) (b:Int) (m:LL):Bool:=kEq k j&&neX (a - b) (wy l (kg (-1) m)) (kg (-1) (wy l (kg (-1) m))) K.rules
def zQ0 (K:zY) (op:BinOp) (k:IntKind) (a:Int) (l:LL) (j:IntKind) (b:Int) (m:LL):Option (List CV):=match op with
 | .eql=>match neL K k a l j b m with
  | true=>some [.bool false]
  | false=>none
 | .neq=>match neL K k a l j b m with
  | true=>some [.bool true]
  | false=>none
 | _=>none
def zQh (K:zY) (op:BinOp) (k:IntKind) (a:Int) (l:LL) (j:IntKind) (b:Int) (m:LL):Option (List CV):=match op with
 | .eql=>if k=j∧neK K (a - b) (wy l (kg (-1) m)) K.rules=true then some [.bool false] else none
 | .neq=>if k=j∧neK K (a - b) (wy l (kg (-1) m)) K.rules=true then some [.bool true] else none
 | _=>none
theorem zRZ {op:BinOp} {x y:CV} {l:List SRule} {r:List CV} (h:zK0 op x y l=some r):zBK op=true:=by
 unfold zK0 at h
 cases e:zBK op with
 | false=>rw [e] at h; cases h
 | true=>rfl
def zDw (K:zY) (op:BinOp) (x y:CV):Option (List CV):=match zK0 op x y K.rules with
 | some l=>some l
 | none=>match zBn x,zBn y with
  | some (k,a,l),some (j,b,m)=>match zQ0 K op k a l j b m with
   | some r=>some r
   | none=>match zRa K op x y k a l j b m with
    | some r=>some r
    | none=>match zIY K op k a l j b m with
     | some r=>some r
     | none=>zQh K op k a l j b m
  | _,_=>none
def zNd (K:zY):List CV→List CV→Option Bool
 | [],[]=>some true
 | a::l,b::m=>match zDw K .eql a b with
  | some [.bool true]=>zNd K l m
  | some [.bool false]=>some false
  | _=>none
 | _,_=>some false
def zEW (K:zY) (op:BinOp) (a b:List CV):Option (List CV):=match op,zNd K a b with
 | .eql,some r=>some [.bool r]
 | .neq,some r=>some [.bool (!r)]
 | .add,_=>if a.length+b.length≤1000 then some [.sst (a++b)] else none
 | _,_=>none
def zTu (s:List Nat):List CV:=s.map fun b=>.int .u8 (.ofNat b)
def zS7 (K:zY) (x:CV):Option (IntKind × Int):=match zBn x with
 | some (k,a,l)=>match rng K l with
  | some q=>if q.1=q.2 then some (k,a+q.1) else none
  | none=>none
 | none=>none
def zMU (K:zY) (op:BinOp) (x y:CV):Option (List CV):=match zS7 K x,zS7 K y with
 | some (k,a),some (j,b)=>if k=j∨yv op=true then (match yQ op k a b with
  | some c=>some [c]
  | none=>none) else none
 | _,_=>none
def zT1 (K:zY) (k:IntKind) (a b:Int) (m:LL):Option (List CV):=match rng K m with
 | some q=>if 0≤a∧a≤hiK k∧0≤b+q.1∧b+q.2≤hiK k∧a % 2 ^ (Nat.log2 (b+q.2).toNat+1)=0 then zGC K k k (a+b) m else none
 | none=>none
def zIE (K:zY) (op:BinOp) (x y:CV):Option (List CV):=match zBn x,zBn y with
 | some (k,a,l),some (j,b,m)=>if k=j then (match op with
  | .or=>match l with
   | []=>zT1 K k a b m
   | _=>match m with
    | []=>zT1 K k b a l
    | _=>none
  | .and=>match m with
   | []=>match rng K l with
    | some q=>if 0≤b∧b=2 ^ Nat.log2 b.toNat∧b≤hiK k∧0≤a+q.1∧a+q.2≤hiK k∧(a+q.1) / b=(a+q.2) / b then some [zb k (if (a+q.1) / b % 2=0 then 0 else b)] else none
    | none=>none
   | _=>none
  | _=>none) else none
 | _,_=>none
def zV9 (K:zY) (i:Nat) (t:List (List Nat)):Option (List Nat):=match rng K [(i,1)] with
 | some q=>if q.1=q.2∧0≤q.1 then nth t q.1.toNat else none
 | none=>none
def zJy (K:zY) (x:CV):Option (List Nat):=match x with
 | .few i t=>zV9 K i t
 | .str s=>some s
 | _=>none
def zI5 (K:zY) (op:BinOp) (x y:CV):Option (List CV):=match zJy K x,zJy K y with
 | some a,some b=>match zSG op a b with
  | some c=>some [c]
  | none=>none
 | _,_=>none
def zMG (K:zY) (op:BinOp) (x y:CV):Option (List CV):=match x,y with
 | .sst a,.sst b=>zEW K op a b
 | .sst a,.str b=>zEW K op a (zTu b)
 | .str a,.sst b=>zEW K op (zTu a) b
 | .few i t,y=>zI5 K op (.few i t) y
 | x,.few i t=>zI5 K op x (.few i t)
 | .anyi k,.sym e=>match op with
  | .shr=>match rng K e.l with
   | some q=>if 0≤e.c+q.1 then some [.anyi k] else none
   | none=>none
  | _=>none
 | x,y=>match zDw K op x y with
  | some l=>some l
  | none=>match zIE K op x y with
   | some l=>some l
   | none=>zMU K op x y
def zQR (K:zY) (k:IntKind) (x:CV):Option (List CV):=match zBn x with
 | some (_,a,l)=>if zKN K k a l=true then some [mkS k a l] else zMs K k a l
 | none=>none
def evE (σ:Nat→Int) (e:SE):Int:=e.c+evL σ e.l
def zPv (K:zY) (a:CV) (z:Int) (e:SE):List CV→Bool
 | []=>false
 | .sst [b,.sym q]::ks=>((match zDw K .eql a b with
  | some [.bool true]=>true
  | _=>false)&&kEq q.k .u8&&zj q.c (z+e.c)&&j6 q.l e.l) || zPv K a z e ks
 | _::ks=>zPv K a z e ks
def zIo (K:zY) (a:CV) (z:Int) (ks:List CV):List CV→Bool
 | []=>true
 | .sym e::l=>zPv K a z e ks&&zIo K a z ks l
 | _=>false
def zVO (K:zY) (a ch:CV) (ks:List CV) (r:SRule):Bool:=match r.op,r.v,zBn ch with
 | .mul,.agg l,some (.u8,c,m)=>(match rng K (wy r.x.l (kg (-1) m)) with
  | some q=>decide (q.1=q.2)&&zIo K a (c - q.1 - r.x.c) ks l
  | none=>false)
 | _,_,_=>false
def zLt (K:zY) (a ch:CV) (ks:List CV):List SRule→Bool
 | []=>false
 | r::rs=>zVO K a ch ks r || zLt K a ch ks rs
def zM6 (K:zY) (k:CV) (ks:List CV):Bool:=match k with
 | .sst [a,ch]=>zLt K a ch ks K.rules
 | .str [a,ch]=>zLt K (.int .u8 (.ofNat a)) (.int .u8 (.ofNat ch)) ks K.rules
 | _=>false
@[reducible] def linSym (σ:Nat→Int) (K:zY):Sym where
 arg:=K.arg
 kb:=K.b
 val:=fun e=>.int e.k (evE σ e)
 one:=fun _=>.inl ⟨_,_,rfl⟩
 bin:=zMG K
 cv:=zQR K
 inn:=zM6 K
def jV (n:Int):List Int→Nat
 | []=>0
 | x::l=>(if n<x then 1 else 0)+jV n l
def frN (l:List Int):Nat→Int→Int
 | 0,n=>n+1
 | k+1,n=>if (n+1)∈l then frN l k (n+1) else n+1
def frA (n:Int) (l:List Int):Int:=frN l l.length n
theorem zJj {n:Int}:∀ {l:List Int},jV n l≤l.length
 | []=>Nat.le_refl _
 | x::l=>by
  have:=zJj (n:=n) (l:=l)
  simp only [jV,List.length_cons]
  split <;> omega
theorem zEE {n:Int}:∀ {l:List Int},jV (n+1) l≤jV n l
 | []=>Nat.le_refl _
 | x::l=>by
  have:=zEE (n:=n) (l:=l)
  simp only [jV]
  split <;> split <;> omega
theorem zIz {n:Int}:∀ {l:List Int},n+1∈l→jV (n+1) l+1≤jV n l
 | [],h=>by cases h
 | x::l,h=>by
  simp only [jV]
  rcases List.mem_cons.1 h with rfl | h
  · have:=zEE (n:=n) (l:=l)
    rw [if_neg (by omega),if_pos (by omega)]; omega
  · have:=zIz h
    split <;> split <;> omega
theorem zKz {l:List Int}:∀ {k:Nat} {n:Int},jV n l≤k→frN l k n ∉ l∧n<frN l k n∧frN l k n+jV (frN l k n) l≤n+1+jV n l
 | 0,n,h=>by
  refine ⟨fun hm=>?_,by simp only [frN]; omega,?_⟩
  · have:=zIz (show n+1∈l from hm); omega
  · have:=zEE (n:=n) (l:=l)
    simp only [frN]; omega
 | k+1,n,h=>by
  simp only [frN]
  split
  · rename_i hm
    have h1:=zIz hm
    obtain ⟨a,b,c⟩:=zKz (l:=l) (k:=k) (n:=n+1) (by omega)
    exact ⟨a,by omega,by omega⟩
  · rename_i hm
    have:=zEE (n:=n) (l:=l)
    exact ⟨hm,by omega,by omega⟩
theorem zJK (n:Int) (l:List Int):frA n l ∉ l∧n<frA n l∧frA n l+jV (frA n l) l≤n+1+jV n l:=zKz zJj
theorem zOv {l:List Int}:∀ {k:Nat} {n x:Int},n<x→x<frN l k n→x∈l
 | 0,n,x,h1,h2=>by simp only [frN] at h2; omega
 | k+1,n,x,h1,h2=>by
  simp only [frN] at h2
  split at h2
  · rename_i hm
    by_cases e:x=n+1
    · rw [e]; exact hm
    · exact zOv (n:=n+1) (by omega) h2
  · omega
def zBG (σ:Nat→Int):CV→Int
 | .sym e=>evE σ e
 | .nat n=>.ofNat n
 | .int _ n=>n
 | _=>0
def xx (σ:Nat→Int) (l:List CV):List Int:=l.map (zBG σ)
def zBh (σ:Nat→Int) (r:SRule):Prop:=match r.v with
 | .agg (n::l)=>evE σ r.x=frA (zBG σ n) (xx σ l)
 | _=>False
def zBe (σ:Nat→Int) (r:SRule):Prop:=match r.v with
 | .agg l=>evE σ r.x+jV (evE σ r.x) (xx σ l)≤r.c
 | _=>False
def zBc (σ:Nat→Int) (r:SRule):Prop:=match r.v with
 | .agg l=>evE σ r.x∈xx σ l
 | _=>False
def uN (σ:Nat→Int) (r:SRule):Prop:=∃ u,(r.x.k=.i64∨yv r.op=true)∧yQ r.op r.x.k (evE σ r.x) (.ofNat r.c)=some u∧(r.v=u∨∃ e,r.v=.sym e∧u=zb e.k (evE σ e))
def z7 (σ:Nat→Int) (r:SRule):Prop:=match r.op with
 | .add=>zBh σ r
 | .sub=>zBe σ r
 | .mul=>zBc σ r
 | _=>uN σ r
theorem ui {σ:Nat→Int} {r:SRule} (h:zBK r.op=true):z7 σ r ↔ uN σ r:=by
 unfold z7
 cases e:r.op <;> first | exact Iff.rfl | (rw [e] at h; cases h)
theorem uu {σ:Nat→Int} {r:SRule} (h:r.op=.eql):z7 σ r ↔ uN σ r:=by
 unfold z7
 rw [h]
structure KnownOk (σ:Nat→Int) (K:zY):Prop where
 b:∀ i q,nth K.b i=some q→q.1≤σ i∧σ i≤q.2
 f:∀ q∈K.f,q.2.1≤evL σ q.1∧evL σ q.1≤q.2.2
 rules:∀ r∈K.rules,z7 σ r
section
variable {K:zY}
theorem kE (hb:∀ i q,nth K.b i=some q→q.1≤σ i∧σ i≤q.2):∀ {l:LL} {q:Int × Int},zFf K.b l=some q→q.1≤evL σ l∧evL σ l≤q.2
 | [],q,h=>by
  injection h with h; subst h
  exact ⟨Int.le_refl _,Int.le_refl _⟩
 | p::r,q,h=>by
  unfold zFf at h
  split at h
  · rename_i u s hu hs
    obtain ⟨h1,h2⟩:=hb _ _ (zEA ▸ hu)
    obtain ⟨h3,h4⟩:=kE hb hs
    show q.1≤p.2*σ p.1+evL σ r∧p.2*σ p.1+evL σ r≤q.2
    split at h
    · rename_i h0
      injection h with h; subst h
      have:=Int.mul_le_mul_of_nonneg_left h1 h0
      have:=Int.mul_le_mul_of_nonneg_left h2 h0
      constructor <;> simp only <;> omega
    · rename_i h0
      injection h with h; subst h
      have:=Int.mul_le_mul_of_nonpos_left (a:=p.2) (by omega) h1
      have:=Int.mul_le_mul_of_nonpos_left (a:=p.2) (by omega) h2
      constructor <;> simp only <;> omega
  · cases h
theorem zAt:∀ {a b:LL},j6 a b=true→a=b
 | [],[],_=>rfl
 | (i,a)::l,(j,b)::m,h=>by
  unfold j6 at h
  rw [Bool.and_eq_true,Bool.and_eq_true] at h
  obtain ⟨⟨h1,h2⟩,h3⟩:=h
  rw [@za zP] at h2
  rw [Nat.eq_of_beq_eq_true h1,of_decide_eq_true h2,zAt h3]
 | [],_::_,h=>by cases h
 | _::_,[],h=>by cases h
theorem zFj:∀ {F:List (LL × Int × Int)},(∀ q∈F,q.2.1≤evL σ q.1∧evL σ q.1≤q.2.2)→∀ {l:LL} {q:Int × Int},zOa l (kg (-1) l) F=some q→q.1≤evL σ l∧evL σ l≤q.2
 | [],_,_,_,h=>by cases h
 | p::r,hf,l,q,h=>by
  unfold zOa at h
  have hp:=hf p (by simp)
  split at h
  · rename_i e
    injection h with h; subst h
    rw [← zAt e]; exact hp
  · split at h
    · rename_i e
      injection h with h; subst h
      rw [zAt e,xy] at hp
      constructor <;> simp only <;> omega
    · exact zFj (fun q hq=>hf q (by simp [hq])) h
theorem zGv {F:List (LL × Int × Int)} (hf:∀ q∈F,q.2.1≤evL σ q.1∧evL σ q.1≤q.2.2) {l:LL} {q:Int × Int} (h:zQw l F=some q):q.1≤evL σ l∧evL σ l≤q.2:=zFj hf h
theorem zA4 {b:List (Int × Int)} (hb:∀ i q,nth b i=some q→q.1≤σ i∧σ i≤q.2) {l:LL}:∀ {F:List (LL × Int × Int)},(∀ q∈F,q.2.1≤evL σ q.1∧evL σ q.1≤q.2.2)→∀ {q:Int × Int},zLb b l F=some q→q.1≤evL σ l∧evL σ l≤q.2
 | [],_,q,h=>by
  have key:∀ {K:zY},K.b=b→∀ {l:LL} {q:Int × Int},zFf b l=some q→q.1≤evL σ l∧evL σ l≤q.2:=by
   intro K e l q h
   subst e
   exact kE hb h
  exact key (K:=⟨b,[],[],fun _=>none⟩) rfl h
 | p::r,hf,q,h=>by
  have ih:=fun {q}=>zA4 hb (l:=l) (F:=r) (fun q hq=>hf q (by simp [hq])) (q:=q)
  have hp:=hf p (by simp)
  unfold zLb at h
  split at h
  · exact ih h
  split at h
  · rename_i s hs
    have hs:s.1≤evL σ (wy l (kg (-1) p.1))∧evL σ (wy l (kg (-1) p.1))≤s.2:=by
     have key:∀ {K:zY},K.b=b→∀ {l:LL} {q:Int × Int},zFf b l=some q→q.1≤evL σ l∧evL σ l≤q.2:=by
      intro K e l q h
      subst e
      exact kE hb h
     exact key (K:=⟨b,[],[],fun _=>none⟩) rfl hs
    rw [qu,xy] at hs
    unfold zIK at h
    split at h
    · rename_i u hu
      injection h with h; subst h
      have:=ih hu
      constructor <;> simp only <;> omega
    · injection h with h; subst h
      constructor <;> simp only <;> omega
  · exact ih h
theorem yi (hK:KnownOk σ K) {l:LL} {q:Int × Int} (h:rng K l=some q):q.1≤evL σ l∧evL σ l≤q.2:=by
 unfold rng at h
 split at h
 · rename_i p hp
   have h1:=zGv hK.f hp
   unfold zIK at h
   split at h
   · rename_i s hs
     have h2:=kE hK.b hs
     injection h with h; subst h
     simp only
     omega
   · injection h with h; subst h
     exact h1
 · exact zA4 hK.b hK.f h
theorem jO (k:IntKind) {n:Int} (h1:loK k≤n) (h2:n≤hiK k):yr k n=n:=by
 rw [@yz zP]
 cases k <;> simp only [loK,hiK] at h1 h2 <;> simp [IntKind.wrap,IntKind.signed,IntKind.bits] <;> omega
theorem zBt (k:IntKind) (n:Nat):loK k≤Int.ofNat n:=by
 rw [Int.ofNat_eq_natCast]
 cases k <;> simp only [loK] <;> omega
theorem wB (k:IntKind) {m:Nat} (h2:(m:Int)≤hiK k):toU k (.ofNat m)=m:=by
 show m % 2 ^ k.bits=m
 refine Nat.mod_eq_of_lt ?_
 cases k <;> simp only [hiK] at h2 <;> simp [IntKind.bits] <;> omega
theorem qP (x:CV) {k:IntKind} {a:Int} {l:LL} (h:zBn x=some (k,a,l)) {ψ:Psi} {u:Value} (hu:@zH (linSym σ K) ψ x u):u=.int k (a+evL σ l):=by
 unfold zBn at h
 split at h
 · rename_i n
   injection h with h; injection h with h1 h; injection h with h2 h3
   subst h1 h2 h3
   rw [(@zX (linSym σ K) ψ n u).1 hu]
   simp [evL]
 · rename_i k' n
   injection h with h; injection h with h1 h; injection h with h2 h3
   subst h1 h2 h3
   rw [(@zg (linSym σ K) ψ k' n u).1 hu]
   simp [evL]
 · rename_i e
   injection h with h; injection h with h1 h; injection h with h2 h3
   subst h1 h2 h3
   exact (@zq (linSym σ K) ψ e u).1 hu
 · cases h
theorem zCG {ψ:Psi} (k:IntKind) (c:Int) (l:LL):@zH (linSym σ K) ψ (mkS k c l) (.int k (c+evL σ l)):=by
 unfold mkS
 split
 · have:=@yy (linSym σ K) ψ k c
   simpa [evL] using this
 · exact (@zq (linSym σ K) ψ _ _).2 rfl
theorem zIP (hK:KnownOk σ K) {k:IntKind} {c:Int} {l:LL} (h:zKN K k c l=true):yr k (c+evL σ l)=c+evL σ l:=by
 unfold zKN at h
 rw [Bool.or_eq_true] at h
 rcases h with h | h
 · split at h
   · rename_i q hq
     obtain ⟨h1,h2⟩:=kE hK.b hq
     rw [Bool.and_eq_true,decide_eq_true_eq,decide_eq_true_eq] at h
     exact jO k (by omega) (by omega)
   · cases h
 · split at h
   · rename_i q hq
     obtain ⟨h1,h2⟩:=yi hK hq
     rw [Bool.and_eq_true,decide_eq_true_eq,decide_eq_true_eq] at h
     exact jO k (by omega) (by omega)
   · cases h
theorem zPa (hK:KnownOk σ K) {op:BinOp} {c:Int} {l:LL} {r:Bool} (h:zTY K op c l=some r):∃ lo hi,lo≤c+evL σ l∧c+evL σ l≤hi∧zFY op lo hi=some r:=by
 unfold zTY at h
 split at h
 · rename_i r' hr
   injection h with h; subst h
   split at hr
   · rename_i q hq
     obtain ⟨h1,h2⟩:=kE hK.b hq
     exact ⟨_,_,by omega,by omega,hr⟩
   · cases hr
 · split at h
   · rename_i q hq
     obtain ⟨h1,h2⟩:=yi hK hq
     exact ⟨_,_,by omega,by omega,h⟩
   · cases h
def zUC (σ:Nat→Int) (K:zY) (r:CV) (u:CV):Prop:=∀ (ψ:Psi) (z:Value),@zH (linSym σ K) ψ u z→@zH (linSym σ K) ψ r z
theorem vg (hK:KnownOk σ K) {k j:IntKind} {c:Int} {l:LL} {r:List CV} {n:Int} (h:zGC K k j c l=some r) (hn:n=c+evL σ l):k=j∧∃ x∈r,zUC σ K x (zb k (yr k n)):=by
 unfold zGC at h
 split at h
 · rename_i hc
   injection h with h; subst h
   refine ⟨hc.1,_,List.mem_singleton.2 rfl,fun ψ z hz=>?_⟩
   rw [hn,zIP hK hc.2] at hz
   rw [@qt (linSym σ K) ψ k _ z hz]
   exact zCG k c l
 · cases h
theorem wt {ψ:Psi} {x:CV} {k:IntKind} {n:Int} {u:Value} (hu:@zH (linSym σ K) ψ x u) (e:u=.int k n) {z:Value} (hz:@zH (linSym σ K) ψ (zb k n) z):@zH (linSym σ K) ψ x z:=by
 rw [@qt (linSym σ K) ψ k n z hz,← e]; exact hu
theorem zEb {b:Int} {m:Nat} (h:zI0 b=some m):b=.ofNat m∧∃ t,m+1=2 ^ t:=by
 unfold zI0 at h
 split at h
 · rename_i n
   split at h
   · rename_i e
     injection h with h; subst h
     exact ⟨rfl,_,e.symm⟩
   · cases h
 · cases h
theorem zKd {op:BinOp} {lo hi d:Int} {r:Bool} (h:zFY op lo hi=some r) (h1:lo≤d) (h2:d≤hi) (k:IntKind) {u v:Int} (hd:d=u - v):yQ op k u v=some (.bool r):=by
 have eq:=@za zP u v
 have lt:=@qQ zP u v
 have gt:=@qQ zP v u
 cases op <;> simp only [zFY] at h <;> first | cases h | skip
 case lss=>
  show some (CV.bool (wg u v))=_
  rw [lt]
  split at h
  · injection h with h; subst h; rw [decide_eq_true (by omega)]
  · split at h
    · injection h with h; subst h; rw [decide_eq_false (by omega)]
    · cases h
 case leq=>
  show some (CV.bool (u9 (wg v u)))=_
  rw [gt]
  split at h
  · injection h with h; subst h; rw [decide_eq_false (by omega)]; rfl
  · split at h
    · injection h with h; subst h; rw [decide_eq_true (by omega)]; rfl
    · cases h
 case gtr=>
  show some (CV.bool (wg v u))=_
  rw [gt]
  split at h
  · injection h with h; subst h; rw [decide_eq_true (by omega)]
  · split at h
    · injection h with h; subst h; rw [decide_eq_false (by omega)]
    · cases h
 case geq=>
  show some (CV.bool (u9 (wg u v)))=_
  rw [lt]
  split at h
  · injection h with h; subst h; rw [decide_eq_false (by omega)]; rfl
  · split at h
    · injection h with h; subst h; rw [decide_eq_true (by omega)]; rfl
    · cases h
 case eql=>
  show some (CV.bool (zj u v))=_
  rw [eq]
  split at h
  · injection h with h; subst h; rw [decide_eq_true (by omega)]
  · split at h
    · injection h with h; subst h; rw [decide_eq_false (by omega)]
    · cases h
 case neq=>
  show some (CV.bool (u9 (zj u v)))=_
  rw [eq]
  split at h
  · injection h with h; subst h; rw [decide_eq_true (by omega)]; rfl
  · split at h
    · injection h with h; subst h; rw [decide_eq_false (by omega)]; rfl
    · cases h
theorem zLF (hK:KnownOk σ K) {k j:IntKind} {c:Int} {l:LL} {r:List CV} {n:Int} (h:zU5 K k j c l=some r) (hn:n=c+evL σ l):k=j∧∃ x∈r,zUC σ K x (zb k (yr k n)):=by
 unfold zU5 at h
 split at h
 · cases h
 · rename_i r0 h0
   have g:=vg hK h0 hn
   split at h
   · injection h with h; subst h; exact g
   · split at h
     · rename_i q hq
       split at h
       · rename_i e
         injection h with h; subst h
         refine ⟨g.1,_,List.mem_singleton.2 rfl,?_⟩
         have hf:zKN K k c l=true:=by
          unfold zGC at h0
          split at h0
          · rename_i hh; exact hh.2
          · cases h0
         have h1:=yi hK hq
         have h2:=zIP hK hf
         rw [hn,h2,show c+evL σ l=c+q.1 by omega]
         exact fun _ _ h=>h
       · injection h with h; subst h; exact g
     · injection h with h; subst h; exact g
theorem zLP (hK:KnownOk σ K) {op:BinOp} {x y:CV} {k j:IntKind} {a b:Int} {l m:LL} {r:List CV} (h:zRa K op x y k a l j b m=some r) {ψ:Psi} {u v:Value}
 (hx:@zH (linSym σ K) ψ x u) (hy:@zH (linSym σ K) ψ y v) (eu:u=.int k (a+evL σ l)) (ev:v=.int j (b+evL σ m)) :
 (k=j∨yv op=true)∧∃ w,yQ op k (a+evL σ l) (b+evL σ m)=some w∧∀ z,@zH (linSym σ K) ψ w z→∃ c∈r,@zH (linSym σ K) ψ c z:=by
 have cmp:∀ op,(∀ q,op=q→yv q=false)→(if k=j then match zTY K op (a - b) (wy l (kg (-1) m)) with
  | some r=>some [.bool r]
  | none=>none
  else none)=some r→(k=j∨yv op=true)∧∃ w,yQ op k (a+evL σ l) (b+evL σ m)=some w∧∀ z,@zH (linSym σ K) ψ w z→∃ c∈r,@zH (linSym σ K) ψ c z:=by
  intro op _ h
  split at h
  · rename_i e
    split at h
    · rename_i rb hrb
      injection h with h; subst h
      obtain ⟨lo,hi,h1,h2,hc⟩:=zPa hK hrb
      rw [qu,xy] at h1 h2
      have:=zKd (k:=k) (u:=a+evL σ l) (v:=b+evL σ m) (d:=a+evL σ l - (b+evL σ m)) hc (by omega) (by omega) rfl
      exact ⟨.inl e,_,this,fun z hz=>⟨_,List.mem_singleton.2 rfl,hz⟩⟩
    · cases h
  · cases h
 have put:∀ {c:Int} {n:LL} {s:Int},zGC K k j c n=some r→s=c+evL σ n→yQ op k (a+evL σ l) (b+evL σ m)=some (zb k (yr k s)) →
  (k=j∨yv op=true)∧∃ w,yQ op k (a+evL σ l) (b+evL σ m)=some w∧∀ z,@zH (linSym σ K) ψ w z→∃ c∈r,@zH (linSym σ K) ψ c z:=by
  intro c n s h hs hi
  obtain ⟨e,q,hq,hg⟩:=vg hK h hs
  exact ⟨.inl e,_,hi,fun z hz=>⟨q,hq,hg ψ z hz⟩⟩
 unfold zRa at h
 split at h
 · obtain ⟨e,q,hq,hg⟩:=zLF hK h (n:=(a+evL σ l)+(b+evL σ m)) (by rw [qu]; omega)
   exact ⟨.inl e,_,rfl,fun z hz=>⟨q,hq,hg ψ z hz⟩⟩
 · exact put (s:=(a+evL σ l) - (b+evL σ m)) h (by rw [qu,xy]; omega) rfl
 · split at h
   · exact put (s:=(a+evL σ l)*(b+evL σ [])) h (by rw [xy]; simp only [evL,Int.add_zero]; rw [Int.add_mul,Int.mul_comm b]) rfl
   · cases h
 · -- shl
   split at h
   · split at h
     · rename_i s
       have hb:Int.ofNat s+evL σ []=Int.ofNat s:=by simp [evL]
       rw [hb]
       obtain ⟨_,q,hq,hg⟩:=vg hK h (n:=(a+evL σ l)*2 ^ min s k.bits) (by rw [xy,Int.add_mul,Int.mul_comm (evL σ l)])
       refine ⟨.inr rfl,zb k (yr k ((a+evL σ l)*2 ^ min s k.bits)),?_,fun z hz=>⟨q,hq,hg ψ z hz⟩⟩
       show some (zb k (yr k (Int.mul (a+evL σ l) (.ofNat (Nat.pow 2 (min s k.bits))))))=_
       have:(Int.ofNat (Nat.pow 2 (min s k.bits)))=(2:Int) ^ min s k.bits:=by
        rw [Int.ofNat_eq_natCast]; exact Int.natCast_pow 2 _
       rw [this]; rfl
     · cases h
   · cases h
 · -- rem
   split at h
   · split at h
     · rename_i q hq
       split at h
       · rename_i hc
         injection h with h; subst h
         obtain ⟨h1,h2⟩:=yi hK hq
         have hb:b+evL σ []=b:=by simp [evL]
         rw [hb]
         have hu:(a+evL σ l).tmod b=a+evL σ l:=Int.tmod_eq_of_lt (by omega) (by omega)
         refine ⟨.inl hc.1,zb k (a+evL σ l),?_,fun z hz=>⟨x,by simp,wt hx eu hz⟩⟩
         show Bool.rec (motive:=fun _=>Option CV) (some (zb k ((a+evL σ l).tmod b))) none (zj b (.ofNat 0))=_
         rw [@za zP,decide_eq_false (by intro e; rw [e] at hc; have:=hc.2.2; have e0:(Int.ofNat 0)=0:=rfl; omega),hu]
       · cases h
     · cases h
   · cases h
 · -- quo
   split at h
   · split at h
     · rename_i q hq
       split at h
       · rename_i hc
         injection h with h; subst h
         obtain ⟨h1,h2⟩:=yi hK hq
         have hb:b+evL σ []=b:=by simp [evL]
         rw [hb]
         have hu:(a+evL σ l).tdiv b=0:=Int.tdiv_eq_zero_of_lt (by omega) (by omega)
         refine ⟨.inl hc.1,zb k (yr k 0),?_,fun z hz=>⟨_,List.mem_singleton.2 rfl,?_⟩⟩
         · show Bool.rec (motive:=fun _=>Option CV) (some (zb k (yr k ((a+evL σ l).tdiv b)))) none (zj b (.ofNat 0))=_
           rw [@za zP,decide_eq_false (by intro e; rw [e] at hc; have:=hc.2.2; have e0:(Int.ofNat 0)=0:=rfl; omega),hu]
         · rw [jO k (n:=0) (zBt k 0) (by cases k <;> simp [hiK])] at hz
           exact hz
       · cases h
     · cases h
   · cases h
 · -- shr
   split at h
   · split at h
     · rename_i s
       have hb:Int.ofNat s+evL σ []=Int.ofNat s:=by simp [evL]
       rw [hb]
       split at h
       · rename_i h0
         injection h with h; subst h
         subst h0
         refine ⟨.inr rfl,zb k (a+evL σ l),?_,fun z hz=>⟨x,by simp,wt hx eu hz⟩⟩
         generalize a+evL σ l=n
         cases n with
         | ofNat n=>
          show some (ji k (Nat.div n (Nat.pow 2 (min 0 k.bits))))=some (zb k (.ofNat n))
          rw [Nat.zero_min,show Nat.div n (Nat.pow 2 0)=n from Nat.div_one n]
          cases n <;> rfl
         | negSucc n=>
          show some (zb k ((Int.negSucc n).fdiv (.ofNat (Nat.pow 2 (min 0 k.bits)))))=_
          rw [Nat.zero_min,show (Int.negSucc n).fdiv (.ofNat (Nat.pow 2 0))=Int.negSucc n from Int.fdiv_one _]
       split at h
       · rename_i q hq
         split at h
         · rename_i hc
           injection h with h; subst h
           obtain ⟨h1,h2⟩:=yi hK hq
           obtain ⟨n,hn⟩:∃ n:Nat,a+evL σ l=Int.ofNat n:=⟨(a+evL σ l).toNat,by rw [Int.ofNat_eq_natCast]; omega⟩
           have hlt:n<2 ^ min s k.bits:=by
            have:(n:Int)<2 ^ min s k.bits:=by
             have e:(Int.ofNat n)=(n:Int):=rfl
             rw [← e,← hn]; omega
            have h3:((2 ^ min s k.bits:Nat):Int)=(2:Int) ^ min s k.bits:=Int.natCast_pow 2 _
            rw [← h3] at this
            exact Int.ofNat_lt.1 this
           refine ⟨.inr rfl,ji k 0,?_,fun z hz=>⟨_,List.mem_singleton.2 rfl,hz⟩⟩
           rw [hn]
           show some (ji k (Nat.div n (Nat.pow 2 (min s k.bits))))=_
           rw [show Nat.div n (Nat.pow 2 (min s k.bits))=0 from Nat.div_eq_of_lt hlt]
         · cases h
       · cases h
     · cases h
   · cases h
 · -- and
   split at h
   · split at h
     · rename_i mm q hmk hq
       split at h
       · rename_i hc
         injection h with h; subst h
         obtain ⟨h1,h2⟩:=yi hK hq
         obtain ⟨rfl,t,ht⟩:=zEb hmk
         have hb:Int.ofNat mm+evL σ []=Int.ofNat mm:=by simp [evL]
         rw [hb]
         obtain ⟨n,hn⟩:∃ n:Nat,a+evL σ l=Int.ofNat n:=⟨(a+evL σ l).toNat,by rw [Int.ofNat_eq_natCast]; omega⟩
         have hle:n≤mm:=by
          have:Int.ofNat n≤Int.ofNat mm:=by rw [← hn]; omega
          exact Int.ofNat_le.1 this
         refine ⟨.inl hc.1,zb k (.ofNat n),?_,fun z hz=>⟨x,by simp,wt hx (by rw [eu,hn]) hz⟩⟩
         rw [hn]
         show some (zb k (yr k (.ofNat (Nat.land (toU k (.ofNat n)) (toU k (.ofNat mm))))))=_
         have hmm:((mm:Nat):Int)≤hiK k:=hc.2.2.2
         have hnn:((n:Nat):Int)≤hiK k:=by omega
         rw [wB k hnn,wB k hmm]
         have:Nat.land n mm=n:=by
          show n &&& mm=n
          have e:mm=2 ^ t - 1:=by omega
          rw [e,Nat.and_two_pow_sub_one_eq_mod]
          exact Nat.mod_eq_of_lt (by omega)
         rw [this,jO k (n:=.ofNat n) (zBt k n) hnn]
       · cases h
     · cases h
   · cases h
 · -- or
   have orz:∀ {n:Nat},((n:Nat):Int)≤hiK k→yr k (.ofNat n)=.ofNat n:=fun {n} hn=>jO k (n:=.ofNat n) (zBt k n) hn
   split at h
   · split at h
     · rename_i q hq
       split at h
       · rename_i hc
         injection h with h; subst h
         obtain ⟨h1,h2⟩:=yi hK hq
         obtain ⟨n,hn⟩:∃ n:Nat,a+evL σ l=Int.ofNat n:=⟨(a+evL σ l).toNat,by rw [Int.ofNat_eq_natCast]; omega⟩
         have hnn:((n:Nat):Int)≤hiK k:=by have e:(Int.ofNat n)=(n:Int):=rfl; rw [← e,← hn]; omega
         have hb:b+evL σ []=Int.ofNat 0:=by simp [evL,hc.2.1]
         rw [hb]
         refine ⟨.inl hc.1,zb k (.ofNat n),?_,fun z hz=>⟨x,by simp,wt hx (by rw [eu,hn]) hz⟩⟩
         rw [hn]
         show some (zb k (yr k (.ofNat (Nat.lor (toU k (.ofNat n)) (toU k (.ofNat 0))))))=_
         rw [wB k hnn,show toU k (.ofNat 0)=0 from Nat.zero_mod _,show Nat.lor n 0=n from Nat.or_zero n,orz hnn]
       · cases h
     · cases h
   · split at h
     · rename_i q hq
       split at h
       · rename_i hc
         injection h with h; subst h
         obtain ⟨h1,h2⟩:=yi hK hq
         obtain ⟨n,hn⟩:∃ n:Nat,b+evL σ m=Int.ofNat n:=⟨(b+evL σ m).toNat,by rw [Int.ofNat_eq_natCast]; omega⟩
         have hnn:((n:Nat):Int)≤hiK k:=by have e:(Int.ofNat n)=(n:Int):=rfl; rw [← e,← hn]; omega
         have ha:a+evL σ []=Int.ofNat 0:=by simp [evL,hc.2.1]
         rw [ha]
         refine ⟨.inl hc.1,zb k (.ofNat n),?_,fun z hz=>⟨y,by simp,wt hy (by rw [ev,hn,hc.1]) hz⟩⟩
         rw [hn]
         show some (zb k (yr k (.ofNat (Nat.lor (toU k (.ofNat 0)) (toU k (.ofNat n))))))=_
         rw [wB k hnn,show toU k (.ofNat 0)=0 from Nat.zero_mod _,show Nat.lor 0 n=n from Nat.zero_or n,orz hnn]
       · cases h
     · cases h
   · cases h
 · exact cmp _ (fun q e=>by subst e; cases op <;> first | rfl | (exfalso; simp_all)) h
theorem zHu {d:Int}:∀ (l:LL),evL σ l=d*evL σ (zFp d l).1+evL σ (zFp d l).2
 | []=>by simp [zFp,evL]
 | p::r=>by
  have ih:=zHu (d:=d) r
  unfold zFp
  revert ih
  generalize zFp d r=q
  intro ih
  obtain ⟨h,l⟩:=q
  simp only at ih ⊢
  split
  · rename_i h0
    show p.2*σ p.1+evL σ r=d*(p.2 / d*σ p.1+evL σ h)+evL σ l
    rw [ih,Int.mul_add,← Int.mul_assoc,Int.mul_ediv_cancel' (Int.dvd_of_emod_eq_zero h0)]
    omega
  · show p.2*σ p.1+evL σ r=d*evL σ h+(p.2*σ p.1+evL σ l)
    rw [ih]; omega
theorem zAY (hK:KnownOk σ K) {a d:Int} {l:LL} {p q:Int × LL} (h:zO8 K a l d=some (p,q)) :
 0≤a+evL σ l∧0<d∧(a+evL σ l) / d=p.1+evL σ p.2∧(a+evL σ l) % d=q.1+evL σ q.2∧0≤q.1+evL σ q.2∧q.1+evL σ q.2<d:=by
 have hs:=zHu (σ:=σ) (d:=d) l
 unfold zO8 at h
 split at h
 · rename_i q' hq
   split at h
   · rename_i s hr
     split at h
     · rename_i hc
       injection h with h; injection h with h1 h2
       subst h1 h2
       obtain ⟨g1,g2⟩:=yi hK hq
       obtain ⟨g3,g4⟩:=yi hK hr
       obtain ⟨c1,c2,c3,c4⟩:=hc
       simp only
       have hd:=Int.emod_add_mul_ediv a d
       have key:(a+evL σ l) / d=a / d+evL σ (zFp d l).1∧(a+evL σ l) % d=a % d+evL σ (zFp d l).2:=
        (Int.ediv_emod_unique c2).2 ⟨by rw [Int.mul_add]; omega,by omega,by omega⟩
       exact ⟨by omega,c2,key.1,key.2,by omega,by omega⟩
     · cases h
   · cases h
 · cases h
theorem zE8 (σ:Nat→Int):∀ {l:LL},zNp l=true→∃ n,evL σ l=2*n
 | [],_=>⟨0,rfl⟩
 | p::r,h=>by
  unfold zNp at h
  rw [Bool.and_eq_true,decide_eq_true_eq] at h
  obtain ⟨n,hn⟩:=zE8 σ h.2
  refine ⟨p.2 / 2*σ p.1+n,?_⟩
  show p.2*σ p.1+evL σ r=_
  have:p.2=2*(p.2 / 2):=by omega
  rw [hn,Int.mul_add,← Int.mul_assoc,← this]
theorem zTW (n:Nat):n ^^^ 1=if n % 2=0 then n+1 else n - 1:=by
 have h1:(n ^^^ 1) / 2=n / 2:=by rw [Nat.xor_div_two]; exact Nat.xor_zero _
 have h2:(n ^^^ 1) % 2=1 ↔ ¬ (n % 2=1 ↔ 1 % 2=1):=Nat.xor_mod_two_eq_one
 split <;> omega
theorem zJk (hK:KnownOk σ K) {op:BinOp} {x:CV} {k j:IntKind} {a b:Int} {l m:LL} {r:List CV} (h:zIY K op k a l j b m=some r) {ψ:Psi} {u:Value}
 (hx:@zH (linSym σ K) ψ x u) (eu:u=.int k (a+evL σ l)) :
 (k=j∨yv op=true)∧∃ w,yQ op k (a+evL σ l) (b+evL σ m)=some w∧∀ z,@zH (linSym σ K) ψ w z→∃ c∈r,@zH (linSym σ K) ψ c z:=by
 unfold zIY at h
 split at h
 · have hb:b+evL σ []=b:=by simp [evL]
   rw [hb]
   have done:∀ (p:Int × LL) (n:Int),n=p.1+evL σ p.2→∀ z,@zH (linSym σ K) ψ (zb k n) z→@zH (linSym σ K) ψ (mkS k p.1 p.2) z:=by
    intro p n hn z hz
    rw [@qt (linSym σ K) ψ k n z hz,hn]
    exact zCG k p.1 p.2
   split at h
   · -- quo
     split at h
     · rename_i p q hc
       obtain ⟨h0,hd,h1,_,_,_⟩:=zAY hK hc
       obtain ⟨e,c,hc',hg⟩:=vg hK h (n:=(a+evL σ l).tdiv b) (by rw [Int.tdiv_eq_ediv_of_nonneg h0,h1])
       refine ⟨.inl e,_,?_,fun z hz=>⟨c,hc',hg ψ z hz⟩⟩
       show Bool.rec (motive:=fun _=>Option CV) (some (zb k (yr k ((a+evL σ l).tdiv b)))) none (zj b (.ofNat 0))=_
       rw [@za zP,decide_eq_false (by intro e; rw [e] at hd; exact absurd hd (by decide))]
     · cases h
   · -- rem
     split at h
     · rename_i p q hc
       obtain ⟨h0,hd,_,h1,_,_⟩:=zAY hK hc
       split at h
       · rename_i e
         injection h with h; subst h
         refine ⟨.inl e,zb k ((a+evL σ l).tmod b),?_,fun z hz=>⟨_,List.mem_singleton.2 rfl,done _ _ (by rw [Int.tmod_eq_emod_of_nonneg h0,h1]) z hz⟩⟩
         show Bool.rec (motive:=fun _=>Option CV) (some (zb k ((a+evL σ l).tmod b))) none (zj b (.ofNat 0))=_
         rw [@za zP,decide_eq_false (by intro e; rw [e] at hd; exact absurd hd (by decide))]
       · cases h
     · cases h
   · -- shr
     split at h
     · rename_i s
       split at h
       · rename_i p q hc
         injection h with h; subst h
         obtain ⟨h0,hd,h1,_,_,_⟩:=zAY hK hc
         obtain ⟨n,hn⟩:∃ n:Nat,a+evL σ l=Int.ofNat n:=⟨(a+evL σ l).toNat,by rw [Int.ofNat_eq_natCast]; omega⟩
         refine ⟨.inr rfl,zb k (.ofNat (n / 2 ^ min s k.bits)),?_,fun z hz=>⟨_,List.mem_singleton.2 rfl,done _ _ ?_ z hz⟩⟩
         · rw [hn]
           show some (ji k (Nat.div n (Nat.pow 2 (min s k.bits))))=some (zb k (.ofNat (n / 2 ^ min s k.bits)))
           show some (ji k (n / 2 ^ min s k.bits))=_
           generalize n / 2 ^ min s k.bits=t
           cases t <;> rfl
         · rw [← h1,hn]
           show ((n / 2 ^ min s k.bits:Nat):Int)=(n:Int) / _
           rw [Int.natCast_ediv,Int.natCast_pow]; rfl
       · injection h with h; subst h
         generalize a+evL σ l=n
         cases n with
         | ofNat n=>exact ⟨.inr rfl,_,rfl,fun z hz=>⟨_,List.mem_singleton.2 rfl,(@yk (linSym σ K) _ _ _).2 ⟨_,@zAI (linSym σ K) ψ k _ z hz⟩⟩⟩
         | negSucc n=>exact ⟨.inr rfl,_,rfl,fun z hz=>⟨_,List.mem_singleton.2 rfl,(@yk (linSym σ K) _ _ _).2 ⟨_,@qt (linSym σ K) ψ k _ z hz⟩⟩⟩
     · cases h
   · -- and
     split at h
     · rename_i mm hmk
       obtain ⟨rfl,t,ht⟩:=zEb hmk
       split at h
       · rename_i q p1 p hq hc
         split at h
         · rename_i hh
           injection h with h; subst h
           obtain ⟨h0,hd,_,h1,h2,h3⟩:=zAY hK hc
           obtain ⟨g1,g2⟩:=yi hK hq
           obtain ⟨n,hn⟩:∃ n:Nat,a+evL σ l=Int.ofNat n:=⟨(a+evL σ l).toNat,by rw [Int.ofNat_eq_natCast]; omega⟩
           have hnn:((n:Nat):Int)≤hiK k:=by have e:(Int.ofNat n)=(n:Int):=rfl; rw [← e,← hn]; omega
           have hmm:((mm:Nat):Int)≤hiK k:=hh.2.2
           have hland:Nat.land n mm=n % (mm+1):=by
            show n &&& mm=_
            have e:mm=2 ^ t - 1:=by omega
            rw [ht,e,Nat.and_two_pow_sub_one_eq_mod]
           have hle:n % (mm+1)≤n:=Nat.mod_le _ _
           refine ⟨.inl hh.1,zb k (.ofNat (n % (mm+1))),?_,fun z hz=>⟨_,List.mem_singleton.2 rfl,done _ _ ?_ z hz⟩⟩
           · rw [hn]
             show some (zb k (yr k (.ofNat (Nat.land (toU k (.ofNat n)) (toU k (.ofNat mm))))))=_
             rw [wB k hnn,wB k hmm,hland,jO k (n:=.ofNat (n % (mm+1))) (zBt k _) (by rw [Int.ofNat_eq_natCast]; omega)]
           · rw [← h1,hn]
             rfl
         · cases h
       · cases h
     · cases h
   · -- xor
     split at h
     · rename_i q hq
       split at h
       · rename_i hh
         injection h with h; subst h
         obtain ⟨e,rfl,he,hlo,hhi⟩:=hh
         obtain ⟨g1,g2⟩:=yi hK hq
         obtain ⟨t,ht⟩:=zE8 σ he
         obtain ⟨n,hn⟩:∃ n:Nat,a+evL σ l=Int.ofNat n:=⟨(a+evL σ l).toNat,by rw [Int.ofNat_eq_natCast]; omega⟩
         have en:(Int.ofNat n)=(n:Int):=rfl
         have hnn:((n:Nat):Int)≤hiK k:=by rw [← en,← hn]; omega
         have hodd:hiK k % 2=1:=by cases k <;> decide
         have h1k:(1:Int)≤hiK k:=by cases k <;> decide
         have hx1:=zTW n
         refine ⟨.inl e,zb k (.ofNat (n ^^^ 1)),?_,fun z hz=>⟨_,List.mem_singleton.2 rfl,done (if a % 2=0 then a+1 else a - 1,l) _ ?_ z hz⟩⟩
         · rw [hn]
           show some (zb k (yr k (.ofNat (Nat.xor (toU k (.ofNat n)) (toU k (.ofNat 1))))))=_
           rw [wB k (by omega),wB k (m:=1) h1k]
           show some (zb k (yr k (.ofNat (n ^^^ 1))))=_
           rw [jO k (n:=.ofNat (n ^^^ 1)) (zBt k _) (by rw [hx1]; split <;> rw [Int.ofNat_eq_natCast] <;> omega)]
         · show Int.ofNat (n ^^^ 1)=_+evL σ l
           rw [hx1]
           have hn':a+evL σ l=(n:Int):=hn
           by_cases h2:a % 2=0
           · rw [if_pos (by omega)]
             simp only [h2,if_true]
             rw [Int.ofNat_eq_natCast]; omega
           · rw [if_neg (by omega)]
             simp only [h2,if_false]
             rw [Int.ofNat_eq_natCast]; omega
       · cases h
     · cases h
   · cases h
 · cases h
theorem zHM {d:Int}:∀ (l:LL),∃ t,evL σ l=evL σ (zJa d l)+d*t
 | []=>⟨0,by simp [zJa]⟩
 | p::r=>by
  obtain ⟨t,ht⟩:=zHM (d:=d) r
  have hp:=Int.emod_add_mul_ediv p.2 d
  unfold zJa
  split
  · rename_i h0
    refine ⟨p.2 / d*σ p.1+t,?_⟩
    show p.2*σ p.1+evL σ r=_
    rw [ht,Int.mul_add,← Int.mul_assoc]
    rw [h0,Int.zero_add] at hp
    rw [hp]; omega
  · refine ⟨p.2 / d*σ p.1+t,?_⟩
    show p.2*σ p.1+evL σ r=p.2 % d*σ p.1+evL σ (zJa d r)+_
    have:p.2*σ p.1=p.2 % d*σ p.1+d*(p.2 / d*σ p.1):=by
     rw [← Int.mul_assoc,← Int.add_mul,hp]
    rw [this,ht,Int.mul_add]; omega
theorem zRo (k:IntKind) (n t:Int):k.wrap (n+2 ^ k.bits*t)=k.wrap n:=by
 have:(n+2 ^ k.bits*t) % (2 ^ k.bits:Int)=n % (2 ^ k.bits:Int):=Int.add_mul_emod_self_left _ _ _
 unfold IntKind.wrap
 rw [this]
theorem zLs (hK:KnownOk σ K) {k:IntKind} {a:Int} {l:LL} {r:List CV} (h:zMs K k a l=some r) {ψ:Psi}:∃ c∈r,@zH (linSym σ K) ψ c (.int k (k.wrap (a+evL σ l))):=by
 unfold zMs at h
 split at h
 · rename_i q hq
   split at h
   · rename_i hc
     injection h with h; subst h
     obtain ⟨h1,h2⟩:=yi hK hq
     obtain ⟨t,ht⟩:=zHM (σ:=σ) (d:=2 ^ k.bits) l
     have ha:=Int.emod_add_mul_ediv a (2 ^ k.bits)
     refine ⟨_,List.mem_singleton.2 rfl,?_⟩
     generalize hz:(a % 2 ^ k.bits+q.1) / 2 ^ k.bits=z at hc
     have e:a+evL σ l=(a % 2 ^ k.bits - z*2 ^ k.bits+evL σ (zJa (2 ^ k.bits) l))+2 ^ k.bits*(z+a / 2 ^ k.bits+t):=by
      rw [ht,Int.mul_add,Int.mul_add,Int.mul_comm z]; omega
     rw [e,zRo,← @yz zP,jO k (by omega) (by omega)]
     exact zCG k _ _
   · cases h
 · cases h
theorem vd {op:BinOp} {x y:CV}:∀ {l:List SRule} {r:List CV},vt op x y l=some r→∃ q∈l,∃ e c,x=.sym e∧(y=.nat c∨(∃ j,y=.int j (.ofNat c))∧yv op=true)∧q.op=op∧q.x=e∧q.c=c∧r=[q.v]
 | [],_,h=>by cases h
 | q::l,r,h=>by
  unfold vt at h
  split at h
  · rename_i e c
    split at h
    · rename_i hq
      injection h with h
      refine ⟨q,by simp,e,c,rfl,.inl rfl,hq.1,?_,hq.2.2.2.2,h.symm⟩
      obtain ⟨k,c',l'⟩:=e
      have h1:=hq.2.1
      have h2:=hq.2.2.1
      have h3:=hq.2.2.2.1
      cases hqx:q.x
      rw [hqx] at h1 h2 h3
      simp only at h1 h2 h3
      rw [h1,h2,h3]
    · obtain ⟨q',h1,h2⟩:=vd h
      exact ⟨q',by simp [h1],h2⟩
  · rename_i e j c
    split at h
    · rename_i hq
      injection h with h
      refine ⟨q,by simp,e,c,rfl,.inr ⟨⟨j,rfl⟩,hq.2.2.2.2.2⟩,hq.1,?_,hq.2.2.2.2.1,h.symm⟩
      obtain ⟨k,c',l'⟩:=e
      have h1:=hq.2.1
      have h2:=hq.2.2.1
      have h3:=hq.2.2.2.1
      cases hqx:q.x
      rw [hqx] at h1 h2 h3
      simp only at h1 h2 h3
      rw [h1,h2,h3]
    · obtain ⟨q',h1,h2⟩:=vd h
      exact ⟨q',by simp [h1],h2⟩
  · cases h
theorem zHK (hK:KnownOk σ K) {d c:Int} {l:LL} (h:zSX K d l c=true):d+evL σ l=c:=by
 unfold zSX at h
 split at h
 · rename_i q hq
   rw [Bool.and_eq_true,decide_eq_true_eq,decide_eq_true_eq] at h
   have:=yi hK hq
   omega
 · cases h
theorem zP4 (hK:KnownOk σ K) {d:Int} {l:LL} {r:SRule} (hr:z7 σ r) (h:zTI K d l r=true):d+evL σ l≠0:=by
 unfold zTI at h
 split at h
 · rename_i h1 h2 h3
   have hne:evE σ r.x≠0:=by
    obtain ⟨u,_,g2,g3⟩:=(uu h1).1 hr
    rw [h1,h3] at g2
    have g2:some (CV.bool (zj (evE σ r.x) (.ofNat 0)))=some u:=g2
    injection g2 with g2
    rw [h2] at g3
    rcases g3 with g3 | ⟨e,g3,_⟩
    · rw [← g2] at g3
      injection g3 with g3
      intro e
      rw [e] at g3
      rw [@za zP] at g3
      exact absurd g3 (by decide)
    · cases g3
   unfold evE at hne
   rw [Bool.or_eq_true] at h
   rcases h with h | h
   · have:=zHK hK h
     rw [qu,xy] at this
     omega
   · have:=zHK hK h
     rw [qu] at this
     omega
 · cases h
theorem zCW (hK:KnownOk σ K) {d:Int} {l:LL}:∀ {rs:List SRule},(∀ r∈rs,z7 σ r)→neK K d l rs=true→d+evL σ l≠0
 | [],_,h=>by cases h
 | r::rs,hr,h=>by
  have h:(zTI K d l r || neK K d l rs)=true:=h
  rw [Bool.or_eq_true] at h
  rcases h with h | h
  · exact zP4 hK (hr r (by simp)) h
  · exact zCW hK (fun q hq=>hr q (by simp [hq])) h
theorem zER {d:Int} {l m:LL} (hm:evL σ m = -evL σ l):∀ {rs:List SRule},(∀ r∈rs,z7 σ r)→neX d l m rs=true→d+evL σ l≠0
 | [],_,h=>by cases h
 | r::rs,hr,h=>by
  have h:(zVf d l m r || neX d l m rs)=true:=h
  rw [Bool.or_eq_true] at h
  rcases h with h | h
  · have hr:=hr r (by simp)
    unfold zVf at h
    split at h
    · rename_i h1 h2 h3
      have hne:evE σ r.x≠0:=by
       obtain ⟨u,_,g2,g3⟩:=(uu h1).1 hr
       rw [h1,h3] at g2
       have g2:some (CV.bool (zj (evE σ r.x) (.ofNat 0)))=some u:=g2
       injection g2 with g2
       rw [h2] at g3
       rcases g3 with g3 | ⟨e,g3,_⟩
       · rw [← g2] at g3
         injection g3 with g3
         intro e
         rw [e] at g3
         rw [@za zP] at g3
         exact absurd g3 (by decide)
       · cases g3
      unfold evE at hne
      rw [Bool.or_eq_true,Bool.and_eq_true,Bool.and_eq_true,@za zP,@za zP,decide_eq_true_eq,decide_eq_true_eq] at h
      rcases h with ⟨q1,q2⟩ | ⟨q1,q2⟩
      · rw [q1,zAt q2]; exact hne
      · rw [← q1,← zAt q2,hm] at hne
        omega
    · cases h
  · exact zER hm (fun q hq=>hr q (by simp [hq])) h
theorem zK1 (hK:KnownOk σ K) {k j:IntKind} {a b:Int} {l m:LL} (h:neL K k a l j b m=true):k=j∧a+evL σ l≠b+evL σ m:=by
 unfold neL at h
 rw [Bool.and_eq_true,@yo zP,decide_eq_true_eq] at h
 refine ⟨h.1,?_⟩
 have:=zER (σ:=σ) (by rw [xy]; omega) hK.rules h.2
 rw [qu,xy] at this
 omega
theorem zL2 (hK:KnownOk σ K) {op:BinOp} {k j:IntKind} {a b:Int} {l m:LL} {r:List CV} (h:zQ0 K op k a l j b m=some r) {ψ:Psi} :
 (k=j∨yv op=true)∧∃ w,yQ op k (a+evL σ l) (b+evL σ m)=some w∧∀ z,@zH (linSym σ K) ψ w z→∃ c∈r,@zH (linSym σ K) ψ c z:=by
 unfold zQ0 at h
 split at h
 · split at h
   · rename_i e
     injection h with h; subst h
     obtain ⟨e1,e2⟩:=zK1 hK e
     refine ⟨.inl e1,.bool false,?_,fun z hz=>⟨_,List.mem_singleton.2 rfl,hz⟩⟩
     show some (CV.bool (zj (a+evL σ l) (b+evL σ m)))=_
     rw [@za zP,decide_eq_false e2]
   · cases h
 · split at h
   · rename_i e
     injection h with h; subst h
     obtain ⟨e1,e2⟩:=zK1 hK e
     refine ⟨.inl e1,.bool true,?_,fun z hz=>⟨_,List.mem_singleton.2 rfl,hz⟩⟩
     show some (CV.bool (u9 (zj (a+evL σ l) (b+evL σ m))))=_
     rw [@za zP,decide_eq_false e2]
     rfl
   · cases h
 · cases h
theorem zLI (hK:KnownOk σ K) {op:BinOp} {k j:IntKind} {a b:Int} {l m:LL} {r:List CV} (h:zQh K op k a l j b m=some r) {ψ:Psi} :
 (k=j∨yv op=true)∧∃ w,yQ op k (a+evL σ l) (b+evL σ m)=some w∧∀ z,@zH (linSym σ K) ψ w z→∃ c∈r,@zH (linSym σ K) ψ c z:=by
 unfold zQh at h
 split at h
 · split at h
   · rename_i e
     injection h with h; subst h
     have:=zCW hK hK.rules e.2
     rw [qu,xy] at this
     refine ⟨.inl e.1,.bool false,?_,fun z hz=>⟨_,List.mem_singleton.2 rfl,hz⟩⟩
     show some (CV.bool (zj (a+evL σ l) (b+evL σ m)))=_
     rw [@za zP,decide_eq_false (by omega)]
   · cases h
 · split at h
   · rename_i e
     injection h with h; subst h
     have:=zCW hK hK.rules e.2
     rw [qu,xy] at this
     refine ⟨.inl e.1,.bool true,?_,fun z hz=>⟨_,List.mem_singleton.2 rfl,hz⟩⟩
     show some (CV.bool (u9 (zj (a+evL σ l) (b+evL σ m))))=_
     rw [@za zP,decide_eq_false (by omega)]
     rfl
   · cases h
 · cases h
theorem zDq (hK:KnownOk σ K) {op:BinOp} {x y:CV} {l:List CV} (hb:zDw K op x y=some l) (ψ:Psi) (t:TypeId) (u v:Value) (w:World) (hu:@zH (linSym σ K) ψ x u) (hv:@zH (linSym σ K) ψ y v) :
 ((∃ k m,u=.int k m)∨∃ b,u=.string b)∧∃ z,(binOp op t u v).run P w=.ok z w∧∃ c∈l,@zH (linSym σ K) ψ c z:=by
 unfold zDw at hb
 split at hb
 · rename_i r hr
   injection hb with hb; subst hb
   obtain ⟨q,hq,e,c,rfl,hy,h1,h2,h3,h4⟩:=vd (zL1 hr)
   obtain ⟨z,h0,hz,hzz⟩:=(ui (by rw [h1]; exact zRZ hr)).1 (hK.rules q hq)
   have hu:u=.int e.k (evE σ e):=(@zq (linSym σ K) ψ e u).1 hu
   obtain ⟨j,hv,hj⟩:∃ j,v=.int j (.ofNat c)∧(j=.i64∨yv op=true):=by
    rcases hy with rfl | ⟨⟨j,rfl⟩,hs⟩
    · exact ⟨_,(@zX (linSym σ K) ψ c v).1 hv,.inl rfl⟩
    · exact ⟨_,(@zg (linSym σ K) ψ j _ v).1 hv,.inr hs⟩
   subst hu hv
   refine ⟨.inl ⟨_,_,rfl⟩,?_⟩
   rw [h1,h2,h3] at hz
   rw [h1,h2] at h0
   have h0:e.k=j∨yv op=true:=by
    rcases h0 with h0 | h0
    · rcases hj with rfl | hj
      · exact .inl h0
      · exact .inr hj
    · exact .inr h0
   obtain ⟨y',g1,g2⟩:=@kT (linSym σ K) P ψ op e.k j (evE σ e) (.ofNat c) z t w h0 hz
   refine ⟨y',g1,q.v,by rw [h4]; simp,?_⟩
   rcases hzz with e' | ⟨j,e1,e2⟩
   · rw [e']; exact g2
   · rw [e1,(@zq (linSym σ K) ψ j y')]
     rw [e2] at g2
     exact @qt (linSym σ K) ψ j.k (evE σ j) y' g2
 · split at hb
   · rename_i k a m j b n hx hy
     have eu:=qP x hx hu
     have ev:=qP y hy hv
     have hop:(k=j∨yv op=true)∧∃ w,yQ op k (a+evL σ m) (b+evL σ n)=some w∧∀ z,@zH (linSym σ K) ψ w z→∃ c∈l,@zH (linSym σ K) ψ c z:=by
      split at hb
      · rename_i r hr
        injection hb with hb; subst hb
        exact zL2 hK hr
      · split at hb
        · rename_i r hr
          injection hb with hb; subst hb
          exact zLP hK hr hu hv eu ev
        · split at hb
          · rename_i r hr
            injection hb with hb; subst hb
            exact zJk hK hr hu eu
          · exact zLI hK hb
     obtain ⟨hk,z,hz,hzz⟩:=hop
     subst eu ev
     refine ⟨.inl ⟨_,_,rfl⟩,?_⟩
     obtain ⟨y',g1,g2⟩:=@kT (linSym σ K) P ψ op k j _ _ z t w hk hz
     exact ⟨y',g1,hzz y' g2⟩
   · cases hb
abbrev zII (b:ByteArray):List Value:=b.data.toList.map fun x=>Value.int .u8 (Int.ofNat x.toNat)
theorem zFx (hK:KnownOk σ K) {ψ:Psi}:∀ {a b:List CV} {r:Bool} {l m:List UInt8},zNd K a b=some r→@zS (linSym σ K) ψ a (l.map fun x=>Value.int .u8 (Int.ofNat x.toNat))→@zS (linSym σ K) ψ b (m.map fun x=>Value.int .u8 (Int.ofNat x.toNat))→r=decide (l=m)
 | [],[],r,l,m,h,ha,hb=>by
  rw [@zM (linSym σ K),List.map_eq_nil_iff] at ha hb
  subst ha hb
  injection h with h; subst h; simp
 | [],b::bs,r,l,m,h,ha,hb=>by
  rw [@zM (linSym σ K),List.map_eq_nil_iff] at ha
  obtain ⟨v,q,hm,_,_⟩:=(@zd (linSym σ K) _ _ _ _).1 hb
  subst ha
  injection h with h; subst h
  cases m with
  | nil=>cases hm
  | cons y m=>simp
 | a::as,[],r,l,m,h,ha,hb=>by
  rw [@zM (linSym σ K),List.map_eq_nil_iff] at hb
  obtain ⟨v,q,hm,_,_⟩:=(@zd (linSym σ K) _ _ _ _).1 ha
  subst hb
  injection h with h; subst h
  cases l with
  | nil=>cases hm
  | cons y m=>simp
 | a::as,b::bs,r,l,m,h,ha,hb=>by
  obtain ⟨u,q,hl,ha1,ha2⟩:=(@zd (linSym σ K) _ _ _ _).1 ha
  obtain ⟨v,q',hm,hb1,hb2⟩:=(@zd (linSym σ K) _ _ _ _).1 hb
  cases l with
  | nil=>cases hl
  | cons x l=>
  cases m with
  | nil=>cases hm
  | cons y m=>
  injection hl with e1 e2
  injection hm with e3 e4
  subst e1 e2 e3 e4
  unfold zNd at h
  have key:∀ {c:Bool},zDw K .eql a b=some [.bool c]→c=decide (x=y):=by
   intro c hc
   obtain ⟨_,z,hz,c',hc',hr⟩:=zDq (P:=default) hK hc ψ 0 _ _ default ha1 hb1
   obtain rfl:c'=.bool c:=by simpa using hc'
   rw [(@zJ (linSym σ K) _ _ _).1 hr] at hz
   have hz:((x.toNat:Int) == (y.toNat:Int))=c:=by simpa [binOp,Op.intCmp] using hz
   rw [← hz,Bool.eq_iff_iff,beq_iff_eq,decide_eq_true_eq]
   constructor
   · intro e; exact UInt8.toNat_inj.1 (by omega)
   · intro e; rw [e]
  split at h
  · rename_i hc
    have:=key hc
    have hxy:x=y:=by simpa using this.symm
    subst hxy
    rw [zFx hK h ha2 hb2]
    simp
  · rename_i hc
    have:=key hc
    have hxy:x≠y:=by simpa using this.symm
    injection h with h; subst h
    simp [hxy]
  · cases h
theorem zKI {ψ:Psi} (b:ByteArray):@zS (linSym σ K) ψ (zTu (zo b)) (zII b):=by
 unfold zTu zo zII
 generalize b.data.toList=l
 induction l with
 | nil=>exact (@zM (linSym σ K) _ _).2 rfl
 | cons x l ih=>exact (@zW (linSym σ K) _ _ _ _ _).2 ⟨(@zg (linSym σ K) _ _ _ _).2 rfl,ih⟩
theorem zDc (hK:KnownOk σ K) {ψ:Psi} {op:BinOp} {a b:List CV} {l:List CV} (h:zEW K op a b=some l) (t:TypeId) {s1 s2:ByteArray} (w:World) (ha:@zS (linSym σ K) ψ a (zII s1)) (hb:@zS (linSym σ K) ψ b (zII s2)) :
 ∃ z,(binOp op t (.string s1) (.string s2)).run P w=.ok z w∧∃ c∈l,@zH (linSym σ K) ψ c z:=by
 unfold zEW at h
 have dec:decide (s1.data.toList=s2.data.toList)=qC (zo s1) (zo s2):=by
  rw [@jB zP,decide_eq_decide]
  constructor
  · intro e; unfold zo; rw [e]
  · intro e
    unfold zo at e
    have inj:∀ {l m:List UInt8},l.map UInt8.toNat=m.map UInt8.toNat→l=m:=by
     intro l
     induction l with
     | nil=>intro m h; cases m <;> first | rfl | cases h
     | cons x l ih=>intro m h; cases m with
      | nil=>cases h
      | cons y m=>
       injection h with h1 h2
       rw [UInt8.toNat_inj.1 h1,ih h2]
    exact inj e
 split at h
 · rename_i r hr
   injection h with h; subst h
   have:=zFx hK hr ha hb
   obtain ⟨v,h1,h2⟩:=@vy (linSym σ K) P ψ .eql s1 s2 (.bool (qC (zo s1) (zo s2))) t w rfl
   refine ⟨v,h1,_,List.mem_singleton.2 rfl,?_⟩
   rw [this,dec]; exact h2
 · rename_i r hr
   injection h with h; subst h
   have:=zFx hK hr ha hb
   obtain ⟨v,h1,h2⟩:=@vy (linSym σ K) P ψ .neq s1 s2 (.bool (u9 (qC (zo s1) (zo s2)))) t w rfl
   refine ⟨v,h1,_,List.mem_singleton.2 rfl,?_⟩
   rw [this,dec]
   have e:∀ b:Bool,u9 b = !b:=by intro b; cases b <;> rfl
   rw [e] at h2; exact h2
 · split at h
   · rename_i hlen
     injection h with h; subst h
     have l1:=@zS.length (linSym σ K) _ _ _ ha
     have l2:=@zS.length (linSym σ K) _ _ _ hb
     rw [List.length_map] at l1 l2
     have l1:s1.size=a.length:=l1
     have l2:s2.size=b.length:=l2
     refine ⟨_,(by rw [show binOp .add t (.string s1) (.string s2)=Op.stringOp .add s1 s2 by simp [binOp]]; exact run_string_add_sum w s1 s2 (by omega)),_,List.mem_singleton.2 rfl,?_⟩
     rw [@zy (linSym σ K)]
     refine ⟨_,rfl,?_⟩
     have e:(s1++s2).data.toList=s1.data.toList++s2.data.toList:=by simp
     rw [e,List.map_append]
     exact @zS.append (linSym σ K) _ _ _ _ _ ha hb
   · cases h
 · cases h
theorem zHS (hK:KnownOk σ K) {x:CV} {s:List Nat} (h:zJy K x=some s) {ψ:Psi} {u:Value} (hu:@zH (linSym σ K) ψ x u):∃ b,u=.string b∧zo b=s:=by
 unfold zJy at h
 split at h
 · rename_i i t
   obtain ⟨m,b,h1,rfl,h3⟩:=(@jp (linSym σ K) _ _ _ _).1 hu
   refine ⟨b,rfl,?_⟩
   unfold zV9 at h
   split at h
   · rename_i q hq
     split at h
     · rename_i hc
       obtain ⟨g1,g2⟩:=yi hK hq
       have h1:Value.int .i64 (0+evL σ [(i,1)])=.int .i64 m:=h1
       injection h1 with _ h1
       have e:q.1.toNat=m:=by omega
       rw [e,@yg zP,h3] at h
       injection h
     · cases h
   · cases h
 · rename_i s'
   injection h with h; subst h
   exact (@ze (linSym σ K) _ _ _).1 hu
 · cases h
theorem zHq (hK:KnownOk σ K) {ψ:Psi} {op:BinOp} {x y:CV} {l:List CV} (h:zI5 K op x y=some l) (t:TypeId) {u v:Value} (w:World) (hu:@zH (linSym σ K) ψ x u) (hv:@zH (linSym σ K) ψ y v) :
 ((∃ k m,u=.int k m)∨∃ b,u=.string b)∧∃ z,(binOp op t u v).run P w=.ok z w∧∃ c∈l,@zH (linSym σ K) ψ c z:=by
 unfold zI5 at h
 split at h
 · rename_i a b ha hb
   obtain ⟨s1,rfl,rfl⟩:=zHS hK ha hu
   obtain ⟨s2,rfl,rfl⟩:=zHS hK hb hv
   split at h
   · rename_i c hc
     injection h with h; subst h
     obtain ⟨z,h1,h2⟩:=@vy (linSym σ K) P ψ op s1 s2 c t w hc
     exact ⟨.inr ⟨_,rfl⟩,z,h1,_,List.mem_singleton.2 rfl,h2⟩
   · cases h
 · cases h
theorem zNt (hK:KnownOk σ K) {x:CV} {k:IntKind} {n:Int} (h:zS7 K x=some (k,n)) {ψ:Psi} {u:Value} (hu:@zH (linSym σ K) ψ x u):u=.int k n:=by
 unfold zS7 at h
 split at h
 · rename_i j a l hx
   split at h
   · rename_i q hq
     split at h
     · rename_i e
       injection h with h; injection h with h1 h2
       obtain ⟨g1,g2⟩:=yi hK hq
       rw [qP x hx hu,← h1,← h2]
       congr 1
       omega
     · cases h
   · cases h
 · cases h
theorem zPZ (hK:KnownOk σ K) {op:BinOp} {x y:CV} {l:List CV} (h:zMU K op x y=some l) {ψ:Psi} (t:TypeId) (w:World) {u v:Value} (hu:@zH (linSym σ K) ψ x u) (hv:@zH (linSym σ K) ψ y v) :
 ((∃ k n,u=.int k n)∨∃ s,u=.string s)∧∃ z,(binOp op t u v).run P w=.ok z w∧∃ c∈l,@zH (linSym σ K) ψ c z:=by
 unfold zMU at h
 split at h
 · rename_i k a j b hx hy
   split at h
   · rename_i hk
     split at h
     · rename_i c hc
       injection h with h; subst h
       obtain rfl:=zNt hK hx hu
       obtain rfl:=zNt hK hy hv
       obtain ⟨z,g1,g2⟩:=@kT (linSym σ K) P ψ op k j a b c t w hk hc
       exact ⟨.inl ⟨_,_,rfl⟩,z,g1,c,List.mem_singleton.2 rfl,g2⟩
     · cases h
   · cases h
 · cases h
theorem zRF (n s:Nat):Nat.land n (2 ^ s)=if n / 2 ^ s % 2=0 then 0 else 2 ^ s:=by
 show n &&& 2 ^ s=_
 apply Nat.eq_of_testBit_eq
 intro j
 rw [Nat.testBit_and,Nat.testBit_two_pow]
 by_cases e:s=j
 · subst e
   rw [decide_eq_true rfl,Bool.and_true,Nat.testBit_eq_decide_div_mod_eq]
   rcases Nat.mod_two_eq_zero_or_one (n / 2 ^ s) with h | h
   · rw [if_pos h]; simp [h]
   · rw [if_neg (by omega)]; simp [h,Nat.testBit_two_pow]
 · rw [decide_eq_false e,Bool.and_false]
   split <;> simp [Nat.testBit_two_pow,e]
theorem zOj (hK:KnownOk σ K) {k:IntKind} {a b:Int} {m:LL} {r:List CV} (h:zT1 K k a b m=some r) {ψ:Psi} :
 ∃ a' n:Nat,a=(a':Int)∧b+evL σ m=(n:Int)∧∀ z,@zH (linSym σ K) ψ (zb k (yr k (.ofNat (Nat.lor (toU k (.ofNat a')) (toU k (.ofNat n)))))) z→∃ c∈r,@zH (linSym σ K) ψ c z:=by
 unfold zT1 at h
 split at h
 · rename_i q hq
   split at h
   · rename_i hc
     obtain ⟨h1,h2,h3,h4,h5⟩:=hc
     obtain ⟨g1,g2⟩:=yi hK hq
     obtain ⟨n,hn⟩:∃ n:Nat,b+evL σ m=(n:Int):=⟨(b+evL σ m).toNat,by omega⟩
     obtain ⟨a',rfl⟩:∃ a':Nat,a=(a':Int):=⟨a.toNat,by omega⟩
     obtain ⟨z,hz⟩:∃ z:Nat,b+q.2=(z:Int):=⟨(b+q.2).toNat,by omega⟩
     obtain ⟨_,c,hcm,hg⟩:=vg hK h (n:=(a':Int)+(n:Int)) (by omega)
     refine ⟨a',n,rfl,hn,fun y hy=>⟨c,hcm,hg ψ y ?_⟩⟩
     rw [hz,Int.toNat_natCast] at h5
     have hlt:n<2 ^ (Nat.log2 z+1):=Nat.lt_of_le_of_lt (by omega) Nat.lt_log2_self
     generalize Nat.log2 z+1=s at h5 hlt
     have h5:a' % 2 ^ s=0:=by
      have:((a' % 2 ^ s:Nat):Int)=0:=by rw [Int.natCast_emod,Int.natCast_pow]; exact h5
      omega
     have hor:Nat.lor a' n=a'+n:=by
      show a' ||| n=_
      have e:a'=2 ^ s*(a' / 2 ^ s):=by
       have:=Nat.div_add_mod a' (2 ^ s)
       omega
      rw [e]
      exact (Nat.two_pow_add_eq_or_of_lt hlt _).symm
     rw [wB k h2,wB k (m:=n) (by omega),hor] at hy
     exact hy
   · cases h
 · cases h
theorem zMv (hK:KnownOk σ K) {op:BinOp} {x y:CV} {l:List CV} (h:zIE K op x y=some l) {ψ:Psi} (t:TypeId) (w:World) {u v:Value} (hu:@zH (linSym σ K) ψ x u) (hv:@zH (linSym σ K) ψ y v) :
 ((∃ k n,u=.int k n)∨∃ s,u=.string s)∧∃ z,(binOp op t u v).run P w=.ok z w∧∃ c∈l,@zH (linSym σ K) ψ c z:=by
 unfold zIE at h
 split at h
 · rename_i k a l0 j b m hx hy
   have eu:=qP x hx hu
   have ev:=qP y hy hv
   split at h
   · rename_i e; subst e
     have hop:∃ w,yQ op k (a+evL σ l0) (b+evL σ m)=some w∧∀ z,@zH (linSym σ K) ψ w z→∃ c∈l,@zH (linSym σ K) ψ c z:=by
      split at h
      · split at h
        · obtain ⟨a',n,e1,e2,h3⟩:=zOj hK h (ψ:=ψ)
          have e1:a+evL σ []=Int.ofNat a':=by simp [evL,e1]
          rw [e1,e2]
          exact ⟨_,rfl,h3⟩
        · split at h
          · obtain ⟨a',n,e1,e2,h3⟩:=zOj hK h (ψ:=ψ)
            have e1:b+evL σ []=Int.ofNat a':=by simp [evL,e1]
            rw [e1,e2]
            refine ⟨_,rfl,?_⟩
            show ∀ z,@zH (linSym σ K) ψ (zb k (yr k (.ofNat (Nat.lor (toU k (.ofNat n)) (toU k (.ofNat a')))))) z→_
            rw [show Nat.lor (toU k (.ofNat n)) (toU k (.ofNat a'))=Nat.lor (toU k (.ofNat a')) (toU k (.ofNat n)) from Nat.or_comm _ _]
            exact h3
          · cases h
      · split at h
        · split at h
          · rename_i q hq
            split at h
            · rename_i hc
              injection h with h; subst h
              obtain ⟨h1,h2,h3,h4,h5,h6⟩:=hc
              obtain ⟨g1,g2⟩:=yi hK hq
              obtain ⟨n,hn⟩:∃ n:Nat,a+evL σ l0=(n:Int):=⟨(a+evL σ l0).toNat,by omega⟩
              obtain ⟨c,rfl⟩:∃ c:Nat,b=(c:Int):=⟨b.toNat,by omega⟩
              rw [Int.toNat_natCast] at h2
              generalize Nat.log2 c=s at h2
              have h2:c=2 ^ s:=by
               have:((2 ^ s:Nat):Int)=(c:Int):=by rw [Int.natCast_pow]; exact h2.symm
               omega
              have hcp:(0:Int)<(c:Int):=by
               have:0<c:=by rw [h2]; exact Nat.two_pow_pos s
               omega
              have hq1:(a+q.1) / (c:Int)≤(n:Int) / (c:Int):=Int.ediv_le_ediv hcp (by omega)
              have hq2:(n:Int) / (c:Int)≤(a+q.2) / (c:Int):=Int.ediv_le_ediv hcp (by omega)
              have hq3:(a+q.1) / (c:Int)=((n / c:Nat):Int):=by rw [Int.natCast_ediv]; omega
              have e1:(c:Int)+evL σ []=Int.ofNat c:=by simp [evL]
              rw [hn,e1]
              refine ⟨_,rfl,fun z hz=>⟨_,List.mem_singleton.2 rfl,?_⟩⟩
              have hz:@zH (linSym σ K) ψ (zb k (yr k (.ofNat (Nat.land (toU k (.ofNat n)) (toU k (.ofNat c)))))) z:=hz
              rw [wB k (m:=n) (by omega),wB k h3,h2,zRF,← h2] at hz
              rw [hq3]
              by_cases hb:n / c % 2=0
              · rw [if_pos hb,jO k (n:=.ofNat 0) (zBt k 0) (by cases k <;> decide)] at hz
                rw [if_pos (by omega)]
                exact hz
              · rw [if_neg hb,jO k (n:=.ofNat c) (zBt k c) h3] at hz
                rw [if_neg (by omega)]
                exact hz
            · cases h
          · cases h
        · cases h
      · cases h
     obtain ⟨z,hz,hzz⟩:=hop
     subst eu ev
     refine ⟨.inl ⟨_,_,rfl⟩,?_⟩
     obtain ⟨y',g1,g2⟩:=@kT (linSym σ K) P ψ op k k _ _ z t w (.inl rfl) hz
     exact ⟨y',g1,hzz y' g2⟩
   · cases h
 · cases h
theorem zIr (P:Program) (hK:KnownOk σ K) {ψ:Psi} {a:CV} {z:Int} {e:SE} {b:ByteArray} {x0 x1:UInt8} (hb:b.data.toList=[x0,x1]) (ha:@zH (linSym σ K) ψ a (.int .u8 (Int.ofNat x0.toNat))) (h1:Int.ofNat x1.toNat=z+evE σ e) :
 ∀ {ks:List CV} {vs:List Value},zPv K a z e ks=true→@zS (linSym σ K) ψ ks vs→Value.string b∈vs
 | [],_,h,_=>by cases h
 | k::ks,vs,h,hv=>by
  obtain ⟨v,r,rfl,hv1,hv2⟩:=(@zd (linSym σ K) _ _ _ _).1 hv
  unfold zPv at h
  split at h
  · rename_i e0; cases e0
  · rename_i y q ks' e0
    injection e0 with e0 e1
    subst e0 e1
    rw [Bool.or_eq_true] at h
    rcases h with h | h
    · simp only [Bool.and_eq_true] at h
      obtain ⟨⟨⟨k1,k2⟩,k3⟩,k4⟩:=h
      rw [@yo zP,decide_eq_true_eq] at k2
      rw [@za zP,decide_eq_true_eq] at k3
      have k4:=@qq zP _ _ k4
      obtain ⟨b',rfl,hs⟩:=(@zy (linSym σ K) _ _ _).1 hv1
      obtain ⟨u0,r0,g0,g1,g2⟩:=(@zd (linSym σ K) _ _ _ _).1 hs
      obtain ⟨u1,r1,g3,g4,g5⟩:=(@zd (linSym σ K) _ _ _ _).1 g2
      rw [@zM (linSym σ K)] at g5
      subst g5 g3
      obtain ⟨y0,y1,hb'⟩:∃ y0 y1,b'.data.toList=[y0,y1]:=by
       match hq:b'.data.toList,g0 with
       | [y0,y1],_=>exact ⟨y0,y1,rfl⟩
       | [],g0=>cases g0
       | [_],g0=>cases g0
       | _::_::_::_,g0=>cases g0
      rw [hb'] at g0
      injection g0 with g0 g6
      injection g6 with g6 _
      subst g0 g6
      have e1:y1=x1:=by
       have:=(@zq (linSym σ K) ψ q _).1 g4
       have this:Value.int .u8 (Int.ofNat y1.toNat)=.int q.k (evE σ q):=this
       injection this with _ this
       have e2:evE σ q=z+evE σ e:=by
        unfold evE
        rw [k3,k4]; omega
       rw [e2,← h1] at this
       injection this with this
       exact UInt8.toNat_inj.1 this
      have e0:y0=x0:=by
       split at k1
       · rename_i hn
         obtain ⟨_,w',h3,c,hc,h4⟩:=zDq (P:=P) hK hn ψ 0 _ _ default ha g1
         obtain rfl:c=.bool true:=by simpa using hc
         rw [(@zJ (linSym σ K) _ _ _).1 h4] at h3
         have h3:(Int.ofNat x0.toNat == Int.ofNat y0.toNat)=true:=by simpa [binOp,Op.intCmp] using h3
         have h3:Int.ofNat x0.toNat=Int.ofNat y0.toNat:=by simpa using h3
         injection h3 with h3
         exact (UInt8.toNat_inj.1 h3).symm
       · cases k1
      have:b=b':=by
       apply ByteArray.ext
       apply Array.ext'
       rw [hb,hb',e0,e1]
      rw [this]
      exact List.mem_cons_self
    · exact List.mem_cons_of_mem _ (zIr P hK hb ha h1 h hv2)
  · rename_i e0
    injection e0 with e0 e1
    subst e1
    exact List.mem_cons_of_mem _ (zIr P hK hb ha h1 h hv2)
theorem zHd {a:CV} {z:Int} {ks:List CV} {e:SE}:∀ {l:List CV},zIo K a z ks l=true→∀ c∈l,∃ e,c=.sym e∧zPv K a z e ks=true
 | [],_,c,hc=>by cases hc
 | c0::l,h,c,hc=>by
  unfold zIo at h
  split at h
  · rename_i e0; cases e0
  · rename_i e' l' e0
    injection e0 with e0 e1
    subst e0 e1
    rw [Bool.and_eq_true] at h
    rcases List.mem_cons.1 hc with rfl | hc
    · exact ⟨_,rfl,h.1⟩
    · exact zHd (e:=e) h.2 c hc
  · cases h
theorem zFH (P:Program) (hK:KnownOk σ K) {ψ:Psi} {a ch:CV} {b:ByteArray} {x0 x1:UInt8} (hb:b.data.toList=[x0,x1]) (ha:@zH (linSym σ K) ψ a (.int .u8 (Int.ofNat x0.toNat))) (hch:@zH (linSym σ K) ψ ch (.int .u8 (Int.ofNat x1.toNat)))
 {ks:List CV} {vs:List Value} (hvs:@zS (linSym σ K) ψ ks vs):∀ {rs:List SRule},(∀ r∈rs,z7 σ r)→zLt K a ch ks rs=true→Value.string b∈vs
 | [],_,h=>by cases h
 | r::rs,hr,h=>by
  unfold zLt at h
  rw [Bool.or_eq_true] at h
  rcases h with h | h
  · unfold zVO at h
    split at h
    · rename_i l c m ho hv hf
      split at h
      · rename_i q hq
        rw [Bool.and_eq_true,decide_eq_true_eq] at h
        have hR:=hr r List.mem_cons_self
        unfold z7 at hR
        rw [ho] at hR
        have hR:zBc σ r:=hR
        unfold zBc at hR
        rw [hv] at hR
        have hR:evE σ r.x∈l.map (zBG σ):=hR
        obtain ⟨c1,hc1,hc2⟩:=List.mem_map.1 hR
        obtain ⟨e,rfl,he⟩:=zHd (e:=r.x) h.2 c1 hc1
        have hc2:evE σ e=evE σ r.x:=hc2
        have hx:=qP ch hf hch
        injection hx with _ hx
        have hq:=yi hK hq
        rw [qu,xy] at hq
        refine zIr P hK hb ha ?_ he hvs
        rw [hx,hc2]
        unfold evE
        omega
      · cases h
    · cases h
  · exact zFH P hK hb ha hch hvs (fun q hq=>hr q (List.mem_cons_of_mem _ hq)) h
theorem zPz {l:List UInt8} {u v:Value} (h:l.map (fun x=>Value.int .u8 (Int.ofNat x.toNat))=[u,v]):∃ x0 x1,l=[x0,x1]∧u=.int .u8 (Int.ofNat x0.toNat)∧v=.int .u8 (Int.ofNat x1.toNat):=by
 match l,h with
 | [y0,y1],h=>
  injection h with h1 h2
  injection h2 with h2 _
  exact ⟨y0,y1,rfl,h1.symm,h2.symm⟩
theorem zPm (P:Program) (hK:KnownOk σ K) {ψ:Psi} {k:CV} {ks:List CV} {v:Value} {vs:List Value} (h:zM6 K k ks=true) (hv:@zH (linSym σ K) ψ k v) (hvs:@zS (linSym σ K) ψ ks vs):v∈vs:=by
 unfold zM6 at h
 split at h
 · rename_i a ch
   obtain ⟨b,rfl,hs⟩:=(@zy (linSym σ K) _ _ _).1 hv
   obtain ⟨u0,r0,g0,g1,g2⟩:=(@zd (linSym σ K) _ _ _ _).1 hs
   obtain ⟨u1,r1,g3,g4,g5⟩:=(@zd (linSym σ K) _ _ _ _).1 g2
   rw [@zM (linSym σ K)] at g5
   subst g5 g3
   obtain ⟨x0,x1,hb,rfl,rfl⟩:=zPz g0
   exact zFH P hK hb g1 g4 hvs hK.rules h
 · rename_i a ch
   obtain ⟨b,rfl,hs⟩:=(@ze (linSym σ K) _ _ _).1 hv
   have hs:b.data.toList.map UInt8.toNat=[a,ch]:=hs
   match hq:b.data.toList,hs with
   | [x0,x1],hs=>
    injection hs with h1 h2
    injection h2 with h2 _
    subst h1 h2
    exact zFH P hK hq ((@zg (linSym σ K) ψ _ _ _).2 rfl) ((@zg (linSym σ K) ψ _ _ _).2 rfl) hvs hK.rules h
 · cases h
theorem yx (hK:KnownOk σ K):@SymFact (linSym σ K) P:=by
 refine @SymFact.mk (linSym σ K) P ⟨fun op x y l hb ψ t u v w hu hv=>?_,fun k x l hb ψ u hu=>?_⟩ (fun k ks hi ψ v vs hv hvs=>zPm P hK hi hv hvs)
 · have hb:zMG K op x y=some l:=hb
   unfold zMG at hb
   split at hb
   · rename_i a b
     obtain ⟨s1,rfl,h1⟩:=(@zy (linSym σ K) _ _ _).1 hu
     obtain ⟨s2,rfl,h2⟩:=(@zy (linSym σ K) _ _ _).1 hv
     exact ⟨.inr ⟨_,rfl⟩,zDc hK hb t w h1 h2⟩
   · rename_i a b
     obtain ⟨s1,rfl,h1⟩:=(@zy (linSym σ K) _ _ _).1 hu
     obtain ⟨s2,rfl,rfl⟩:=(@ze (linSym σ K) _ _ _).1 hv
     exact ⟨.inr ⟨_,rfl⟩,zDc hK hb t w h1 (zKI s2)⟩
   · rename_i a b
     obtain ⟨s1,rfl,rfl⟩:=(@ze (linSym σ K) _ _ _).1 hu
     obtain ⟨s2,rfl,h2⟩:=(@zy (linSym σ K) _ _ _).1 hv
     exact ⟨.inr ⟨_,rfl⟩,zDc hK hb t w (zKI s1) h2⟩
   · exact zHq hK hb t w hu hv
   · exact zHq hK hb t w hu hv
   · rename_i k e _
     obtain ⟨n,rfl⟩:=(@yk (linSym σ K) _ _ _).1 hu
     have hv:v=.int e.k (evE σ e):=(@zq (linSym σ K) ψ e v).1 hv
     subst hv
     refine ⟨.inl ⟨_,_,rfl⟩,?_⟩
     split at hb
     · split at hb
       · rename_i q hq
         split at hb
         · rename_i hge
           injection hb with hb; subst hb
           obtain ⟨h1,_⟩:=yi hK hq
           obtain ⟨m,hm⟩:∃ m:Nat,evE σ e=Int.ofNat m:=⟨(evE σ e).toNat,by unfold evE; rw [Int.ofNat_eq_natCast]; omega⟩
           rw [hm]
           obtain ⟨z,hz⟩:∃ z,yQ .shr k n (.ofNat m)=some (zb k z)∨yQ .shr k n (.ofNat m)=some (ji k z.toNat):=by
            cases n with
            | ofNat a=>exact ⟨.ofNat (Nat.div a (Nat.pow 2 (min m k.bits))),.inr rfl⟩
            | negSucc a=>exact ⟨_,.inl rfl⟩
           have fin:∀ {c:CV},yQ .shr k n (.ofNat m)=some c→(∀ z,@zH (linSym σ K) ψ c z→∃ j,z=.int k j)→∃ z,(binOp .shr t (.int k n) (.int e.k (.ofNat m))).run P w=.ok z w∧∃ c∈[CV.anyi k],@zH (linSym σ K) ψ c z:=by
            intro c hc hz
            obtain ⟨y',g1,g2⟩:=@kT (linSym σ K) P ψ .shr k e.k n (.ofNat m) c t w (.inr rfl) hc
            exact ⟨y',g1,_,List.mem_singleton.2 rfl,(@yk (linSym σ K) _ _ _).2 (hz y' g2)⟩
           rcases hz with hz | hz
           · exact fin hz fun y hy=>⟨_,@qt (linSym σ K) ψ k _ y hy⟩
           · exact fin hz fun y hy=>⟨_,@zAI (linSym σ K) ψ k _ y hy⟩
         · cases hb
       · cases hb
     · cases hb
   · split at hb
     · rename_i l' hl
       injection hb with hb; subst hb
       exact zDq hK hl ψ t u v w hu hv
     · split at hb
       · rename_i l' hl
         injection hb with hb; subst hb
         exact zMv hK hl t w hu hv
       · exact zPZ hK hb t w hu hv
 · have hb:zQR K k x=some l:=hb
   unfold zQR at hb
   split at hb
   · rename_i j a m hx
     split at hb
     · rename_i hf
       injection hb with hb; subst hb
       have eu:=qP x hx hu
       refine ⟨j,_,eu,_,List.mem_singleton.2 rfl,?_⟩
       rw [← @yz zP,zIP hK hf]
       exact zCG k a m
     · exact ⟨j,_,qP x hx hu,zLs hK hb⟩
   · cases hb
end
end
end Go.Ev
namespace Go.Ev
noncomputable section
variable {P:Program}
theorem zRj:@SymFact zP P:=@SymFact.mk zP P ⟨fun _ _ _ _ h=>(by cases h),fun _ _ _ h=>(by cases h)⟩ (fun _ _ h=>by cases h)
def sv (i:Nat):SE:=⟨.i64,.ofNat 0,[(i,1)]⟩
theorem xr (σ:Nat→Int) (i:Nat):evE σ (sv i)=σ i:=by
 show (0:Int)+(1*σ i+0)=σ i
 omega
theorem zS5 {σ:Nat→Int} {K:zY} {ψ:Psi} {i:Nat}:@zH (linSym σ K) ψ (.sym (sv i)) (.int .i64 (σ i)):=by
 rw [@zq (linSym σ K)]
 show Value.int .i64 (σ i)=.int .i64 (evE σ (sv i))
 rw [xr]
def ListOk (P:Program) (k:Nat):List CFn→Prop
 | []=>True
 | c::r=>(c=compFn P k∨c=zNC (compFn P k)∨∃ b,c=.bad b)∧ListOk P (k+1) r
def ListsOk (P:Program) (j:Nat):List (List CFn)→Prop
 | []=>True
 | l::r=>ListOk P (32*j) l∧ListsOk P (j+1) r
def zTT (l:List CFn) (k:Nat):Option CFn:=
 List.rec (motive:=fun _=>Nat→Option CFn) (fun _=>none) (fun x _ ih k=>Nat.rec (motive:=fun _=>Option CFn) (some x) (fun k _=>ih k) k) l k
def zTd (l:List (List CFn)) (k:Nat):Option (List CFn):=
 List.rec (motive:=fun _=>Nat→Option (List CFn)) (fun _=>none) (fun x _ ih k=>Nat.rec (motive:=fun _=>Option (List CFn)) (some x) (fun k _=>ih k) k) l k
def codeOf (css:List (List CFn)) (f:FuncId):CFn:=
 Option.rec (motive:=fun _=>CFn) (.bad 0) (fun l=>Option.rec (motive:=fun _=>CFn) (.bad 0) (fun c=>c) (zTT l (Nat.mod f 32))) (zTd css (Nat.div f 32))
theorem zN8 {c:CFn}:∀ {l:List CFn} {k i:Nat},ListOk P k l→zTT l i=some c→c=compFn P (k+i)∨c=zNC (compFn P (k+i))∨∃ b,c=.bad b
 | [],_,_,_,h=>by cases h
 | x::l,k,0,hl,h=>by
  injection h with h
  subst h
  exact hl.1
 | x::l,k,i+1,hl,h=>by
  have:=zN8 (k:=k+1) (i:=i) hl.2 h
  rw [show k+(i+1)=k+1+i from by omega]
  exact this
theorem zNo {c:List CFn}:∀ {l:List (List CFn)} {k i:Nat},ListsOk P k l→zTd l i=some c→ListOk P (32*(k+i)) c
 | [],_,_,_,h=>by cases h
 | x::l,k,0,hl,h=>by
  injection h with h
  subst h
  exact hl.1
 | x::l,k,i+1,hl,h=>by
  have:=zNo (k:=k+1) (i:=i) hl.2 h
  rw [show k+(i+1)=k+1+i from by omega]
  exact this
theorem zIN (css:List (List CFn)) (f:FuncId):codeOf css f=.bad 0∨∃ l c,zTd css (Nat.div f 32)=some l∧zTT l (Nat.mod f 32)=some c∧codeOf css f=c:=by
 unfold codeOf
 cases h1:zTd css (Nat.div f 32) with
 | none=>exact .inl rfl
 | some l=>
  simp only
  cases h2:zTT l (Nat.mod f 32) with
  | none=>exact .inl rfl
  | some c=>exact .inr ⟨l,c,rfl,h2,rfl⟩
theorem codeOf_ok {css:List (List CFn)} (h:ListsOk P 0 css):CodeOk P (codeOf css):=by
 intro f
 rcases zIN css f with e | ⟨l,c,h1,h2,e⟩
 · exact .inr (.inr ⟨0,e⟩)
 · have:=zN8 (zNo h h1) h2
   have e':32*(0+Nat.div f 32)+Nat.mod f 32=f:=by
    rw [Nat.zero_add]; exact Nat.div_add_mod f 32
   rw [e'] at this
   rw [e]; exact this
def zSp:NatF:=fun _ d args h n=>match d,args with
 | false,[]=>.ret (.bool true) h n
 | _,_=>.err 404
structure TrueFn (P:Program) (f:FuncId):Prop where
 enter:∀ args w,(callFunc f args).run P w=.ok (.enter f args) w
 calls:∀ w:World,Calls P f #[] w fun e w'=>e=.returned (.bool true)∧RowKit.Below w.heap.size w w'
def natT (f:FuncId) (nat:Nats):Nats:=fun g=>Bool.rec (motive:=fun _=>Option NatF) (nat g) (some zSp) (Nat.beq g f)
theorem natT_ok [Sym] [SymFact P] {f:FuncId} {nat:Nats} (hf:TrueFn P f) (hn:NatsOk P nat):NatsOk P (natT f nat):=by
 have key:∀ g q,natT f nat g=some q→(g=f∧q=zSp)∨nat g=some q:=by
  intro g q h
  unfold natT at h
  cases e:Nat.beq g f with
  | true=>
   rw [e] at h
   injection h with h
   exact .inl ⟨yD e,h.symm⟩
  | false=>rw [e] at h; exact .inr h
 refine ⟨fun g q hg d args h n=>?_,fun g q hg args h n ψ w args' h1 h2 h3 h4 hc=>?_,fun g q hg args h n ψ w args' h1 h2 h3 h4 hc=>?_⟩
 · rcases key g q hg with ⟨rfl,rfl⟩ | hg
   · unfold zSp
     split
     · exact Nat.le_refl _
     · trivial
   · exact hn.above g q hg d args h n
 · rcases key g q hg with ⟨rfl,rfl⟩ | hg
   · cases args with
     | cons a l=>exact hc.elim
     | nil=>
      rw [zM] at h1
      obtain rfl:args'=#[]:=by cases args'; simp_all
      unfold yR
      rw [hf.enter]
      exact Calls.mono (hf.calls w) fun e w' ⟨e1,hb⟩=>⟨_,e1,ψ,qj h3 hb,zJ.2 rfl⟩
   · exact hn.calls g q hg args h n ψ w args' h1 h2 h3 h4 hc
 · rcases key g q hg with ⟨rfl,rfl⟩ | hg
   · exact hc.elim
   · exact hn.defers g q hg args h n ψ w args' h1 h2 h3 h4 hc
theorem calls_lin {code:FuncId→CFn} {nat:Nats} {fuel:Nat} {f:FuncId} {fn:Func} {c:Code} {args:List CV} {args':Array Value} {G:Nat} {n:Key} {σ:Nat→Int} {K:zY} (hK:KnownOk σ K)
 (hm:P.follows .mixedOrders=true) (hcode:CodeOk P code) (hnat:∀ σ K,KnownOk σ K→@NatsOk (linSym σ K) P nat) (hf:P.funcs[f]? = some fn) (hname:(fn.name == "runtime.NumGoroutine")=false) (hb:fn.body=some c) (hG:P.globals.size≤G) (hn:G≤n.ix)
 (hargs:@zS (linSym σ K) (zJN G) args args'.toList) (hrun:allTrue (@ev (linSym σ K) P code nat fuel false f args .nil n)=true) (w:World) :
 Calls P f args' w fun e w'=>e=.returned (.bool true)∧RowKit.Below w.heap.size w w':=
 @zL7 (linSym σ K) P (yx hK) code nat fuel f fn c args args' G n hm hcode (hnat σ K hK) hf hname hb hG hn hargs hrun w
def rulesK (l:List SRule):zY:=⟨[],[],l,fun _=>none⟩
theorem rulesK_ok {σ:Nat→Int} {l:List SRule} (h:∀ r∈l,z7 σ r):KnownOk σ (rulesK l):=
 ⟨fun _ _ h=>(by cases h),fun _ h=>(by cases h),h⟩
def rv (op:BinOp) (i c:Nat) (v:CV):SRule:=⟨op,sv i,c,v⟩
theorem zJ0 {σ:Nat→Int} {op:BinOp} {i c:Nat} {v:CV} (h:yQ op .i64 (σ i) (.ofNat c)=some v) (ho:zBK op=true:=by rfl):z7 σ (rv op i c v):=by
 refine (ui ho).2 ?_
 refine ⟨v,.inl rfl,?_,.inl rfl⟩
 show yQ op .i64 (evE σ (sv i)) _=_
 rw [xr]; exact h
theorem zPq (q:Int) (m:Nat) (hm:m≤127):∃ j,j≤m∧yQ .and .i64 q (.ofNat m)=some (zb .i64 (.ofNat j)):=by
 obtain ⟨j,h1,h2⟩:=@zF7 zP .i64 q m hm
 refine ⟨j,h1,?_⟩
 show some (zb .i64 (yr .i64 (.ofNat (Nat.land (toU .i64 q) (toU .i64 (.ofNat m))))))=_
 rw [h2]
theorem zHN (q:Int) (m:Nat):∃ z:Int,z.natAbs≤m∧yQ .rem .i64 q (.ofNat (m+1))=some (zb .i64 z):=by
 refine ⟨q.tmod (.ofNat (m+1)),@zFb zP q m,?_⟩
 show Bool.rec (motive:=fun _=>Option CV) (some (zb .i64 (q.tmod (.ofNat (m+1))))) none (zj (.ofNat (m+1)) (.ofNat 0))=_
 rw [@za zP,decide_eq_false (by intro h; injection h with h; cases h)]
theorem zPE (q:Int) (m:Nat):∃ z:Int,yQ .shr .i64 q (.ofNat m)=some (zb .i64 z):=by
 cases q with
 | ofNat a=>exact ⟨.ofNat (Nat.div a (Nat.pow 2 (min m IntKind.i64.bits))),rfl⟩
 | negSucc a=>exact ⟨_,rfl⟩
theorem zM7 {σ:Nat→Int} {op:BinOp} {i c k:Nat} (h:yQ op .i64 (σ i) (.ofNat c)=some (zb .i64 (σ k))) (ho:zBK op=true:=by rfl):z7 σ (rv op i c (.sym (sv k))):=by
 refine (ui ho).2 ?_
 refine ⟨_,.inl rfl,?_,.inr ⟨sv k,rfl,rfl⟩⟩
 show yQ op .i64 (evE σ (sv i)) _=some (zb .i64 (evE σ (sv k)))
 rw [xr,xr]; exact h
def yL (σ:Nat→Int):Nat→List (Int × Int)→Prop
 | _,[]=>True
 | i,q::r=>(q.1≤σ i∧σ i≤q.2)∧yL σ (i+1) r
def jn (σ:Nat→Int):List (LL × Int × Int)→Prop
 | []=>True
 | q::r=>(q.2.1≤evL σ q.1∧evL σ q.1≤q.2.2)∧jn σ r
def xG (σ:Nat→Int):List SRule→Prop
 | []=>True
 | q::r=>z7 σ q∧xG σ r
theorem zGr {σ:Nat→Int} {q:Int × Int}:∀ {l:List (Int × Int)} {k i:Nat},yL σ k l→nth l i=some q→q.1≤σ (k+i)∧σ (k+i)≤q.2
 | [],_,_,_,h=>by cases h
 | x::l,k,0,hl,h=>by
  injection h with h
  subst h
  exact hl.1
 | x::l,k,i+1,hl,h=>by
  have:=zGr (k:=k+1) (i:=i) hl.2 h
  rw [show k+(i+1)=k+1+i from by omega]
  exact this
theorem zG5 {σ:Nat→Int}:∀ {l:List (LL × Int × Int)},jn σ l→∀ q∈l,q.2.1≤evL σ q.1∧evL σ q.1≤q.2.2
 | _::_,hl,q,h=>by
  rcases List.mem_cons.1 h with rfl | h
  · exact hl.1
  · exact zG5 hl.2 q h
theorem zHU {σ:Nat→Int}:∀ {l:List SRule},xG σ l→∀ r∈l,z7 σ r
 | _::_,hl,q,h=>by
  rcases List.mem_cons.1 h with rfl | h
  · exact hl.1
  · exact zHU hl.2 q h
theorem zT7 {σ:Nat→Int} {A:Key→Option Value} {b:List (Int × Int)} {f:List (LL × Int × Int)} {r:List SRule} (hb:yL σ 0 b) (hf:jn σ f) (hr:xG σ r):KnownOk σ ⟨b,f,r,A⟩:=
 ⟨fun i q h=>by have:=zGr hb h; rwa [Nat.zero_add] at this,zG5 hf,zHU hr⟩
theorem rels0 {σ:Nat→Int} {K:zY} {ψ:Psi}:@zS (linSym σ K) ψ [] []:=(@zM (linSym σ K) _ _).2 rfl
end
end Go.Ev
namespace Go.Ev
variable [Sym]
open Go.RowKit Go.Maps
noncomputable section
variable {P:Program}
def ltI (x y:CV):Option Bool:=match Sym.bin .lss x y with
 | some [.bool b]=>some b
 | _=>none
def zSU (x:CV):List CV→Option (List CV)
 | []=>some [x]
 | y::r=>match ltI y x with
  | some true=>match zSU x r with
   | some l=>some (y::l)
   | none=>none
  | some false=>some (x::y::r)
  | none=>none
def zOd:List CE→Option (List CV)
 | []=>some []
 | e::r=>match zOd r with
  | some l=>zSU e.key l
  | none=>none
def zRM (v:CV):Bool:=match Sym.bin .geq v (.nat 0),Sym.bin .leq v (.nat 9223372036854775807) with
 | some [.bool true],some [.bool true]=>true
 | _,_=>false
def zEu (e:CE):List CE→Bool
 | []=>true
 | x::r=>!Nat.beq x.born e.born&&(match Sym.bin .eql x.key e.key with
  | some [.bool false]=>true
  | _=>false)&&zEu e r
def zIC (clock:Nat):List CE→Bool
 | []=>true
 | e::r=>zRM e.key&&Nat.ble (Nat.succ e.born) clock&&zEu e r&&zIC clock r
def zL3 (d:Bool) (args:List CV) (h:zC) (n:Key):R:=match d with
 | true=>.err 412
 | false=>match args with
  | [.ptr c off]=>match zn c h with
   | some (.cells vs)=>match zAj vs off with
    | some (.map b)=>match zn b h with
     | some (.map es clock)=>match zIC clock es&&Nat.ble (zMi es) 1000000 with
      | true=>match zOd es with
       | some []=>.ret .nilsl h n
       | some (k::ks)=>jr (Nat.succ ks.length) fun m=>.ret (.sl n 0 m m 1 false) (yu (some (.cells (k::ks))) n h) n.succ
       | none=>.err 417
      | false=>.err 413
     | _=>.err 410
    | _=>.err 414
   | _=>.err 415
  | _=>.err 411
def allN:NatF:=fun S=>@zL3 S
variable [SymFact P]
theorem vo (P:Program) [SymFact P] {ψ:Psi} {op:BinOp} {x y:CV} {b:Bool} {u v:Value} (w:World) (h:Sym.bin op x y=some [.bool b]) (hx:zH ψ x u) (hy:zH ψ y v) :
 ((∃ k q,u=.int k q)∨∃ s,u=.string s)∧(binOp op 0 u v).run P w=.ok (.bool b) w:=by
 obtain ⟨h1,z,h2,c,h3,h4⟩:=(SymFact.ok (P:=P)).1 op x y _ h ψ 0 u v w hx hy
 obtain rfl:c=.bool b:=by simpa using h3
 rw [zJ.1 h4] at h2
 exact ⟨h1,h2⟩
theorem zP1 (P:Program) [SymFact P] {ψ:Psi} {x:CV} {u:Value} (h:zRM x=true) (hx:zH ψ x u):∃ z:Int,u=.int .i64 z∧0≤z∧z≤9223372036854775807:=by
 unfold zRM at h
 split at h
 · rename_i h1 h2
   obtain ⟨g1,g2⟩:=vo P (u:=u) (v:=.int .i64 (Int.ofNat 0)) default h1 hx (zX.2 rfl)
   obtain ⟨_,g4⟩:=vo P (u:=u) (v:=.int .i64 (Int.ofNat 9223372036854775807)) default h2 hx (zX.2 rfl)
   rcases g1 with ⟨k,q,rfl⟩ | ⟨s,rfl⟩
   · by_cases ek:k=.i64
     · subst ek
       have e1:(0:Int)≤q:=by simpa [binOp,Op.intCmp] using g2
       have e2:q≤(9223372036854775807:Int):=by simpa [binOp,Op.intCmp] using g4
       exact ⟨q,rfl,e1,e2⟩
     · simp [binOp,ek] at g2
   · simp [binOp] at g2
 · cases h
theorem zNF (P:Program) [SymFact P] {ψ:Psi} {x y:CV} {a c:Int} {b:Bool} (h:ltI x y=some b) (hx:zH ψ x (.int .i64 a)) (hy:zH ψ y (.int .i64 c)):b=decide (a<c):=by
 unfold ltI at h
 split at h
 · rename_i b' hb
   injection h with h; subst h
   have:=(vo P default hb hx hy).2
   have:decide (a<c)=b':=by simpa [binOp,Op.intCmp] using this
   exact this.symm
 · cases h
theorem zKQ (P:Program) [SymFact P] {ψ:Psi} {x:CV} {z:Int} (hx:zH ψ x (.int .i64 z)):∀ {l r:List CV} {zs:List Int},zS ψ l (zs.map (Value.int .i64))→zSU x l=some r →
 ∃ ms:List Int,zS ψ r (ms.map (Value.int .i64))∧ms.Perm (z::zs)∧(zs.Pairwise (fun a b=>a≤b)→ms.Pairwise (fun a b=>a≤b))
 | [],r,zs,hl,h=>by
  injection h with h; subst h
  have hz:zs=[]:=by
   have:=zM.1 hl
   simpa using this
  subst hz
  exact ⟨[z],zW.2 ⟨hx,zM.2 rfl⟩,List.Perm.refl _,fun _=>by simp⟩
 | y::l,r,zs,hl,h=>by
  cases zs with
  | nil=>
   obtain ⟨_,_,e,_⟩:=zd.1 hl
   cases e
  | cons z' zs=>
   rw [List.map_cons,zW] at hl
   unfold zSU at h
   split at h
   · rename_i hlt
     have hlt:=zNF P hlt hl.1 hx
     split at h
     · rename_i l' hl'
       injection h with h; subst h
       obtain ⟨ms,h1,h2,h3⟩:=zKQ P hx hl.2 hl'
       refine ⟨z'::ms,zW.2 ⟨hl.1,h1⟩,(List.Perm.cons z' h2).trans (List.Perm.swap z z' zs),fun hp=>?_⟩
       rw [List.pairwise_cons] at hp ⊢
       refine ⟨fun q hq=>?_,h3 hp.2⟩
       rcases List.mem_cons.1 (h2.mem_iff.1 hq) with rfl | hq
       · have:z'<q:=by simpa using hlt.symm
         omega
       · exact hp.1 q hq
     · cases h
   · rename_i hlt
     have hlt:=zNF P hlt hl.1 hx
     injection h with h; subst h
     refine ⟨z::z'::zs,zW.2 ⟨hx,zW.2 hl⟩,List.Perm.refl _,fun hp=>?_⟩
     have hle:¬ (z'<z):=by simpa using hlt.symm
     refine List.pairwise_cons.2 ⟨fun q hq=>?_,hp⟩
     rcases List.mem_cons.1 hq with rfl | hq
     · omega
     · have:=(List.pairwise_cons.1 hp).1 q hq
       omega
   · cases h
theorem zDk (P:Program) [SymFact P] {ψ:Psi} {ck:Nat→Nat}:∀ {es:List CE} {l:List MapEntry} {zs:List Int} {r:List CV},yM ψ ck es l→l.map (fun e=>e.key)=zs.map (Value.int .i64)→zOd es=some r →
 ∃ ms:List Int,zS ψ r (ms.map (Value.int .i64))∧ms.Perm zs∧ms.Pairwise (fun a b=>a≤b)
 | [],l,zs,r,hl,hz,h=>by
  injection h with h; subst h
  have hl:l=[]:=hl
  subst hl
  have:zs=[]:=by simpa using hz.symm
  subst this
  exact ⟨[],zM.2 rfl,List.Perm.refl _,List.Pairwise.nil⟩
 | e::es,l,zs,r,hl,hz,h=>by
  obtain ⟨x,l',rfl,hx,hr⟩:=hl
  cases zs with
  | nil=>cases hz
  | cons z zs=>
   rw [List.map_cons,List.map_cons] at hz
   injection hz with hz1 hz2
   unfold zOd at h
   split at h
   · rename_i q hq
     obtain ⟨ms,h1,h2,h3⟩:=zDk P hr hz2 hq
     obtain ⟨ms',g1,g2,g3⟩:=zKQ P (by rw [← hz1]; exact hx.1) h1 h
     exact ⟨ms',g1,g2.trans (List.Perm.cons z h2),g3 h3⟩
   · cases h
theorem zCn (P:Program) [SymFact P] {ψ:Psi} {ck:Nat→Nat} (hck:∀ a b,ck a=ck b ↔ a=b) {e:CE} {x:MapEntry} (hx:zBj ψ ck e x):∀ {es:List CE} {l:List MapEntry},yM ψ ck es l→zEu e es=true →
 ∀ y∈l,y.born≠x.born∧y.key≠x.key
 | [],l,h,_=>by
  have h:l=[]:=h
  subst h; intro y hy; cases hy
 | c::es,l,h,hu=>by
  obtain ⟨z,r,rfl,hz,hr⟩:=h
  unfold zEu at hu
  rw [Bool.and_eq_true,Bool.and_eq_true] at hu
  intro y hy
  rcases List.mem_cons.1 hy with rfl | hy
  · refine ⟨fun e1=>?_,fun e1=>?_⟩
    · have:=hu.1.1
      rw [hz.2.2,hx.2.2,hck] at e1
      rw [e1,qe] at this; cases this
    · have h2:=hu.1.2
      split at h2
      · rename_i hb
        obtain ⟨g1,g2⟩:=vo P default hb hz.1 hx.1
        rw [e1] at g1 g2
        rcases g1 with ⟨k,q,e2⟩ | ⟨s,e2⟩ <;> rw [e2] at g2 <;> simp [binOp,Op.intCmp,Op.stringOp] at g2
      · cases h2
  · exact zCn P hck hx hr hu.2 y hy
theorem zHp (P:Program) [SymFact P] {ψ:Psi} {ck:Nat→Nat} {clock:Nat} (hck:wL ck clock):∀ {es:List CE} {l:List MapEntry},yM ψ ck es l→zIC clock es=true →
 ∃ zs:List Int,l.map (fun e=>e.key)=zs.map (Value.int .i64)∧(∀ z∈zs,0≤z∧z≤9223372036854775807)∧(∀ x∈l,x.born<ck clock)∧(l.map (fun e=>e.born)).Nodup∧l.Pairwise (fun x y=>x.key≠y.key)
 | [],l,h,_=>by
  have h:l=[]:=h
  subst h
  exact ⟨[],rfl,by simp,by simp,by simp,List.Pairwise.nil⟩
 | c::es,l,h,hu=>by
  obtain ⟨x,r,rfl,hx,hr⟩:=h
  unfold zIC at hu
  rw [Bool.and_eq_true,Bool.and_eq_true,Bool.and_eq_true] at hu
  obtain ⟨zs,h2,h3,h4,h5,h6⟩:=zHp P hck hr hu.2
  have hun:=zCn P (fun _ _=>hck.inj) hx hr hu.1.2
  obtain ⟨z,hz,hz0,hz1⟩:=zP1 P hu.1.1.1 hx.1
  refine ⟨z::zs,?_,?_,?_,?_,?_⟩
  · rw [List.map_cons,List.map_cons,h2,hz]
  · intro q hq
    rcases List.mem_cons.1 hq with rfl | hq
    · exact ⟨hz0,hz1⟩
    · exact h3 q hq
  · intro y hy
    rcases List.mem_cons.1 hy with rfl | hy
    · rw [hx.2.2]; exact (hck.here _).1 (zL hu.1.1.2)
    · exact h4 y hy
  · show (x.born::r.map _).Nodup
    refine List.nodup_cons.2 ⟨fun hm=>?_,h5⟩
    obtain ⟨y,hy,e⟩:=List.mem_map.1 hm
    exact (hun y hy).1 e
  · exact List.pairwise_cons.2 ⟨fun y hy e=>(hun y hy).2 e.symm,h6⟩
structure AllFn (P:Program) (f:FuncId) (k:TypeId):Prop where
 enter:∀ args w,(callFunc f args).run P w=.ok (.enter f args) w
 kint:P.underlying k=some (.int .i64)
 some_:∀ (c o b nn:Nat) (D0:DataW Unit) (w:World),w.cell? ⟨c,o,none⟩=some (.map (some b))→w.ownsMap P k R0 b nn D0→Maps.size D0≤1000000 →
  Calls P f #[.pointer (some ⟨c,o,none⟩)] w fun e w'=>∃ (v:Value) (ss:List Int),e=.returned v∧ss.Perm (intKeys D0) ∧
   w'.ownsRow w.heap.size k 1 v ss.length ((ss.mergeSort (fun x y=>decide (x≤y))).map (Value.int .i64))∧(v=.slice none 0 0 ↔ ss=[])∧Below w.heap.size w w'
theorem zPT (d:Bool) (args:List CV) (h:zC) (n:Key):zk n (zL3 d args h n):=by
 unfold zL3
 split
 · trivial
 · split
   · split
     · split
       · split
         · split
           · split
             · exact Nat.le_refl _
             · rw [show ∀ (m:Nat) (k:Nat→R),jr m k=k m from fun m k=>by cases m <;> rfl]
               exact Key.ix_le_succ _
             · trivial
           · trivial
         · trivial
       · trivial
     · trivial
   · trivial
theorem zTv {f:FuncId} {k:TypeId} (hf:AllFn P f k) {args:List CV} {h:zC} {n:Key} {ψ:Psi} {w:World} {args':Array Value} (ha:zS ψ args args'.toList) (hrel:Rel ψ (zC.fam h) w) (hfr:xc ψ n)
 (hc:zf (zL3 false args h n)):yR P f args' w (zl ψ (zC.fam h) n w (zL3 false args h n)):=by
 unfold yR
 rw [hf.enter]
 show Calls P f args' w fun e w''=>∃ v,e=.returned v∧zl ψ (zC.fam h) n w (zL3 false args h n) v w''
 unfold zL3 at hc ⊢
 simp only at hc ⊢
 split at hc
 · rename_i c off
   rw [zd] at ha
   obtain ⟨v,r,e1,hv,hr⟩:=ha
   rw [zM] at hr; subst hr
   rw [zu] at hv
   obtain ⟨pc,hpc,rfl⟩:=hv
   obtain rfl:args'=#[.pointer (some ⟨pc.blk,pc.off+off,none⟩)]:=by cases args'; simp_all
   split at hc
   · rename_i vs hgc
     split at hc
     · rename_i b hnth
       split at hc
       · rename_i es clock hg
         split at hc
         · rename_i hok
           rw [Bool.and_eq_true] at hok
           rw [qV] at hnth
           obtain ⟨carr,cel,cfz,c1,c2,c3,c4,c5⟩:yc ψ w pc vs:=hrel.on c (.cells vs) pc hgc hpc
           obtain ⟨mv,hmv,hmr⟩:=c5 off _ hnth
           rw [yq] at hmr
           obtain ⟨p,hp,rfl⟩:=hmr
           have hcell:w.cell? ⟨pc.blk,pc.off+off,none⟩=some (.map (some p.blk)):=by
            simp [World.cell?,c1,hmv]
           have ho:=hrel.on b (.map es clock) p hg hp
           obtain ⟨arr,hheap,hmi,hck⟩:=ho
           obtain ⟨l0,hp0,hce⟩:=hmi
           obtain ⟨zs0,g2,g3,g4,g5,g6⟩:=zHp P hck hce hok.1
           obtain ⟨zs,hpk,h2⟩:=zAR (A:=arr.toList.map fun e=>e.key) (f:=Value.int .i64) (l:=zs0) (by rw [← g2]; exact (hp0.map _).symm)
           have h3:∀ z∈zs,0≤z∧z≤9223372036854775807:=fun z hz=>g3 z (hpk.mem_iff.1 hz)
           have h4:∀ x∈arr.toList,x.born<p.ck clock:=fun x hx=>g4 x (hp0.mem_iff.2 hx)
           have h5:=(hp0.map fun e=>e.born).nodup_iff.1 g5
           have h6:=(hp0.pairwise_iff fun h e=>h e.symm).1 g6
           have hlen:arr.size=es.length:=by
            have:=(show xJ ψ p.ck es arr.toList from ⟨l0,hp0,hce⟩).length
            rwa [Array.length_toList] at this
           have hle:=zL hok.2
           rw [zAU] at hle
           have hread:∀ x∈arr.toList,∃ z:Int,z∈zs∧x.key=.int .i64 z∧Go.WideElems.rd P k R0 x=some (.int .i64 z,.nil):=by
            intro x hx
            have hm:x.key∈zs.map (Value.int .i64):=by rw [← h2]; exact List.mem_map.2 ⟨x,hx,rfl⟩
            obtain ⟨z,hz,e⟩:=List.mem_map.1 hm
            refine ⟨z,hz,e.symm,?_⟩
            obtain ⟨g1,g2⟩:=h3 z hz
            have hko:keyOf P k x.key=some (.int .i64 z):=by
             rw [← e]
             exact Go.Maps.keyOf_int_mk hf.kint (by simp [Lit.wf,IntKind.min,IntKind.max,IntKind.signed,IntKind.bits]; omega)
            unfold Go.WideElems.rd
            rw [hko]
            rfl
           have hfit:Go.WideElems.Fit P k R0 arr (p.ck clock):=by
            refine ⟨by rw [hlen]; unfold maxLen; omega,?_,fun x hx=>?_⟩
            · exact (Go.MapKept.stamped_iff arr (p.ck clock)).2 ⟨h4,h5,h6⟩
            · obtain ⟨z,_,_,hr⟩:=hread x hx
              exact ⟨_,hr⟩
           have hown:w.ownsMap P k R0 p.blk arr.size (.map ((arr.toList.map (Go.WideElems.rg P k R0)).foldr DataW.insert [])):=⟨arr,p.ck clock,hheap,hfit,Nat.le_refl _,rfl⟩
           have hsize:Maps.size (DataW.map ((arr.toList.map (Go.WideElems.rg P k R0)).foldr DataW.insert []))=arr.size:=by
            rw [Maps.size_eq]
            have:=(Go.WideShapes.sorted_perm (arr.toList.map (Go.WideElems.rg P k R0))).length_eq
            rw [this]; simp
           have hkeys:(intKeys (DataW.map ((arr.toList.map (Go.WideElems.rg P k R0)).foldr DataW.insert []))).Perm zs:=by
            have hp1:((arr.toList.map (Go.WideElems.rg P k R0)).foldr DataW.insert []).Perm (arr.toList.map (Go.WideElems.rg P k R0)):=Go.WideShapes.sorted_perm _
            refine (hp1.map fun q=>Go.intOf q.1).trans ?_
            have:(arr.toList.map (Go.WideElems.rg P k R0)).map (fun q=>Go.intOf q.1)=zs:=by
             have hinj:((arr.toList.map (Go.WideElems.rg P k R0)).map (fun q=>Go.intOf q.1)).map (Value.int .i64)=zs.map (Value.int .i64):=by
              rw [← h2,List.map_map,List.map_map]
              refine List.map_congr_left fun x hx=>?_
              obtain ⟨z,_,e,hr⟩:=hread x hx
              show Value.int .i64 (Go.intOf (Go.WideElems.rg P k R0 x).1)=x.key
              unfold Go.WideElems.rg
              rw [hr,e]; rfl
             have inj:∀ (a b:List Int),a.map (Value.int .i64)=b.map (Value.int .i64)→a=b:=by
              intro a
              induction a with
              | nil=>intro b h; cases b with
               | nil=>rfl
               | cons _ _=>cases h
              | cons x a ih=>intro b h; cases b with
               | nil=>cases h
               | cons y b=>
                injection h with e1 e2
                injection e1 with _ e1
                rw [e1,ih b e2]
             exact inj _ _ hinj
            rw [this]
           refine Calls.mono (hf.some_ pc.blk (pc.off+off) p.blk arr.size _ w hcell hown (by rw [hsize,hlen]; exact hle)) fun e w' ⟨v,ss,e1,hperm,hrow,hnil,hbelow⟩=>⟨v,e1,?_⟩
           have hsorted:∀ {ms:List Int},ms.Perm zs0→ms.Pairwise (fun a b=>a≤b)→ms=ss.mergeSort fun x y=>decide (x≤y):=by
            intro ms m1 m2
            refine List.Perm.eq_of_pairwise (le:=fun a b=>a≤b) (fun a b _ _=>Int.le_antisymm) m2 ?_ (m1.trans (((hperm.trans hkeys).trans hpk).symm.trans (List.mergeSort_perm _ _).symm))
            have:=List.pairwise_mergeSort (le:=fun x y:Int=>decide (x≤y)) (fun a b c h h'=>decide_eq_true (Int.le_trans (of_decide_eq_true h) (of_decide_eq_true h')))
             (fun a b=>by
               rcases Int.le_total a b with h | h
               · rw [decide_eq_true h]; rfl
               · rw [decide_eq_true h,Bool.or_true]) ss
            exact this.imp fun h=>of_decide_eq_true h
           split at hc
           · rename_i hs
             obtain ⟨ms,m1,m2,m3⟩:=zDk P hce g2 hs
             have hms:ms=[]:=by
              have:=zM.1 m1
              simpa using this
             have hss:ss=[]:=by
              have:=congrArg List.length (hsorted m2 m3)
              rw [hms,List.length_mergeSort] at this
              exact List.length_eq_zero_iff.1 this.symm
             rw [hnil.2 hss]
             exact ⟨ψ,qj hrel hbelow,zw.2 rfl⟩
           · rename_i k0 ks0 hs
             rw [show ∀ (m:Nat) (k:Nat→R),jr m k=k m from fun m k=>by cases m <;> rfl] at hc ⊢
             obtain ⟨ms,m1,m2,m3⟩:=zDk P hce g2 hs
             have hms:=hsorted m2 m3
             have hslen:ss.length=ks0.length+1:=by
              have:=congrArg List.length hms
              rw [List.length_mergeSort] at this
              have hl:=m1.length
              simp at hl
              omega
             have hroom:n.room:=Key.room_of_succ (k:=n) hc
             have hnone:=hfr n (Nat.le_refl _)
             rcases hrow.2 with ⟨_,h0⟩ | ⟨g,cap,cur,rfl,hge,hcell',hncap,hcapm,hcs,htake⟩
             · omega
             · have hle':=Psi.le_upd (ψ:=ψ) (k:=n) ⟨g,0,cur.size,fun n=>n⟩ hnone
               refine ⟨ψ.upd n ⟨g,0,cur.size,fun n=>n⟩,?_,?_⟩
               · rw [z6]
                 refine zBF (p:=⟨g,0,cur.size,fun n=>n⟩) hrel hroom hnone hbelow hge ?_
                 refine ⟨cur,k,(0,0),hcell',rfl,?_,.inl rfl,fun i c hi=>?_⟩
                 · simp only [Nat.zero_add,List.length_cons]; omega
                 · obtain ⟨u,hu,hur⟩:=m1.get hi
                   refine ⟨u,?_,hur.mono hle'⟩
                   rw [← hms] at htake
                   have hi':i<ss.length:=by
                    have:=(List.getElem?_eq_some_iff.1 hi).1
                    simp at this; omega
                   have:=congrArg (fun l=>l[i]?) htake
                   simp only [List.getElem?_take] at this
                   rw [if_pos (by omega),hu] at this
                   rw [Array.getElem?_toList] at this
                   simpa using this
               · rw [yF]
                 refine ⟨_,0,cap,Psi.upd_same _ _ _,by rw [hslen],?_,?_,by simp,.inl ⟨rfl,fun _=>?_⟩⟩
                 · omega
                 · omega
                 · simp only; omega
           · exact hc.elim
         · exact hc.elim
       · exact hc.elim
     · exact hc.elim
   · exact hc.elim
 · exact hc.elim
theorem nats_ok {nat:Nats} (hn:∀ f g,nat f=some g→(g=namesN∧∃ k,NamesFn P f k)∨(g=allN∧∃ k,AllFn P f k)):NatsOk P nat:=by
 refine ⟨fun f g hg d args h n=>?_,fun f g hg args h n ψ w args' h1 h2 h3 h4 hc=>?_,fun f g hg args h n ψ w args' h1 h2 h3 h4 hc=>?_⟩
 · rcases hn f g hg with ⟨rfl,_⟩ | ⟨rfl,_⟩
   · exact zLp d args h n
   · exact zPT d args h n
 · rcases hn f g hg with ⟨rfl,k,hf⟩ | ⟨rfl,k,hf⟩
   · exact zPu hf h1 h3 h4 hc
   · exact zTv hf h1 h3 h4 hc
 · rcases hn f g hg with ⟨rfl,_⟩ | ⟨rfl,_⟩
   · exact hc.elim
   · exact hc.elim
end
end Go.Ev
namespace Go.Ev
open Go.RowKit
noncomputable section
variable [Sym]
variable {P:Program}
variable [SymFact P]
def zN5 (lo hi:Nat):List (Nat × Nat)→Bool
 | []=>false
 | p::l=>(Nat.beq p.1 lo&&Nat.beq p.2 hi) || zN5 lo hi l
structure zVV (P:Program) (f:FuncId) (ps:List (Nat × Nat)):Prop where
 enter:∀ args w,(callFunc f args).run P w=.ok (.enter f args) w
 calls:∀ lo hi,zN5 lo hi ps=true→∀ (z:Int) (w:World),Calls P f #[.int .i64 z,.int .i64 (Int.ofNat lo),.int .i64 (Int.ofNat hi)] w fun e w'=>(∃ m:Nat,e=.returned (.int .i64 (Int.ofNat m))∧lo≤m∧m≤hi)∧Below w.heap.size w w'
end
noncomputable section
variable {P:Program}
end
end Go.Ev
namespace Go.Ev
open Go.RowKit
noncomputable section
def wI (z:Int):Int:=if z.tmod 3<0 then z.tmod 3+3 else z.tmod 3
section
variable [Sym]
variable {P:Program}
variable [SymFact P]
structure zWj (P:Program) (f:FuncId):Prop where
 enter:∀ args w,(callFunc f args).run P w=.ok (.enter f args) w
 calls:∀ (z:Int) (w:World),Calls P f #[.int .i64 z,.int .i64 0,.int .i64 2] w fun e w'=>e=.returned (.int .i64 (wI z))∧Below w.heap.size w w'
end
section
variable {P:Program}
theorem zVr (z:Int):yQ .rem .i64 z (.ofNat 3)=some (zb .i64 (z.tmod 3)):=by
 show Bool.rec (motive:=fun _=>Option CV) (some (zb .i64 (z.tmod (.ofNat 3)))) none (zj (.ofNat 3) (.ofNat 0))=_
 rw [@za zP,decide_eq_false (by intro h; injection h with h; cases h)]
 rfl
end
end
end Go.Ev
namespace Go.Ev
variable [Sym]
open Go.RowKit Go.Maps
noncomputable section
variable {P:Program}
structure zVR (P:Program) (f:FuncId) (k:TypeId):Prop where
 enter:∀ args w,(callFunc f args).run P w=.ok (.enter f args) w
 kint:P.underlying k=some (.int .i64)
 one:∀ (size b nn a v:Nat) (w:World),w.ownsMap P k (plainElem P k) b nn (DataW.map (H:=Unit) [(.int .i64 (a:Int),.lit (.int .i64 (v:Int)))])→a<size→size≤1000 →
  Calls P f #[.map (some b),.int .i64 (size:Int)] w fun e w'=>∃ g,e=.returned (.slice (some ⟨g,0,none⟩) size size)∧w.heap.size≤g ∧
   w'.heap[g]? = some (.cells ((Array.replicate size (Value.int .i64 0)).setIfInBounds a (.int .i64 (v:Int))) k (0,0))∧Below w.heap.size w w'
variable [SymFact P]
end
end Go.Ev
