/- A verified evaluator for the model's code: EvTop, EvNat, EvLin, EvSym, EvAll, EvWithin, EvWr, EvSpread. -/
import Derived.Test.YtkolecenifiaaaaGreatDoorEv6
import Derived.Below
import Derived.Sort.KeysCollected
import Derived.StringKeys
import Derived.Lib.SlKeysI
set_option linter.unusedSectionVars false
set_option linter.unusedVariables false
set_option linter.unusedSimpArgs false
namespace Go.Ev
variable[Sym]
open Go.RowKit
noncomputable section
variable{P:Program}
variable[SymFact P]
def zEL(v:CV):Bool:=CV.rec (motive_1:=λ_=>Bool) (motive_2:=λ_=>Unit) (λb=>b) (λ_=>false) (λ_ _=>false) (λ_=>false) (λ_=>false) false (λ_ _=>false) false
 (λ_ _ _ _ _ _=>false) false (λ_=>false) (λ_ _ _ _ _=>false) false (λ_ _ _=>false) false (λ_ _=>false) (λ_ _=>false) (λ_=>false) (λ_ _ _ _=>false) (λ_ _=>false) (λ_=>false) (λ_ _=>false) (λ_ _ _ _=>false) false () (λ_ _ _ _=>()) v
def allTrue(r:R):Bool:=R.rec (motive:=λ_=>Bool) (λ_ _ _ _ _=>false) (λv _ n=>Bool.rec (motive:=λ_=>Bool) false (Nat.ble (Nat.succ n.ix) 65535) (zEL v)) (λ_=>false)
 (λ_ _ a b=>Bool.rec (motive:=λ_=>Bool) false b a) r
theorem zNg{v:CV}(h:zEL v=true):v=.bool true:=by cases v <;> first |(cases h; rfl) |cases h
theorem jZ:∀{r:R},allTrue r=true->zd r
 |.ok ..,h=>by cases h|.ret v hh n,h=>by
  have h:Bool.rec (motive:=λ_=>Bool) false (Nat.ble (Nat.succ n.ix) 65535) (zEL v)=true:=h;cases hv:zEL v with
  |false=>rw[hv]at h; cases h|true=>rw[hv]at h; exact zH h
 |.err _,h=>by cases h|.fork a b,h=>by
  have h:Bool.rec (motive:=λ_=>Bool) false (allTrue b) (allTrue a)=true:=h;cases ha:allTrue a with
  |false=>rw[ha]at h; cases h|true=>rw[ha]at h; exact⟨jZ ha,jZ h⟩
theorem vy{Y:Psi}{g:Fam}{n:Key}{w:World}{v:Value}{w':World}:∀{r:R},allTrue r=true->zr Y g n w r v w'->v=.bool true/\∃Y' g' n',yF Y g n w Y' g' n' w'
 |.ok ..,h,_=>by cases h|.ret cv hh n',h,ho=>by
  have h:Bool.rec (motive:=λ_=>Bool) false (Nat.ble (Nat.succ n'.ix) 65535) (zEL cv)=true:=h;cases hv:zEL cv with
  |false=>rw[hv]at h; cases h|true=>obtain⟨Y',hp,hr⟩:=ho;rw[zNg hv,zL]at hr;exact⟨hr,Y',_,_,hp⟩
 |.err _,h,_=>by cases h|.fork a b,h,ho=>by
  have h:Bool.rec (motive:=λ_=>Bool) false (allTrue b) (allTrue a)=true:=h;cases ha:allTrue a with
  |false=>rw[ha]at h; cases h|true=>
   rw[ha]at h;rcases ho with ho |ho
   . exact vy ha ho
   . exact vy h ho
def zH7(G:Nat):Psi:=λk=>if k.ix<G then some ⟨k.ix,0,0,λn=>n⟩else none
theorem zEF{G:Nat}(hG:P.globals.size<=G):vU P (zH7 G):=by intro g hg h4;have hix:(Key.ofNat g).ix=g:=Key.ix_ofNat (by omega);refine⟨0,?_⟩;unfold zH7;rw[hix,if_pos (by omega)]
theorem zCF{G:Nat}{n:Key}(hn:G<=n.ix):qN (zH7 G) n:=by intro k hk;unfold zH7;rw[if_neg (by omega)]
theorem zBP(k:Key):zC.fam (.nil:zC) k=none:=by obtain⟨a,b,c,d⟩:=k;show(((H3.get a .nil).get b).get c).get d=none;rw[H3.get_nil,H2.get_nil,H1.get_nil,HV.get_nil]
theorem zLf(Y:Psi)(w:World):Rel Y (zC.fam (.nil:zC)) w:=
 ⟨λk o p h _=>by(rw[zBP]at h; cases h),λk o h=>by(rw[zBP]at h; cases h),λk₁ _ o₁ _ _ _ h _ _ _ _=>by(rw[zBP]at h; cases h)⟩
theorem zN9{code:FuncId->CFn}{nat:Nats}{fuel:Nat}{f:FuncId}{fn:Func}{c:Code}{args:List CV}{args':Array Value}{G:Nat}{n:Key}(hm:P.follows .mixedOrders=true)(hcode:CodeOk P code)(hnat:NatsOk P nat)
 (hf:P.funcs[f]? = some fn) (hname:(fn.name == "runtime.NumGoroutine")=false) (hb:fn.body=some c) (hG:P.globals.size<=G) (hn:G<=n.ix) (hargs:zP (zH7 G) args args'.toList)
 (hrun:allTrue (ev P code nat fuel false f args .nil n)=true) (w:World):Calls P f args' w λe w'=>e=.returned (.bool true)/\Below w.heap.size w w':=by
 have hok:=kZ (λcall hcall F N=>ym hm hcall) hcode hnat fuel;have h:=hok.calls f args .nil n (zH7 G) w args' hargs (zEF hG) (zLf _ _) (zCF hn) (jZ hrun);unfold yS at h;rw[run_callFunc_enter hf hname hb]at h;refine Calls.mono h λe w' ⟨v,e1,hr⟩=>?_;obtain⟨rfl,Y',g',n',hp⟩:=vy hrun hr;exact⟨e1,hp.os,hp.tape,hp.output,hp.size,λk hk=>hp.frame k hk λk o p hk' _ _=>by rw[zBP]at hk'; cases hk'⟩
end
end Go.Ev
namespace Go.Ev
variable[Sym]
open Go.RowKit Go.Maps
open Go.Proofs (encStr)
noncomputable section
variable{P:Program}
variable[SymFact P]
def zUq(x:List Nat):List (List Nat)->List (List Nat)
 | []=>[x]
 |y::r=>if zBn y x then y::zUq x r else x::y::r
def zIY:List (List Nat)->List (List Nat)
 | []=>[]
 |x::r=>zUq x (zIY r)
def zB3:List CE->List (List Nat)
 | []=>[]
 |e::r=>match e.key with
  |.str s=>s::zB3 r|_=>zB3 r
def zLl(e:CE):List CE->Bool
 | []=>true|x::r=>!Nat.beq x.born e.born && !(match x.key,e.key with
  |.str a,.str b=>qY a b|_,_=>true)&&zLl e r
def zM1(clock:Nat):List CE->Bool
 | []=>true|e::r=>(match e.key with
  |.str s=>Nat.ble (zDF s) 1000000|_=>false)&&Nat.ble (Nat.succ e.born) clock&&zLl e r&&zM1 clock r
def namesN:NatF:=λ_ d args h n=>match d with
 |true=>.err 402|false=>match args with
  | [.map b]=>match zb b h with
   |some (.map es clock)=>match zM1 clock es&&Nat.ble (zRo es) 1000000 with
    |true=>match zIY (zB3 es)with
     | []=>.ret .nilsl h n|k::ks=>uf (Nat.succ ks.length) λm=>.ret (.sl n 0 m m 1 false) (yy (some (.cells (.str k::ks.map .str))) n h) n.succ
    |false=>.err 403
   |_=>.err 400
  | [.nilmap]=>.ret .nilsl h n|_=>.err 401
abbrev toN(l:List UInt8):List Nat:=l.map UInt8.toNat
theorem zQY(a b:List UInt8):zBn (toN a) (toN b)=decide (a<b):=by
 rw[zJK];induction a generalizing b with
 |nil=>cases b with
  |nil=>simp[Op.bytesLess]|cons y b=>simp[Op.bytesLess]
 |cons x a ih=>cases b with
  |nil=>simp[Op.bytesLess]|cons y b=>rw[Op.bytesLess,ih,Bool.eq_iff_iff];simp only[Bool.or_eq_true,Bool.and_eq_true,decide_eq_true_eq,beq_iff_eq,List.cons_lt_cons_iff]
theorem zQp(x:List UInt8):∀(l:List (List UInt8)),∃m:List (List UInt8),m.Perm (x::l)/\zUq (toN x) (l.map toN)=m.map toN/\(l.Pairwise (λa b=>a<=b)->m.Pairwise (λa b=>a<=b))
 | []=>⟨[x],List.Perm.refl _,rfl,λ_=>by simp⟩
 |y::r=>by
  obtain⟨m,h1,h2,h3⟩:=zQp x r;show ∃m:List (List UInt8),m.Perm (x::y::r)/\(if zBn (toN y) (toN x)then toN y::zUq (toN x) (r.map toN)else toN x::toN y::r.map toN)=m.map toN/\_;rw[zQY];by_cases hlt:y<x
  . rw[decide_eq_true hlt,if_pos rfl,h2];refine⟨y::m,(List.Perm.cons y h1).trans (List.Perm.swap x y r),rfl,λhp=>?_⟩;rw[List.pairwise_cons]at hp ⊢;refine⟨λz hz=>?_,h3 hp.2⟩;rcases List.mem_cons.1 (h1.mem_iff.1 hz)with rfl |hz
    . exact List.le_of_lt hlt
    . exact hp.1 z hz
  . rw[decide_eq_false hlt,if_neg (by simp)];refine⟨x::y::r,List.Perm.refl _,rfl,λhp=>?_⟩;have hxy:x<=y:=List.not_lt.1 hlt;refine List.pairwise_cons.2 ⟨λz hz=>?_,hp⟩;rcases List.mem_cons.1 hz with rfl |hz
    . exact hxy
    . exact List.le_trans hxy ((List.pairwise_cons.1 hp).1 z hz)
theorem zMg:∀(l:List (List UInt8)),∃m:List (List UInt8),m.Perm l/\zIY (l.map toN)=m.map toN/\m.Pairwise (λa b=>a<=b)
 | []=>⟨[],List.Perm.refl _,rfl,List.Pairwise.nil⟩
 |x::l=>by obtain⟨m,h1,h2,h3⟩:=zMg l;obtain⟨m',g1,g2,g3⟩:=zQp x m;refine⟨m',g1.trans (List.Perm.cons x h1),?_,g3 h3⟩;show zUq (toN x) (zIY (l.map toN))=_;rw[h2,g2]
theorem zLx{ss l:List (List UInt8)}(hp:ss.Perm l):zIY (l.map toN)=(ss.mergeSort λx y=>decide (x<=y)).map toN:=by
 obtain⟨m,h1,h2,h3⟩:=zMg l;rw[h2]
 congr 1
 refine List.Perm.eq_of_pairwise (le:=λa b=>a<=b) (λa b _ _=>List.le_antisymm) h3 ?_ (h1.trans (hp.symm.trans (List.mergeSort_perm _ _).symm))
 have:=List.pairwise_mergeSort (le:=λx y:List UInt8=>decide (x<=y)) (λa b c h h'=>decide_eq_true (List.le_trans (of_decide_eq_true h) (of_decide_eq_true h')))
  (λa b=>by
    rcases List.le_total a b with h |h
    . rw[decide_eq_true h]; rfl
    . rw[decide_eq_true h,Bool.or_true]) ss
 exact this.imp λh=>of_decide_eq_true h
theorem zGQ(b:ByteArray):zy b=toN b.data.toList:=rfl
theorem zFp{Y:Psi}{ck:Nat->Nat}(hck:∀a b,ck a=ck b ↔ a=b){e:CE}{x:MapEntry}(hx:zD3 Y ck e x):∀{es:List CE} {l:List MapEntry},yI Y ck es l->zLl e es=true->∀y∈l,y.born≠x.born/\y.key≠x.key
 | [],l,h,_=>by have h:l=[]:=h;subst h; intro y hy; cases hy
 |c::es,l,h,hu=>by
  obtain⟨z,r,rfl,hz,hr⟩:=h;unfold zLl at hu;rw[Bool.and_eq_true,Bool.and_eq_true]at hu;intro y hy;rcases List.mem_cons.1 hy with rfl |hy
  . refine⟨λe1=>?_,λe1=>?_⟩
    . have:=hu.1.1
      rw[hz.2.2,hx.2.2,hck]at e1;rw[e1,qw]at this; cases this
    . have h2:=hu.1.2;have hzk:=hz.1;have hxk:=hx.1;rw[e1]at hzk;generalize c.key=ck at h2 hzk;generalize e.key=ek at h2 hxk;cases ck <;> try (cases ek <;> cases h2)
      rename_i s;cases ek <;> try (cases h2)
      rename_i t;rw[zg]at hzk hxk;obtain⟨b1,q1,q2⟩:=hzk;obtain⟨b2,q3,q4⟩:=hxk;rw[q1]at q3; injection q3 with q3; subst q3;rw[<- q2,<- q4]at h2
      have:qY (zy b1) (zy b1)=true:=by rw[kr]; simp
      simp only at h2;rw[this]at h2; cases h2
  . exact zFp hck hx hr hu.2 y hy
theorem zLS{Y:Psi}{ck:Nat->Nat}{clock:Nat}(hck:vd ck clock):∀{es:List CE} {l:List MapEntry},yI Y ck es l->zM1 clock es=true->∃ks:List (List UInt8),zB3 es=ks.map toN/\l.map (λe=>e.key)=ks.map encStr/\(∀k∈ks,k.length<=1000000) /\
 (∀x∈l,x.born<ck clock)/\(l.map (λe=>e.born)).Nodup/\l.Pairwise (λx y=>x.key≠y.key)
 | [],l,h,_=>by have h:l=[]:=h;subst h;exact⟨[],rfl,rfl,by simp,by simp,by simp,List.Pairwise.nil⟩|c::es,l,h,hu=>by
  obtain⟨x,r,rfl,hx,hr⟩:=h;unfold zM1 at hu;rw[Bool.and_eq_true,Bool.and_eq_true,Bool.and_eq_true]at hu;obtain⟨ks,h1,h2,h3,h4,h5,h6⟩:=zLS hck hr hu.2;have hun:=zFp (λ_ _=>hck.inj) hx hr hu.1.2;have hk:=hu.1.1.1;have hxk:=hx.1;have hkeys:zB3 (c::es)=match c.key with |.str s=>s::zB3 es |_=>zB3 es:=rfl
  rw[hkeys];generalize c.key=ck at hk hxk ⊢;cases ck <;> try (cases hk)
  rename_i s;rw[zg]at hxk;obtain⟨b,q1,q2⟩:=hxk;refine⟨b.data.toList::ks,?_,?_,?_,?_,?_,?_⟩
  . show s::zB3 es=_;rw[h1,<- q2]; rfl
  . show x.key::_=_;rw[h2,q1];simp[encStr]
  . intro k hk';rcases List.mem_cons.1 hk' with rfl |hk'
    . have:=zH hk
      rw[zAi,<- q2,zGQ,List.length_map]at this;exact this
    . exact h3 k hk'
  . intro y hy;rcases List.mem_cons.1 hy with rfl |hy
    . rw[hx.2.2]; exact(hck.here _).1 (zH hu.1.1.2)
    . exact h4 y hy
  . show(x.born::r.map _).Nodup;refine List.nodup_cons.2 ⟨λhm=>?_,h5⟩;obtain⟨y,hy,e⟩:=List.mem_map.1 hm;exact(hun y hy).1 e
  . exact List.pairwise_cons.2 ⟨λy hy e=>(hun y hy).2 e.symm,h6⟩
theorem zEo{α β:Type}{f:α->β}:∀{A:List β} {l:List α},A.Perm (l.map f)->∃l':List α,l'.Perm l/\A=l'.map f
 | [],l,h=>by
  have:l=[]:=by simpa using h.symm.eq_nil
  subst this; exact⟨[],List.Perm.refl _,rfl⟩
 |a::A,l,h=>by
  obtain⟨x,hx,rfl⟩:=List.mem_map.1 (h.mem_iff.1 (List.mem_cons_self));obtain⟨l1,l2,rfl⟩:=List.append_of_mem hx;have h':A.Perm ((l1++l2).map f):=by rw[List.map_append,List.map_cons]at h;rw[List.map_append];exact List.Perm.cons_inv (h.trans List.perm_middle)
  obtain⟨l',g1,g2⟩:=zEo h';exact⟨x::l',(List.Perm.cons x g1).trans List.perm_middle.symm,by rw[List.map_cons,g2]⟩
theorem zO4{Y:Psi}{ck:Nat->Nat}{clock:Nat}(hck:vd ck clock){es:List CE}{l:List MapEntry}(hm:xg Y ck es l)(ho:zM1 clock es=true):∃ks0 ks:List (List UInt8),zB3 es=ks0.map toN/\ks.Perm ks0/\l.map (λe=>e.key)=ks.map encStr/\(∀k∈ks,k.length<=1000000) /\
 (∀x∈l,x.born<ck clock)/\(l.map (λe=>e.born)).Nodup/\l.Pairwise (λx y=>x.key≠y.key):=by
 obtain⟨l',hp,hc⟩:=hm;obtain⟨ks0,h1,h2,h3,h4,h5,h6⟩:=zLS hck hc ho;obtain⟨ks,g1,g2⟩:=zEo (A:=l.map λe=>e.key) (f:=encStr) (l:=ks0) (by rw[<- h2]; exact(hp.map _).symm);exact⟨ks0,ks,h1,g1,g2,λk hk=>h3 k (g1.mem_iff.1 hk),λx hx=>h4 x (hp.mem_iff.2 hx),(hp.map _).nodup_iff.1 h5,(hp.pairwise_iff λh e=>h e.symm).1 h6⟩
theorem jp{Y:Psi}{g:Fam}{n:Key}{w w':World}(h:Rel Y g w)(hb:Below w.heap.size w w'):yF Y g n w Y g n w':=by
 refine⟨Psi.le_refl _,λ_ _=>rfl,⟨λk o p h1 h2=>?_,h.tot,h.inj⟩,λB hB _=>hb.block B hB,λk o p h1 h2 h3=>.inl ⟨k,o,p,h1,h2,h3,rfl⟩,hb.size,hb.tape,hb.os,hb.output,Nat.le_refl _,
  λk o p h1 h3=>.inl ⟨k,o,p,h1,h3,rfl⟩⟩
 have:=h.on k o p h1 h2
 exact xQ.congr (hb.block _ this.lt) this
theorem zGV{Y:Psi}{g:Fam}{n:Key}{w w':World}{p:Pl}{o:CObj}(h:Rel Y g w)(hn:n.room)(hnone:Y n=none)(hb:Below w.heap.size w w')(hp:w.heap.size<=p.blk)(ho:xQ (Y.upd n p) w' p o) :
 yF Y g n w (Y.upd n p) (g.upd n (some o)) n.succ w':=by
 have hix:=Key.ix_succ hn;have hle:=Psi.le_upd (Y:=Y) (k:=n) p hnone;have hgn:∀j q,g j=some q->j≠n:=by intro j q hj e;subst e;obtain⟨p,hp⟩:=h.tot j q hj;rw[hnone]at hp; cases hp
 refine⟨hle,λk hk=>?_,⟨?_,?_,?_⟩,λB hB _=>hb.block B hB,?_,hb.size,hb.tape,hb.os,hb.output,by omega,?_⟩
 . exact Psi.upd_other _ _ (λe=>by subst e; omega)
 . intro j q pj hq hpj;by_cases hj:j=n
   . subst hj;rw[Fam.upd_same]at hq; rw[Psi.upd_same]at hpj;injection hq with hq; injection hpj with hpj;subst hq; subst hpj; exact ho
   . rw[Fam.upd_other _ _ hj]at hq; rw[Psi.upd_other _ _ hj]at hpj
     have:=h.on j q pj hq hpj
     exact xQ.congr (hb.block _ this.lt) (this.mono hle)
 . intro j q hq;by_cases hj:j=n
   . subst hj; exact⟨_,Psi.upd_same _ _ _⟩
   . rw[Fam.upd_other _ _ hj]at hq;obtain⟨p,hp⟩:=h.tot j q hq;exact⟨p,hle _ _ hp⟩
 . intro k₁ k₂ o₁ o₂ p₁ p₂ h1 h2 h3 h4 hr e;by_cases j1:k₁=n <;> by_cases j2:k₂=n
   . rw[j1,j2]
   . exfalso;subst j1;rw[Psi.upd_same]at h3; injection h3 with h3; subst h3;rw[Fam.upd_other _ _ j2]at h2; rw[Psi.upd_other _ _ j2]at h4
     have:=(h.on _ _ _ h2 h4).lt
     omega
   . exfalso;subst j2;rw[Psi.upd_same]at h4; injection h4 with h4; subst h4;rw[Fam.upd_other _ _ j1]at h1; rw[Psi.upd_other _ _ j1]at h3
     have:=(h.on _ _ _ h1 h3).lt
     omega
   . rw[Fam.upd_other _ _ j1]at h1; rw[Psi.upd_other _ _ j1]at h3;rw[Fam.upd_other _ _ j2]at h2; rw[Psi.upd_other _ _ j2]at h4;exact h.inj _ _ _ _ _ _ h1 h2 h3 h4 hr e
 . intro j q pj hq hro hpj;by_cases hj:j=n
   . subst hj;rw[Psi.upd_same]at hpj; injection hpj with hpj; subst hpj;exact .inr hp
   . rw[Fam.upd_other _ _ hj]at hq; rw[Psi.upd_other _ _ hj]at hpj;exact .inl ⟨j,q,pj,hq,hro,hpj,rfl⟩
 . intro j q pj hq hpj;by_cases hj:j=n
   . subst hj;rw[Psi.upd_same]at hpj; injection hpj with hpj; subst hpj;exact .inr hp
   . rw[Fam.upd_other _ _ hj]at hq; rw[Psi.upd_other _ _ hj]at hpj;exact .inl ⟨j,q,pj,hq,hpj,rfl⟩
def R0:Value->Option (DataW Unit × List MemPlace):=λ_=>some (.nil,[])
structure NamesFn(P:Program)(f:FuncId)(k:TypeId):Prop where
 enter:∀args w,(callFunc f args).run P w=.ok (.enter f args) w
 kstr:P.underlying k=some .string
 some_:∀(b nn:Nat) (D0:DataW Unit) (w:World),w.ownsMap P k R0 b nn D0->Maps.size D0<=maxLen->Maps.size D0*16<=140737488355328 ->
  Calls P f #[.map (some b)] w λe w'=>∃(v:Value) (ss:List (List UInt8)),e=.returned v/\ss.Perm (strKeys D0) /\
   w'.ownsRow w.heap.size k 1 v ss.length ((ss.mergeSort (λx y=>decide (x<=y))).map encStr)/\(v=.slice none 0 0 ↔ ss=[])/\Below w.heap.size w w'
 nil_:∀w:World,Calls P f #[.map none] w λe w'=>e=.returned (.slice none 0 0)/\Below w.heap.size w w'
theorem zNx(d:Bool)(args:List CV)(h:zC)(n:Key):zo n (namesN ‹Sym› d args h n):=by
 unfold namesN;split
 . trivial
 . split
   . split
     . split
       . split
         . exact Nat.le_refl _
         . rw[show ∀(m:Nat) (k:Nat->R),uf m k=k m from λm k=>by cases m <;> rfl];exact Key.ix_le_succ _
       . trivial
     . trivial
   . exact Nat.le_refl _
   . trivial
theorem zRt{f:FuncId}{k:TypeId}(hf:NamesFn P f k){args:List CV}{h:zC}{n:Key}{Y:Psi}{w:World}{args':Array Value}(ha:zP Y args args'.toList)(hrel:Rel Y (zC.fam h) w)(hfr:qN Y n)
 (hc:zd (namesN ‹Sym› false args h n)):yS P f args' w (zr Y (zC.fam h) n w (namesN ‹Sym› false args h n)):=by
 unfold yS;rw[hf.enter];show Calls P f args' w λe w''=>∃v,e=.returned v/\zr Y (zC.fam h) n w (namesN ‹Sym› false args h n) v w'';unfold namesN at hc ⊢;simp only at hc ⊢;split at hc
 . rename_i b;rw[za]at ha;obtain⟨v,r,e1,hv,hr⟩:=ha;rw[zM]at hr; subst hr;rw[xC]at hv;obtain⟨p,hp,rfl⟩:=hv;obtain rfl:args'=#[.map (some p.blk)]:=by cases args'; simp_all
   split at hc
   . rename_i es clock hg;split at hc
     . rename_i hok;rw[Bool.and_eq_true]at hok;have ho:=hrel.on b (.map es clock) p hg hp;obtain⟨arr,hheap,hce,hck⟩:=ho;obtain⟨ks0,ks,h1,hpk,h2,h3,h4,h5,h6⟩:=zO4 hck hce hok.1;have hlen:arr.size=es.length:=by
        have:=hce.length
        rwa [Array.length_toList]at this
       have hle:=zH hok.2;rw[zDv]at hle;have hkl:ks.length=arr.size:=by
        have:=congrArg List.length h2
        simpa using this.symm
       have hread:∀x∈arr.toList,∃key:List UInt8,key∈ks/\x.key=encStr key/\Go.WideElems.rd P k R0 x=some (.string key,.nil):=by
        intro x hx;have hm:x.key∈ks.map encStr:=by rw[<- h2]; exact List.mem_map.2 ⟨x,hx,rfl⟩
        obtain⟨key,hk,e⟩:=List.mem_map.1 hm;refine⟨key,hk,e.symm,?_⟩;have hlen:=h3 key hk;have hko:keyOf P k x.key=some (.string key):=by
         rw[<- e]
         have:(⟨key.toArray⟩:ByteArray).size<=maxLen:=by show key.toArray.size<=maxLen;rw[List.size_toArray]; unfold maxLen; omega
         have:=Go.WideMaps.keyOf_string_mk (k:=k) hf.kstr this
         simpa [encStr]using this
        unfold Go.WideElems.rd;rw[hko];rfl
       have hfit:Go.WideElems.Fit P k R0 arr (p.ck clock):=by
        refine⟨by rw[hlen]; unfold maxLen; omega,?_,λx hx=>?_⟩
        . exact(Go.MapKept.stamped_iff arr (p.ck clock)).2 ⟨h4,h5,h6⟩
        . obtain⟨key,_,_,hr⟩:=hread x hx;exact⟨_,hr⟩
       have hown:w.ownsMap P k R0 p.blk arr.size (.map ((arr.toList.map (Go.WideElems.rg P k R0)).foldr DataW.insert [])):=⟨arr,p.ck clock,hheap,hfit,Nat.le_refl _,rfl⟩
       have hsize:Maps.size (DataW.map ((arr.toList.map (Go.WideElems.rg P k R0)).foldr DataW.insert []))=arr.size:=by
        rw[Maps.size_eq]
        have:=(Go.WideShapes.sorted_perm (arr.toList.map (Go.WideElems.rg P k R0))).length_eq
        rw[this]; simp
       have hkeys:(strKeys (DataW.map ((arr.toList.map (Go.WideElems.rg P k R0)).foldr DataW.insert []))).Perm ks:=by
        have hp1:((arr.toList.map (Go.WideElems.rg P k R0)).foldr DataW.insert []).Perm (arr.toList.map (Go.WideElems.rg P k R0)):=Go.WideShapes.sorted_perm _;refine(hp1.map λq=>strOf q.1).trans ?_
        have:(arr.toList.map (Go.WideElems.rg P k R0)).map (λq=>strOf q.1)=ks:=by
         have hinj:((arr.toList.map (Go.WideElems.rg P k R0)).map (λq=>strOf q.1)).map encStr=ks.map encStr:=by rw[<- h2,List.map_map,List.map_map];refine List.map_congr_left λx hx=>?_;obtain⟨key,_,e,hr⟩:=hread x hx;show encStr (strOf (Go.WideElems.rg P k R0 x).1)=x.key;unfold Go.WideElems.rg;rw[hr,e]; rfl
         have inj:∀(a b:List (List UInt8)),a.map encStr=b.map encStr->a=b:=by
          intro a;induction a with
          |nil=>intro b h; cases b with
           |nil=>rfl|cons _ _=>cases h
          |cons x a ih=>intro b h; cases b with
           |nil=>cases h|cons y b=>injection h with e1 e2;rw[encStr_inj e1,ih b e2]
         exact inj _ _ hinj
        rw[this]
       refine Calls.mono (hf.some_ p.blk arr.size _ w hown (by rw[hsize,hlen]; unfold maxLen; omega) (by rw[hsize,hlen]; omega)) λe w' ⟨v,ss,e1,hperm,hrow,hnil,hbelow⟩=>⟨v,e1,?_⟩
       have hsort:zIY (zB3 es)=(ss.mergeSort λx y=>decide (x<=y)).map toN:=by rw[h1]; exact zLx ((hperm.trans hkeys).trans hpk)
       split at hc
       . rename_i hs;rw[hsort]at hs;have hss:ss=[]:=by
          have:=congrArg List.length hs
          rw[List.length_map,List.length_mergeSort]at this;exact List.length_eq_zero_iff.1 this
         rw[hnil.2 hss];exact⟨Y,jp hrel hbelow,yD.2 rfl⟩
       . rename_i k0 ks0 hs;rw[show ∀(m:Nat) (k:Nat->R),uf m k=k m from λm k=>by cases m <;> rfl]at hc ⊢;rw[hsort]at hs;have hslen:ss.length=ks0.length+1:=by
          have:=congrArg List.length hs
          rw[List.length_map,List.length_mergeSort]at this;exact this
         have hroom:n.room:=Key.room_of_succ (k:=n) hc;have hnone:=hfr n (Nat.le_refl _);rcases hrow.2 with⟨_,h0⟩ |⟨g,cap,cur,rfl,hge,hcell,hncap,hcapm,hcs,htake⟩
         . omega
         . refine⟨Y.upd n ⟨g,0,cur.size,λn=>n⟩,?_,?_⟩
           . rw[z7];refine zGV (p:=⟨g,0,cur.size,λn=>n⟩) hrel hroom hnone hbelow hge ?_;refine⟨cur,k,(0,0),hcell,rfl,?_,.inl rfl,λi c hi=>?_⟩
             . simp only[Nat.zero_add,List.length_cons,List.length_map]; omega
             . have hmap:(CV.str k0::ks0.map CV.str)=((ss.mergeSort λx y=>decide (x<=y)).map toN).map CV.str:=by rw[hs]; rfl
               rw[hmap,List.map_map]at hi;obtain⟨l0,hl,rfl⟩:∃l0,(ss.mergeSort λx y=>decide (x<=y))[i]? = some l0/\c=CV.str (toN l0):=by
                rw[List.getElem?_map]at hi;cases hq:(ss.mergeSort λx y=>decide (x<=y))[i]? with
                |none=>rw[hq]at hi; cases hi|some l0=>rw[hq]at hi; injection hi with hi; exact⟨l0,rfl,hi.symm⟩
               have hcur:cur.toList[i]? = some (encStr l0):=by
                have hli:i<ss.length:=by
                 have:=(List.getElem?_eq_some_iff.1 hl).1
                 rwa [List.length_mergeSort]at this
                have:=congrArg (λl=>l[i]?) htake
                simp only[List.getElem?_take,List.getElem?_map,hl,Option.map_some]at this;rw[if_pos (by omega)]at this;exact this
               refine⟨encStr l0,?_,?_⟩
               . rw[Array.getElem?_toList]at hcur;simpa using hcur
               . rw[zg];refine⟨_,rfl,?_⟩;rw[zGQ]
           . rw[yJ];refine⟨_,0,cap,Psi.upd_same _ _ _,by rw[hslen],?_,?_,by simp,.inl ⟨rfl,λ_=>?_⟩⟩
             . omega
             . omega
             . simp only; omega
     . exact hc.elim
   . exact hc.elim
 . rw[za]at ha;obtain⟨v,r,e1,hv,hr⟩:=ha;rw[zM]at hr; subst hr;rw[yg]at hv; subst hv;obtain rfl:args'=#[.map none]:=by cases args'; simp_all
   exact Calls.mono (hf.nil_ w) λe w' ⟨e1,hb⟩=>⟨_,e1,Y,jp hrel hb,yD.2 rfl⟩
 . exact hc.elim
end
end Go.Ev
namespace Go.Ev
noncomputable section
variable{P:Program}
@[reducible] def noSym:Sym where
 arg:=λ_=>none
 val:=λ_=>.int .i64 0
 one:=λ_=>.inl ⟨_,_,rfl⟩
 bin:=λ_ _ _=>none
 cv:=λ_ _=>none
abbrev LL:=List (Nat × Int)
def evL(J:Nat->Int):LL->Int
 | []=>0|p::r=>p.2*J p.1+evL J r
def zRh(i:Nat)(a:Int):LL->LL
 | []=>[(i,a)]
 |p::r=>if i=p.1 then(if a+p.2=0 then r else(i,a+p.2)::r)else if i<p.1 then(i,a)::p::r else p::zRh i a r
def vf:LL->LL->LL
 | [],m=>m|p::r,m=>zRh p.1 p.2 (vf r m)
def wH(b:Int):LL->LL
 | []=>[]
 |p::r=>(p.1,b*p.2)::wH b r
variable{J:Nat->Int}
theorem zQh(i:Nat)(a:Int):∀(m:LL),evL J (zRh i a m)=a*J i+evL J m
 | []=>rfl|p::r=>by
  unfold zRh;split
  . rename_i h;split
    . rename_i h0;show evL J r=a*J i+(p.2*J p.1+evL J r)
      rw[<- h,<- Int.add_assoc,<- Int.add_mul,h0]; simp
    . show(a+p.2)*J i+evL J r=a*J i+(p.2*J p.1+evL J r)
      rw[<- h,Int.add_mul,Int.add_assoc]
  . split
    . rfl
    . show p.2*J p.1+evL J (zRh i a r)=a*J i+(p.2*J p.1+evL J r)
      rw[zQh i a r]; omega
theorem jM:∀(l m:LL),evL J (vf l m)=evL J l+evL J m
 | [],m=>by simp[vf,evL]|p::r,m=>by show evL J (zRh p.1 p.2 (vf r m))=p.2*J p.1+evL J r+evL J m;rw[zQh,jM r m]; omega
theorem qQ(b:Int):∀(l:LL),evL J (wH b l)=b*evL J l
 | []=>by simp[wH,evL]|p::r=>by
  show b*p.2*J p.1+evL J (wH b r)=b*(p.2*J p.1+evL J r)
  rw[qQ b r,Int.mul_add,Int.mul_assoc]
structure SRule where
 op:BinOp
 x:SE
 c:Nat
 v:CV
structure zU where
 b:List (Int × Int)
 f:List (LL × Int × Int)
 rules:List SRule
 arg:Key->Option Value:=λ_=>none
def zVQ{α:Type}(l:List α)(k:Nat):Option α:=
 List.rec (motive:=λ_=>Nat->Option α) (λ_=>none) (λx _ ih k=>Nat.rec (motive:=λ_=>Option α) (some x) (λk _=>ih k) k) l k
theorem zFV{α:Type}:∀{l:List α} {k:Nat},zVQ l k=nth l k
 | [],_=>rfl|_::_,0=>rfl|_::l,k+1=>zFV (l:=l) (k:=k)
def zGy(b:List (Int × Int)):LL->Option (Int × Int)
 | []=>some (0,0)|p::r=>match zVQ b p.1,zGy b r with
  |some q,some s=>if 0<=p.2 then some (p.2*q.1+s.1,p.2*q.2+s.2)else some (p.2*q.2+s.1,p.2*q.1+s.2)|_,_=>none
def zQc(l m:LL):List (LL × Int × Int)->Option (Int × Int)
 | []=>none|q::r=>match j9 q.1 l with
  |true=>some q.2|false=>match j9 q.1 m with
   |true=>some (-q.2.2,-q.2.1)|false=>zQc l m r
def zSC(l:LL)(F:List (LL × Int × Int)):Option (Int × Int):=zQc l (wH (-1) l) F
def zKv(p:Int × Int)(o:Option (Int × Int)):Option (Int × Int):=match o with
 |some q=>some (max p.1 q.1,min p.2 q.2)|none=>some p
def zYG(i:Nat):LL->Bool
 | []=>false|p::r=>match Nat.beq p.1 i with
  |true=>true|false=>zYG i r
def zS0:LL->LL->Bool
 | [],_=>false|p::r,m=>match zYG p.1 m with
  |true=>true|false=>zS0 r m
def zNi(b:List (Int × Int))(l:LL):List (LL × Int × Int)->Option (Int × Int)
 | []=>zGy b l|q::r=>match zS0 l q.1 with
  |false=>zNi b l r|true=>match zGy b (vf l (wH (-1) q.1))with
   |some s=>zKv (q.2.1+s.1,q.2.2+s.2) (zNi b l r)|none=>zNi b l r
def rng(K:zU)(l:LL):Option (Int × Int):=match zSC l K.f with
 |some q=>zKv q (zGy K.b l)|none=>zNi K.b l K.f
def loK(k:IntKind):Int:=match k with
 |.i8=>-128|.i16=>-32768|.i32=>-2147483648|.i64=>-9223372036854775808|_=>0
def hiK(k:IntKind):Int:=match k with
 |.i8=>127|.i16=>32767|.i32=>2147483647|.i64=>9223372036854775807|.u8=>255|.u16=>65535|.u32=>4294967295|.u64=>18446744073709551615
def mkS(k:IntKind)(c:Int)(l:LL):CV:=match l with
 | []=>mkInt k c|l=>.sym ⟨k,c,l⟩
def zMP(K:zU)(k:IntKind)(c:Int)(l:LL):Bool:=(match zGy K.b l with
 |some q=>decide (loK k<=c+q.1)&&decide (c+q.2<=hiK k)|none=>false) || (match rng K l with
 |some q=>decide (loK k<=c+q.1)&&decide (c+q.2<=hiK k)|none=>false)
def zCh(x:CV):Option (IntKind × Int × LL):=match x with
 |.nat n=>some (.i64,.ofNat n,[])|.int k n=>some (k,n,[])|.sym e=>some (e.k,e.c,e.l)|_=>none
def zHk(op:BinOp)(lo hi:Int):Option Bool:=match op with
 |.lss=>if hi<0 then some true else if 0<=lo then some false else none|.leq=>if hi<=0 then some true else if 0<lo then some false else none|.gtr=>if 0<lo then some true else if hi<=0 then some false else none|.geq=>if 0<=lo then some true else if hi<0 then some false else none|.eql=>if lo=0/\hi=0 then some true else if 0<lo\/hi<0 then some false else none|.neq=>if lo=0/\hi=0 then some false else if 0<lo\/hi<0 then some true else none|_=>none
def zWk(K:zU)(op:BinOp)(c:Int)(l:LL):Option Bool:=match(match zGy K.b l with
 |some q=>zHk op (c+q.1) (c+q.2)|none=>none)with
 |some r=>some r|none=>match rng K l with
  |some q=>zHk op (c+q.1) (c+q.2)|none=>none
def zKK(b:Int):Option Nat:=match b with
 |.ofNat m=>if 2 ^ Nat.log2 (m+1)=m+1 then some m else none|.negSucc _=>none
def zH8(K:zU)(k j:IntKind)(c:Int)(l:LL):Option (List CV):=if k=j/\zMP K k c l=true then some [mkS k c l]else none
def zXy(K:zU)(k j:IntKind)(c:Int)(l:LL):Option (List CV):=match zH8 K k j c l with
 |none=>none|some r=>match l with
  | []=>some r|_=>match rng K l with
   |some q=>if q.1=q.2 then some [mkInt k (c+q.1)]else some r|none=>some r
def zTj(K:zU)(op:BinOp)(x y:CV)(k:IntKind)(a:Int)(l:LL)(j:IntKind)(b:Int)(m:LL):Option (List CV):=match op with
 |.add=>zXy K k j (a+b) (vf l m)|.sub=>zH8 K k j (a - b) (vf l (wH (-1) m))|.mul=>match m with
  | []=>zH8 K k j (a*b) (wH b l)|_=>none
 |.shl=>match m with
  | []=>match b with
   |.ofNat s=>zH8 K k k (a*2 ^ min s k.bits) (wH (2 ^ min s k.bits) l)|.negSucc _=>none
  |_=>none
 |.rem=>match m with
  | []=>match rng K l with
   |some q=>if k=j/\0<=a+q.1/\a+q.2<b then some [x]else none|none=>none
  |_=>none
 |.quo=>match m with
  | []=>match rng K l with
   |some q=>if k=j/\0<=a+q.1/\a+q.2<b then some [mkInt k 0]else none|none=>none
  |_=>none
 |.shr=>match m with
  | []=>match b with
   |.ofNat s=>if s=0 then some [x]else match rng K l with
    |some q=>if 0<=a+q.1/\a+q.2<2 ^ min s k.bits then some [mkInt k 0]else none|none=>none
   |.negSucc _=>none
  |_=>none
 |.and=>match m with
  | []=>match zKK b,rng K l with
   |some _,some q=>if k=j/\0<=a+q.1/\a+q.2<=b/\b<=hiK k then some [x]else none|_,_=>none
  |_=>none
 |.or=>match m,l with
  | [],_=>match rng K l with
   |some q=>if k=j/\b=0/\0<=a+q.1/\a+q.2<=hiK k then some [x]else none|none=>none
  |_,[]=>match rng K m with
   |some q=>if k=j/\a=0/\0<=b+q.1/\b+q.2<=hiK k then some [y]else none|none=>none
  |_,_=>none
 |op=>if k=j then match zWk K op (a - b) (vf l (wH (-1) m))with
  |some r=>some [.bool r]|none=>none
  else none
def zGI(d:Int):LL->LL × LL
 | []=>([],[])
 |p::r=>match zGI d r with
  |(h,l)=>if p.2 % d=0 then((p.1,p.2 / d)::h,l)else(h,p::l)
def zQ5(K:zU)(a:Int)(l:LL)(d:Int):Option ((Int × LL) × (Int × LL)):=match rng K l with
 |some q=>match rng K (zGI d l).2 with
  |some s=>if 0<=a+q.1/\0<d/\0<=a % d+s.1/\a % d+s.2<d then some ((a / d,(zGI d l).1),(a % d,(zGI d l).2))else none|none=>none
 |none=>none
def zPs:LL->Bool
 | []=>true|p::r=>decide (p.2 % 2=0)&&zPs r
def zKI(K:zU)(op:BinOp)(k:IntKind)(a:Int)(l:LL)(j:IntKind)(b:Int)(m:LL):Option (List CV):=match m with
 | []=>match op with
  |.quo=>match zQ5 K a l b with
   |some (p,_)=>zH8 K k j p.1 p.2|none=>none
  |.rem=>match zQ5 K a l b with
   |some (_,p)=>if k=j then some [mkS k p.1 p.2]else none|none=>none
  |.shr=>match b with
   |.ofNat s=>match zQ5 K a l (2 ^ min s k.bits)with
    |some (p,_)=>some [mkS k p.1 p.2]|none=>some [.anyi k]
   |.negSucc _=>none
  |.and=>match zKK b with
   |some n=>match rng K l,zQ5 K a l (Int.ofNat n+1)with
    |some q,some (_,p)=>if k=j/\a+q.2<=hiK k/\b<=hiK k then some [mkS k p.1 p.2]else none|_,_=>none
   |none=>none
  |.xor=>match rng K l with
   |some q=>if k=j/\b=1/\zPs l=true/\0<=a+q.1/\a+q.2<=hiK k then some [mkS k (if a % 2=0 then a+1 else a - 1) l]else none|none=>none
  |_=>none
 |_=>none
def zKW(d:Int):LL->LL
 | []=>[]
 |p::r=>if p.2 % d=0 then zKW d r else(p.1,p.2 % d)::zKW d r
def zOt(K:zU)(k:IntKind)(a:Int)(l:LL):Option (List CV):=match rng K (zKW (2 ^ k.bits) l)with
 |some q=>if loK k<=a % 2 ^ k.bits - (a % 2 ^ k.bits+q.1) / 2 ^ k.bits*2 ^ k.bits+q.1/\a % 2 ^ k.bits - (a % 2 ^ k.bits+q.1) / 2 ^ k.bits*2 ^ k.bits+q.2<=hiK k
  then some [mkS k (a % 2 ^ k.bits - (a % 2 ^ k.bits+q.1) / 2 ^ k.bits*2 ^ k.bits) (zKW (2 ^ k.bits) l)]else none
 |none=>none
def ug(op:BinOp)(x y:CV):List SRule->Option (List CV)
 | []=>none|r::l=>match x,y with
  |.sym e,.nat c=>if r.op=op/\r.x.k=e.k/\r.x.c=e.c/\r.x.l=e.l/\r.c=c then some [r.v]else ug op x y l|.sym e,.int _ (.ofNat c)=>if r.op=op/\r.x.k=e.k/\r.x.c=e.c/\r.x.l=e.l/\r.c=c/\xD op=true then some [r.v]else ug op x y l|_,_=>none
def zCG(op:BinOp):Bool:=BinOp.rec (motive:=λ_=>Bool) false false false true true true true true true true true false false false false false false op
def zM5(op:BinOp)(x y:CV)(l:List SRule):Option (List CV):=Bool.rec (motive:=λ_=>Option (List CV)) none (ug op x y l) (zCG op)
theorem zN3{op:BinOp}{x y:CV}{l:List SRule}{r:List CV}(h:zM5 op x y l=some r):ug op x y l=some r:=by
 unfold zM5 at h;cases e:zCG op with
 |false=>rw[e]at h; cases h|true=>rw[e]at h; exact h
def zVc(K:zU)(d:Int)(l:LL)(c:Int):Bool:=match rng K l with
 |some q=>decide (q.1=q.2)&&decide (d+q.1=c)|none=>false
def zV5(K:zU)(d:Int)(l:LL)(r:SRule):Bool:=match r.op,r.v,r.c with
 |.eql,.bool false,0=>zVc K d (vf l (wH (-1) r.x.l)) r.x.c || zVc K d (vf l r.x.l) (-r.x.c)|_,_,_=>false
def neK(K:zU)(d:Int)(l:LL):List SRule->Bool:=List.rec (motive:=λ_=>Bool) false (λr _ ih=>zV5 K d l r || ih)
def zXI(d:Int)(l m:LL)(r:SRule):Bool:=match r.op,r.v,r.c with
 |.eql,.bool false,0=>(zm d r.x.c&&j9 l r.x.l) || (zm (-d) r.x.c&&j9 m r.x.l)|_,_,_=>false
def neX(d:Int)(l m:LL):List SRule->Bool:=List.rec (motive:=λ_=>Bool) false (λr _ ih=>zXI d l m r || ih)
def neL(K:zU)(k:IntKind)(a:Int)(l:LL)(j:IntKind)(b:Int)(m:LL):Bool:=kEq k j&&neX (a - b) (vf l (wH (-1) m)) (wH (-1) (vf l (wH (-1) m))) K.rules
def zS8(K:zU)(op:BinOp)(k:IntKind)(a:Int)(l:LL)(j:IntKind)(b:Int)(m:LL):Option (List CV):=match op with
 |.eql=>match neL K k a l j b m with
  |true=>some [.bool false]|false=>none
 |.neq=>match neL K k a l j b m with
  |true=>some [.bool true]|false=>none
 |_=>none
def zSl(K:zU)(op:BinOp)(k:IntKind)(a:Int)(l:LL)(j:IntKind)(b:Int)(m:LL):Option (List CV):=match op with
 |.eql=>if k=j/\neK K (a - b) (vf l (wH (-1) m)) K.rules=true then some [.bool false]else none|.neq=>if k=j/\neK K (a - b) (vf l (wH (-1) m)) K.rules=true then some [.bool true]else none|_=>none
theorem zT4{op:BinOp}{x y:CV}{l:List SRule}{r:List CV}(h:zM5 op x y l=some r):zCG op=true:=by
 unfold zM5 at h;cases e:zCG op with
 |false=>rw[e]at h; cases h|true=>rfl
def zEO(K:zU)(op:BinOp)(x y:CV):Option (List CV):=match zM5 op x y K.rules with
 |some l=>some l|none=>match zCh x,zCh y with
  |some (k,a,l),some (j,b,m)=>match zS8 K op k a l j b m with
   |some r=>some r|none=>match zTj K op x y k a l j b m with
    |some r=>some r|none=>match zKI K op k a l j b m with
     |some r=>some r|none=>zSl K op k a l j b m
  |_,_=>none
def zPc(K:zU):List CV->List CV->Option Bool
 | [],[]=>some true|a::l,b::m=>match zEO K .eql a b with
  |some [.bool true]=>zPc K l m|some [.bool false]=>some false|_=>none
 |_,_=>some false
def zGg(K:zU)(op:BinOp)(a b:List CV):Option (List CV):=match op,zPc K a b with
 |.eql,some r=>some [.bool r]|.neq,some r=>some [.bool (!r)]|.add,_=>if a.length+b.length<=1000 then some [.sst (a++b)]else none|_,_=>none
def zVN(s:List Nat):List CV:=s.map λb=>.int .u8 (.ofNat b)
def zVl(K:zU)(x:CV):Option (IntKind × Int):=match zCh x with
 |some (k,a,l)=>match rng K l with
  |some q=>if q.1=q.2 then some (k,a+q.1)else none|none=>none
 |none=>none
def zOT(K:zU)(op:BinOp)(x y:CV):Option (List CV):=match zVl K x,zVl K y with
 |some (k,a),some (j,b)=>if k=j\/xD op=true then(match yR op k a b with
  |some c=>some [c]|none=>none)else none
 |_,_=>none
def zWn(K:zU)(k:IntKind)(a b:Int)(m:LL):Option (List CV):=match rng K m with
 |some q=>if 0<=a/\a<=hiK k/\0<=b+q.1/\b+q.2<=hiK k/\a % 2 ^ (Nat.log2 (b+q.2).toNat+1)=0 then zH8 K k k (a+b) m else none|none=>none
def zKl(K:zU)(op:BinOp)(x y:CV):Option (List CV):=match zCh x,zCh y with
 |some (k,a,l),some (j,b,m)=>if k=j then(match op with
  |.or=>match l with
   | []=>zWn K k a b m|_=>match m with
    | []=>zWn K k b a l|_=>none
  |.and=>match m with
   | []=>match rng K l with
    |some q=>if 0<=b/\b=2 ^ Nat.log2 b.toNat/\b<=hiK k/\0<=a+q.1/\a+q.2<=hiK k/\(a+q.1) / b=(a+q.2) / b then some [mkInt k (if(a+q.1) / b % 2=0 then 0 else b)]else none|none=>none
   |_=>none
  |_=>none)else none
 |_,_=>none
def zYC(K:zU)(i:Nat)(t:List (List Nat)):Option (List Nat):=match rng K [(i,1)]with
 |some q=>if q.1=q.2/\0<=q.1 then nth t q.1.toNat else none|none=>none
def zLt(K:zU)(x:CV):Option (List Nat):=match x with
 |.few i t=>zYC K i t|.str s=>some s|_=>none
def zKP(K:zU)(op:BinOp)(x y:CV):Option (List CV):=match zLt K x,zLt K y with
 |some a,some b=>match zUQ op a b with
  |some c=>some [c]|none=>none
 |_,_=>none
def zOE(K:zU)(op:BinOp)(x y:CV):Option (List CV):=match x,y with
 |.sst a,.sst b=>zGg K op a b|.sst a,.str b=>zGg K op a (zVN b)|.str a,.sst b=>zGg K op (zVN a) b|.few i t,y=>zKP K op (.few i t) y|x,.few i t=>zKP K op x (.few i t)|.anyi k,.sym e=>match op with
  |.shr=>match rng K e.l with
   |some q=>if 0<=e.c+q.1 then some [.anyi k]else none|none=>none
  |_=>none
 |x,y=>match zEO K op x y with
  |some l=>some l|none=>match zKl K op x y with
   |some l=>some l|none=>zOT K op x y
def zSW(K:zU)(k:IntKind)(x:CV):Option (List CV):=match zCh x with
 |some (_,a,l)=>if zMP K k a l=true then some [mkS k a l]else zOt K k a l|none=>none
def evE(J:Nat->Int)(e:SE):Int:=e.c+evL J e.l
def zRu(K:zU)(a:CV)(z:Int)(e:SE):List CV->Bool
 | []=>false|.sst [b,.sym q]::ks=>((match zEO K .eql a b with
  |some [.bool true]=>true|_=>false)&&kEq q.k .u8&&zm q.c (z+e.c)&&j9 q.l e.l) || zRu K a z e ks
 |_::ks=>zRu K a z e ks
def zJ1(K:zU)(a:CV)(z:Int)(ks:List CV):List CV->Bool
 | []=>true|.sym e::l=>zRu K a z e ks&&zJ1 K a z ks l|_=>false
def zYg(K:zU)(a ch:CV)(ks:List CV)(r:SRule):Bool:=match r.op,r.v,zCh ch with
 |.mul,.agg l,some (.u8,c,m)=>(match rng K (vf r.x.l (wH (-1) m))with
  |some q=>decide (q.1=q.2)&&zJ1 K a (c - q.1 - r.x.c) ks l|none=>false)
 |_,_,_=>false
def zNA(K:zU)(a ch:CV)(ks:List CV):List SRule->Bool
 | []=>false|r::rs=>zYg K a ch ks r || zNA K a ch ks rs
def zO6(K:zU)(k:CV)(ks:List CV):Bool:=match k with
 |.sst [a,ch]=>zNA K a ch ks K.rules|.str [a,ch]=>zNA K (.int .u8 (.ofNat a)) (.int .u8 (.ofNat ch)) ks K.rules|_=>false
def zKo:CV->Option (Int × LL)
 |.sym e=>match kEq e.k .i64 with
  |true=>some (e.c,e.l)|false=>none
 |.nat n=>some (.ofNat n,[])|_=>none
def zGa(a b:CV):Bool:=match zKo a,zKo b with
 |some p,some q=>zm p.1 q.1&&j9 p.2 q.2|_,_=>false
def mxR(a b:CV):List SRule->Option CV
 | []=>none|r::rs=>match r.op,r.v with
  |.leq,.agg [x,y]=>match kEq r.x.k .i64&&((zGa x a&&zGa y b) || (zGa x b&&zGa y a))with
   |true=>some (.sym r.x)|false=>mxR a b rs
  |_,_=>mxR a b rs
def zYs(K:zU)(a b:CV):Option CV:=mxR a b K.rules
def zQB(a:CV):List CV->Option (List CV)
 | []=>none|x::r=>match zGa x a with
  |true=>some r|false=>match zQB a r with
   |some l=>some (x::l)|none=>none
def zPn:List CV->List CV->Bool
 | [],[]=>true|a::l,m=>match zQB a m with
  |some m=>zPn l m|none=>false
 |_,_=>false
def zXS(c:CV):Bool:=match c with
 |.sym e=>kEq e.k .i64|_=>false
def zCS:List CV->Bool
 | []=>true|c::r=>zXS c&&zCS r
def zT1(l:List CV):List SRule->Option (List CV)
 | []=>none|r::rs=>match r.op,r.v with
  |.lss,.agg w=>match zCS w&&zPn l (w.drop r.c)with
   |true=>some (w.take r.c)|false=>zT1 l rs
  |_,_=>zT1 l rs
def zX1(K:zU)(l:List CV):Option (List CV):=zT1 l K.rules
@[reducible] def linSym(J:Nat->Int)(K:zU):Sym where
 arg:=K.arg
 kb:=K.b
 val:=λe=>.int e.k (evE J e)
 one:=λ_=>.inl ⟨_,_,rfl⟩
 bin:=zOE K
 cv:=zSW K
 inn:=zO6 K
 mx:=zYs K
 srt:=zX1 K
def jr(n:Int):List Int->Nat
 | []=>0|x::l=>(if n<x then 1 else 0)+jr n l
def frN(l:List Int):Nat->Int->Int
 | 0,n=>n+1|k+1,n=>if(n+1)∈l then frN l k (n+1)else n+1
def frA(n:Int)(l:List Int):Int:=frN l l.length n
theorem zK6{n:Int}:∀{l:List Int},jr n l<=l.length
 | []=>Nat.le_refl _|x::l=>by
  have:=zK6 (n:=n) (l:=l)
  simp only[jr,List.length_cons];split <;> omega
theorem zFZ{n:Int}:∀{l:List Int},jr (n+1) l<=jr n l
 | []=>Nat.le_refl _|x::l=>by
  have:=zFZ (n:=n) (l:=l)
  simp only[jr];split <;> split <;> omega
theorem zKe{n:Int}:∀{l:List Int},n+1∈l->jr (n+1) l+1<=jr n l
 | [],h=>by cases h|x::l,h=>by
  simp only[jr];rcases List.mem_cons.1 h with rfl |h
  . have:=zFZ (n:=n) (l:=l)
    rw[if_neg (by omega),if_pos (by omega)]; omega
  . have:=zKe h
    split <;> split <;> omega
theorem zMy{l:List Int}:∀{k:Nat} {n:Int},jr n l<=k->frN l k n ∉ l/\n<frN l k n/\frN l k n+jr (frN l k n) l<=n+1+jr n l
 | 0,n,h=>by
  refine⟨λhm=>?_,by simp only[frN]; omega,?_⟩
  . have:=zKe (show n+1∈l from hm); omega
  . have:=zFZ (n:=n) (l:=l)
    simp only[frN]; omega
 |k+1,n,h=>by
  simp only[frN];split
  . rename_i hm;have h1:=zKe hm;obtain⟨a,b,c⟩:=zMy (l:=l) (k:=k) (n:=n+1) (by omega);exact⟨a,by omega,by omega⟩
  . rename_i hm
    have:=zFZ (n:=n) (l:=l)
    exact⟨hm,by omega,by omega⟩
theorem zLF(n:Int)(l:List Int):frA n l ∉ l/\n<frA n l/\frA n l+jr (frA n l) l<=n+1+jr n l:=zMy zK6
theorem zQt{l:List Int}:∀{k:Nat} {n x:Int},n<x->x<frN l k n->x∈l
 | 0,n,x,h1,h2=>by simp only[frN]at h2; omega|k+1,n,x,h1,h2=>by
  simp only[frN]at h2;split at h2
  . rename_i hm;by_cases e:x=n+1
    . rw[e]; exact hm
    . exact zQt (n:=n+1) (by omega) h2
  . omega
def x8(J:Nat->Int):CV->Int
 |.sym e=>evE J e|.nat n=>.ofNat n|.int _ n=>n|_=>0
def yc(J:Nat->Int)(l:List CV):List Int:=l.map (x8 J)
def zCa(J:Nat->Int)(r:SRule):Prop:=match r.v with
 |.agg (n::l)=>evE J r.x=frA (x8 J n) (yc J l)|_=>False
def zB7(J:Nat->Int)(r:SRule):Prop:=match r.v with
 |.agg l=>evE J r.x+jr (evE J r.x) (yc J l)<=r.c|_=>False
def zB5(J:Nat->Int)(r:SRule):Prop:=match r.v with
 |.agg l=>evE J r.x∈yc J l|_=>False
def zAk(J:Nat->Int)(r:SRule):Prop:=∃u,(r.x.k=.i64\/xD r.op=true)/\yR r.op r.x.k (evE J r.x) (.ofNat r.c)=some u/\(r.v=u\/∃e,r.v=.sym e/\u=mkInt e.k (evE J e))
def zAb(J:Nat->Int)(r:SRule):Prop:=match r.v with
 |.agg w=>(yc J w).take r.c=((yc J w).drop r.c).mergeSort λa b=>decide (a<=b)
 |_=>False
def ua(J:Nat->Int)(r:SRule):Prop:=match r.v with
 |.agg [a,b]=>evE J r.x=max (x8 J a) (x8 J b)|_=>False
def zi(J:Nat->Int)(r:SRule):Prop:=match r.op with
 |.add=>zCa J r|.sub=>zB7 J r|.mul=>zB5 J r|.lss=>zAb J r|.leq=>ua J r|_=>zAk J r
theorem vT{J:Nat->Int}{r:SRule}(h:zCG r.op=true):zi J r ↔ zAk J r:=by unfold zi;cases e:r.op <;> first |exact Iff.rfl |(rw[e]at h; cases h)
theorem zAO{J:Nat->Int}{r:SRule}(h:r.op=.eql):zi J r ↔ zAk J r:=by unfold zi;rw[h]
structure KnownOk(J:Nat->Int)(K:zU):Prop where
 b:∀i q,nth K.b i=some q->q.1<=J i/\J i<=q.2
 f:∀q∈K.f,q.2.1<=evL J q.1/\evL J q.1<=q.2.2
 rules:∀r∈K.rules,zi J r
section
variable{K:zU}
theorem kf(hb:∀i q,nth K.b i=some q->q.1<=J i/\J i<=q.2):∀{l:LL} {q:Int × Int},zGy K.b l=some q->q.1<=evL J l/\evL J l<=q.2
 | [],q,h=>by injection h with h; subst h;exact⟨Int.le_refl _,Int.le_refl _⟩
 |p::r,q,h=>by
  unfold zGy at h;split at h
  . rename_i u s hu hs;obtain⟨h1,h2⟩:=hb _ _ (zFV ▸ hu);obtain⟨h3,h4⟩:=kf hb hs;show q.1<=p.2*J p.1+evL J r/\p.2*J p.1+evL J r<=q.2;split at h
    . rename_i h0;injection h with h; subst h
      have:=Int.mul_le_mul_of_nonneg_left h1 h0
      have:=Int.mul_le_mul_of_nonneg_left h2 h0
      constructor <;> simp only <;> omega
    . rename_i h0;injection h with h; subst h
      have:=Int.mul_le_mul_of_nonpos_left (a:=p.2) (by omega) h1
      have:=Int.mul_le_mul_of_nonpos_left (a:=p.2) (by omega) h2
      constructor <;> simp only <;> omega
  . cases h
theorem uo:∀{a b:LL},j9 a b=true->a=b
 | [],[],_=>rfl|(i,a)::l,(j,b)::m,h=>by unfold j9 at h;rw[Bool.and_eq_true,Bool.and_eq_true]at h;obtain⟨⟨h1,h2⟩,h3⟩:=h;rw[@zX noSym]at h2;rw[Nat.eq_of_beq_eq_true h1,of_decide_eq_true h2,uo h3]
 | [],_::_,h=>by cases h|_::_,[],h=>by cases h
theorem zGB:∀{F:List (LL × Int × Int)},(∀q∈F,q.2.1<=evL J q.1/\evL J q.1<=q.2.2)->∀{l:LL} {q:Int × Int},zQc l (wH (-1) l) F=some q->q.1<=evL J l/\evL J l<=q.2
 | [],_,_,_,h=>by cases h|p::r,hf,l,q,h=>by
  unfold zQc at h;have hp:=hf p (by simp);split at h
  . rename_i e;injection h with h; subst h;rw[<- uo e]; exact hp
  . split at h
    . rename_i e;injection h with h; subst h;rw[uo e,qQ]at hp;constructor <;> simp only <;> omega
    . exact zGB (λq hq=>hf q (by simp[hq])) h
theorem zHX{F:List (LL × Int × Int)}(hf:∀q∈F,q.2.1<=evL J q.1/\evL J q.1<=q.2.2){l:LL}{q:Int × Int}(h:zSC l F=some q):q.1<=evL J l/\evL J l<=q.2:=zGB hf h
theorem zBW{b:List (Int × Int)}(hb:∀i q,nth b i=some q->q.1<=J i/\J i<=q.2){l:LL}:∀{F:List (LL × Int × Int)},(∀q∈F,q.2.1<=evL J q.1/\evL J q.1<=q.2.2)->∀{q:Int × Int},zNi b l F=some q->q.1<=evL J l/\evL J l<=q.2
 | [],_,q,h=>by
  have key:∀{K:zU},K.b=b->∀{l:LL} {q:Int × Int},zGy b l=some q->q.1<=evL J l/\evL J l<=q.2:=by intro K e l q h;subst e;exact kf hb h
  exact key (K:=⟨b,[],[],λ_=>none⟩) rfl h
 |p::r,hf,q,h=>by
  have ih:=λ{q}=>zBW hb (l:=l) (F:=r) (λq hq=>hf q (by simp[hq])) (q:=q);have hp:=hf p (by simp);unfold zNi at h;split at h
  . exact ih h
  split at h
  . rename_i s hs;have hs:s.1<=evL J (vf l (wH (-1) p.1))/\evL J (vf l (wH (-1) p.1))<=s.2:=by
     have key:∀{K:zU},K.b=b->∀{l:LL} {q:Int × Int},zGy b l=some q->q.1<=evL J l/\evL J l<=q.2:=by intro K e l q h;subst e;exact kf hb h
     exact key (K:=⟨b,[],[],λ_=>none⟩) rfl hs
    rw[jM,qQ]at hs;unfold zKv at h;split at h
    . rename_i u hu;injection h with h; subst h
      have:=ih hu
      constructor <;> simp only <;> omega
    . injection h with h; subst h;constructor <;> simp only <;> omega
  . exact ih h
theorem yt(hK:KnownOk J K){l:LL}{q:Int × Int}(h:rng K l=some q):q.1<=evL J l/\evL J l<=q.2:=by
 unfold rng at h;split at h
 . rename_i p hp;have h1:=zHX hK.f hp;unfold zKv at h;split at h
   . rename_i s hs;have h2:=kf hK.b hs;injection h with h; subst h;simp only;omega
   . injection h with h; subst h;exact h1
 . exact zBW hK.b hK.f h
theorem kD(k:IntKind){n:Int}(h1:loK k<=n)(h2:n<=hiK k):yz k n=n:=by rw[@xM noSym];cases k <;> simp only[loK,hiK]at h1 h2 <;> simp[IntKind.wrap,IntKind.signed,IntKind.bits] <;> omega
theorem zCn(k:IntKind)(n:Nat):loK k<=Int.ofNat n:=by rw[Int.ofNat_eq_natCast];cases k <;> simp only[loK] <;> omega
theorem wa(k:IntKind){m:Nat}(h2:(m:Int)<=hiK k):toU k (.ofNat m)=m:=by show m % 2 ^ k.bits=m;refine Nat.mod_eq_of_lt ?_;cases k <;> simp only[hiK]at h2 <;> simp[IntKind.bits] <;> omega
theorem qk(x:CV){k:IntKind}{a:Int}{l:LL}(h:zCh x=some (k,a,l)){Y:Psi}{u:Value}(hu:@zG (linSym J K) Y x u):u=.int k (a+evL J l):=by
 unfold zCh at h;split at h
 . rename_i n;injection h with h; injection h with h1 h; injection h with h2 h3;subst h1 h2 h3;rw[(@zT (linSym J K) Y n u).1 hu];simp[evL]
 . rename_i k' n;injection h with h; injection h with h1 h; injection h with h2 h3;subst h1 h2 h3;rw[(@zf (linSym J K) Y k' n u).1 hu];simp[evL]
 . rename_i e;injection h with h; injection h with h1 h; injection h with h2 h3;subst h1 h2 h3;exact(@zp (linSym J K) Y e u).1 hu
 . cases h
theorem zDK{Y:Psi}(k:IntKind)(c:Int)(l:LL):@zG (linSym J K) Y (mkS k c l) (.int k (c+evL J l)):=by
 unfold mkS;split
 . have:=@xF (linSym J K) Y k c
   simpa [evL]using this
 . exact(@zp (linSym J K) Y _ _).2 rfl
theorem zKA(hK:KnownOk J K){k:IntKind}{c:Int}{l:LL}(h:zMP K k c l=true):yz k (c+evL J l)=c+evL J l:=by
 unfold zMP at h;rw[Bool.or_eq_true]at h;rcases h with h |h
 . split at h
   . rename_i q hq;obtain⟨h1,h2⟩:=kf hK.b hq;rw[Bool.and_eq_true,decide_eq_true_eq,decide_eq_true_eq]at h;exact kD k (by omega) (by omega)
   . cases h
 . split at h
   . rename_i q hq;obtain⟨h1,h2⟩:=yt hK hq;rw[Bool.and_eq_true,decide_eq_true_eq,decide_eq_true_eq]at h;exact kD k (by omega) (by omega)
   . cases h
theorem zQ8(hK:KnownOk J K){op:BinOp}{c:Int}{l:LL}{r:Bool}(h:zWk K op c l=some r):∃lo hi,lo<=c+evL J l/\c+evL J l<=hi/\zHk op lo hi=some r:=by
 unfold zWk at h;split at h
 . rename_i r' hr;injection h with h; subst h;split at hr
   . rename_i q hq;obtain⟨h1,h2⟩:=kf hK.b hq;exact⟨_,_,by omega,by omega,hr⟩
   . cases hr
 . split at h
   . rename_i q hq;obtain⟨h1,h2⟩:=yt hK hq;exact⟨_,_,by omega,by omega,h⟩
   . cases h
def zW2(J:Nat->Int)(K:zU)(r:CV)(u:CV):Prop:=∀(Y:Psi) (z:Value),@zG (linSym J K) Y u z->@zG (linSym J K) Y r z
theorem uT(hK:KnownOk J K){k j:IntKind}{c:Int}{l:LL}{r:List CV}{n:Int}(h:zH8 K k j c l=some r)(hn:n=c+evL J l):k=j/\∃x∈r,zW2 J K x (mkInt k (yz k n)):=by
 unfold zH8 at h;split at h
 . rename_i hc;injection h with h; subst h;refine⟨hc.1,_,List.mem_singleton.2 rfl,λY z hz=>?_⟩;rw[hn,zKA hK hc.2]at hz;rw[@jL (linSym J K) Y k _ z hz];exact zDK k c l
 . cases h
theorem vX{Y:Psi}{x:CV}{k:IntKind}{n:Int}{u:Value}(hu:@zG (linSym J K) Y x u)(e:u=.int k n){z:Value}(hz:@zG (linSym J K) Y (mkInt k n) z):@zG (linSym J K) Y x z:=by rw[@jL (linSym J K) Y k n z hz,<- e]; exact hu
theorem zFv{b:Int}{m:Nat}(h:zKK b=some m):b=.ofNat m/\∃t,m+1=2 ^ t:=by
 unfold zKK at h;split at h
 . rename_i n;split at h
   . rename_i e;injection h with h; subst h;exact⟨rfl,_,e.symm⟩
   . cases h
 . cases h
theorem zMb{op:BinOp}{lo hi d:Int}{r:Bool}(h:zHk op lo hi=some r)(h1:lo<=d)(h2:d<=hi)(k:IntKind){u v:Int}(hd:d=u - v):yR op k u v=some (.bool r):=by
 have eq:=@zX noSym u v;have lt:=@ql noSym u v;have gt:=@ql noSym v u;cases op <;> simp only[zHk]at h <;> first |cases h |skip
 case lss=>
  show some (CV.bool (vL u v))=_;rw[lt];split at h
  . injection h with h; subst h; rw[decide_eq_true (by omega)]
  . split at h
    . injection h with h; subst h; rw[decide_eq_false (by omega)]
    . cases h
 case leq=>
  show some (CV.bool (zBk (vL v u)))=_;rw[gt];split at h
  . injection h with h; subst h; rw[decide_eq_false (by omega)]; rfl
  . split at h
    . injection h with h; subst h; rw[decide_eq_true (by omega)]; rfl
    . cases h
 case gtr=>
  show some (CV.bool (vL v u))=_;rw[gt];split at h
  . injection h with h; subst h; rw[decide_eq_true (by omega)]
  . split at h
    . injection h with h; subst h; rw[decide_eq_false (by omega)]
    . cases h
 case geq=>
  show some (CV.bool (zBk (vL u v)))=_;rw[lt];split at h
  . injection h with h; subst h; rw[decide_eq_false (by omega)]; rfl
  . split at h
    . injection h with h; subst h; rw[decide_eq_true (by omega)]; rfl
    . cases h
 case eql=>
  show some (CV.bool (zm u v))=_;rw[eq];split at h
  . injection h with h; subst h; rw[decide_eq_true (by omega)]
  . split at h
    . injection h with h; subst h; rw[decide_eq_false (by omega)]
    . cases h
 case neq=>
  show some (CV.bool (zBk (zm u v)))=_;rw[eq];split at h
  . injection h with h; subst h; rw[decide_eq_true (by omega)]; rfl
  . split at h
    . injection h with h; subst h; rw[decide_eq_false (by omega)]; rfl
    . cases h
theorem zNM(hK:KnownOk J K){k j:IntKind}{c:Int}{l:LL}{r:List CV}{n:Int}(h:zXy K k j c l=some r)(hn:n=c+evL J l):k=j/\∃x∈r,zW2 J K x (mkInt k (yz k n)):=by
 unfold zXy at h;split at h
 . cases h
 . rename_i r0 h0;have g:=uT hK h0 hn;split at h
   . injection h with h; subst h; exact g
   . split at h
     . rename_i q hq;split at h
       . rename_i e;injection h with h; subst h;refine⟨g.1,_,List.mem_singleton.2 rfl,?_⟩;have hf:zMP K k c l=true:=by
          unfold zH8 at h0;split at h0
          . rename_i hh; exact hh.2
          . cases h0
         have h1:=yt hK hq;have h2:=zKA hK hf;rw[hn,h2,show c+evL J l=c+q.1 by omega];exact λ_ _ h=>h
       . injection h with h; subst h; exact g
     . injection h with h; subst h; exact g
theorem zNT(hK:KnownOk J K){op:BinOp}{x y:CV}{k j:IntKind}{a b:Int}{l m:LL}{r:List CV}(h:zTj K op x y k a l j b m=some r){Y:Psi}{u v:Value}
 (hx:@zG (linSym J K) Y x u) (hy:@zG (linSym J K) Y y v) (eu:u=.int k (a+evL J l)) (ev:v=.int j (b+evL J m)) :
 (k=j\/xD op=true)/\∃w,yR op k (a+evL J l) (b+evL J m)=some w/\∀z,@zG (linSym J K) Y w z->∃c∈r,@zG (linSym J K) Y c z:=by
 have cmp:∀op,(∀q,op=q->xD q=false)->(if k=j then match zWk K op (a - b) (vf l (wH (-1) m))with
  |some r=>some [.bool r]|none=>none
  else none)=some r->(k=j\/xD op=true)/\∃w,yR op k (a+evL J l) (b+evL J m)=some w/\∀z,@zG (linSym J K) Y w z->∃c∈r,@zG (linSym J K) Y c z:=by
  intro op _ h;split at h
  . rename_i e;split at h
    . rename_i rb hrb;injection h with h; subst h;obtain⟨lo,hi,h1,h2,hc⟩:=zQ8 hK hrb;rw[jM,qQ]at h1 h2
      have:=zMb (k:=k) (u:=a+evL J l) (v:=b+evL J m) (d:=a+evL J l - (b+evL J m)) hc (by omega) (by omega) rfl
      exact⟨.inl e,_,this,λz hz=>⟨_,List.mem_singleton.2 rfl,hz⟩⟩
    . cases h
  . cases h
 have put:∀{c:Int} {n:LL} {s:Int},zH8 K k j c n=some r->s=c+evL J n->yR op k (a+evL J l) (b+evL J m)=some (mkInt k (yz k s)) ->
  (k=j\/xD op=true)/\∃w,yR op k (a+evL J l) (b+evL J m)=some w/\∀z,@zG (linSym J K) Y w z->∃c∈r,@zG (linSym J K) Y c z:=by
  intro c n s h hs hi;obtain⟨e,q,hq,hg⟩:=uT hK h hs;exact⟨.inl e,_,hi,λz hz=>⟨q,hq,hg Y z hz⟩⟩
 unfold zTj at h;split at h
 . obtain⟨e,q,hq,hg⟩:=zNM hK h (n:=(a+evL J l)+(b+evL J m)) (by rw[jM]; omega);exact⟨.inl e,_,rfl,λz hz=>⟨q,hq,hg Y z hz⟩⟩
 . exact put (s:=(a+evL J l) - (b+evL J m)) h (by rw[jM,qQ]; omega) rfl
 . split at h
   . exact put (s:=(a+evL J l)*(b+evL J [])) h (by rw[qQ]; simp only[evL,Int.add_zero]; rw[Int.add_mul,Int.mul_comm b]) rfl
   . cases h
 . -- shl
   split at h
   . split at h
     . rename_i s;have hb:Int.ofNat s+evL J []=Int.ofNat s:=by simp[evL]
       rw[hb];obtain⟨_,q,hq,hg⟩:=uT hK h (n:=(a+evL J l)*2 ^ min s k.bits) (by rw[qQ,Int.add_mul,Int.mul_comm (evL J l)]);refine⟨.inr rfl,mkInt k (yz k ((a+evL J l)*2 ^ min s k.bits)),?_,λz hz=>⟨q,hq,hg Y z hz⟩⟩;show some (mkInt k (yz k (Int.mul (a+evL J l) (.ofNat (Nat.pow 2 (min s k.bits))))))=_
       have:(Int.ofNat (Nat.pow 2 (min s k.bits)))=(2:Int) ^ min s k.bits:=by rw[Int.ofNat_eq_natCast]; exact Int.natCast_pow 2 _
       rw[this]; rfl
     . cases h
   . cases h
 . -- rem
   split at h
   . split at h
     . rename_i q hq;split at h
       . rename_i hc;injection h with h; subst h;obtain⟨h1,h2⟩:=yt hK hq;have hb:b+evL J []=b:=by simp[evL]
         rw[hb];have hu:(a+evL J l).tmod b=a+evL J l:=Int.tmod_eq_of_lt (by omega) (by omega);refine⟨.inl hc.1,mkInt k (a+evL J l),?_,λz hz=>⟨x,by simp,vX hx eu hz⟩⟩;show Bool.rec (motive:=λ_=>Option CV) (some (mkInt k ((a+evL J l).tmod b))) none (zm b (.ofNat 0))=_;rw[@zX noSym,decide_eq_false (by intro e; rw[e]at hc; have:=hc.2.2; have e0:(Int.ofNat 0)=0:=rfl; omega),hu]
       . cases h
     . cases h
   . cases h
 . -- quo
   split at h
   . split at h
     . rename_i q hq;split at h
       . rename_i hc;injection h with h; subst h;obtain⟨h1,h2⟩:=yt hK hq;have hb:b+evL J []=b:=by simp[evL]
         rw[hb];have hu:(a+evL J l).tdiv b=0:=Int.tdiv_eq_zero_of_lt (by omega) (by omega);refine⟨.inl hc.1,mkInt k (yz k 0),?_,λz hz=>⟨_,List.mem_singleton.2 rfl,?_⟩⟩
         . show Bool.rec (motive:=λ_=>Option CV) (some (mkInt k (yz k ((a+evL J l).tdiv b)))) none (zm b (.ofNat 0))=_;rw[@zX noSym,decide_eq_false (by intro e; rw[e]at hc; have:=hc.2.2; have e0:(Int.ofNat 0)=0:=rfl; omega),hu]
         . rw[kD k (n:=0) (zCn k 0) (by cases k <;> simp[hiK])]at hz;exact hz
       . cases h
     . cases h
   . cases h
 . -- shr
   split at h
   . split at h
     . rename_i s;have hb:Int.ofNat s+evL J []=Int.ofNat s:=by simp[evL]
       rw[hb];split at h
       . rename_i h0;injection h with h; subst h;subst h0;refine⟨.inr rfl,mkInt k (a+evL J l),?_,λz hz=>⟨x,by simp,vX hx eu hz⟩⟩;generalize a+evL J l=n;cases n with
         |ofNat n=>show some (j6 k (Nat.div n (Nat.pow 2 (min 0 k.bits))))=some (mkInt k (.ofNat n));rw[Nat.zero_min,show Nat.div n (Nat.pow 2 0)=n from Nat.div_one n];cases n <;> rfl|negSucc n=>show some (mkInt k ((Int.negSucc n).fdiv (.ofNat (Nat.pow 2 (min 0 k.bits)))))=_;rw[Nat.zero_min,show(Int.negSucc n).fdiv (.ofNat (Nat.pow 2 0))=Int.negSucc n from Int.fdiv_one _]
       split at h
       . rename_i q hq;split at h
         . rename_i hc;injection h with h; subst h;obtain⟨h1,h2⟩:=yt hK hq;obtain⟨n,hn⟩:∃n:Nat,a+evL J l=Int.ofNat n:=⟨(a+evL J l).toNat,by rw[Int.ofNat_eq_natCast]; omega⟩
           have hlt:n<2 ^ min s k.bits:=by
            have:(n:Int)<2 ^ min s k.bits:=by have e:(Int.ofNat n)=(n:Int):=rfl;rw[<- e,<- hn]; omega
            have h3:((2 ^ min s k.bits:Nat):Int)=(2:Int) ^ min s k.bits:=Int.natCast_pow 2 _;rw[<- h3]at this;exact Int.ofNat_lt.1 this
           refine⟨.inr rfl,j6 k 0,?_,λz hz=>⟨_,List.mem_singleton.2 rfl,hz⟩⟩;rw[hn];show some (j6 k (Nat.div n (Nat.pow 2 (min s k.bits))))=_;rw[show Nat.div n (Nat.pow 2 (min s k.bits))=0 from Nat.div_eq_of_lt hlt]
         . cases h
       . cases h
     . cases h
   . cases h
 . -- and
   split at h
   . split at h
     . rename_i mm q hmk hq;split at h
       . rename_i hc;injection h with h; subst h;obtain⟨h1,h2⟩:=yt hK hq;obtain⟨rfl,t,ht⟩:=zFv hmk;have hb:Int.ofNat mm+evL J []=Int.ofNat mm:=by simp[evL]
         rw[hb];obtain⟨n,hn⟩:∃n:Nat,a+evL J l=Int.ofNat n:=⟨(a+evL J l).toNat,by rw[Int.ofNat_eq_natCast]; omega⟩
         have hle:n<=mm:=by
          have:Int.ofNat n<=Int.ofNat mm:=by rw[<- hn]; omega
          exact Int.ofNat_le.1 this
         refine⟨.inl hc.1,mkInt k (.ofNat n),?_,λz hz=>⟨x,by simp,vX hx (by rw[eu,hn]) hz⟩⟩;rw[hn];show some (mkInt k (yz k (.ofNat (Nat.land (toU k (.ofNat n)) (toU k (.ofNat mm))))))=_;have hmm:((mm:Nat):Int)<=hiK k:=hc.2.2.2;have hnn:((n:Nat):Int)<=hiK k:=by omega
         rw[wa k hnn,wa k hmm]
         have:Nat.land n mm=n:=by
          show n &&& mm=n;have e:mm=2 ^ t - 1:=by omega
          rw[e,Nat.and_two_pow_sub_one_eq_mod];exact Nat.mod_eq_of_lt (by omega)
         rw[this,kD k (n:=.ofNat n) (zCn k n) hnn]
       . cases h
     . cases h
   . cases h
 . -- or
   have orz:∀{n:Nat},((n:Nat):Int)<=hiK k->yz k (.ofNat n)=.ofNat n:=λ{n} hn=>kD k (n:=.ofNat n) (zCn k n) hn;split at h
   . split at h
     . rename_i q hq;split at h
       . rename_i hc;injection h with h; subst h;obtain⟨h1,h2⟩:=yt hK hq;obtain⟨n,hn⟩:∃n:Nat,a+evL J l=Int.ofNat n:=⟨(a+evL J l).toNat,by rw[Int.ofNat_eq_natCast]; omega⟩
         have hnn:((n:Nat):Int)<=hiK k:=by have e:(Int.ofNat n)=(n:Int):=rfl; rw[<- e,<- hn]; omega
         have hb:b+evL J []=Int.ofNat 0:=by simp[evL,hc.2.1]
         rw[hb];refine⟨.inl hc.1,mkInt k (.ofNat n),?_,λz hz=>⟨x,by simp,vX hx (by rw[eu,hn]) hz⟩⟩;rw[hn];show some (mkInt k (yz k (.ofNat (Nat.lor (toU k (.ofNat n)) (toU k (.ofNat 0))))))=_;rw[wa k hnn,show toU k (.ofNat 0)=0 from Nat.zero_mod _,show Nat.lor n 0=n from Nat.or_zero n,orz hnn]
       . cases h
     . cases h
   . split at h
     . rename_i q hq;split at h
       . rename_i hc;injection h with h; subst h;obtain⟨h1,h2⟩:=yt hK hq;obtain⟨n,hn⟩:∃n:Nat,b+evL J m=Int.ofNat n:=⟨(b+evL J m).toNat,by rw[Int.ofNat_eq_natCast]; omega⟩
         have hnn:((n:Nat):Int)<=hiK k:=by have e:(Int.ofNat n)=(n:Int):=rfl; rw[<- e,<- hn]; omega
         have ha:a+evL J []=Int.ofNat 0:=by simp[evL,hc.2.1]
         rw[ha];refine⟨.inl hc.1,mkInt k (.ofNat n),?_,λz hz=>⟨y,by simp,vX hy (by rw[ev,hn,hc.1]) hz⟩⟩;rw[hn];show some (mkInt k (yz k (.ofNat (Nat.lor (toU k (.ofNat 0)) (toU k (.ofNat n))))))=_;rw[wa k hnn,show toU k (.ofNat 0)=0 from Nat.zero_mod _,show Nat.lor 0 n=n from Nat.zero_or n,orz hnn]
       . cases h
     . cases h
   . cases h
 . exact cmp _ (λq e=>by subst e; cases op <;> first |rfl |(exfalso; simp_all)) h
theorem zI5{d:Int}:∀(l:LL),evL J l=d*evL J (zGI d l).1+evL J (zGI d l).2
 | []=>by simp[zGI,evL]|p::r=>by
  have ih:=zI5 (d:=d) r;unfold zGI;revert ih;generalize zGI d r=q;intro ih;obtain⟨h,l⟩:=q;simp only at ih ⊢;split
  . rename_i h0;show p.2*J p.1+evL J r=d*(p.2 / d*J p.1+evL J h)+evL J l;rw[ih,Int.mul_add,<- Int.mul_assoc,Int.mul_ediv_cancel' (Int.dvd_of_emod_eq_zero h0)];omega
  . show p.2*J p.1+evL J r=d*evL J h+(p.2*J p.1+evL J l)
    rw[ih]; omega
theorem zBO(hK:KnownOk J K){a d:Int}{l:LL}{p q:Int × LL}(h:zQ5 K a l d=some (p,q)) :
 0<=a+evL J l/\0<d/\(a+evL J l) / d=p.1+evL J p.2/\(a+evL J l) % d=q.1+evL J q.2/\0<=q.1+evL J q.2/\q.1+evL J q.2<d:=by
 have hs:=zI5 (J:=J) (d:=d) l;unfold zQ5 at h;split at h
 . rename_i q' hq;split at h
   . rename_i s hr;split at h
     . rename_i hc;injection h with h; injection h with h1 h2;subst h1 h2;obtain⟨g1,g2⟩:=yt hK hq;obtain⟨g3,g4⟩:=yt hK hr;obtain⟨c1,c2,c3,c4⟩:=hc;simp only;have hd:=Int.emod_add_mul_ediv a d;have key:(a+evL J l) / d=a / d+evL J (zGI d l).1/\(a+evL J l) % d=a % d+evL J (zGI d l).2:=
        (Int.ediv_emod_unique c2).2 ⟨by rw[Int.mul_add]; omega,by omega,by omega⟩
       exact⟨by omega,c2,key.1,key.2,by omega,by omega⟩
     . cases h
   . cases h
 . cases h
theorem zGs(J:Nat->Int):∀{l:LL},zPs l=true->∃n,evL J l=2*n
 | [],_=>⟨0,rfl⟩
 |p::r,h=>by
  unfold zPs at h;rw[Bool.and_eq_true,decide_eq_true_eq]at h;obtain⟨n,hn⟩:=zGs J h.2;refine⟨p.2 / 2*J p.1+n,?_⟩;show p.2*J p.1+evL J r=_
  have:p.2=2*(p.2 / 2):=by omega
  rw[hn,Int.mul_add,<- Int.mul_assoc,<- this]
theorem zWj(n:Nat):n ^^^ 1=if n % 2=0 then n+1 else n - 1:=by
 have h1:(n ^^^ 1) / 2=n / 2:=by rw[Nat.xor_div_two]; exact Nat.xor_zero _
 have h2:(n ^^^ 1) % 2=1 ↔ ¬(n % 2=1 ↔ 1 % 2=1):=Nat.xor_mod_two_eq_one;split <;> omega
theorem zK7(hK:KnownOk J K){op:BinOp}{x:CV}{k j:IntKind}{a b:Int}{l m:LL}{r:List CV}(h:zKI K op k a l j b m=some r){Y:Psi}{u:Value}
 (hx:@zG (linSym J K) Y x u) (eu:u=.int k (a+evL J l)) :
 (k=j\/xD op=true)/\∃w,yR op k (a+evL J l) (b+evL J m)=some w/\∀z,@zG (linSym J K) Y w z->∃c∈r,@zG (linSym J K) Y c z:=by
 unfold zKI at h;split at h
 . have hb:b+evL J []=b:=by simp[evL]
   rw[hb];have done:∀(p:Int × LL) (n:Int),n=p.1+evL J p.2->∀z,@zG (linSym J K) Y (mkInt k n) z->@zG (linSym J K) Y (mkS k p.1 p.2) z:=by intro p n hn z hz;rw[@jL (linSym J K) Y k n z hz,hn];exact zDK k p.1 p.2
   split at h
   . -- quo
     split at h
     . rename_i p q hc;obtain⟨h0,hd,h1,_,_,_⟩:=zBO hK hc;obtain⟨e,c,hc',hg⟩:=uT hK h (n:=(a+evL J l).tdiv b) (by rw[Int.tdiv_eq_ediv_of_nonneg h0,h1]);refine⟨.inl e,_,?_,λz hz=>⟨c,hc',hg Y z hz⟩⟩;show Bool.rec (motive:=λ_=>Option CV) (some (mkInt k (yz k ((a+evL J l).tdiv b)))) none (zm b (.ofNat 0))=_;rw[@zX noSym,decide_eq_false (by intro e; rw[e]at hd; exact absurd hd (by decide))]
     . cases h
   . -- rem
     split at h
     . rename_i p q hc;obtain⟨h0,hd,_,h1,_,_⟩:=zBO hK hc;split at h
       . rename_i e;injection h with h; subst h;refine⟨.inl e,mkInt k ((a+evL J l).tmod b),?_,λz hz=>⟨_,List.mem_singleton.2 rfl,done _ _ (by rw[Int.tmod_eq_emod_of_nonneg h0,h1]) z hz⟩⟩;show Bool.rec (motive:=λ_=>Option CV) (some (mkInt k ((a+evL J l).tmod b))) none (zm b (.ofNat 0))=_;rw[@zX noSym,decide_eq_false (by intro e; rw[e]at hd; exact absurd hd (by decide))]
       . cases h
     . cases h
   . -- shr
     split at h
     . rename_i s;split at h
       . rename_i p q hc;injection h with h; subst h;obtain⟨h0,hd,h1,_,_,_⟩:=zBO hK hc;obtain⟨n,hn⟩:∃n:Nat,a+evL J l=Int.ofNat n:=⟨(a+evL J l).toNat,by rw[Int.ofNat_eq_natCast]; omega⟩
         refine⟨.inr rfl,mkInt k (.ofNat (n / 2 ^ min s k.bits)),?_,λz hz=>⟨_,List.mem_singleton.2 rfl,done _ _ ?_ z hz⟩⟩
         . rw[hn];show some (j6 k (Nat.div n (Nat.pow 2 (min s k.bits))))=some (mkInt k (.ofNat (n / 2 ^ min s k.bits)));show some (j6 k (n / 2 ^ min s k.bits))=_;generalize n / 2 ^ min s k.bits=t;cases t <;> rfl
         . rw[<- h1,hn];show((n / 2 ^ min s k.bits:Nat):Int)=(n:Int) / _;rw[Int.natCast_ediv,Int.natCast_pow]; rfl
       . injection h with h; subst h;generalize a+evL J l=n;cases n with
         |ofNat n=>exact⟨.inr rfl,_,rfl,λz hz=>⟨_,List.mem_singleton.2 rfl,(@yo (linSym J K) _ _ _).2 ⟨_,@zBB (linSym J K) Y k _ z hz⟩⟩⟩|negSucc n=>exact⟨.inr rfl,_,rfl,λz hz=>⟨_,List.mem_singleton.2 rfl,(@yo (linSym J K) _ _ _).2 ⟨_,@jL (linSym J K) Y k _ z hz⟩⟩⟩
     . cases h
   . -- and
     split at h
     . rename_i mm hmk;obtain⟨rfl,t,ht⟩:=zFv hmk;split at h
       . rename_i q p1 p hq hc;split at h
         . rename_i hh;injection h with h; subst h;obtain⟨h0,hd,_,h1,h2,h3⟩:=zBO hK hc;obtain⟨g1,g2⟩:=yt hK hq;obtain⟨n,hn⟩:∃n:Nat,a+evL J l=Int.ofNat n:=⟨(a+evL J l).toNat,by rw[Int.ofNat_eq_natCast]; omega⟩
           have hnn:((n:Nat):Int)<=hiK k:=by have e:(Int.ofNat n)=(n:Int):=rfl; rw[<- e,<- hn]; omega
           have hmm:((mm:Nat):Int)<=hiK k:=hh.2.2;have hland:Nat.land n mm=n % (mm+1):=by
            show n &&& mm=_;have e:mm=2 ^ t - 1:=by omega
            rw[ht,e,Nat.and_two_pow_sub_one_eq_mod]
           have hle:n % (mm+1)<=n:=Nat.mod_le _ _;refine⟨.inl hh.1,mkInt k (.ofNat (n % (mm+1))),?_,λz hz=>⟨_,List.mem_singleton.2 rfl,done _ _ ?_ z hz⟩⟩
           . rw[hn];show some (mkInt k (yz k (.ofNat (Nat.land (toU k (.ofNat n)) (toU k (.ofNat mm))))))=_;rw[wa k hnn,wa k hmm,hland,kD k (n:=.ofNat (n % (mm+1))) (zCn k _) (by rw[Int.ofNat_eq_natCast]; omega)]
           . rw[<- h1,hn];rfl
         . cases h
       . cases h
     . cases h
   . -- xor
     split at h
     . rename_i q hq;split at h
       . rename_i hh;injection h with h; subst h;obtain⟨e,rfl,he,hlo,hhi⟩:=hh;obtain⟨g1,g2⟩:=yt hK hq;obtain⟨t,ht⟩:=zGs J he;obtain⟨n,hn⟩:∃n:Nat,a+evL J l=Int.ofNat n:=⟨(a+evL J l).toNat,by rw[Int.ofNat_eq_natCast]; omega⟩
         have en:(Int.ofNat n)=(n:Int):=rfl;have hnn:((n:Nat):Int)<=hiK k:=by rw[<- en,<- hn]; omega
         have hodd:hiK k % 2=1:=by cases k <;> decide
         have h1k:(1:Int)<=hiK k:=by cases k <;> decide
         have hx1:=zWj n;refine⟨.inl e,mkInt k (.ofNat (n ^^^ 1)),?_,λz hz=>⟨_,List.mem_singleton.2 rfl,done (if a % 2=0 then a+1 else a - 1,l) _ ?_ z hz⟩⟩
         . rw[hn];show some (mkInt k (yz k (.ofNat (Nat.xor (toU k (.ofNat n)) (toU k (.ofNat 1))))))=_;rw[wa k (by omega),wa k (m:=1) h1k];show some (mkInt k (yz k (.ofNat (n ^^^ 1))))=_;rw[kD k (n:=.ofNat (n ^^^ 1)) (zCn k _) (by rw[hx1]; split <;> rw[Int.ofNat_eq_natCast] <;> omega)]
         . show Int.ofNat (n ^^^ 1)=_+evL J l;rw[hx1];have hn':a+evL J l=(n:Int):=hn;by_cases h2:a % 2=0
           . rw[if_pos (by omega)];simp only[h2,if_true];rw[Int.ofNat_eq_natCast]; omega
           . rw[if_neg (by omega)];simp only[h2,if_false];rw[Int.ofNat_eq_natCast]; omega
       . cases h
     . cases h
   . cases h
 . cases h
theorem zJp{d:Int}:∀(l:LL),∃t,evL J l=evL J (zKW d l)+d*t
 | []=>⟨0,by simp[zKW]⟩
 |p::r=>by
  obtain⟨t,ht⟩:=zJp (d:=d) r;have hp:=Int.emod_add_mul_ediv p.2 d;unfold zKW;split
  . rename_i h0;refine⟨p.2 / d*J p.1+t,?_⟩;show p.2*J p.1+evL J r=_;rw[ht,Int.mul_add,<- Int.mul_assoc];rw[h0,Int.zero_add]at hp;rw[hp]; omega
  . refine⟨p.2 / d*J p.1+t,?_⟩;show p.2*J p.1+evL J r=p.2 % d*J p.1+evL J (zKW d r)+_
    have:p.2*J p.1=p.2 % d*J p.1+d*(p.2 / d*J p.1):=by rw[<- Int.mul_assoc,<- Int.add_mul,hp]
    rw[this,ht,Int.mul_add]; omega
theorem zTu(k:IntKind)(n t:Int):k.wrap (n+2 ^ k.bits*t)=k.wrap n:=by
 have:(n+2 ^ k.bits*t) % (2 ^ k.bits:Int)=n % (2 ^ k.bits:Int):=Int.add_mul_emod_self_left _ _ _
 unfold IntKind.wrap;rw[this]
theorem zNz(hK:KnownOk J K){k:IntKind}{a:Int}{l:LL}{r:List CV}(h:zOt K k a l=some r){Y:Psi}:∃c∈r,@zG (linSym J K) Y c (.int k (k.wrap (a+evL J l))):=by
 unfold zOt at h;split at h
 . rename_i q hq;split at h
   . rename_i hc;injection h with h; subst h;obtain⟨h1,h2⟩:=yt hK hq;obtain⟨t,ht⟩:=zJp (J:=J) (d:=2 ^ k.bits) l;have ha:=Int.emod_add_mul_ediv a (2 ^ k.bits);refine⟨_,List.mem_singleton.2 rfl,?_⟩;generalize hz:(a % 2 ^ k.bits+q.1) / 2 ^ k.bits=z at hc;have e:a+evL J l=(a % 2 ^ k.bits - z*2 ^ k.bits+evL J (zKW (2 ^ k.bits) l))+2 ^ k.bits*(z+a / 2 ^ k.bits+t):=by rw[ht,Int.mul_add,Int.mul_add,Int.mul_comm z]; omega
     rw[e,zTu,<- @xM noSym,kD k (by omega) (by omega)];exact zDK k _ _
   . cases h
 . cases h
theorem uP{op:BinOp}{x y:CV}:∀{l:List SRule} {r:List CV},ug op x y l=some r->∃q∈l,∃e c,x=.sym e/\(y=.nat c\/(∃j,y=.int j (.ofNat c))/\xD op=true)/\q.op=op/\q.x=e/\q.c=c/\r=[q.v]
 | [],_,h=>by cases h|q::l,r,h=>by
  unfold ug at h;split at h
  . rename_i e c;split at h
    . rename_i hq;injection h with h;refine⟨q,by simp,e,c,rfl,.inl rfl,hq.1,?_,hq.2.2.2.2,h.symm⟩;obtain⟨k,c',l'⟩:=e;have h1:=hq.2.1;have h2:=hq.2.2.1;have h3:=hq.2.2.2.1;cases hqx:q.x;rw[hqx]at h1 h2 h3;simp only at h1 h2 h3;rw[h1,h2,h3]
    . obtain⟨q',h1,h2⟩:=uP h;exact⟨q',by simp[h1],h2⟩
  . rename_i e j c;split at h
    . rename_i hq;injection h with h;refine⟨q,by simp,e,c,rfl,.inr ⟨⟨j,rfl⟩,hq.2.2.2.2.2⟩,hq.1,?_,hq.2.2.2.2.1,h.symm⟩;obtain⟨k,c',l'⟩:=e;have h1:=hq.2.1;have h2:=hq.2.2.1;have h3:=hq.2.2.2.1;cases hqx:q.x;rw[hqx]at h1 h2 h3;simp only at h1 h2 h3;rw[h1,h2,h3]
    . obtain⟨q',h1,h2⟩:=uP h;exact⟨q',by simp[h1],h2⟩
  . cases h
theorem zJn(hK:KnownOk J K){d c:Int}{l:LL}(h:zVc K d l c=true):d+evL J l=c:=by
 unfold zVc at h;split at h
 . rename_i q hq;rw[Bool.and_eq_true,decide_eq_true_eq,decide_eq_true_eq]at h
   have:=yt hK hq
   omega
 . cases h
theorem zR7(hK:KnownOk J K){d:Int}{l:LL}{r:SRule}(hr:zi J r)(h:zV5 K d l r=true):d+evL J l≠0:=by
 unfold zV5 at h;split at h
 . rename_i h1 h2 h3;have hne:evE J r.x≠0:=by
    obtain⟨u,_,g2,g3⟩:=(zAO h1).1 hr;rw[h1,h3]at g2;have g2:some (CV.bool (zm (evE J r.x) (.ofNat 0)))=some u:=g2;injection g2 with g2;rw[h2]at g3;rcases g3 with g3 |⟨e,g3,_⟩
    . rw[<- g2]at g3;injection g3 with g3;intro e;rw[e]at g3;rw[@zX noSym]at g3;exact absurd g3 (by decide)
    . cases g3
   unfold evE at hne;rw[Bool.or_eq_true]at h;rcases h with h |h
   . have:=zJn hK h
     rw[jM,qQ]at this;omega
   . have:=zJn hK h
     rw[jM]at this;omega
 . cases h
theorem zD4(hK:KnownOk J K){d:Int}{l:LL}:∀{rs:List SRule},(∀r∈rs,zi J r)->neK K d l rs=true->d+evL J l≠0
 | [],_,h=>by cases h|r::rs,hr,h=>by
  have h:(zV5 K d l r || neK K d l rs)=true:=h;rw[Bool.or_eq_true]at h;rcases h with h |h
  . exact zR7 hK (hr r (by simp)) h
  . exact zD4 hK (λq hq=>hr q (by simp[hq])) h
theorem zGc{d:Int}{l m:LL}(hm:evL J m = -evL J l):∀{rs:List SRule},(∀r∈rs,zi J r)->neX d l m rs=true->d+evL J l≠0
 | [],_,h=>by cases h|r::rs,hr,h=>by
  have h:(zXI d l m r || neX d l m rs)=true:=h;rw[Bool.or_eq_true]at h;rcases h with h |h
  . have hr:=hr r (by simp);unfold zXI at h;split at h
    . rename_i h1 h2 h3;have hne:evE J r.x≠0:=by
       obtain⟨u,_,g2,g3⟩:=(zAO h1).1 hr;rw[h1,h3]at g2;have g2:some (CV.bool (zm (evE J r.x) (.ofNat 0)))=some u:=g2;injection g2 with g2;rw[h2]at g3;rcases g3 with g3 |⟨e,g3,_⟩
       . rw[<- g2]at g3;injection g3 with g3;intro e;rw[e]at g3;rw[@zX noSym]at g3;exact absurd g3 (by decide)
       . cases g3
      unfold evE at hne;rw[Bool.or_eq_true,Bool.and_eq_true,Bool.and_eq_true,@zX noSym,@zX noSym,decide_eq_true_eq,decide_eq_true_eq]at h;rcases h with⟨q1,q2⟩ |⟨q1,q2⟩
      . rw[q1,uo q2]; exact hne
      . rw[<- q1,<- uo q2,hm]at hne;omega
    . cases h
  . exact zGc hm (λq hq=>hr q (by simp[hq])) h
theorem zM6(hK:KnownOk J K){k j:IntKind}{a b:Int}{l m:LL}(h:neL K k a l j b m=true):k=j/\a+evL J l≠b+evL J m:=by
 unfold neL at h;rw[Bool.and_eq_true,@yj noSym,decide_eq_true_eq]at h;refine⟨h.1,?_⟩
 have:=zGc (J:=J) (by rw[qQ]; omega) hK.rules h.2
 rw[jM,qQ]at this;omega
theorem zN4(hK:KnownOk J K){op:BinOp}{k j:IntKind}{a b:Int}{l m:LL}{r:List CV}(h:zS8 K op k a l j b m=some r){Y:Psi} :
 (k=j\/xD op=true)/\∃w,yR op k (a+evL J l) (b+evL J m)=some w/\∀z,@zG (linSym J K) Y w z->∃c∈r,@zG (linSym J K) Y c z:=by
 unfold zS8 at h;split at h
 . split at h
   . rename_i e;injection h with h; subst h;obtain⟨e1,e2⟩:=zM6 hK e;refine⟨.inl e1,.bool false,?_,λz hz=>⟨_,List.mem_singleton.2 rfl,hz⟩⟩;show some (CV.bool (zm (a+evL J l) (b+evL J m)))=_;rw[@zX noSym,decide_eq_false e2]
   . cases h
 . split at h
   . rename_i e;injection h with h; subst h;obtain⟨e1,e2⟩:=zM6 hK e;refine⟨.inl e1,.bool true,?_,λz hz=>⟨_,List.mem_singleton.2 rfl,hz⟩⟩;show some (CV.bool (zBk (zm (a+evL J l) (b+evL J m))))=_;rw[@zX noSym,decide_eq_false e2];rfl
   . cases h
 . cases h
theorem zNO(hK:KnownOk J K){op:BinOp}{k j:IntKind}{a b:Int}{l m:LL}{r:List CV}(h:zSl K op k a l j b m=some r){Y:Psi} :
 (k=j\/xD op=true)/\∃w,yR op k (a+evL J l) (b+evL J m)=some w/\∀z,@zG (linSym J K) Y w z->∃c∈r,@zG (linSym J K) Y c z:=by
 unfold zSl at h;split at h
 . split at h
   . rename_i e;injection h with h; subst h
     have:=zD4 hK hK.rules e.2
     rw[jM,qQ]at this;refine⟨.inl e.1,.bool false,?_,λz hz=>⟨_,List.mem_singleton.2 rfl,hz⟩⟩;show some (CV.bool (zm (a+evL J l) (b+evL J m)))=_;rw[@zX noSym,decide_eq_false (by omega)]
   . cases h
 . split at h
   . rename_i e;injection h with h; subst h
     have:=zD4 hK hK.rules e.2
     rw[jM,qQ]at this;refine⟨.inl e.1,.bool true,?_,λz hz=>⟨_,List.mem_singleton.2 rfl,hz⟩⟩;show some (CV.bool (zBk (zm (a+evL J l) (b+evL J m))))=_;rw[@zX noSym,decide_eq_false (by omega)];rfl
   . cases h
 . cases h
theorem zEI(hK:KnownOk J K){op:BinOp}{x y:CV}{l:List CV}(hb:zEO K op x y=some l)(Y:Psi)(t:TypeId)(u v:Value)(w:World)(hu:@zG (linSym J K) Y x u)(hv:@zG (linSym J K) Y y v) :
 ((∃k m,u=.int k m)\/∃b,u=.string b)/\∃z,(binOp op t u v).run P w=.ok z w/\∃c∈l,@zG (linSym J K) Y c z:=by
 unfold zEO at hb;split at hb
 . rename_i r hr;injection hb with hb; subst hb;obtain⟨q,hq,e,c,rfl,hy,h1,h2,h3,h4⟩:=uP (zN3 hr);obtain⟨z,h0,hz,hzz⟩:=(vT (by rw[h1]; exact zT4 hr)).1 (hK.rules q hq);have hu:u=.int e.k (evE J e):=(@zp (linSym J K) Y e u).1 hu;obtain⟨j,hv,hj⟩:∃j,v=.int j (.ofNat c)/\(j=.i64\/xD op=true):=by
    rcases hy with rfl |⟨⟨j,rfl⟩,hs⟩
    . exact⟨_,(@zT (linSym J K) Y c v).1 hv,.inl rfl⟩
    . exact⟨_,(@zf (linSym J K) Y j _ v).1 hv,.inr hs⟩
   subst hu hv;refine⟨.inl ⟨_,_,rfl⟩,?_⟩;rw[h1,h2,h3]at hz;rw[h1,h2]at h0;have h0:e.k=j\/xD op=true:=by
    rcases h0 with h0 |h0
    . rcases hj with rfl |hj
      . exact .inl h0
      . exact .inr hj
    . exact .inr h0
   obtain⟨y',g1,g2⟩:=@k8 (linSym J K) P Y op e.k j (evE J e) (.ofNat c) z t w h0 hz;refine⟨y',g1,q.v,by rw[h4]; simp,?_⟩;rcases hzz with e' |⟨j,e1,e2⟩
   . rw[e']; exact g2
   . rw[e1,(@zp (linSym J K) Y j y')];rw[e2]at g2;exact @jL (linSym J K) Y j.k (evE J j) y' g2
 . split at hb
   . rename_i k a m j b n hx hy;have eu:=qk x hx hu;have ev:=qk y hy hv;have hop:(k=j\/xD op=true)/\∃w,yR op k (a+evL J m) (b+evL J n)=some w/\∀z,@zG (linSym J K) Y w z->∃c∈l,@zG (linSym J K) Y c z:=by
      split at hb
      . rename_i r hr;injection hb with hb; subst hb;exact zN4 hK hr
      . split at hb
        . rename_i r hr;injection hb with hb; subst hb;exact zNT hK hr hu hv eu ev
        . split at hb
          . rename_i r hr;injection hb with hb; subst hb;exact zK7 hK hr hu eu
          . exact zNO hK hb
     obtain⟨hk,z,hz,hzz⟩:=hop;subst eu ev;refine⟨.inl ⟨_,_,rfl⟩,?_⟩;obtain⟨y',g1,g2⟩:=@k8 (linSym J K) P Y op k j _ _ z t w hk hz;exact⟨y',g1,hzz y' g2⟩
   . cases hb
abbrev zKq(b:ByteArray):List Value:=b.data.toList.map λx=>Value.int .u8 (Int.ofNat x.toNat)
theorem zGR(hK:KnownOk J K){Y:Psi}:∀{a b:List CV} {r:Bool} {l m:List UInt8},zPc K a b=some r->@zP (linSym J K) Y a (l.map λx=>Value.int .u8 (Int.ofNat x.toNat))->@zP (linSym J K) Y b (m.map λx=>Value.int .u8 (Int.ofNat x.toNat))->r=decide (l=m)
 | [],[],r,l,m,h,ha,hb=>by rw[@zM (linSym J K),List.map_eq_nil_iff]at ha hb;subst ha hb;injection h with h; subst h; simp
 | [],b::bs,r,l,m,h,ha,hb=>by
  rw[@zM (linSym J K),List.map_eq_nil_iff]at ha;obtain⟨v,q,hm,_,_⟩:=(@za (linSym J K) _ _ _ _).1 hb;subst ha;injection h with h; subst h;cases m with
  |nil=>cases hm|cons y m=>simp
 |a::as,[],r,l,m,h,ha,hb=>by
  rw[@zM (linSym J K),List.map_eq_nil_iff]at hb;obtain⟨v,q,hm,_,_⟩:=(@za (linSym J K) _ _ _ _).1 ha;subst hb;injection h with h; subst h;cases l with
  |nil=>cases hm|cons y m=>simp
 |a::as,b::bs,r,l,m,h,ha,hb=>by
  obtain⟨u,q,hl,ha1,ha2⟩:=(@za (linSym J K) _ _ _ _).1 ha;obtain⟨v,q',hm,hb1,hb2⟩:=(@za (linSym J K) _ _ _ _).1 hb;cases l with
  |nil=>cases hl|cons x l=>
  cases m with
  |nil=>cases hm|cons y m=>
  injection hl with e1 e2;injection hm with e3 e4;subst e1 e2 e3 e4;unfold zPc at h;have key:∀{c:Bool},zEO K .eql a b=some [.bool c]->c=decide (x=y):=by
   intro c hc;obtain⟨_,z,hz,c',hc',hr⟩:=zEI (P:=default) hK hc Y 0 _ _ default ha1 hb1;obtain rfl:c'=.bool c:=by simpa using hc'
   rw[(@zL (linSym J K) _ _ _).1 hr]at hz;have hz:((x.toNat:Int) == (y.toNat:Int))=c:=by simpa [binOp,Op.intCmp]using hz
   rw[<- hz,Bool.eq_iff_iff,beq_iff_eq,decide_eq_true_eq];constructor
   . intro e; exact UInt8.toNat_inj.1 (by omega)
   . intro e; rw[e]
  split at h
  . rename_i hc
    have:=key hc
    have hxy:x=y:=by simpa using this.symm
    subst hxy;rw[zGR hK h ha2 hb2];simp
  . rename_i hc
    have:=key hc
    have hxy:x≠y:=by simpa using this.symm
    injection h with h; subst h;simp[hxy]
  . cases h
theorem zMJ{Y:Psi}(b:ByteArray):@zP (linSym J K) Y (zVN (zy b)) (zKq b):=by
 unfold zVN zy zKq;generalize b.data.toList=l;induction l with
 |nil=>exact(@zM (linSym J K) _ _).2 rfl|cons x l ih=>exact(@zW (linSym J K) _ _ _ _ _).2 ⟨(@zf (linSym J K) _ _ _ _).2 rfl,ih⟩
theorem zEn(hK:KnownOk J K){Y:Psi}{op:BinOp}{a b:List CV}{l:List CV}(h:zGg K op a b=some l)(t:TypeId){s1 s2:ByteArray}(w:World)(ha:@zP (linSym J K) Y a (zKq s1))(hb:@zP (linSym J K) Y b (zKq s2)) :
 ∃z,(binOp op t (.string s1) (.string s2)).run P w=.ok z w/\∃c∈l,@zG (linSym J K) Y c z:=by
 unfold zGg at h;have dec:decide (s1.data.toList=s2.data.toList)=qY (zy s1) (zy s2):=by
  rw[@kr noSym,decide_eq_decide];constructor
  . intro e; unfold zy; rw[e]
  . intro e;unfold zy at e;have inj:∀{l m:List UInt8},l.map UInt8.toNat=m.map UInt8.toNat->l=m:=by
     intro l;induction l with
     |nil=>intro m h; cases m <;> first |rfl |cases h
     |cons x l ih=>intro m h; cases m with
      |nil=>cases h|cons y m=>injection h with h1 h2;rw[UInt8.toNat_inj.1 h1,ih h2]
    exact inj e
 split at h
 . rename_i r hr;injection h with h; subst h
   have:=zGR hK hr ha hb
   obtain⟨v,h1,h2⟩:=@ul (linSym J K) P Y .eql s1 s2 (.bool (qY (zy s1) (zy s2))) t w rfl;refine⟨v,h1,_,List.mem_singleton.2 rfl,?_⟩;rw[this,dec]; exact h2
 . rename_i r hr;injection h with h; subst h
   have:=zGR hK hr ha hb
   obtain⟨v,h1,h2⟩:=@ul (linSym J K) P Y .neq s1 s2 (.bool (zBk (qY (zy s1) (zy s2)))) t w rfl;refine⟨v,h1,_,List.mem_singleton.2 rfl,?_⟩;rw[this,dec];have e:∀b:Bool,zBk b = !b:=by intro b; cases b <;> rfl
   rw[e]at h2; exact h2
 . split at h
   . rename_i hlen;injection h with h; subst h;have l1:=@zP.length (linSym J K) _ _ _ ha;have l2:=@zP.length (linSym J K) _ _ _ hb;rw[List.length_map]at l1 l2;have l1:s1.size=a.length:=l1;have l2:s2.size=b.length:=l2;refine⟨_,(by rw[show binOp .add t (.string s1) (.string s2)=Op.stringOp .add s1 s2 by simp[binOp]]; exact run_string_add_sum w s1 s2 (by omega)),_,List.mem_singleton.2 rfl,?_⟩;rw[@ya (linSym J K)];refine⟨_,rfl,?_⟩;have e:(s1++s2).data.toList=s1.data.toList++s2.data.toList:=by simp
     rw[e,List.map_append];exact @zP.append (linSym J K) _ _ _ _ _ ha hb
   . cases h
 . cases h
theorem zJu(hK:KnownOk J K){x:CV}{s:List Nat}(h:zLt K x=some s){Y:Psi}{u:Value}(hu:@zG (linSym J K) Y x u):∃b,u=.string b/\zy b=s:=by
 unfold zLt at h;split at h
 . rename_i i t;obtain⟨m,b,h1,rfl,h3⟩:=(@kE (linSym J K) _ _ _ _).1 hu;refine⟨b,rfl,?_⟩;unfold zYC at h;split at h
   . rename_i q hq;split at h
     . rename_i hc;obtain⟨g1,g2⟩:=yt hK hq;have h1:Value.int .i64 (0+evL J [(i,1)])=.int .i64 m:=h1;injection h1 with _ h1;have e:q.1.toNat=m:=by omega
       rw[e,@nth_eq noSym,h3]at h;injection h
     . cases h
   . cases h
 . rename_i s';injection h with h; subst h;exact(@zg (linSym J K) _ _ _).1 hu
 . cases h
theorem zI1(hK:KnownOk J K){Y:Psi}{op:BinOp}{x y:CV}{l:List CV}(h:zKP K op x y=some l)(t:TypeId){u v:Value}(w:World)(hu:@zG (linSym J K) Y x u)(hv:@zG (linSym J K) Y y v) :
 ((∃k m,u=.int k m)\/∃b,u=.string b)/\∃z,(binOp op t u v).run P w=.ok z w/\∃c∈l,@zG (linSym J K) Y c z:=by
 unfold zKP at h;split at h
 . rename_i a b ha hb;obtain⟨s1,rfl,rfl⟩:=zJu hK ha hu;obtain⟨s2,rfl,rfl⟩:=zJu hK hb hv;split at h
   . rename_i c hc;injection h with h; subst h;obtain⟨z,h1,h2⟩:=@ul (linSym J K) P Y op s1 s2 c t w hc;exact⟨.inr ⟨_,rfl⟩,z,h1,_,List.mem_singleton.2 rfl,h2⟩
   . cases h
 . cases h
theorem zPw(hK:KnownOk J K){x:CV}{k:IntKind}{n:Int}(h:zVl K x=some (k,n)){Y:Psi}{u:Value}(hu:@zG (linSym J K) Y x u):u=.int k n:=by
 unfold zVl at h;split at h
 . rename_i j a l hx;split at h
   . rename_i q hq;split at h
     . rename_i e;injection h with h; injection h with h1 h2;obtain⟨g1,g2⟩:=yt hK hq;rw[qk x hx hu,<- h1,<- h2]
       congr 1
       omega
     . cases h
   . cases h
 . cases h
theorem zR2(hK:KnownOk J K){op:BinOp}{x y:CV}{l:List CV}(h:zOT K op x y=some l){Y:Psi}(t:TypeId)(w:World){u v:Value}(hu:@zG (linSym J K) Y x u)(hv:@zG (linSym J K) Y y v) :
 ((∃k n,u=.int k n)\/∃s,u=.string s)/\∃z,(binOp op t u v).run P w=.ok z w/\∃c∈l,@zG (linSym J K) Y c z:=by
 unfold zOT at h;split at h
 . rename_i k a j b hx hy;split at h
   . rename_i hk;split at h
     . rename_i c hc;injection h with h; subst h;obtain rfl:=zPw hK hx hu;obtain rfl:=zPw hK hy hv;obtain⟨z,g1,g2⟩:=@k8 (linSym J K) P Y op k j a b c t w hk hc;exact⟨.inl ⟨_,_,rfl⟩,z,g1,c,List.mem_singleton.2 rfl,g2⟩
     . cases h
   . cases h
 . cases h
theorem zTK(n s:Nat):Nat.land n (2 ^ s)=if n / 2 ^ s % 2=0 then 0 else 2 ^ s:=by
 show n &&& 2 ^ s=_;apply Nat.eq_of_testBit_eq;intro j;rw[Nat.testBit_and,Nat.testBit_two_pow];by_cases e:s=j
 . subst e;rw[decide_eq_true rfl,Bool.and_true,Nat.testBit_eq_decide_div_mod_eq];rcases Nat.mod_two_eq_zero_or_one (n / 2 ^ s)with h |h
   . rw[if_pos h]; simp[h]
   . rw[if_neg (by omega)]; simp[h,Nat.testBit_two_pow]
 . rw[decide_eq_false e,Bool.and_false];split <;> simp[Nat.testBit_two_pow,e]
theorem zQi(hK:KnownOk J K){k:IntKind}{a b:Int}{m:LL}{r:List CV}(h:zWn K k a b m=some r){Y:Psi} :
 ∃a' n:Nat,a=(a':Int)/\b+evL J m=(n:Int)/\∀z,@zG (linSym J K) Y (mkInt k (yz k (.ofNat (Nat.lor (toU k (.ofNat a')) (toU k (.ofNat n)))))) z->∃c∈r,@zG (linSym J K) Y c z:=by
 unfold zWn at h;split at h
 . rename_i q hq;split at h
   . rename_i hc;obtain⟨h1,h2,h3,h4,h5⟩:=hc;obtain⟨g1,g2⟩:=yt hK hq;obtain⟨n,hn⟩:∃n:Nat,b+evL J m=(n:Int):=⟨(b+evL J m).toNat,by omega⟩
     obtain⟨a',rfl⟩:∃a':Nat,a=(a':Int):=⟨a.toNat,by omega⟩
     obtain⟨z,hz⟩:∃z:Nat,b+q.2=(z:Int):=⟨(b+q.2).toNat,by omega⟩
     obtain⟨_,c,hcm,hg⟩:=uT hK h (n:=(a':Int)+(n:Int)) (by omega);refine⟨a',n,rfl,hn,λy hy=>⟨c,hcm,hg Y y ?_⟩⟩;rw[hz,Int.toNat_natCast]at h5;have hlt:n<2 ^ (Nat.log2 z+1):=Nat.lt_of_le_of_lt (by omega) Nat.lt_log2_self;generalize Nat.log2 z+1=s at h5 hlt;have h5:a' % 2 ^ s=0:=by
      have:((a' % 2 ^ s:Nat):Int)=0:=by rw[Int.natCast_emod,Int.natCast_pow]; exact h5
      omega
     have hor:Nat.lor a' n=a'+n:=by
      show a' ||| n=_;have e:a'=2 ^ s*(a' / 2 ^ s):=by
       have:=Nat.div_add_mod a' (2 ^ s)
       omega
      rw[e];exact(Nat.two_pow_add_eq_or_of_lt hlt _).symm
     rw[wa k h2,wa k (m:=n) (by omega),hor]at hy;exact hy
   . cases h
 . cases h
theorem zOw(hK:KnownOk J K){op:BinOp}{x y:CV}{l:List CV}(h:zKl K op x y=some l){Y:Psi}(t:TypeId)(w:World){u v:Value}(hu:@zG (linSym J K) Y x u)(hv:@zG (linSym J K) Y y v) :
 ((∃k n,u=.int k n)\/∃s,u=.string s)/\∃z,(binOp op t u v).run P w=.ok z w/\∃c∈l,@zG (linSym J K) Y c z:=by
 unfold zKl at h;split at h
 . rename_i k a l0 j b m hx hy;have eu:=qk x hx hu;have ev:=qk y hy hv;split at h
   . rename_i e; subst e;have hop:∃w,yR op k (a+evL J l0) (b+evL J m)=some w/\∀z,@zG (linSym J K) Y w z->∃c∈l,@zG (linSym J K) Y c z:=by
      split at h
      . split at h
        . obtain⟨a',n,e1,e2,h3⟩:=zQi hK h (Y:=Y);have e1:a+evL J []=Int.ofNat a':=by simp[evL,e1]
          rw[e1,e2];exact⟨_,rfl,h3⟩
        . split at h
          . obtain⟨a',n,e1,e2,h3⟩:=zQi hK h (Y:=Y);have e1:b+evL J []=Int.ofNat a':=by simp[evL,e1]
            rw[e1,e2];refine⟨_,rfl,?_⟩;show ∀z,@zG (linSym J K) Y (mkInt k (yz k (.ofNat (Nat.lor (toU k (.ofNat n)) (toU k (.ofNat a')))))) z->_;rw[show Nat.lor (toU k (.ofNat n)) (toU k (.ofNat a'))=Nat.lor (toU k (.ofNat a')) (toU k (.ofNat n))from Nat.or_comm _ _];exact h3
          . cases h
      . split at h
        . split at h
          . rename_i q hq;split at h
            . rename_i hc;injection h with h; subst h;obtain⟨h1,h2,h3,h4,h5,h6⟩:=hc;obtain⟨g1,g2⟩:=yt hK hq;obtain⟨n,hn⟩:∃n:Nat,a+evL J l0=(n:Int):=⟨(a+evL J l0).toNat,by omega⟩
              obtain⟨c,rfl⟩:∃c:Nat,b=(c:Int):=⟨b.toNat,by omega⟩
              rw[Int.toNat_natCast]at h2;generalize Nat.log2 c=s at h2;have h2:c=2 ^ s:=by
               have:((2 ^ s:Nat):Int)=(c:Int):=by rw[Int.natCast_pow]; exact h2.symm
               omega
              have hcp:(0:Int)<(c:Int):=by
               have:0<c:=by rw[h2]; exact Nat.two_pow_pos s
               omega
              have hq1:(a+q.1) / (c:Int)<=(n:Int) / (c:Int):=Int.ediv_le_ediv hcp (by omega);have hq2:(n:Int) / (c:Int)<=(a+q.2) / (c:Int):=Int.ediv_le_ediv hcp (by omega);have hq3:(a+q.1) / (c:Int)=((n / c:Nat):Int):=by rw[Int.natCast_ediv]; omega
              have e1:(c:Int)+evL J []=Int.ofNat c:=by simp[evL]
              rw[hn,e1];refine⟨_,rfl,λz hz=>⟨_,List.mem_singleton.2 rfl,?_⟩⟩;have hz:@zG (linSym J K) Y (mkInt k (yz k (.ofNat (Nat.land (toU k (.ofNat n)) (toU k (.ofNat c)))))) z:=hz;rw[wa k (m:=n) (by omega),wa k h3,h2,zTK,<- h2]at hz;rw[hq3];by_cases hb:n / c % 2=0
              . rw[if_pos hb,kD k (n:=.ofNat 0) (zCn k 0) (by cases k <;> decide)]at hz;rw[if_pos (by omega)];exact hz
              . rw[if_neg hb,kD k (n:=.ofNat c) (zCn k c) h3]at hz;rw[if_neg (by omega)];exact hz
            . cases h
          . cases h
        . cases h
      . cases h
     obtain⟨z,hz,hzz⟩:=hop;subst eu ev;refine⟨.inl ⟨_,_,rfl⟩,?_⟩;obtain⟨y',g1,g2⟩:=@k8 (linSym J K) P Y op k k _ _ z t w (.inl rfl) hz;exact⟨y',g1,hzz y' g2⟩
   . cases h
 . cases h
theorem zJ4(P:Program)(hK:KnownOk J K){Y:Psi}{a:CV}{z:Int}{e:SE}{b:ByteArray}{x0 x1:UInt8}(hb:b.data.toList=[x0,x1])(ha:@zG (linSym J K) Y a (.int .u8 (Int.ofNat x0.toNat)))(h1:Int.ofNat x1.toNat=z+evE J e) :
 ∀{ks:List CV} {vs:List Value},zRu K a z e ks=true->@zP (linSym J K) Y ks vs->Value.string b∈vs
 | [],_,h,_=>by cases h|k::ks,vs,h,hv=>by
  obtain⟨v,r,rfl,hv1,hv2⟩:=(@za (linSym J K) _ _ _ _).1 hv;unfold zRu at h;split at h
  . rename_i e0; cases e0
  . rename_i y q ks' e0;injection e0 with e0 e1;subst e0 e1;rw[Bool.or_eq_true]at h;rcases h with h |h
    . simp only[Bool.and_eq_true]at h;obtain⟨⟨⟨k1,k2⟩,k3⟩,k4⟩:=h;rw[@yj noSym,decide_eq_true_eq]at k2;rw[@zX noSym,decide_eq_true_eq]at k3;have k4:=@jJ noSym _ _ k4;obtain⟨b',rfl,hs⟩:=(@ya (linSym J K) _ _ _).1 hv1;obtain⟨u0,r0,g0,g1,g2⟩:=(@za (linSym J K) _ _ _ _).1 hs;obtain⟨u1,r1,g3,g4,g5⟩:=(@za (linSym J K) _ _ _ _).1 g2;rw[@zM (linSym J K)]at g5;subst g5 g3;obtain⟨y0,y1,hb'⟩:∃y0 y1,b'.data.toList=[y0,y1]:=by
       match hq:b'.data.toList,g0 with
       | [y0,y1],_=>exact⟨y0,y1,rfl⟩| [],g0=>cases g0| [_],g0=>cases g0|_::_::_::_,g0=>cases g0
      rw[hb']at g0;injection g0 with g0 g6;injection g6 with g6 _;subst g0 g6;have e1:y1=x1:=by
       have:=(@zp (linSym J K) Y q _).1 g4
       have this:Value.int .u8 (Int.ofNat y1.toNat)=.int q.k (evE J q):=this;injection this with _ this;have e2:evE J q=z+evE J e:=by unfold evE;rw[k3,k4]; omega
       rw[e2,<- h1]at this;injection this with this;exact UInt8.toNat_inj.1 this
      have e0:y0=x0:=by
       split at k1
       . rename_i hn;obtain⟨_,w',h3,c,hc,h4⟩:=zEI (P:=P) hK hn Y 0 _ _ default ha g1;obtain rfl:c=.bool true:=by simpa using hc
         rw[(@zL (linSym J K) _ _ _).1 h4]at h3;have h3:(Int.ofNat x0.toNat == Int.ofNat y0.toNat)=true:=by simpa [binOp,Op.intCmp]using h3
         have h3:Int.ofNat x0.toNat=Int.ofNat y0.toNat:=by simpa using h3
         injection h3 with h3;exact(UInt8.toNat_inj.1 h3).symm
       . cases k1
      have:b=b':=by apply ByteArray.ext;apply Array.ext';rw[hb,hb',e0,e1]
      rw[this];exact List.mem_cons_self
    . exact List.mem_cons_of_mem _ (zJ4 P hK hb ha h1 h hv2)
  . rename_i e0;injection e0 with e0 e1;subst e1;exact List.mem_cons_of_mem _ (zJ4 P hK hb ha h1 h hv2)
theorem zIN{a:CV}{z:Int}{ks:List CV}{e:SE}:∀{l:List CV},zJ1 K a z ks l=true->∀c∈l,∃e,c=.sym e/\zRu K a z e ks=true
 | [],_,c,hc=>by cases hc|c0::l,h,c,hc=>by
  unfold zJ1 at h;split at h
  . rename_i e0; cases e0
  . rename_i e' l' e0;injection e0 with e0 e1;subst e0 e1;rw[Bool.and_eq_true]at h;rcases List.mem_cons.1 hc with rfl |hc
    . exact⟨_,rfl,h.1⟩
    . exact zIN (e:=e) h.2 c hc
  . cases h
theorem zG5(P:Program)(hK:KnownOk J K){Y:Psi}{a ch:CV}{b:ByteArray}{x0 x1:UInt8}(hb:b.data.toList=[x0,x1])(ha:@zG (linSym J K) Y a (.int .u8 (Int.ofNat x0.toNat)))(hch:@zG (linSym J K) Y ch (.int .u8 (Int.ofNat x1.toNat)))
 {ks:List CV} {vs:List Value} (hvs:@zP (linSym J K) Y ks vs):∀{rs:List SRule},(∀r∈rs,zi J r)->zNA K a ch ks rs=true->Value.string b∈vs
 | [],_,h=>by cases h|r::rs,hr,h=>by
  unfold zNA at h;rw[Bool.or_eq_true]at h;rcases h with h |h
  . unfold zYg at h;split at h
    . rename_i l c m ho hv hf;split at h
      . rename_i q hq;rw[Bool.and_eq_true,decide_eq_true_eq]at h;have hR:=hr r List.mem_cons_self;unfold zi at hR;rw[ho]at hR;have hR:zB5 J r:=hR;unfold zB5 at hR;rw[hv]at hR;have hR:evE J r.x∈l.map (x8 J):=hR;obtain⟨c1,hc1,hc2⟩:=List.mem_map.1 hR;obtain⟨e,rfl,he⟩:=zIN (e:=r.x) h.2 c1 hc1;have hc2:evE J e=evE J r.x:=hc2;have hx:=qk ch hf hch;injection hx with _ hx;have hq:=yt hK hq;rw[jM,qQ]at hq;refine zJ4 P hK hb ha ?_ he hvs;rw[hx,hc2];unfold evE;omega
      . cases h
    . cases h
  . exact zG5 P hK hb ha hch hvs (λq hq=>hr q (List.mem_cons_of_mem _ hq)) h
theorem zRy{l:List UInt8}{u v:Value}(h:l.map (λx=>Value.int .u8 (Int.ofNat x.toNat))=[u,v]):∃x0 x1,l=[x0,x1]/\u=.int .u8 (Int.ofNat x0.toNat)/\v=.int .u8 (Int.ofNat x1.toNat):=by
 match l,h with
 | [y0,y1],h=>injection h with h1 h2;injection h2 with h2 _;exact⟨y0,y1,rfl,h1.symm,h2.symm⟩
theorem zRk(P:Program)(hK:KnownOk J K){Y:Psi}{k:CV}{ks:List CV}{v:Value}{vs:List Value}(h:zO6 K k ks=true)(hv:@zG (linSym J K) Y k v)(hvs:@zP (linSym J K) Y ks vs):v∈vs:=by
 unfold zO6 at h;split at h
 . rename_i a ch;obtain⟨b,rfl,hs⟩:=(@ya (linSym J K) _ _ _).1 hv;obtain⟨u0,r0,g0,g1,g2⟩:=(@za (linSym J K) _ _ _ _).1 hs;obtain⟨u1,r1,g3,g4,g5⟩:=(@za (linSym J K) _ _ _ _).1 g2;rw[@zM (linSym J K)]at g5;subst g5 g3;obtain⟨x0,x1,hb,rfl,rfl⟩:=zRy g0;exact zG5 P hK hb g1 g4 hvs hK.rules h
 . rename_i a ch;obtain⟨b,rfl,hs⟩:=(@zg (linSym J K) _ _ _).1 hv;have hs:b.data.toList.map UInt8.toNat=[a,ch]:=hs
   match hq:b.data.toList,hs with
   | [x0,x1],hs=>injection hs with h1 h2;injection h2 with h2 _;subst h1 h2;exact zG5 P hK hq ((@zf (linSym J K) Y _ _ _).2 rfl) ((@zf (linSym J K) Y _ _ _).2 rfl) hvs hK.rules h
 . cases h
theorem zMM{c:CV}{p:Int × LL}(h:zKo c=some p):x8 J c=p.1+evL J p.2:=by
 unfold zKo at h;split at h
 . split at h
   . injection h with h; subst h; rfl
   . cases h
 . injection h with h; subst h;simp[x8,evL]
 . cases h
theorem zBc{Y:Psi}{c:CV}{p:Int × LL}{u:Value}(h:zKo c=some p)(hu:@zG (linSym J K) Y c u):u=.int .i64 (x8 J c):=by
 unfold zKo at h;split at h
 . rename_i e;split at h
   . rename_i hk;rw[@yj noSym,decide_eq_true_eq]at hk;rw[(@zp (linSym J K) Y e u).1 hu];show Value.int e.k (evE J e)=_;rw[hk]; rfl
   . cases h
 . rename_i n;exact(@zT (linSym J K) Y n u).1 hu
 . cases h
theorem zBh{x a:CV}(h:zGa x a=true):(∃p,zKo x=some p)/\(∃p,zKo a=some p)/\x8 J x=x8 J a:=by
 unfold zGa at h;split at h
 . rename_i p q hp hq;rw[Bool.and_eq_true]at h;have h1:=h.1;rw[@zX noSym,decide_eq_true_eq]at h1;refine⟨⟨_,hp⟩,⟨_,hq⟩,?_⟩;rw[zMM hp,zMM hq,h1,uo h.2]
 . cases h
theorem zOZ{Y:Psi}{a b c:CV}{u v:Value}(hu:@zG (linSym J K) Y a u)(hv:@zG (linSym J K) Y b v):∀{rs:List SRule},(∀r∈rs,zi J r)->mxR a b rs=some c ->
 ∃x y,u=.int .i64 x/\v=.int .i64 y/\@zG (linSym J K) Y c (.int .i64 (max x y))
 | [],_,h=>by cases h|r::rs,hr,h=>by
  unfold mxR at h;split at h
  . rename_i x y ho hv';split at h
    . rename_i hc;injection h with h; subst h;have hR:=hr r (by simp);unfold zi at hR;rw[ho]at hR;have hR:ua J r:=hR;unfold ua at hR;rw[hv']at hR;have hR:evE J r.x=max (x8 J x) (x8 J y):=hR;rw[Bool.and_eq_true,Bool.or_eq_true,Bool.and_eq_true,Bool.and_eq_true,@yj noSym,decide_eq_true_eq]at hc;have hres:@zG (linSym J K) Y (.sym r.x) (.int .i64 (evE J r.x)):=by refine(@zp (linSym J K) Y r.x _).2 ?_;show _=Value.int r.x.k (evE J r.x);rw[hc.1]
      rcases hc.2 with⟨h1,h2⟩ |⟨h1,h2⟩
      . obtain⟨_,⟨_,q1⟩,q2⟩:=zBh (J:=J) h1;obtain⟨_,⟨_,q3⟩,q4⟩:=zBh (J:=J) h2;refine⟨x8 J a,x8 J b,zBc q1 hu,zBc q3 hv,?_⟩;rw[<- q2,<- q4,<- hR]; exact hres
      . obtain⟨_,⟨_,q1⟩,q2⟩:=zBh (J:=J) h1;obtain⟨_,⟨_,q3⟩,q4⟩:=zBh (J:=J) h2;refine⟨x8 J a,x8 J b,zBc q3 hu,zBc q1 hv,?_⟩;rw[<- q2,<- q4,Int.max_comm,<- hR]; exact hres
    . exact zOZ hu hv (λr h=>hr r (by simp[h])) h
  . exact zOZ hu hv (λr h=>hr r (by simp[h])) h
theorem zLT{a:CV}:∀{m m':List CV},zQB a m=some m'->(∃p,zKo a=some p)/\(x8 J a::yc J m').Perm (yc J m)
 | [],_,h=>by cases h|x::r,m',h=>by
  unfold zQB at h;split at h
  . rename_i hs;injection h with h; subst h;obtain⟨_,q1,q2⟩:=zBh (J:=J) hs;refine⟨q1,?_⟩;show(x8 J a::yc J r).Perm (x8 J x::yc J r);rw[q2]
  . split at h
    . rename_i l hl;injection h with h; subst h;obtain⟨q1,q2⟩:=zLT hl;refine⟨q1,?_⟩;show(x8 J a::x8 J x::yc J l).Perm (x8 J x::yc J r);exact(List.Perm.swap _ _ _).trans (q2.cons _)
    . cases h
theorem zNk{Y:Psi}:∀{l m:List CV} {vs:List Value},zPn l m=true->@zP (linSym J K) Y l vs->∃zs:List Int,vs=zs.map (Value.int .i64)/\zs.Perm (yc J m)
 | [],[],vs,_,h=>by rw[@zM (linSym J K)]at h;exact⟨[],h,List.Perm.refl _⟩| [],_::_,_,h,_=>by cases h|a::l,m,vs,h,hv=>by
  unfold zPn at h;split at h
  . rename_i m' hm;obtain⟨v,r,rfl,h1,h2⟩:=(@za (linSym J K) _ _ _ _).1 hv;obtain⟨⟨p,hp⟩,q2⟩:=zLT (J:=J) hm;obtain⟨zs,rfl,q3⟩:=zNk h h2;exact⟨x8 J a::zs,by rw[zBc hp h1]; rfl,(q3.cons _).trans q2⟩
  . cases h
theorem zIL{Y:Psi}:∀{l:List CV},zCS l=true->@zP (linSym J K) Y l ((yc J l).map (Value.int .i64))
 | [],_=>(@zM (linSym J K) _ _).2 rfl|c::r,h=>by
  unfold zCS at h;rw[Bool.and_eq_true]at h;refine(@zW (linSym J K) _ _ _ _ _).2 ⟨?_,zIL h.2⟩;have h1:=h.1;unfold zXS at h1;split at h1
  . rename_i e;rw[@yj noSym,decide_eq_true_eq]at h1;refine(@zp (linSym J K) Y e _).2 ?_;show Value.int .i64 (evE J e)=Value.int e.k (evE J e);rw[h1]
  . cases h1
theorem zHm:∀{l:List CV} {n:Nat},zCS l=true->zCS (l.take n)=true
 | [],n,_=>by simp[zCS]|c::r,0,_=>rfl|c::r,n+1,h=>by unfold zCS at h;rw[Bool.and_eq_true]at h;show(zXS c&&zCS (r.take n))=true;rw[h.1,zHm h.2]; rfl
theorem zR0{a b:List Int}(h:a.Perm b):a.mergeSort (λx y=>decide (x<=y))=b.mergeSort λx y=>decide (x<=y):=by
 have tr:∀x y z:Int,decide (x<=y)=true->decide (y<=z)=true->decide (x<=z)=true:=by
  intro x y z h1 h2;simp only[decide_eq_true_eq]at *
  omega
 have to:∀x y:Int,(decide (x<=y) || decide (y<=x))=true:=by intro x y;simp only[Bool.or_eq_true,decide_eq_true_eq];omega
 refine List.Perm.eq_of_pairwise (le:=λx y=>x<=y) (λx y _ _ h1 h2=>by omega) ?_ ?_ (((List.mergeSort_perm a _).trans h).trans (List.mergeSort_perm b _).symm)
 . exact(List.pairwise_mergeSort tr to a).imp λh=>by simpa using h
 . exact(List.pairwise_mergeSort tr to b).imp λh=>by simpa using h
theorem zKt{Y:Psi}{l m:List CV}{vs:List Value}(hv:@zP (linSym J K) Y l vs):∀{rs:List SRule},(∀r∈rs,zi J r)->zT1 l rs=some m ->
 ∃zs:List Int,vs=zs.map (Value.int .i64)/\@zP (linSym J K) Y m ((zs.mergeSort λa b=>decide (a<=b)).map (Value.int .i64))
 | [],_,h=>by cases h|r::rs,hr,h=>by
  unfold zT1 at h;split at h
  . rename_i w ho hv';split at h
    . rename_i hc;injection h with h; subst h;have hR:=hr r (by simp);unfold zi at hR;rw[ho]at hR;have hR:zAb J r:=hR;unfold zAb at hR;rw[hv']at hR;have hR:(yc J w).take r.c=((yc J w).drop r.c).mergeSort λa b=>decide (a<=b):=hR;rw[Bool.and_eq_true]at hc;obtain⟨zs,rfl,hp⟩:=zNk hc.2 hv;refine⟨zs,rfl,?_⟩;have e1:yc J (w.drop r.c)=(yc J w).drop r.c:=List.map_drop;have e2:yc J (w.take r.c)=(yc J w).take r.c:=List.map_take;rw[zR0 hp,e1,<- hR,<- e2];exact zIL (zHm hc.1)
    . exact zKt hv (λr h=>hr r (by simp[h])) h
  . exact zKt hv (λr h=>hr r (by simp[h])) h
theorem yn(hK:KnownOk J K):@SymFact (linSym J K) P:=by
 refine @SymFact.mk (linSym J K) P ⟨λop x y l hb Y t u v w hu hv=>?_,λk x l hb Y u hu=>?_⟩ (λk ks hi Y v vs hv hvs=>zRk P hK hi hv hvs) (λa b c h Y u v hu hv=>zOZ hu hv hK.rules h) (λl m h Y vs hv=>zKt hv hK.rules h)
 . have hb:zOE K op x y=some l:=hb;unfold zOE at hb;split at hb
   . rename_i a b;obtain⟨s1,rfl,h1⟩:=(@ya (linSym J K) _ _ _).1 hu;obtain⟨s2,rfl,h2⟩:=(@ya (linSym J K) _ _ _).1 hv;exact⟨.inr ⟨_,rfl⟩,zEn hK hb t w h1 h2⟩
   . rename_i a b;obtain⟨s1,rfl,h1⟩:=(@ya (linSym J K) _ _ _).1 hu;obtain⟨s2,rfl,rfl⟩:=(@zg (linSym J K) _ _ _).1 hv;exact⟨.inr ⟨_,rfl⟩,zEn hK hb t w h1 (zMJ s2)⟩
   . rename_i a b;obtain⟨s1,rfl,rfl⟩:=(@zg (linSym J K) _ _ _).1 hu;obtain⟨s2,rfl,h2⟩:=(@ya (linSym J K) _ _ _).1 hv;exact⟨.inr ⟨_,rfl⟩,zEn hK hb t w (zMJ s1) h2⟩
   . exact zI1 hK hb t w hu hv
   . exact zI1 hK hb t w hu hv
   . rename_i k e _;obtain⟨n,rfl⟩:=(@yo (linSym J K) _ _ _).1 hu;have hv:v=.int e.k (evE J e):=(@zp (linSym J K) Y e v).1 hv;subst hv;refine⟨.inl ⟨_,_,rfl⟩,?_⟩;split at hb
     . split at hb
       . rename_i q hq;split at hb
         . rename_i hge;injection hb with hb; subst hb;obtain⟨h1,_⟩:=yt hK hq;obtain⟨m,hm⟩:∃m:Nat,evE J e=Int.ofNat m:=⟨(evE J e).toNat,by unfold evE; rw[Int.ofNat_eq_natCast]; omega⟩
           rw[hm];obtain⟨z,hz⟩:∃z,yR .shr k n (.ofNat m)=some (mkInt k z)\/yR .shr k n (.ofNat m)=some (j6 k z.toNat):=by
            cases n with
            |ofNat a=>exact⟨.ofNat (Nat.div a (Nat.pow 2 (min m k.bits))),.inr rfl⟩|negSucc a=>exact⟨_,.inl rfl⟩
           have fin:∀{c:CV},yR .shr k n (.ofNat m)=some c->(∀z,@zG (linSym J K) Y c z->∃j,z=.int k j)->∃z,(binOp .shr t (.int k n) (.int e.k (.ofNat m))).run P w=.ok z w/\∃c∈[CV.anyi k],@zG (linSym J K) Y c z:=by intro c hc hz;obtain⟨y',g1,g2⟩:=@k8 (linSym J K) P Y .shr k e.k n (.ofNat m) c t w (.inr rfl) hc;exact⟨y',g1,_,List.mem_singleton.2 rfl,(@yo (linSym J K) _ _ _).2 (hz y' g2)⟩
           rcases hz with hz |hz
           . exact fin hz λy hy=>⟨_,@jL (linSym J K) Y k _ y hy⟩
           . exact fin hz λy hy=>⟨_,@zBB (linSym J K) Y k _ y hy⟩
         . cases hb
       . cases hb
     . cases hb
   . split at hb
     . rename_i l' hl;injection hb with hb; subst hb;exact zEI hK hl Y t u v w hu hv
     . split at hb
       . rename_i l' hl;injection hb with hb; subst hb;exact zOw hK hl t w hu hv
       . exact zR2 hK hb t w hu hv
 . have hb:zSW K k x=some l:=hb;unfold zSW at hb;split at hb
   . rename_i j a m hx;split at hb
     . rename_i hf;injection hb with hb; subst hb;have eu:=qk x hx hu;refine⟨j,_,eu,_,List.mem_singleton.2 rfl,?_⟩;rw[<- @xM noSym,zKA hK hf];exact zDK k a m
     . exact⟨j,_,qk x hx hu,zNz hK hb⟩
   . cases hb
end
end
end Go.Ev
namespace Go.Ev
noncomputable section
variable{P:Program}
theorem zTq:@SymFact noSym P:=@SymFact.mk noSym P ⟨λ_ _ _ _ h=>(by cases h),λ_ _ _ h=>(by cases h)⟩ (λ_ _ h=>by cases h) (λ_ _ _ h=>by cases h) (λ_ _ h=>by cases h)
def sv(i:Nat):SE:=⟨.i64,.ofNat 0,[(i,1)]⟩
theorem xn(J:Nat->Int)(i:Nat):evE J (sv i)=J i:=by show(0:Int)+(1*J i+0)=J i;omega
theorem zFG{J:Nat->Int}{K:zU}{Y:Psi}{i:Nat}:@zG (linSym J K) Y (.sym (sv i)) (.int .i64 (J i)):=by rw[@zp (linSym J K)];show Value.int .i64 (J i)=.int .i64 (evE J (sv i));rw[xn]
def ListOk(P:Program)(k:Nat):List CFn->Prop
 | []=>True|c::r=>(c=compFn P k\/c=zPF (compFn P k)\/∃b,c=.bad b)/\ListOk P (k+1) r
def ListsOk(P:Program)(j:Nat):List (List CFn)->Prop
 | []=>True|l::r=>ListOk P (32*j) l/\ListsOk P (j+1) r
def zWg(l:List CFn)(k:Nat):Option CFn:=
 List.rec (motive:=λ_=>Nat->Option CFn) (λ_=>none) (λx _ ih k=>Nat.rec (motive:=λ_=>Option CFn) (some x) (λk _=>ih k) k) l k
def zVr(l:List (List CFn))(k:Nat):Option (List CFn):=
 List.rec (motive:=λ_=>Nat->Option (List CFn)) (λ_=>none) (λx _ ih k=>Nat.rec (motive:=λ_=>Option (List CFn)) (some x) (λk _=>ih k) k) l k
def codeOf(css:List (List CFn))(f:FuncId):CFn:=
 Option.rec (motive:=λ_=>CFn) (.bad 0) (λl=>Option.rec (motive:=λ_=>CFn) (.bad 0) (λc=>c) (zWg l (Nat.mod f 32))) (zVr css (Nat.div f 32))
theorem zQa{c:CFn}:∀{l:List CFn} {k i:Nat},ListOk P k l->zWg l i=some c->c=compFn P (k+i)\/c=zPF (compFn P (k+i))\/∃b,c=.bad b
 | [],_,_,_,h=>by cases h|x::l,k,0,hl,h=>by injection h with h;subst h;exact hl.1
 |x::l,k,i+1,hl,h=>by
  have:=zQa (k:=k+1) (i:=i) hl.2 h
  rw[show k+(i+1)=k+1+i from by omega];exact this
theorem zPr{c:List CFn}:∀{l:List (List CFn)} {k i:Nat},ListsOk P k l->zVr l i=some c->ListOk P (32*(k+i)) c
 | [],_,_,_,h=>by cases h|x::l,k,0,hl,h=>by injection h with h;subst h;exact hl.1
 |x::l,k,i+1,hl,h=>by
  have:=zPr (k:=k+1) (i:=i) hl.2 h
  rw[show k+(i+1)=k+1+i from by omega];exact this
theorem zKy(css:List (List CFn))(f:FuncId):codeOf css f=.bad 0\/∃l c,zVr css (Nat.div f 32)=some l/\zWg l (Nat.mod f 32)=some c/\codeOf css f=c:=by
 unfold codeOf;cases h1:zVr css (Nat.div f 32)with
 |none=>exact .inl rfl|some l=>
  simp only;cases h2:zWg l (Nat.mod f 32)with
  |none=>exact .inl rfl|some c=>exact .inr ⟨l,c,rfl,h2,rfl⟩
theorem codeOf_ok{css:List (List CFn)}(h:ListsOk P 0 css):CodeOk P (codeOf css):=by
 intro f;rcases zKy css f with e |⟨l,c,h1,h2,e⟩
 . exact .inr (.inr ⟨0,e⟩)
 . have:=zQa (zPr h h1) h2
   have e':32*(0+Nat.div f 32)+Nat.mod f 32=f:=by rw[Nat.zero_add]; exact Nat.div_add_mod f 32
   rw[e']at this;rw[e]; exact this
def zUB:NatF:=λ_ d args h n=>match d,args with
 |false,[]=>.ret (.bool true) h n|_,_=>.err 404
structure TrueFn(P:Program)(f:FuncId):Prop where
 enter:∀args w,(callFunc f args).run P w=.ok (.enter f args) w
 calls:∀w:World,Calls P f #[] w λe w'=>e=.returned (.bool true)/\RowKit.Below w.heap.size w w'
def natT(f:FuncId)(nat:Nats):Nats:=λg=>Bool.rec (motive:=λ_=>Option NatF) (nat g) (some zUB) (Nat.beq g f)
theorem natT_ok[Sym][SymFact P]{f:FuncId}{nat:Nats}(hf:TrueFn P f)(hn:NatsOk P nat):NatsOk P (natT f nat):=by
 have key:∀g q,natT f nat g=some q->(g=f/\q=zUB)\/nat g=some q:=by
  intro g q h;unfold natT at h;cases e:Nat.beq g f with
  |true=>rw[e]at h;injection h with h;exact .inl ⟨ze e,h.symm⟩
  |false=>rw[e]at h; exact .inr h
 refine⟨λg q hg d args h n=>?_,λg q hg args h n Y w args' h1 h2 h3 h4 hc=>?_,λg q hg args h n Y w args' h1 h2 h3 h4 hc=>?_⟩
 . rcases key g q hg with⟨rfl,rfl⟩ |hg
   . unfold zUB;split
     . exact Nat.le_refl _
     . trivial
   . exact hn.above g q hg d args h n
 . rcases key g q hg with⟨rfl,rfl⟩ |hg
   . cases args with
     |cons a l=>exact hc.elim|nil=>
      rw[zM]at h1;obtain rfl:args'=#[]:=by cases args'; simp_all
      unfold yS;rw[hf.enter];exact Calls.mono (hf.calls w) λe w' ⟨e1,hb⟩=>⟨_,e1,Y,jp h3 hb,zL.2 rfl⟩
   . exact hn.calls g q hg args h n Y w args' h1 h2 h3 h4 hc
 . rcases key g q hg with⟨rfl,rfl⟩ |hg
   . exact hc.elim
   . exact hn.defers g q hg args h n Y w args' h1 h2 h3 h4 hc
theorem calls_lin{code:FuncId->CFn}{nat:Nats}{fuel:Nat}{f:FuncId}{fn:Func}{c:Code}{args:List CV}{args':Array Value}{G:Nat}{n:Key}{J:Nat->Int}{K:zU}(hK:KnownOk J K)
 (hm:P.follows .mixedOrders=true) (hcode:CodeOk P code) (hnat:∀J K,KnownOk J K->@NatsOk (linSym J K) P nat) (hf:P.funcs[f]? = some fn) (hname:(fn.name == "runtime.NumGoroutine")=false) (hb:fn.body=some c) (hG:P.globals.size<=G) (hn:G<=n.ix)
 (hargs:@zP (linSym J K) (zH7 G) args args'.toList) (hrun:allTrue (@ev (linSym J K) P code nat fuel false f args .nil n)=true) (w:World) :
 Calls P f args' w λe w'=>e=.returned (.bool true)/\RowKit.Below w.heap.size w w':=
 @zN9 (linSym J K) P (yn hK) code nat fuel f fn c args args' G n hm hcode (hnat J K hK) hf hname hb hG hn hargs hrun w
def rulesK(l:List SRule):zU:=⟨[],[],l,λ_=>none⟩
theorem rulesK_ok{J:Nat->Int}{l:List SRule}(h:∀r∈l,zi J r):KnownOk J (rulesK l):=
 ⟨λ_ _ h=>(by cases h),λ_ h=>(by cases h),h⟩
def rv(op:BinOp)(i c:Nat)(v:CV):SRule:=⟨op,sv i,c,v⟩
theorem zE7{J:Nat->Int}{op:BinOp}{i c:Nat}{v:CV}(h:yR op .i64 (J i) (.ofNat c)=some v)(ho:zCG op=true:=by rfl):zi J (rv op i c v):=by refine(vT ho).2 ?_;refine⟨v,.inl rfl,?_,.inl rfl⟩;show yR op .i64 (evE J (sv i)) _=_;rw[xn]; exact h
theorem zRp(q:Int)(m:Nat)(hm:m<=127):∃j,j<=m/\yR .and .i64 q (.ofNat m)=some (mkInt .i64 (.ofNat j)):=by obtain⟨j,h1,h2⟩:=@zHu noSym .i64 q m hm;refine⟨j,h1,?_⟩;show some (mkInt .i64 (yz .i64 (.ofNat (Nat.land (toU .i64 q) (toU .i64 (.ofNat m))))))=_;rw[h2]
theorem uu(q:Int)(m:Nat):∃z:Int,z.natAbs<=m/\yR .rem .i64 q (.ofNat (m+1))=some (mkInt .i64 z):=by refine⟨q.tmod (.ofNat (m+1)),@zCr noSym q m,?_⟩;show Bool.rec (motive:=λ_=>Option CV) (some (mkInt .i64 (q.tmod (.ofNat (m+1))))) none (zm (.ofNat (m+1)) (.ofNat 0))=_;rw[@zX noSym,decide_eq_false (by intro h; injection h with h; cases h)]
theorem zRE(q:Int)(m:Nat):∃z:Int,yR .shr .i64 q (.ofNat m)=some (mkInt .i64 z):=by
 cases q with
 |ofNat a=>exact⟨.ofNat (Nat.div a (Nat.pow 2 (min m IntKind.i64.bits))),rfl⟩|negSucc a=>exact⟨_,rfl⟩
theorem zHY{J:Nat->Int}{op:BinOp}{i c k:Nat}(h:yR op .i64 (J i) (.ofNat c)=some (mkInt .i64 (J k)))(ho:zCG op=true:=by rfl):zi J (rv op i c (.sym (sv k))):=by refine(vT ho).2 ?_;refine⟨_,.inl rfl,?_,.inr ⟨sv k,rfl,rfl⟩⟩;show yR op .i64 (evE J (sv i)) _=some (mkInt .i64 (evE J (sv k)));rw[xn,xn]; exact h
def zk(J:Nat->Int):Nat->List (Int × Int)->Prop
 |_,[]=>True|i,q::r=>(q.1<=J i/\J i<=q.2)/\zk J (i+1) r
def xI(J:Nat->Int):List (LL × Int × Int)->Prop
 | []=>True|q::r=>(q.2.1<=evL J q.1/\evL J q.1<=q.2.2)/\xI J r
def yV(J:Nat->Int):List SRule->Prop
 | []=>True|q::r=>zi J q/\yV J r
theorem zHR{J:Nat->Int}{q:Int × Int}:∀{l:List (Int × Int)} {k i:Nat},zk J k l->nth l i=some q->q.1<=J (k+i)/\J (k+i)<=q.2
 | [],_,_,_,h=>by cases h|x::l,k,0,hl,h=>by injection h with h;subst h;exact hl.1
 |x::l,k,i+1,hl,h=>by
  have:=zHR (k:=k+1) (i:=i) hl.2 h
  rw[show k+(i+1)=k+1+i from by omega];exact this
theorem zIC{J:Nat->Int}:∀{l:List (LL × Int × Int)},xI J l->∀q∈l,q.2.1<=evL J q.1/\evL J q.1<=q.2.2
 |_::_,hl,q,h=>by
  rcases List.mem_cons.1 h with rfl |h
  . exact hl.1
  . exact zIC hl.2 q h
theorem zJw{J:Nat->Int}:∀{l:List SRule},yV J l->∀r∈l,zi J r
 |_::_,hl,q,h=>by
  rcases List.mem_cons.1 h with rfl |h
  . exact hl.1
  . exact zJw hl.2 q h
theorem zBY{J:Nat->Int}{A:Key->Option Value}{b:List (Int × Int)}{f:List (LL × Int × Int)}{r:List SRule}(hb:zk J 0 b)(hf:xI J f)(hr:yV J r):KnownOk J ⟨b,f,r,A⟩:=
 ⟨λi q h=>by have:=zHR hb h; rwa [Nat.zero_add]at this,zIC hf,zJw hr⟩
theorem rels0{J:Nat->Int}{K:zU}{Y:Psi}:@zP (linSym J K) Y [] []:=(@zM (linSym J K) _ _).2 rfl
theorem relsI{J:Nat->Int}{K:zU}{Y:Psi}{i:Nat}{l:List CV}{m:List Value}(h:@zP (linSym J K) Y l m):@zP (linSym J K) Y (.sym (sv i)::l) (.int .i64 (J i)::m):=
 (@zW (linSym J K) _ _ _ _ _).2 ⟨zFG,h⟩
end
end Go.Ev
namespace Go.Ev
variable[Sym]
open Go.RowKit Go.Maps
noncomputable section
variable{P:Program}
def ltI(x y:CV):Option Bool:=match Sym.bin .lss x y with
 |some [.bool b]=>some b|_=>none
def zU8(x:CV):List CV->Option (List CV)
 | []=>some [x]|y::r=>match ltI y x with
  |some true=>match zU8 x r with
   |some l=>some (y::l)|none=>none
  |some false=>some (x::y::r)|none=>none
def zQe:List CE->Option (List CV)
 | []=>some []|e::r=>match zQe r with
  |some l=>zU8 e.key l|none=>none
def zTQ(v:CV):Bool:=match Sym.bin .geq v (.nat 0),Sym.bin .leq v (.nat 9223372036854775807)with
 |some [.bool true],some [.bool true]=>true|_,_=>false
def zFO(e:CE):List CE->Bool
 | []=>true|x::r=>!Nat.beq x.born e.born&&(match Sym.bin .eql x.key e.key with
  |some [.bool false]=>true|_=>false)&&zFO e r
def zKh(clock:Nat):List CE->Bool
 | []=>true|e::r=>zTQ e.key&&Nat.ble (Nat.succ e.born) clock&&zFO e r&&zKh clock r
def zN5(d:Bool)(args:List CV)(h:zC)(n:Key):R:=match d with
 |true=>.err 412|false=>match args with
  | [.ptr c off]=>match zb c h with
   |some (.cells vs)=>match zA6 vs off with
    |some (.map b)=>match zb b h with
     |some (.map es clock)=>match zKh clock es&&Nat.ble (zRo es) 1000000 with
      |true=>match zQe es with
       |some []=>.ret .nilsl h n|some (k::ks)=>uf (Nat.succ ks.length) λm=>.ret (.sl n 0 m m 1 false) (yy (some (.cells (k::ks))) n h) n.succ
       |none=>.err 417
      |false=>.err 413
     |_=>.err 410
    |_=>.err 414
   |_=>.err 415
  |_=>.err 411
def allN:NatF:=λS=>@zN5 S
variable[SymFact P]
theorem zC4(P:Program)[SymFact P]{Y:Psi}{op:BinOp}{x y:CV}{b:Bool}{u v:Value}(w:World)(h:Sym.bin op x y=some [.bool b])(hx:zG Y x u)(hy:zG Y y v) :
 ((∃k q,u=.int k q)\/∃s,u=.string s)/\(binOp op 0 u v).run P w=.ok (.bool b) w:=by
 obtain⟨h1,z,h2,c,h3,h4⟩:=(SymFact.ok (P:=P)).1 op x y _ h Y 0 u v w hx hy;obtain rfl:c=.bool b:=by simpa using h3
 rw[zL.1 h4]at h2;exact⟨h1,h2⟩
theorem zR4(P:Program)[SymFact P]{Y:Psi}{x:CV}{u:Value}(h:zTQ x=true)(hx:zG Y x u):∃z:Int,u=.int .i64 z/\0<=z/\z<=9223372036854775807:=by
 unfold zTQ at h;split at h
 . rename_i h1 h2;obtain⟨g1,g2⟩:=zC4 P (u:=u) (v:=.int .i64 (Int.ofNat 0)) default h1 hx (zT.2 rfl);obtain⟨_,g4⟩:=zC4 P (u:=u) (v:=.int .i64 (Int.ofNat 9223372036854775807)) default h2 hx (zT.2 rfl);rcases g1 with⟨k,q,rfl⟩ |⟨s,rfl⟩
   . by_cases ek:k=.i64
     . subst ek;have e1:(0:Int)<=q:=by simpa [binOp,Op.intCmp]using g2
       have e2:q<=(9223372036854775807:Int):=by simpa [binOp,Op.intCmp]using g4
       exact⟨q,rfl,e1,e2⟩
     . simp[binOp,ek]at g2
   . simp[binOp]at g2
 . cases h
theorem zPJ(P:Program)[SymFact P]{Y:Psi}{x y:CV}{a c:Int}{b:Bool}(h:ltI x y=some b)(hx:zG Y x (.int .i64 a))(hy:zG Y y (.int .i64 c)):b=decide (a<c):=by
 unfold ltI at h;split at h
 . rename_i b' hb;injection h with h; subst h
   have:=(zC4 P default hb hx hy).2
   have:decide (a<c)=b':=by simpa [binOp,Op.intCmp]using this
   exact this.symm
 . cases h
theorem zMU(P:Program)[SymFact P]{Y:Psi}{x:CV}{z:Int}(hx:zG Y x (.int .i64 z)):∀{l r:List CV} {zs:List Int},zP Y l (zs.map (Value.int .i64))->zU8 x l=some r ->
 ∃ms:List Int,zP Y r (ms.map (Value.int .i64))/\ms.Perm (z::zs)/\(zs.Pairwise (λa b=>a<=b)->ms.Pairwise (λa b=>a<=b))
 | [],r,zs,hl,h=>by
  injection h with h; subst h;have hz:zs=[]:=by
   have:=zM.1 hl
   simpa using this
  subst hz;exact⟨[z],zW.2 ⟨hx,zM.2 rfl⟩,List.Perm.refl _,λ_=>by simp⟩
 |y::l,r,zs,hl,h=>by
  cases zs with
  |nil=>obtain⟨_,_,e,_⟩:=za.1 hl;cases e
  |cons z' zs=>
   rw[List.map_cons,zW]at hl;unfold zU8 at h;split at h
   . rename_i hlt;have hlt:=zPJ P hlt hl.1 hx;split at h
     . rename_i l' hl';injection h with h; subst h;obtain⟨ms,h1,h2,h3⟩:=zMU P hx hl.2 hl';refine⟨z'::ms,zW.2 ⟨hl.1,h1⟩,(List.Perm.cons z' h2).trans (List.Perm.swap z z' zs),λhp=>?_⟩;rw[List.pairwise_cons]at hp ⊢;refine⟨λq hq=>?_,h3 hp.2⟩;rcases List.mem_cons.1 (h2.mem_iff.1 hq)with rfl |hq
       . have:z'<q:=by simpa using hlt.symm
         omega
       . exact hp.1 q hq
     . cases h
   . rename_i hlt;have hlt:=zPJ P hlt hl.1 hx;injection h with h; subst h;refine⟨z::z'::zs,zW.2 ⟨hx,zW.2 hl⟩,List.Perm.refl _,λhp=>?_⟩;have hle:¬(z'<z):=by simpa using hlt.symm
     refine List.pairwise_cons.2 ⟨λq hq=>?_,hp⟩;rcases List.mem_cons.1 hq with rfl |hq
     . omega
     . have:=(List.pairwise_cons.1 hp).1 q hq
       omega
   . cases h
theorem zEx(P:Program)[SymFact P]{Y:Psi}{ck:Nat->Nat}:∀{es:List CE} {l:List MapEntry} {zs:List Int} {r:List CV},yI Y ck es l->l.map (λe=>e.key)=zs.map (Value.int .i64)->zQe es=some r ->
 ∃ms:List Int,zP Y r (ms.map (Value.int .i64))/\ms.Perm zs/\ms.Pairwise (λa b=>a<=b)
 | [],l,zs,r,hl,hz,h=>by
  injection h with h; subst h;have hl:l=[]:=hl;subst hl
  have:zs=[]:=by simpa using hz.symm
  subst this;exact⟨[],zM.2 rfl,List.Perm.refl _,List.Pairwise.nil⟩
 |e::es,l,zs,r,hl,hz,h=>by
  obtain⟨x,l',rfl,hx,hr⟩:=hl;cases zs with
  |nil=>cases hz|cons z zs=>
   rw[List.map_cons,List.map_cons]at hz;injection hz with hz1 hz2;unfold zQe at h;split at h
   . rename_i q hq;obtain⟨ms,h1,h2,h3⟩:=zEx P hr hz2 hq;obtain⟨ms',g1,g2,g3⟩:=zMU P (by rw[<- hz1]; exact hx.1) h1 h;exact⟨ms',g1,g2.trans (List.Perm.cons z h2),g3 h3⟩
   . cases h
theorem zDn(P:Program)[SymFact P]{Y:Psi}{ck:Nat->Nat}(hck:∀a b,ck a=ck b ↔ a=b){e:CE}{x:MapEntry}(hx:zD3 Y ck e x):∀{es:List CE} {l:List MapEntry},yI Y ck es l->zFO e es=true ->
 ∀y∈l,y.born≠x.born/\y.key≠x.key
 | [],l,h,_=>by have h:l=[]:=h;subst h; intro y hy; cases hy
 |c::es,l,h,hu=>by
  obtain⟨z,r,rfl,hz,hr⟩:=h;unfold zFO at hu;rw[Bool.and_eq_true,Bool.and_eq_true]at hu;intro y hy;rcases List.mem_cons.1 hy with rfl |hy
  . refine⟨λe1=>?_,λe1=>?_⟩
    . have:=hu.1.1
      rw[hz.2.2,hx.2.2,hck]at e1;rw[e1,qw]at this; cases this
    . have h2:=hu.1.2;split at h2
      . rename_i hb;obtain⟨g1,g2⟩:=zC4 P default hb hz.1 hx.1;rw[e1]at g1 g2;rcases g1 with⟨k,q,e2⟩ |⟨s,e2⟩ <;> rw[e2]at g2 <;> simp[binOp,Op.intCmp,Op.stringOp]at g2
      . cases h2
  . exact zDn P hck hx hr hu.2 y hy
theorem zI0(P:Program)[SymFact P]{Y:Psi}{ck:Nat->Nat}{clock:Nat}(hck:vd ck clock):∀{es:List CE} {l:List MapEntry},yI Y ck es l->zKh clock es=true ->
 ∃zs:List Int,l.map (λe=>e.key)=zs.map (Value.int .i64)/\(∀z∈zs,0<=z/\z<=9223372036854775807)/\(∀x∈l,x.born<ck clock)/\(l.map (λe=>e.born)).Nodup/\l.Pairwise (λx y=>x.key≠y.key)
 | [],l,h,_=>by have h:l=[]:=h;subst h;exact⟨[],rfl,by simp,by simp,by simp,List.Pairwise.nil⟩|c::es,l,h,hu=>by
  obtain⟨x,r,rfl,hx,hr⟩:=h;unfold zKh at hu;rw[Bool.and_eq_true,Bool.and_eq_true,Bool.and_eq_true]at hu;obtain⟨zs,h2,h3,h4,h5,h6⟩:=zI0 P hck hr hu.2;have hun:=zDn P (λ_ _=>hck.inj) hx hr hu.1.2;obtain⟨z,hz,hz0,hz1⟩:=zR4 P hu.1.1.1 hx.1;refine⟨z::zs,?_,?_,?_,?_,?_⟩
  . rw[List.map_cons,List.map_cons,h2,hz]
  . intro q hq;rcases List.mem_cons.1 hq with rfl |hq
    . exact⟨hz0,hz1⟩
    . exact h3 q hq
  . intro y hy;rcases List.mem_cons.1 hy with rfl |hy
    . rw[hx.2.2]; exact(hck.here _).1 (zH hu.1.1.2)
    . exact h4 y hy
  . show(x.born::r.map _).Nodup;refine List.nodup_cons.2 ⟨λhm=>?_,h5⟩;obtain⟨y,hy,e⟩:=List.mem_map.1 hm;exact(hun y hy).1 e
  . exact List.pairwise_cons.2 ⟨λy hy e=>(hun y hy).2 e.symm,h6⟩
structure AllFn(P:Program)(f:FuncId)(k:TypeId):Prop where
 enter:∀args w,(callFunc f args).run P w=.ok (.enter f args) w
 kint:P.underlying k=some (.int .i64)
 some_:∀(c o b nn:Nat) (D0:DataW Unit) (w:World),w.cell? ⟨c,o,none⟩=some (.map (some b))->w.ownsMap P k R0 b nn D0->Maps.size D0<=1000000 ->
  Calls P f #[.pointer (some ⟨c,o,none⟩)] w λe w'=>∃(v:Value) (ss:List Int),e=.returned v/\ss.Perm (intKeys D0) /\
   w'.ownsRow w.heap.size k 1 v ss.length ((ss.mergeSort (λx y=>decide (x<=y))).map (Value.int .i64))/\(v=.slice none 0 0 ↔ ss=[])/\Below w.heap.size w w'
theorem zRT(d:Bool)(args:List CV)(h:zC)(n:Key):zo n (zN5 d args h n):=by
 unfold zN5;split
 . trivial
 . split
   . split
     . split
       . split
         . split
           . split
             . exact Nat.le_refl _
             . rw[show ∀(m:Nat) (k:Nat->R),uf m k=k m from λm k=>by cases m <;> rfl];exact Key.ix_le_succ _
             . trivial
           . trivial
         . trivial
       . trivial
     . trivial
   . trivial
theorem zVO{f:FuncId}{k:TypeId}(hf:AllFn P f k){args:List CV}{h:zC}{n:Key}{Y:Psi}{w:World}{args':Array Value}(ha:zP Y args args'.toList)(hrel:Rel Y (zC.fam h) w)(hfr:qN Y n)
 (hc:zd (zN5 false args h n)):yS P f args' w (zr Y (zC.fam h) n w (zN5 false args h n)):=by
 unfold yS;rw[hf.enter];show Calls P f args' w λe w''=>∃v,e=.returned v/\zr Y (zC.fam h) n w (zN5 false args h n) v w'';unfold zN5 at hc ⊢;simp only at hc ⊢;split at hc
 . rename_i c off;rw[za]at ha;obtain⟨v,r,e1,hv,hr⟩:=ha;rw[zM]at hr; subst hr;rw[zx]at hv;obtain⟨pc,hpc,rfl⟩:=hv;obtain rfl:args'=#[.pointer (some ⟨pc.blk,pc.off+off,none⟩)]:=by cases args'; simp_all
   split at hc
   . rename_i vs hgc;split at hc
     . rename_i b hnth;split at hc
       . rename_i es clock hg;split at hc
         . rename_i hok;rw[Bool.and_eq_true]at hok;rw[qp]at hnth;obtain⟨carr,cel,cfz,c1,c2,c3,c4,c5⟩:yZ Y w pc vs:=hrel.on c (.cells vs) pc hgc hpc;obtain⟨mv,hmv,hmr⟩:=c5 off _ hnth;rw[xC]at hmr;obtain⟨p,hp,rfl⟩:=hmr;have hcell:w.cell? ⟨pc.blk,pc.off+off,none⟩=some (.map (some p.blk)):=by simp[World.cell?,c1,hmv]
           have ho:=hrel.on b (.map es clock) p hg hp;obtain⟨arr,hheap,hmi,hck⟩:=ho;obtain⟨l0,hp0,hce⟩:=hmi;obtain⟨zs0,g2,g3,g4,g5,g6⟩:=zI0 P hck hce hok.1;obtain⟨zs,hpk,h2⟩:=zEo (A:=arr.toList.map λe=>e.key) (f:=Value.int .i64) (l:=zs0) (by rw[<- g2]; exact(hp0.map _).symm);have h3:∀z∈zs,0<=z/\z<=9223372036854775807:=λz hz=>g3 z (hpk.mem_iff.1 hz);have h4:∀x∈arr.toList,x.born<p.ck clock:=λx hx=>g4 x (hp0.mem_iff.2 hx);have h5:=(hp0.map λe=>e.born).nodup_iff.1 g5;have h6:=(hp0.pairwise_iff λh e=>h e.symm).1 g6;have hlen:arr.size=es.length:=by
            have:=(show xg Y p.ck es arr.toList from⟨l0,hp0,hce⟩).length
            rwa [Array.length_toList]at this
           have hle:=zH hok.2;rw[zDv]at hle;have hread:∀x∈arr.toList,∃z:Int,z∈zs/\x.key=.int .i64 z/\Go.WideElems.rd P k R0 x=some (.int .i64 z,.nil):=by
            intro x hx;have hm:x.key∈zs.map (Value.int .i64):=by rw[<- h2]; exact List.mem_map.2 ⟨x,hx,rfl⟩
            obtain⟨z,hz,e⟩:=List.mem_map.1 hm;refine⟨z,hz,e.symm,?_⟩;obtain⟨g1,g2⟩:=h3 z hz;have hko:keyOf P k x.key=some (.int .i64 z):=by rw[<- e];exact Go.Maps.keyOf_int_mk hf.kint (by simp[Lit.wf,IntKind.min,IntKind.max,IntKind.signed,IntKind.bits]; omega)
            unfold Go.WideElems.rd;rw[hko];rfl
           have hfit:Go.WideElems.Fit P k R0 arr (p.ck clock):=by
            refine⟨by rw[hlen]; unfold maxLen; omega,?_,λx hx=>?_⟩
            . exact(Go.MapKept.stamped_iff arr (p.ck clock)).2 ⟨h4,h5,h6⟩
            . obtain⟨z,_,_,hr⟩:=hread x hx;exact⟨_,hr⟩
           have hown:w.ownsMap P k R0 p.blk arr.size (.map ((arr.toList.map (Go.WideElems.rg P k R0)).foldr DataW.insert [])):=⟨arr,p.ck clock,hheap,hfit,Nat.le_refl _,rfl⟩
           have hsize:Maps.size (DataW.map ((arr.toList.map (Go.WideElems.rg P k R0)).foldr DataW.insert []))=arr.size:=by
            rw[Maps.size_eq]
            have:=(Go.WideShapes.sorted_perm (arr.toList.map (Go.WideElems.rg P k R0))).length_eq
            rw[this]; simp
           have hkeys:(intKeys (DataW.map ((arr.toList.map (Go.WideElems.rg P k R0)).foldr DataW.insert []))).Perm zs:=by
            have hp1:((arr.toList.map (Go.WideElems.rg P k R0)).foldr DataW.insert []).Perm (arr.toList.map (Go.WideElems.rg P k R0)):=Go.WideShapes.sorted_perm _;refine(hp1.map λq=>Go.intOf q.1).trans ?_
            have:(arr.toList.map (Go.WideElems.rg P k R0)).map (λq=>Go.intOf q.1)=zs:=by
             have hinj:((arr.toList.map (Go.WideElems.rg P k R0)).map (λq=>Go.intOf q.1)).map (Value.int .i64)=zs.map (Value.int .i64):=by rw[<- h2,List.map_map,List.map_map];refine List.map_congr_left λx hx=>?_;obtain⟨z,_,e,hr⟩:=hread x hx;show Value.int .i64 (Go.intOf (Go.WideElems.rg P k R0 x).1)=x.key;unfold Go.WideElems.rg;rw[hr,e]; rfl
             have inj:∀(a b:List Int),a.map (Value.int .i64)=b.map (Value.int .i64)->a=b:=by
              intro a;induction a with
              |nil=>intro b h; cases b with
               |nil=>rfl|cons _ _=>cases h
              |cons x a ih=>intro b h; cases b with
               |nil=>cases h|cons y b=>injection h with e1 e2;injection e1 with _ e1;rw[e1,ih b e2]
             exact inj _ _ hinj
            rw[this]
           refine Calls.mono (hf.some_ pc.blk (pc.off+off) p.blk arr.size _ w hcell hown (by rw[hsize,hlen]; exact hle)) λe w' ⟨v,ss,e1,hperm,hrow,hnil,hbelow⟩=>⟨v,e1,?_⟩
           have hsorted:∀{ms:List Int},ms.Perm zs0->ms.Pairwise (λa b=>a<=b)->ms=ss.mergeSort λx y=>decide (x<=y):=by
            intro ms m1 m2;refine List.Perm.eq_of_pairwise (le:=λa b=>a<=b) (λa b _ _=>Int.le_antisymm) m2 ?_ (m1.trans (((hperm.trans hkeys).trans hpk).symm.trans (List.mergeSort_perm _ _).symm))
            have:=List.pairwise_mergeSort (le:=λx y:Int=>decide (x<=y)) (λa b c h h'=>decide_eq_true (Int.le_trans (of_decide_eq_true h) (of_decide_eq_true h')))
             (λa b=>by
               rcases Int.le_total a b with h |h
               . rw[decide_eq_true h]; rfl
               . rw[decide_eq_true h,Bool.or_true]) ss
            exact this.imp λh=>of_decide_eq_true h
           split at hc
           . rename_i hs;obtain⟨ms,m1,m2,m3⟩:=zEx P hce g2 hs;have hms:ms=[]:=by
              have:=zM.1 m1
              simpa using this
             have hss:ss=[]:=by
              have:=congrArg List.length (hsorted m2 m3)
              rw[hms,List.length_mergeSort]at this;exact List.length_eq_zero_iff.1 this.symm
             rw[hnil.2 hss];exact⟨Y,jp hrel hbelow,yD.2 rfl⟩
           . rename_i k0 ks0 hs;rw[show ∀(m:Nat) (k:Nat->R),uf m k=k m from λm k=>by cases m <;> rfl]at hc ⊢;obtain⟨ms,m1,m2,m3⟩:=zEx P hce g2 hs;have hms:=hsorted m2 m3;have hslen:ss.length=ks0.length+1:=by
              have:=congrArg List.length hms
              rw[List.length_mergeSort]at this;have hl:=m1.length;simp at hl;omega
             have hroom:n.room:=Key.room_of_succ (k:=n) hc;have hnone:=hfr n (Nat.le_refl _);rcases hrow.2 with⟨_,h0⟩ |⟨g,cap,cur,rfl,hge,hcell',hncap,hcapm,hcs,htake⟩
             . omega
             . have hle':=Psi.le_upd (Y:=Y) (k:=n) ⟨g,0,cur.size,λn=>n⟩ hnone;refine⟨Y.upd n ⟨g,0,cur.size,λn=>n⟩,?_,?_⟩
               . rw[z7];refine zGV (p:=⟨g,0,cur.size,λn=>n⟩) hrel hroom hnone hbelow hge ?_;refine⟨cur,k,(0,0),hcell',rfl,?_,.inl rfl,λi c hi=>?_⟩
                 . simp only[Nat.zero_add,List.length_cons]; omega
                 . obtain⟨u,hu,hur⟩:=m1.get hi;refine⟨u,?_,hur.mono hle'⟩;rw[<- hms]at htake;have hi':i<ss.length:=by
                    have:=(List.getElem?_eq_some_iff.1 hi).1
                    simp at this; omega
                   have:=congrArg (λl=>l[i]?) htake
                   simp only[List.getElem?_take]at this;rw[if_pos (by omega),hu]at this;rw[Array.getElem?_toList]at this;simpa using this
               . rw[yJ];refine⟨_,0,cap,Psi.upd_same _ _ _,by rw[hslen],?_,?_,by simp,.inl ⟨rfl,λ_=>?_⟩⟩
                 . omega
                 . omega
                 . simp only; omega
           . exact hc.elim
         . exact hc.elim
       . exact hc.elim
     . exact hc.elim
   . exact hc.elim
 . exact hc.elim
theorem nats_ok{nat:Nats}(hn:∀f g,nat f=some g->(g=namesN/\∃k,NamesFn P f k)\/(g=allN/\∃k,AllFn P f k)):NatsOk P nat:=by
 refine⟨λf g hg d args h n=>?_,λf g hg args h n Y w args' h1 h2 h3 h4 hc=>?_,λf g hg args h n Y w args' h1 h2 h3 h4 hc=>?_⟩
 . rcases hn f g hg with⟨rfl,_⟩ |⟨rfl,_⟩
   . exact zNx d args h n
   . exact zRT d args h n
 . rcases hn f g hg with⟨rfl,k,hf⟩ |⟨rfl,k,hf⟩
   . exact zRt hf h1 h3 h4 hc
   . exact zVO hf h1 h3 h4 hc
 . rcases hn f g hg with⟨rfl,_⟩ |⟨rfl,_⟩
   . exact hc.elim
   . exact hc.elim
end
end Go.Ev
namespace Go.Ev
open Go.RowKit
noncomputable section
variable[Sym]
variable{P:Program}
def zAG(lo hi:Nat)(v:CV):Bool:=match v with
 |.nat n=>Nat.ble lo n&&Nat.ble n hi|_=>false
def allNat(lo hi:Nat)(r:R):Bool:=R.rec (motive:=λ_=>Bool) (λ_ _ _ _ _=>false) (λv _ n=>Bool.rec (motive:=λ_=>Bool) false (Nat.ble (Nat.succ n.ix) 65535) (zAG lo hi v)) (λ_=>false)
 (λ_ _ a b=>Bool.rec (motive:=λ_=>Bool) false b a) r
theorem zJ6{lo hi:Nat}{v:CV}(h:zAG lo hi v=true):∃n,v=.nat n/\lo<=n/\n<=hi:=by
 unfold zAG at h;split at h
 . rw[Bool.and_eq_true]at h;exact⟨_,rfl,zH h.1,zH h.2⟩
 . cases h
theorem zAI{lo hi:Nat}:∀{r:R},allNat lo hi r=true->zd r
 |.ok ..,h=>by cases h|.ret v hh n,h=>by
  have h:Bool.rec (motive:=λ_=>Bool) false (Nat.ble (Nat.succ n.ix) 65535) (zAG lo hi v)=true:=h;cases hv:zAG lo hi v with
  |false=>rw[hv]at h; cases h|true=>rw[hv]at h; exact zH h
 |.err _,h=>by cases h|.fork a b,h=>by
  have h:Bool.rec (motive:=λ_=>Bool) false (allNat lo hi b) (allNat lo hi a)=true:=h;cases ha:allNat lo hi a with
  |false=>rw[ha]at h; cases h|true=>rw[ha]at h; exact⟨zAI ha,zAI h⟩
theorem zCJ{lo hi:Nat}{Y:Psi}{g:Fam}{n:Key}{w:World}{v:Value}{w':World}:∀{r:R},allNat lo hi r=true->zr Y g n w r v w'->(∃m:Nat,v=.int .i64 (Int.ofNat m)/\lo<=m/\m<=hi)/\∃Y' g' n',yF Y g n w Y' g' n' w'
 |.ok ..,h,_=>by cases h|.ret cv hh n',h,ho=>by
  have h:Bool.rec (motive:=λ_=>Bool) false (Nat.ble (Nat.succ n'.ix) 65535) (zAG lo hi cv)=true:=h;cases hv:zAG lo hi cv with
  |false=>rw[hv]at h; cases h|true=>obtain⟨Y',hp,hr⟩:=ho;obtain⟨m,e,h1,h2⟩:=zJ6 hv;rw[e,zT]at hr;exact⟨⟨m,hr,h1,h2⟩,Y',_,_,hp⟩
 |.err _,h,_=>by cases h|.fork a b,h,ho=>by
  have h:Bool.rec (motive:=λ_=>Bool) false (allNat lo hi b) (allNat lo hi a)=true:=h;cases ha:allNat lo hi a with
  |false=>rw[ha]at h; cases h|true=>
   rw[ha]at h;rcases ho with ho |ho
   . exact zCJ ha ho
   . exact zCJ h ho
variable[SymFact P]
theorem zIy{code:FuncId->CFn}{nat:Nats}{fuel:Nat}{f:FuncId}{fn:Func}{c:Code}{args:List CV}{args':Array Value}{G:Nat}{n:Key}{lo hi:Nat}(hm:P.follows .mixedOrders=true)(hcode:CodeOk P code)(hnat:NatsOk P nat)
 (hf:P.funcs[f]? = some fn) (hname:(fn.name == "runtime.NumGoroutine")=false) (hb:fn.body=some c) (hG:P.globals.size<=G) (hn:G<=n.ix) (hargs:zP (zH7 G) args args'.toList)
 (hrun:allNat lo hi (ev P code nat fuel false f args .nil n)=true) (w:World) :
 Calls P f args' w λe w'=>(∃m:Nat,e=.returned (.int .i64 (Int.ofNat m))/\lo<=m/\m<=hi)/\Below w.heap.size w w':=by
 have hok:=kZ (λcall hcall F N=>ym hm hcall) hcode hnat fuel;have h:=hok.calls f args .nil n (zH7 G) w args' hargs (zEF hG) (zLf _ _) (zCF hn) (zAI hrun);unfold yS at h;rw[run_callFunc_enter hf hname hb]at h;refine Calls.mono h λe w' ⟨v,e1,hr⟩=>?_;obtain⟨⟨m,rfl,h1,h2⟩,Y',g',n',hp⟩:=zCJ hrun hr;exact⟨⟨m,e1,h1,h2⟩,hp.os,hp.tape,hp.output,hp.size,λk hk=>hp.frame k hk λk o p hk' _ _=>by rw[zBP]at hk'; cases hk'⟩
def zPh(x:CV):Bool:=match x with
 |.anyi k=>kEq k .i64|x=>match Sym.bin .sub x x with
  |some [.nat 0]=>true|_=>false
theorem zJt(P:Program)[SymFact P]{Y:Psi}{x:CV}{u:Value}(h:zPh x=true)(hx:zG Y x u):∃z:Int,u=.int .i64 z:=by
 unfold zPh at h;split at h
 . rw[yo]at hx;rw[yj,decide_eq_true_eq]at h;subst h;exact hx
 . split at h
   . rename_i hb;obtain⟨h1,z,h2,c,h3,h4⟩:=(SymFact.ok (P:=P)).1 .sub x x _ hb Y 0 u u default hx hx;obtain rfl:c=.nat 0:=by simpa using h3
     rw[zT]at h4;subst h4;rcases h1 with⟨k,q,rfl⟩ |⟨s,rfl⟩
     . have:k=.i64:=by simp[binOp,Op.intArith]at h2;exact h2.1
       subst this;exact⟨q,rfl⟩
     . simp[binOp,Op.stringOp]at h2
   . cases h
def zSu(lo:Nat)(h:zC)(n:Key)(m:Nat):R:=Nat.rec (motive:=λ_=>R) (.ret (kM lo) h n) (λi ih=>.fork ih (.ret (kM (Nat.add lo (Nat.succ i))) h n)) m
def zDw(lo hi:Nat):List (Nat × Nat)->Bool
 | []=>false|p::l=>(Nat.beq p.1 lo&&Nat.beq p.2 hi) || zDw lo hi l
def zAB(ps:List (Nat × Nat))(d:Bool)(args:List CV)(h:zC)(n:Key):R:=match d with
 |true=>.err 422|false=>match args with
  | [x,.nat lo,.nat hi]=>match zPh x&&Nat.ble lo hi&&zDw lo hi ps with
   |true=>zSu lo h n (Nat.sub hi lo)|false=>.err 420
  |_=>.err 421
def zQD(ps:List (Nat × Nat)):NatF:=λS=>@zAB S ps
structure WithinFn(P:Program)(f:FuncId)(ps:List (Nat × Nat)):Prop where
 enter:∀args w,(callFunc f args).run P w=.ok (.enter f args) w
 calls:∀lo hi,zDw lo hi ps=true->∀(z:Int) (w:World),Calls P f #[.int .i64 z,.int .i64 (Int.ofNat lo),.int .i64 (Int.ofNat hi)] w λe w'=>(∃m:Nat,e=.returned (.int .i64 (Int.ofNat m))/\lo<=m/\m<=hi)/\Below w.heap.size w w'
theorem zFk(lo:Nat)(h:zC)(n:Key):∀m,zo n (zSu lo h n m)
 | 0=>Nat.le_refl _|m+1=>⟨zFk lo h n m,Nat.le_refl _⟩
theorem zJd{lo:Nat}{h:zC}{n:Key}{Y:Psi}{w w':World}(hp:yF Y (zC.fam h) n w Y (zC.fam h) n w'):∀{m k:Nat},lo<=k->k<=lo+m->zr Y (zC.fam h) n w (zSu lo h n m) (.int .i64 (Int.ofNat k)) w'
 | 0,k,h1,h2=>by
  obtain rfl:k=lo:=by omega
  exact⟨Y,hp,xx _⟩
 |m+1,k,h1,h2=>by
  by_cases e:k=lo+(m+1)
  . subst e;exact .inr ⟨Y,hp,xx _⟩
  . exact .inl (zJd hp h1 (by omega))
theorem zKT(ps:List (Nat × Nat))(d:Bool)(args:List CV)(h:zC)(n:Key):zo n (zAB ps d args h n):=by
 unfold zAB;split
 . trivial
 . split
   . split
     . exact zFk _ _ _ _
     . trivial
   . trivial
theorem zOI{f:FuncId}{ps:List (Nat × Nat)}(hf:WithinFn P f ps){args:List CV}{h:zC}{n:Key}{Y:Psi}{w:World}{args':Array Value}(ha:zP Y args args'.toList)(hrel:Rel Y (zC.fam h) w)
 (hc:zd (zAB ps false args h n)):yS P f args' w (zr Y (zC.fam h) n w (zAB ps false args h n)):=by
 unfold yS;rw[hf.enter];show Calls P f args' w λe w''=>∃v,e=.returned v/\zr Y (zC.fam h) n w (zAB ps false args h n) v w'';unfold zAB at hc ⊢;simp only at hc ⊢;split at hc
 . rename_i x lo hi;split at hc
   . rename_i hok;rw[Bool.and_eq_true,Bool.and_eq_true]at hok;rw[za]at ha;obtain⟨v1,r1,e1,hv1,ha⟩:=ha;rw[za]at ha;obtain⟨v2,r2,e2,hv2,ha⟩:=ha;rw[za]at ha;obtain⟨v3,r3,e3,hv3,ha⟩:=ha;rw[zM]at ha;subst ha e3 e2;rw[zT]at hv2 hv3;obtain⟨z,hz⟩:=zJt P hok.1.1 hv1;subst hv2 hv3 hz;obtain rfl:args'=#[.int .i64 z,.int .i64 (Int.ofNat lo),.int .i64 (Int.ofNat hi)]:=by cases args'; simp_all
     have hle:=zH hok.1.2;refine Calls.mono (hf.calls lo hi hok.2 z w) λe w' ⟨⟨m,e1,h1,h2⟩,hb⟩=>⟨_,e1,?_⟩
     exact zJd (jp hrel hb) h1 (by show m<=lo+(hi - lo); omega)
   . exact hc.elim
 . exact hc.elim
def natI(f:FuncId)(ps:List (Nat × Nat))(nat:Nats):Nats:=λg=>Bool.rec (motive:=λ_=>Option NatF) (nat g) (some (zQD ps)) (Nat.beq g f)
theorem natI_ok{f:FuncId}{ps:List (Nat × Nat)}{nat:Nats}(hf:WithinFn P f ps)(hn:NatsOk P nat):NatsOk P (natI f ps nat):=by
 have key:∀g q,natI f ps nat g=some q->(g=f/\q=zQD ps)\/nat g=some q:=by
  intro g q h;unfold natI at h;cases e:Nat.beq g f with
  |true=>rw[e]at h;injection h with h;exact .inl ⟨ze e,h.symm⟩
  |false=>rw[e]at h; exact .inr h
 refine⟨λg q hg d args h n=>?_,λg q hg args h n Y w args' h1 h2 h3 h4 hc=>?_,λg q hg args h n Y w args' h1 h2 h3 h4 hc=>?_⟩
 . rcases key g q hg with⟨rfl,rfl⟩ |hg
   . exact zKT ps d args h n
   . exact hn.above g q hg d args h n
 . rcases key g q hg with⟨rfl,rfl⟩ |hg
   . exact zOI hf h1 h3 hc
   . exact hn.calls g q hg args h n Y w args' h1 h2 h3 h4 hc
 . rcases key g q hg with⟨rfl,rfl⟩ |hg
   . exact hc.elim
   . exact hn.defers g q hg args h n Y w args' h1 h2 h3 h4 hc
end
noncomputable section
variable{P:Program}
def allZ(q:Int->Bool):Nat->Bool
 | 0=>q (.ofNat 0)|m+1=>q (.ofNat (m+1))&&q (.negSucc m)&&allZ q m
theorem zEz{q:Int->Bool}:∀{m:Nat},allZ q m=true->∀z:Int,z.natAbs<=m->q z=true
 | 0,h,z,hz=>by
  have:z=.ofNat 0:=by
   have:z=0:=by omega
   exact this
  rw[this]; exact h
 |m+1,h,z,hz=>by
  unfold allZ at h;rw[Bool.and_eq_true,Bool.and_eq_true]at h;by_cases e1:z=.ofNat (m+1)
  . rw[e1]; exact h.1.1
  . by_cases e2:z=.negSucc m
    . rw[e2]; exact h.1.2
    . refine zEz h.2 z ?_;have e1:¬z=(m:Int)+1:=e1;have e2:¬z = -((m:Int)+1):=by rw[<- Int.negSucc_eq]; exact e2
      omega
theorem within_calls{code:FuncId->CFn}{nat:Nats}{fuel:Nat}{f:FuncId}{fn:Func}{c:Code}{G:Nat}{n:Key}{lo m:Nat}(hm:P.follows .mixedOrders=true)(hcode:CodeOk P code)(hnat:∀J K,KnownOk J K->@NatsOk (linSym J K) P nat)
 (hf:P.funcs[f]? = some fn) (hname:(fn.name == "runtime.NumGoroutine")=false) (hb:fn.body=some c) (hG:P.globals.size<=G) (hn:G<=n.ix)
 (hrun:∀J:Nat->Int,allZ (λz=>allNat lo (Nat.add lo m) (@ev (linSym J (rulesK [rv .rem 0 (m+1) (mkInt .i64 z)])) P code nat fuel false f [.sym (sv 0),.nat lo,.nat (Nat.add lo m)] .nil n)) m=true) (z:Int) (w:World) :
 Calls P f #[.int .i64 z,.int .i64 (Int.ofNat lo),.int .i64 (Int.ofNat (Nat.add lo m))] w λe w'=>(∃k:Nat,e=.returned (.int .i64 (Int.ofNat k))/\lo<=k/\k<=Nat.add lo m)/\RowKit.Below w.heap.size w w':=by
 obtain⟨q,h1,h2⟩:=uu z m;have hK:KnownOk (λ_=>z) (rulesK [rv .rem 0 (m+1) (mkInt .i64 q)]):=rulesK_ok λr hr=>by rw[List.mem_singleton.1 hr];exact zE7 h2
 have hr:=zEz (hrun λ_=>z) q h1;refine @zIy (linSym (λ_=>z) (rulesK [rv .rem 0 (m+1) (mkInt .i64 q)])) P (yn hK) code nat fuel f fn c _ _ G n lo (Nat.add lo m) hm hcode (hnat _ _ hK) hf hname hb hG hn ?_ hr w;exact(@zW (linSym (λ_=>z) _) _ _ _ _ _).2 ⟨zFG (J:=λ_=>z) (i:=0),(@zW (linSym (λ_=>z) _) _ _ _ _ _).2 ⟨(@zT (linSym (λ_=>z) _) _ _ _).2 rfl,(@zW (linSym (λ_=>z) _) _ _ _ _ _).2 ⟨(@zT (linSym (λ_=>z) _) _ _ _).2 rfl,(@zM (linSym (λ_=>z) _) _ _).2 rfl⟩⟩⟩
theorem zLP{lo hi:Nat}:∀{ps:List (Nat × Nat)},zDw lo hi ps=true->(lo,hi)∈ps
 | [],h=>by cases h|p::l,h=>by
  unfold zDw at h;rw[Bool.or_eq_true,Bool.and_eq_true]at h;rcases h with⟨h1,h2⟩ |h
  . have e1:=Nat.eq_of_beq_eq_true h1;have e2:=Nat.eq_of_beq_eq_true h2;subst e1 e2;exact List.mem_cons_self
  . exact List.mem_cons_of_mem _ (zLP h)
def zHU(Q:Nat->Nat->Prop):List (Nat × Nat)->Prop
 | []=>True|p::l=>Q p.1 p.2/\zHU Q l
theorem zDC{Q:Nat->Nat->Prop}:∀{ps:List (Nat × Nat)} {lo hi:Nat},zHU Q ps->(lo,hi)∈ps->Q lo hi
 |p::l,lo,hi,h,hm=>by
  rcases List.mem_cons.1 hm with e |hm
  . subst e; exact h.1
  . exact zDC h.2 hm
theorem withinFn_of{f:FuncId}{ps:List (Nat × Nat)}(he:∀args w,(callFunc f args).run P w=.ok (.enter f args) w)
 (h:zHU (λlo hi=>∀(z:Int) (w:World),Calls P f #[.int .i64 z,.int .i64 (Int.ofNat lo),.int .i64 (Int.ofNat hi)] w λe w'=>(∃m:Nat,e=.returned (.int .i64 (Int.ofNat m))/\lo<=m/\m<=hi)/\RowKit.Below w.heap.size w w') ps):WithinFn P f ps:=
 ⟨he,λ_ _ hp=>zDC h (zLP hp)⟩
end
end Go.Ev
namespace Go.Ev
open Go.RowKit
noncomputable section
theorem zXa(z:Int) : -3<z.tmod 3/\z.tmod 3<3:=by have h:(z.tmod (.ofNat 3)).natAbs<=2:=@zCr noSym z 2;have h:(z.tmod 3).natAbs<=2:=h;omega
def wI(z:Int):Int:=if z.tmod 3<0 then z.tmod 3+3 else z.tmod 3
theorem zYx{z y s:Int}(h:z.tmod 3=y+3*s)(h1:0<=y)(h2:y<=2):wI z=y:=by unfold wI;have h3:=zXa z;split <;> omega
section
variable[Sym]
variable{P:Program}
def zFU(o:Option (List CV)):Bool:=match o with
 |some [.bool b]=>b|_=>false
def wrT(x v:CV)(e:SE):Option CV:=match Sym.bin .sub v (.sym e)with
 |some [d]=>match Sym.bin .add d (.nat 3)with
  |some [d]=>match zPh x&&zFU (Sym.bin .geq (.sym e) (.nat 0))&&zFU (Sym.bin .leq (.sym e) (.nat 2)),Sym.bin .rem d (.nat 3)with
   |true,some [.nat 0]=>some (.sym e)|_,_=>none
  |_=>none
 |_=>none
def zXk(x:CV):Option CV:=match Sym.bin .rem x (.nat 3)with
 |some [.sym e]=>match e.l with
  |q::_=>wrT x (.sym e) ⟨.i64,0,[(q.1,1)]⟩| []=>none
 |_=>none
def wrC(d:Bool)(args:List CV)(h:zC)(n:Key):R:=match d with
 |true=>.err 422|false=>match args with
  | [x,.nat 0,.nat 2]=>match zXk x with
   |some y=>.ret y h n|none=>.err 420
  |_=>.err 421
variable[SymFact P]
theorem zF3{o:Option (List CV)}(h:zFU o=true):o=some [.bool true]:=by
 unfold zFU at h;split at h
 . rw[h]
 . cases h
theorem zVY(P:Program)[SymFact P]{Y:Psi}{x y:CV}{u:Value}(h:zXk x=some y)(hx:zG Y x u):∃z:Int,u=.int .i64 z/\zG Y y (.int .i64 (wI z)):=by
 unfold zXk at h;split at h
 . rename_i e hrem;split at h
   . rename_i q r hl;unfold wrT at h;split at h
     . rename_i d0 hsub;split at h
       rotate_left
       . cases h
       rename_i d hadd;split at h
       . rename_i hc hd;injection h with h;subst h;rw[Bool.and_eq_true,Bool.and_eq_true]at hc;obtain⟨z,rfl⟩:=zJt P hc.1.1 hx;have h1:=zF3 hc.1.2;have h2:=zF3 hc.2;refine⟨z,rfl,?_⟩;obtain⟨hu,z1,hz1,c1,hc1,hr1⟩:=(SymFact.ok (P:=P)).1 _ _ _ _ h1 Y 0 (Sym.val ⟨.i64,0,[(q.1,1)]⟩) (.int .i64 0) default (zp.2 rfl) (zT.2 rfl);obtain⟨_,z2,hz2,c2,hc2,hr2⟩:=(SymFact.ok (P:=P)).1 _ _ _ _ h2 Y 0 (Sym.val ⟨.i64,0,[(q.1,1)]⟩) (.int .i64 2) default (zp.2 rfl) (zT.2 rfl);obtain⟨_,z3,hz3,c3,hc3,hr3⟩:=(SymFact.ok (P:=P)).1 _ _ _ _ hrem Y 0 (.int .i64 z) (.int .i64 3) default hx (zT.2 rfl);obtain rfl:c1=.bool true:=by simpa using hc1
         obtain rfl:c2=.bool true:=by simpa using hc2
         obtain rfl:c3=.sym e:=by simpa using hc3
         rw[zL.1 hr1]at hz1;rw[zL.1 hr2]at hz2;obtain⟨_,z4,hz4,c4,hc4,hr4⟩:=(SymFact.ok (P:=P)).1 _ _ _ _ hsub Y 0 z3 (Sym.val ⟨.i64,0,[(q.1,1)]⟩) default hr3 (zp.2 rfl);obtain rfl:c4=d0:=by simpa using hc4
         obtain⟨_,z6,hz6,c6,hc6,hr6⟩:=(SymFact.ok (P:=P)).1 _ _ _ _ hadd Y 0 z4 (.int .i64 3) default hr4 (zT.2 rfl);obtain rfl:c6=d:=by simpa using hc6
         obtain⟨_,z5,hz5,c5,hc5,hr5⟩:=(SymFact.ok (P:=P)).1 _ _ _ _ hd Y 0 z6 (.int .i64 3) default hr6 (zT.2 rfl);obtain rfl:c5=.nat 0:=by simpa using hc5
         rw[zT]at hr5;subst hr5;rw[zp];rcases hu with⟨k',iv,hu⟩ |⟨bs,hu⟩
         . rw[hu]at hz1 hz2 hz4 ⊢;by_cases ej:k'=.i64
           . subst ej;have g1:0<=iv:=by simpa [binOp,Op.intCmp]using hz1
             have g2:iv<=2:=by simpa [binOp,Op.intCmp]using hz2
             simp[binOp,Op.intArith,Op.intDiv]at hz3;subst hz3;simp[binOp,Op.intArith]at hz4;subst hz4;simp[binOp,Op.intArith]at hz6;subst hz6;simp[binOp,Op.intArith,Op.intDiv]at hz5;have h3:=zXa z;have hb:∀x:Int,-5<x->x<9->IntKind.i64.wrap x=x:=by intro x hx1 hx2;show(if(true&&decide (x % 18446744073709551616 >= 9223372036854775808))=true then x % 18446744073709551616 - 18446744073709551616 else x % 18446744073709551616)=x;split <;> simp at * <;> omega
             rw[hb (z.tmod 3 - iv) (by omega) (by omega),hb _ (by omega) (by omega)]at hz5;have h4:∃s:Int,z.tmod 3 - iv=3*s:=by
              have:=Int.mul_tdiv_add_tmod (z.tmod 3 - iv+3) 3
              exact⟨(z.tmod 3 - iv+3).tdiv 3 - 1,by omega⟩
             obtain⟨s,hs⟩:=h4;rw[zYx (y:=iv) (s:=s) (by omega) g1 g2]
           . simp[binOp,ej]at hz1
         . rw[hu]at hz1;simp[binOp]at hz1
       . cases h
     . cases h
   . cases h
 . cases h
structure WithinX(P:Program)(f:FuncId):Prop where
 enter:∀args w,(callFunc f args).run P w=.ok (.enter f args) w
 calls:∀(z:Int) (w:World),Calls P f #[.int .i64 z,.int .i64 0,.int .i64 2] w λe w'=>e=.returned (.int .i64 (wI z))/\Below w.heap.size w w'
omit [SymFact P]in
theorem zSA(d:Bool)(args:List CV)(h:zC)(n:Key):zo n (wrC d args h n):=by
 unfold wrC;split
 . trivial
 . split
   . split
     . exact Nat.le_refl _
     . trivial
   . trivial
theorem zXz{f:FuncId}(hf:WithinX P f){args:List CV}{h:zC}{n:Key}{Y:Psi}{w:World}{args':Array Value}(ha:zP Y args args'.toList)(hrel:Rel Y (zC.fam h) w)
 (hc:zd (wrC false args h n)):yS P f args' w (zr Y (zC.fam h) n w (wrC false args h n)):=by
 unfold yS;rw[hf.enter];show Calls P f args' w λe w''=>∃v,e=.returned v/\zr Y (zC.fam h) n w (wrC false args h n) v w'';unfold wrC at hc ⊢;simp only at hc ⊢;split at hc
 . rename_i x;split at hc
   . rename_i y hy;rw[za]at ha;obtain⟨v1,r1,e1,hv1,ha⟩:=ha;rw[za]at ha;obtain⟨v2,r2,e2,hv2,ha⟩:=ha;rw[za]at ha;obtain⟨v3,r3,e3,hv3,ha⟩:=ha;rw[zM]at ha;subst ha e3 e2;rw[zT]at hv2 hv3;obtain⟨z,hz,hzy⟩:=zVY P hy hv1;subst hv2 hv3 hz;obtain rfl:args'=#[.int .i64 z,.int .i64 0,.int .i64 2]:=by cases args'; simp_all
     refine Calls.mono (hf.calls z w) λe w' ⟨e1,hb⟩=>⟨_,e1,?_⟩
     exact⟨Y,jp hrel hb,hzy⟩
   . exact hc.elim
 . exact hc.elim
end
section
variable{P:Program}
def wrN:NatF:=λS=>@wrC S
def wN(q:Int):Nat:=(if q<0 then q+3 else q).toNat
theorem zT7(z:Int):yR .rem .i64 z (.ofNat 3)=some (mkInt .i64 (z.tmod 3)):=by show Bool.rec (motive:=λ_=>Option CV) (some (mkInt .i64 (z.tmod (.ofNat 3)))) none (zm (.ofNat 3) (.ofNat 0))=_;rw[@zX noSym,decide_eq_false (by intro h; injection h with h; cases h)];rfl
theorem withinX_calls{code:FuncId->CFn}{nat:Nats}{fuel:Nat}{f:FuncId}{fn:Func}{c:Code}{G:Nat}{n:Key}(hm:P.follows .mixedOrders=true)(hcode:CodeOk P code)(hnat:∀J K,KnownOk J K->@NatsOk (linSym J K) P nat)
 (hf:P.funcs[f]? = some fn) (hname:(fn.name == "runtime.NumGoroutine")=false) (hb:fn.body=some c) (hG:P.globals.size<=G) (hn:G<=n.ix)
 (hrun:∀J:Nat->Int,allZ (λz=>allNat (wN z) (wN z) (@ev (linSym J (rulesK [rv .rem 0 3 (mkInt .i64 z)])) P code nat fuel false f [.sym (sv 0),.nat 0,.nat 2] .nil n)) 2=true):WithinX P f:=by
 refine⟨run_callFunc_enter hf hname hb,λz w=>?_⟩;have hK:KnownOk (λ_=>z) (rulesK [rv .rem 0 3 (mkInt .i64 (z.tmod 3))]):=rulesK_ok λr hr=>by rw[List.mem_singleton.1 hr];exact zE7 (zT7 z)
 have h3:=zXa z;have hr:=zEz (hrun λ_=>z) (z.tmod 3) (by omega);refine Calls.mono (@zIy (linSym (λ_=>z) (rulesK [rv .rem 0 3 (mkInt .i64 (z.tmod 3))])) P (yn hK) code nat fuel f fn c [.sym (sv 0),.nat 0,.nat 2] #[.int .i64 z,.int .i64 0,.int .i64 2] G n (wN (z.tmod 3)) (wN (z.tmod 3)) hm hcode (hnat _ _ hK) hf hname hb hG hn ?_ hr w) λe w' ⟨⟨m,e1,h1,h2⟩,hbl⟩=>⟨?_,hbl⟩
 . exact(@zW (linSym (λ_=>z) _) _ _ _ _ _).2 ⟨zFG (J:=λ_=>z) (i:=0),(@zW (linSym (λ_=>z) _) _ _ _ _ _).2 ⟨(@zT (linSym (λ_=>z) _) _ _ _).2 rfl,(@zW (linSym (λ_=>z) _) _ _ _ _ _).2 ⟨(@zT (linSym (λ_=>z) _) _ _ _).2 rfl,(@zM (linSym (λ_=>z) _) _ _).2 rfl⟩⟩⟩
 . rw[e1];have hw:wI z=Int.ofNat (wN (z.tmod 3)):=by
    unfold wI wN;show _=(((if z.tmod 3<0 then z.tmod 3+3 else z.tmod 3).toNat:Nat):Int)
    split <;> omega
   rw[hw,show m=wN (z.tmod 3)from by omega]
end
end
end Go.Ev
namespace Go.Ev
variable[Sym]
open Go.RowKit Go.Maps
noncomputable section
variable{P:Program}
structure zYj(P:Program)(f:FuncId)(k:TypeId):Prop where
 enter:∀args w,(callFunc f args).run P w=.ok (.enter f args) w
 kint:P.underlying k=some (.int .i64)
 one:∀(size b nn a v:Nat) (w:World),w.ownsMap P k (plainElem P k) b nn (DataW.map (H:=Unit) [(.int .i64 (a:Int),.lit (.int .i64 (v:Int)))])->a<size->size<=1000 ->
  Calls P f #[.map (some b),.int .i64 (size:Int)] w λe w'=>∃g,e=.returned (.slice (some ⟨g,0,none⟩) size size)/\w.heap.size<=g /\
   w'.heap[g]? = some (.cells ((Array.replicate size (Value.int .i64 0)).setIfInBounds a (.int .i64 (v:Int))) k (0,0))/\Below w.heap.size w w'
variable[SymFact P]
end
end Go.Ev
