/- A verified evaluator for the model's code: EvCov, EvLoop, EvSlide, EvInv, EvTwo. -/
import Derived.Test.YtkolecenifiaaaaGreatDoorEvSym
set_option linter.unusedSectionVars false
set_option linter.unusedVariables false
set_option linter.unusedSimpArgs false
namespace Go.Ev
noncomputable section
variable{P:Program}
abbrev TH:=List (Int × LL)
def up(I:TH):LL->Option (Int × LL)
 | []=>some (0,[])|p::r=>match nth I p.1,up I r with
  |some q,some s=>some (p.2*q.1+s.1,vf (wH p.2 q.2) s.2)|_,_=>none
def qO(Js JT:Nat->Int)(I:TH):Prop:=∀j q,nth I j=some q->JT j=q.1+evL Js q.2
theorem uC{Js JT:Nat->Int}{I:TH}(hI:qO Js JT I):∀{l:LL} {s:Int × LL},up I l=some s->evL JT l=s.1+evL Js s.2
 | [],s,h=>by injection h with h; subst h;simp[evL]
 |p::r,s,h=>by
  unfold up at h;split at h
  . rename_i q u hq hu;injection h with h; subst h;have h1:=hI _ _ hq;have h2:=uC hI hu;show p.2*JT p.1+evL JT r=_;rw[h1,h2,jM,qQ,Int.mul_add];omega
  . cases h
def uk(I:TH)(e:SE)(v:CV):Bool:=match zCh v with
 |some (k,c,l)=>match up I e.l with
  |some s=>kEq e.k k&&zm (e.c+s.1) c&&j9 s.2 l|none=>false
 |none=>false
def zl(m:zC)(k:Key):Option Key:=match zb k m with
 |some (.cells (.ptr b _::_))=>some b|_=>none
def wS(U:zC)(k j:Key):Bool:=match zl U k with
 |some b=>Nat.beq b.ix j.ix|none=>false
def zKb(k:IntKind)(v:CV):Bool:=match v with
 |.anyi j=>kEq k j|v=>match zCh v with
  |some (j,_,_)=>kEq k j|none=>false
def zKJ:List (List Nat)->List (List Nat)->Bool
 | [],[]=>true|a::l,b::m=>qY a b&&zKJ l m|_,_=>false
theorem zJI:∀{a b:List (List Nat)},zKJ a b=true->a=b
 | [],[],_=>rfl| [],_::_,h=>by cases h|_::_,[],h=>by cases h|a::l,b::m,h=>by unfold zKJ at h;rw[Bool.and_eq_true,@kr noSym,decide_eq_true_eq]at h;rw[h.1,zJI h.2]
mutual
def yH(U:zC)(I:TH):CV->CV->Bool
 |.any,_=>true|.sym e,v=>uk I e v|.bool a,.bool b=>a == b|.nat a,.nat b=>Nat.beq a b|.int k a,.int j b=>kEq k j&&zm a b|.anyi k,v=>zKb k v|.str a,.str b=>qY a b|.nilptr,.nilptr=>true|.ptr k o,.ptr j p=>wS U k j&&Nat.beq o p|.nilsl,.nilsl=>true|.sl k o l c e x,.sl k' o' l' c' e' x'=>wS U k k'&&Nat.beq o o'&&Nat.beq l l'&&Nat.beq e e'&&x == x'&&(Nat.beq c c' || (!x&&Nat.ble c c'))|.nilmap,.nilmap=>true|.map k,.map j=>wS U k j|.func f a b,.func g c d=>decide (f=g)&&vE U I a c&&vE U I b d|.nilfunc,.nilfunc=>true|.iface t v,.iface u w=>Nat.beq t u&&yH U I v w|.niliface,.niliface=>true|.agg a,.agg b=>vE U I a b|.tup a,.tup b=>vE U I a b|.sst a,.sst b=>vE U I a b|.sst a,.str s=>vE U I a (qT s)|.few i t,.str s=>match nth I i with
  |some q=>match q.1,q.2 with
   |.ofNat c,[]=>match nth t c with
    |some x=>qY x s|none=>false
   |_,_=>false
  |none=>false
 |.few i t,.few j u=>match nth I i with
  |some q=>zm q.1 0&&j9 q.2 [(j,1)]&&zKJ t u|none=>false
 |_,_=>false
def vE(U:zC)(I:TH):List CV->List CV->Bool
 | [],[]=>true|a::as,b::bs=>yH U I a b&&vE U I as bs|_,_=>false
end
def zAW(U:zC)(Ys YT:Psi):Prop:=∀k j p,wS U k j=true->Ys j=some p->∃p',YT k=some p'/\p'.blk=p.blk/\p'.off=p.off/\p'.sz=p.sz
section
variable{Js JT:Nat->Int}{Ks KT:zU}{I:TH}{U:zC}{Ys YT:Psi}
theorem zLg(hI:qO Js JT I){e:SE}{d:CV}(h:uk I e d=true){v:Value}(hv:@zG (linSym Js Ks) Ys d v):v=.int e.k (evE JT e):=by
 unfold uk at h;split at h
 . rename_i k c l hf;split at h
   . rename_i s hs;rw[Bool.and_eq_true,Bool.and_eq_true,@yj noSym,@zX noSym,decide_eq_true_eq,decide_eq_true_eq]at h;have h1:=qk d hf hv;have h2:=uC hI hs;have h3:=@jJ noSym _ _ h.2;rw[h1,h.1.1,<- h.1.2];unfold evE;rw[h2,h3,Int.add_assoc]
   . cases h
 . cases h
theorem zRq{k:IntKind}{d:CV}(h:zKb k d=true){v:Value}(hv:@zG (linSym Js Ks) Ys d v):∃n,v=.int k n:=by
 unfold zKb at h;split at h
 . rename_i j;rw[@yj noSym,decide_eq_true_eq]at h;subst h;exact(@yo (linSym Js Ks) _ _ _).1 hv
 . split at h
   . rename_i j c l hf;rw[@yj noSym,decide_eq_true_eq]at h;subst h;exact⟨_,qk d hf hv⟩
   . cases h
mutual
theorem qP(hI:qO Js JT I)(hY:zAW U Ys YT):∀(c d:CV) {v:Value},yH U I c d=true->@zG (linSym Js Ks) Ys d v->@zG (linSym JT KT) YT c v
 |.any,_,_,_,_=>@xo (linSym JT KT) _ _|.sym e,d,v,h,hv=>by rw[yH]at h;rw[@zp (linSym JT KT)];exact zLg hI h hv|.anyi k,d,v,h,hv=>by rw[yH]at h;rw[@yo (linSym JT KT)];exact zRq h hv|.bool a,d,v,h,hv=>by
  cases d <;> try (simp[yH]at h; done)
  simp only[yH,beq_iff_eq]at h;subst h;rw[@zL (linSym Js Ks)]at hv;rw[@zL (linSym JT KT)]; exact hv
 |.nat a,d,v,h,hv=>by
  cases d <;> try (simp[yH]at h; done)
  simp only[yH]at h;obtain rfl:=@ze noSym _ _ h;rw[@zT (linSym Js Ks)]at hv;rw[@zT (linSym JT KT)]; exact hv
 |.int k a,d,v,h,hv=>by
  cases d <;> try (simp[yH]at h; done)
  simp only[yH,Bool.and_eq_true,@yj noSym,@zX noSym,decide_eq_true_eq]at h;obtain⟨rfl,rfl⟩:=h;rw[@zf (linSym Js Ks)]at hv;rw[@zf (linSym JT KT)]; exact hv
 |.str a,d,v,h,hv=>by
  cases d <;> try (simp[yH]at h; done)
  simp only[yH,@kr noSym,decide_eq_true_eq]at h;subst h;rw[@zg (linSym Js Ks)]at hv;rw[@zg (linSym JT KT)]; exact hv
 |.nilptr,d,v,h,hv=>by
  cases d <;> try (simp[yH]at h; done)
  rw[@xv (linSym Js Ks)]at hv;rw[@xv (linSym JT KT)]; exact hv
 |.ptr k o,d,v,h,hv=>by
  cases d <;> try (simp[yH]at h; done)
  simp only[yH,Bool.and_eq_true]at h;obtain rfl:=@ze noSym _ _ h.2;rw[@zx (linSym Js Ks)]at hv;obtain⟨p,hp,rfl⟩:=hv;obtain⟨p',h1,h2,h3,h4⟩:=hY _ _ _ h.1 hp;rw[@zx (linSym JT KT)];exact⟨p',h1,by rw[h2,h3]⟩
 |.nilsl,d,v,h,hv=>by
  cases d <;> try (simp[yH]at h; done)
  rw[@yD (linSym Js Ks)]at hv;rw[@yD (linSym JT KT)]; exact hv
 |.sl k o l c e x,d,v,h,hv=>by
  cases d <;> try (simp[yH]at h; done)
  rename_i k' o' l' c' e' x';simp only[yH,Bool.and_eq_true,beq_iff_eq]at h;obtain⟨⟨⟨⟨⟨hk,ho⟩,hl⟩,he⟩,hx⟩,hc⟩:=h;obtain rfl:=@ze noSym _ _ ho;obtain rfl:=@ze noSym _ _ hl;obtain rfl:=@ze noSym _ _ he;subst hx;rw[@yJ (linSym Js Ks)]at hv;obtain⟨p,y,cap',hp,rfl,h1,h2,h3,h4⟩:=hv;obtain⟨p',g1,g2,g3,g4⟩:=hY _ _ _ hk hp;rw[@yJ (linSym JT KT)];refine⟨p',y,cap',g1,by rw[g2],?_,h2,?_,?_⟩
  . rw[Bool.or_eq_true,Bool.and_eq_true]at hc;rcases hc with hc |hc
    . rw[@ze noSym _ _ hc]; exact h1
    . have:=@zH noSym _ _ hc.2; omega
  . intro hx;subst hx;rw[Bool.or_eq_true,Bool.and_eq_true]at hc;rcases hc with hc |hc
    . rw[@ze noSym _ _ hc]; exact h3 rfl
    . simp at hc
  . rw[g3,g4]; exact h4
 |.nilmap,d,v,h,hv=>by
  cases d <;> try (simp[yH]at h; done)
  rw[@yg (linSym Js Ks)]at hv;rw[@yg (linSym JT KT)]; exact hv
 |.map k,d,v,h,hv=>by
  cases d <;> try (simp[yH]at h; done)
  simp only[yH]at h;rw[@xC (linSym Js Ks)]at hv;obtain⟨p,hp,rfl⟩:=hv;obtain⟨p',h1,h2,h3,h4⟩:=hY _ _ _ h hp;rw[@xC (linSym JT KT)];exact⟨p',h1,by rw[h2]⟩
 |.func f a b,d,v,h,hv=>by
  cases d <;> try (simp[yH]at h; done)
  simp only[yH,Bool.and_eq_true,decide_eq_true_eq]at h;obtain⟨⟨rfl,h1⟩,h2⟩:=h;rw[@xW (linSym Js Ks)]at hv;obtain⟨a',b',rfl,g1,g2⟩:=hv;rw[@xW (linSym JT KT)];exact⟨a',b',rfl,wR hI hY a _ h1 g1,wR hI hY b _ h2 g2⟩
 |.nilfunc,d,v,h,hv=>by
  cases d <;> try (simp[yH]at h; done)
  rw[@xY (linSym Js Ks)]at hv;rw[@xY (linSym JT KT)]; exact hv
 |.iface t x,d,v,h,hv=>by
  cases d <;> try (simp[yH]at h; done)
  simp only[yH,Bool.and_eq_true]at h;obtain rfl:=@ze noSym _ _ h.1;rw[@yr (linSym Js Ks)]at hv;obtain⟨y,rfl,g⟩:=hv;rw[@yr (linSym JT KT)];exact⟨y,rfl,qP hI hY x _ h.2 g⟩
 |.niliface,d,v,h,hv=>by
  cases d <;> try (simp[yH]at h; done)
  rw[@yu (linSym Js Ks)]at hv;rw[@yu (linSym JT KT)]; exact hv
 |.agg a,d,v,h,hv=>by
  cases d <;> try (simp[yH]at h; done)
  simp only[yH]at h;rw[@yx (linSym Js Ks)]at hv;obtain⟨a',rfl,g⟩:=hv;rw[@yx (linSym JT KT)];exact⟨a',rfl,wR hI hY a _ h g⟩
 |.tup a,d,v,h,hv=>by
  cases d <;> try (simp[yH]at h; done)
  simp only[yH]at h;rw[@yU (linSym Js Ks)]at hv;obtain⟨a',rfl,g⟩:=hv;rw[@yU (linSym JT KT)];exact⟨a',rfl,wR hI hY a _ h g⟩
 |.sst a,d,v,h,hv=>by
  cases d with
  |sst c=>simp only[yH]at h;rw[@ya (linSym Js Ks)]at hv;obtain⟨b,rfl,g⟩:=hv;rw[@ya (linSym JT KT)];exact⟨b,rfl,wR hI hY a _ h g⟩
  |str s=>
   simp only[yH]at h;rw[@zg (linSym Js Ks)]at hv;obtain⟨b,rfl,hb⟩:=hv;rw[@ya (linSym JT KT)];refine⟨b,rfl,wR hI hY a _ h ?_⟩
   have:=@zBT (linSym Js Ks) Ys b
   rw[hb,Array.toList_map]at this;exact this
  |_=>simp[yH]at h
 |.few i t,d,v,h,hv=>by
  have hval:∀(J:Nat->Int) (K:zU) (i:Nat),@Sym.val (linSym J K) ⟨.i64,0,[(i,1)]⟩=.int .i64 (J i):=λJ K i=>by
   show Value.int .i64 (0+(1*J i+0))=_
   congr 1; omega
  cases d with
  |str s=>
   unfold yH at h;split at h
   . rename_i q hq;obtain⟨q1,q2⟩:=q;simp only at h;split at h
     . rename_i c;split at h
       . rename_i x hx;rw[@kr noSym,decide_eq_true_eq]at h;subst h;have h1:=hI _ _ hq;rw[@zg (linSym Js Ks)]at hv;obtain⟨b,rfl,hb⟩:=hv;rw[@kE (linSym JT KT)];refine⟨c,b,?_,rfl,?_⟩
         . rw[hval,h1];simp[evL]
         . rw[@nth_eq noSym]at hx;rw[hx,hb]
       . cases h
     . cases h
   . cases h
  |few j u=>
   unfold yH at h;split at h
   . rename_i q hq;rw[Bool.and_eq_true,Bool.and_eq_true,@zX noSym,decide_eq_true_eq]at h;have h1:=hI _ _ hq;rw[h.1.1,@jJ noSym _ _ h.1.2]at h1;have h2:=zJI h.2;subst h2;rw[@kE (linSym Js Ks)]at hv;obtain⟨m,b,g1,rfl,g3⟩:=hv;rw[hval]at g1;rw[@kE (linSym JT KT)];refine⟨m,b,?_,rfl,g3⟩;rw[hval,h1,<- g1]
     congr 1
     show(0:Int)+(1*Js j+0)=_;omega
   . cases h
  |_=>simp[yH]at h
 |.win ..,d,v,h,hv=>by cases d <;> simp[yH]at h|.elt ..,d,v,h,hv=>by cases d <;> simp[yH]at h
theorem wR(hI:qO Js JT I)(hY:zAW U Ys YT):∀(cs ds:List CV) {l:List Value},vE U I cs ds=true->@zP (linSym Js Ks) Ys ds l->@zP (linSym JT KT) YT cs l
 | [],[],l,_,hl=>by rw[@zM (linSym Js Ks)]at hl;rw[@zM (linSym JT KT)]; exact hl| [],_::_,_,h,_=>by simp[vE]at h|_::_,[],_,h,_=>by simp[vE]at h|c::cs,d::ds,l,h,hl=>by simp only[vE,Bool.and_eq_true]at h;rw[@za (linSym Js Ks)]at hl;obtain⟨v,r,rfl,h1,h2⟩:=hl;exact(@zW (linSym JT KT) _ _ _ _ _).2 ⟨qP hI hY c d h.1 h1,wR hI hY cs ds h.2 h2⟩
end
def qr(U:zC)(I:TH):List CV->List CV->Bool
 | [],_=>true|a::as,b::bs=>yH U I a b&&qr U I as bs|_::_,[]=>false
def zIP(U:zC)(I:TH):List CE->List CE->Bool
 | [],[]=>true|a::as,b::bs=>yH U I a.key b.key&&yH U I a.val b.val&&zIP U I as bs|_,_=>false
def zWT:List Nat->List Nat->Bool
 | [],_=>true|_::_,[]=>false|a::x,b::y=>match Nat.beq a b with
  |true=>zWT x y|false=>Nat.ble a b
def zYB(a b:CV):Bool:=match a,b with
 |.str x,.str y=>zWT x y|.nat x,.nat y=>Nat.ble x y|_,_=>true
def zWr(e:CE):List CE->List CE
 | []=>[e]
 |c::l=>match zYB e.key c.key with
  |true=>e::c::l|false=>c::zWr e l
def uE:List CE->List CE
 | []=>[]
 |e::l=>zWr e (uE l)
theorem zJo{e:CE}:∀{l:List CE},(zWr e l).Perm (e::l)
 | []=>List.Perm.refl _|c::l=>by
  unfold zWr;split
  . exact List.Perm.refl _
  . exact(List.Perm.cons c zJo).trans (List.Perm.swap e c l)
theorem zJJ:∀{l:List CE},(uE l).Perm l
 | []=>List.Perm.refl _|e::l=>zJo.trans (List.Perm.cons e zJJ)
def zFM(b:Nat):List CE->Bool
 | []=>true|e::r=>!(Nat.beq b e.born)&&zFM b r
def upB:List CE->Nat->Bool
 | [],_=>true|e::r,clock=>Nat.ble (Nat.succ e.born) clock&&zFM e.born r&&upB r clock
def zWb:List CE->Nat->Nat->Bool
 | [],i,clock=>Nat.beq i clock|e::r,i,clock=>Nat.beq e.born i&&zWb r (Nat.succ i) clock
def zWa(U:zC)(I:TH):List (CV × CV)->List (CV × CV)->Bool
 | [],[]=>true|a::as,b::bs=>yH U I a.1 b.1&&yH U I a.2 b.2&&zWa U I as bs|_,_=>false
def zPM(U:zC)(I:TH):List (CV × CV)->Bool
 | []=>true|a::as=>yH U I a.2 (.str [])&&zPM U I as
def zCp(U:zC)(I:TH):CObj->CObj->Bool
 |.cells a,.cells b=>qr U I a b|.cells a,.full _ b=>qr U I a b|.map es c,.map es' c'=>zIP U I es (uE es')&&zWb es 0 c&&upB (uE es') c'|.mapz a,.mapz b=>zWa U I a b|.mapz a,.map [] _=>zPM U I a|.seen k,.seen j=>wS U k j|.hid,.hid=>true|_,_=>false
theorem zES:∀{as bs:List CV},qr U I as bs=true->as.length<=bs.length/\∀(i:Nat) (c:CV),as[i]? = some c->∃d,bs[i]? = some d/\yH U I c d=true
 | [],bs,_=>⟨Nat.zero_le _,λi c h=>by simp at h⟩
 |_::_,[],h=>by cases h|a::as,b::bs,h=>by
  unfold qr at h;rw[Bool.and_eq_true]at h;obtain⟨h1,h2⟩:=zES h.2;refine⟨by simp; exact h1,λi c hc=>?_⟩;cases i with
  |zero=>simp at hc; subst hc; exact⟨b,rfl,h.1⟩|succ i=>exact h2 i c (by simpa using hc)
theorem wx(hI:qO Js JT I)(hY:zAW U Ys YT){as bs:List CV}(h:qr U I as bs=true){w:World}{p p':Pl}(h1:p'.blk=p.blk)(h2:p'.off=p.off)(h3:p'.sz=p.sz)
 (hc:@yZ (linSym Js Ks) Ys w p bs):@yZ (linSym JT KT) YT w p' as:=by
 obtain⟨arr,elem,fz,g1,g2,g3,g4,g5⟩:=hc;obtain⟨q1,q2⟩:=zES h;refine⟨arr,elem,fz,by rw[h1]; exact g1,by rw[h3]; exact g2,by rw[h2,h3]; omega,by rw[h3]; exact g4,λi c hi=>?_⟩;obtain⟨d,hd,hcd⟩:=q2 i c hi;obtain⟨x,hx,hr⟩:=g5 i d hd;exact⟨x,by rw[h2]; exact hx,qP hI hY c d hcd hr⟩
def qZ(bs:List CE)(clock:Nat)(j:Nat):Nat:=match bs[j]? with
 |some e=>e.born|none=>clock+(j - bs.length)
theorem zLs:∀{bs:List CE} {clock:Nat},upB bs clock=true->∀(j:Nat) (e:CE),bs[j]? = some e->e.born<clock
 | [],clock,h,j,e,he=>by simp at he|b::bs,clock,h,j,e,he=>by
  unfold upB at h;rw[Bool.and_eq_true,Bool.and_eq_true]at h;have h1:=@zH noSym _ _ h.1.1;cases j with
  |zero=>simp at he; subst he; omega|succ j=>exact zLs h.2 j e (by simpa using he)
theorem zH0{b:Nat}:∀{l:List CE},zFM b l=true->∀e∈l,e.born≠b
 | [],_,e,he=>by cases he|x::l,h,e,he=>by
  unfold zFM at h;rw[Bool.and_eq_true]at h;rcases List.mem_cons.1 he with rfl |he
  . intro q;rw[<- q,@qw noSym]at h; simp at h
  . exact zH0 h.2 e he
theorem zTg:∀{bs:List CE} {clock:Nat},upB bs clock=true->∀(i j:Nat) (a b:CE),i<j->bs[i]? = some a->bs[j]? = some b->b.born≠a.born
 | [],clock,h,i,j,a,b,_,h1,_=>by simp at h1|c::bs,clock,h,i,j,a,b,hij,h1,h2=>by
  unfold upB at h;rw[Bool.and_eq_true,Bool.and_eq_true]at h;cases j with
  |zero=>omega|succ j=>
   have h2:bs[j]? = some b:=by simpa using h2
   cases i with
   |zero=>simp at h1; subst h1;exact zH0 h.1.2 b (List.mem_of_getElem? h2)|succ i=>exact zTg h.2 i j a b (by omega) (by simpa using h1) h2
theorem zQT{bs:List CE}{clock:Nat}(h:upB bs clock=true):∀a b,qZ bs clock a=qZ bs clock b->a=b:=by
 have key:∀a b,a<b->qZ bs clock a≠qZ bs clock b:=by
  intro a b hab;unfold qZ;cases ha:bs[a]? with
  |none=>have hla:=List.getElem?_eq_none_iff.1 ha;rw[List.getElem?_eq_none (by omega)];simp only; omega|some x=>
   cases hb:bs[b]? with
   |none=>
    have:=zLs h a x ha
    simp only; omega
   |some y=>
    have:=zTg h a b x y hab ha hb
    simp only; exact λe=>this e.symm
 intro a b e;rcases Nat.lt_trichotomy a b with q |q |q
 . exact absurd e (key a b q)
 . exact q
 . exact absurd e.symm (key b a q)
theorem ut{bs:List CE}{clock:Nat}(k:Nat):qZ bs clock (bs.length+k)=clock+k:=by unfold qZ;rw[List.getElem?_eq_none (by omega)];simp only; omega
theorem zS6{bs:List CE}{clock:Nat}(h:upB bs clock=true)(k x:Nat):x<bs.length+k ↔ qZ bs clock x<clock+k:=by
 unfold qZ;cases hx:bs[x]? with
 |none=>
  have:=List.getElem?_eq_none_iff.1 hx
  simp only; omega
 |some e=>have h1:=zLs h x e hx;have h2:=(List.getElem?_eq_some_iff.1 hx).1;simp only;exact⟨λ_=>by omega,λ_=>by omega⟩
theorem zUK{bs:List CE}{clock:Nat}(h:upB bs clock=true){ck:Nat->Nat}(hc:vd ck clock):vd (λj=>ck (qZ bs clock j)) bs.length:=by
 refine⟨λa b hab=>zQT h a b (hc.one _ _ hab),λk x=>?_,λk=>?_⟩
 . show _ ↔ ck (qZ bs clock x)<ck (qZ bs clock (bs.length+k));rw[ut,zS6 h k x];exact hc.cmp k _
 . show ck (qZ bs clock (bs.length+k))=ck (qZ bs clock bs.length)+k;have h0:qZ bs clock bs.length=clock:=ut 0;rw[ut,h0,hc.run]
theorem zDy:∀{as bs:List CE},zIP U I as bs=true->as.length=bs.length
 | [],[],_=>rfl| [],_::_,h=>by cases h|_::_,[],h=>by cases h|a::as,b::bs,h=>by unfold zIP at h;rw[Bool.and_eq_true]at h;simp[zDy h.2]
theorem zJT:∀{es:List CE} {i clock:Nat},zWb es i clock=true->clock=i+es.length/\∀(j:Nat) (e:CE),es[j]? = some e->e.born=i+j
 | [],i,clock,h=>⟨by have:=@ze noSym _ _ h; simp; omega,λj e he=>by simp at he⟩
 |a::es,i,clock,h=>by
  unfold zWb at h;rw[Bool.and_eq_true]at h;have h1:=@ze noSym _ _ h.1;obtain⟨h2,h3⟩:=zJT h.2;refine⟨by simp; omega,λj e he=>?_⟩;cases j with
  |zero=>simp at he; subst he; omega|succ j=>have:=h3 j e (by simpa using he); omega
theorem zLG(hI:qO Js JT I)(hY:zAW U Ys YT){ck ck':Nat->Nat}:∀{as bs:List CE} {l:List MapEntry},zIP U I as bs=true ->
 (∀(j:Nat) (a b:CE),as[j]? = some a->bs[j]? = some b->ck' a.born=ck b.born)->@yI (linSym Js Ks) Ys ck bs l->@yI (linSym JT KT) YT ck' as l
 | [],[],l,_,_,hl=>hl| [],_::_,_,h,_,_=>by cases h|_::_,[],_,h,_,_=>by cases h|a::as,b::bs,l,h,hb,hl=>by
  unfold zIP at h;rw[Bool.and_eq_true,Bool.and_eq_true]at h;obtain⟨e,r,rfl,⟨h1,h2,h3⟩,h4⟩:=hl;exact⟨e,r,rfl,⟨qP hI hY _ _ h.1.1 h1,qP hI hY _ _ h.1.2 h2,by rw[h3]; exact(hb 0 a b rfl rfl).symm⟩,
   zLG hI hY h.2 (λj x y hx hy=>hb (j+1) x y (by simpa using hx) (by simpa using hy)) h4⟩
theorem zVC{S:Sym}{Y:Psi}{ck:Nat->Nat}{cs ds:List CE}(hp:ds.Perm cs):∀{l:List MapEntry},@yI S Y ck cs l->∃l',l'.Perm l/\@yI S Y ck ds l':=by
 induction hp with
 |nil=>intro l h; exact⟨l,List.Perm.refl _,h⟩
 |cons x _ ih=>rintro l ⟨e,r,rfl,hx,hr⟩;obtain⟨r',g1,g2⟩:=ih hr;exact⟨e::r',List.Perm.cons e g1,e,r',rfl,hx,g2⟩
 |swap x y m=>rintro l ⟨e,r,rfl,hx,e',r',rfl,hy,hr⟩;exact⟨e'::e::r',List.Perm.swap e e' r',e',_,rfl,hy,e,r',rfl,hx,hr⟩
 |trans _ _ ih1 ih2=>intro l h;obtain⟨l1,g1,g2⟩:=ih2 h;obtain⟨l2,g3,g4⟩:=ih1 g2;exact⟨l2,g3.trans g1,g4⟩
theorem zKR(hI:qO Js JT I)(hY:zAW U Ys YT):∀{as bs:List (CV × CV)} {l:List MapEntry},zWa U I as bs=true->@wl (linSym Js Ks) Ys bs l->@wl (linSym JT KT) YT as l
 | [],[],_,_,h=>h| [],_::_,_,h,_=>by cases h|_::_,[],_,h,_=>by cases h|a::as,b::bs,l,h,hz=>by
  unfold zWa at h;rw[Bool.and_eq_true,Bool.and_eq_true]at h;rcases hz with⟨h1,h2⟩ |⟨e,m,rfl,h1,h2,h3⟩
  . exact .inl ⟨qP hI hY _ _ h.1.2 h1,zKR hI hY h.2 h2⟩
  . exact .inr ⟨e,m,rfl,qP hI hY _ _ h.1.1 h1,qP hI hY _ _ h.1.2 h2,zKR hI hY h.2 h3⟩
theorem zMl(Ks:zU)(hI:qO Js JT I)(hY:zAW U Ys YT):∀{as:List (CV × CV)},zPM U I as=true->@wl (linSym JT KT) YT as []
 | [],_=>rfl|a::as,h=>by unfold zPM at h;rw[Bool.and_eq_true]at h;exact .inl ⟨qP (Ks:=Ks) hI hY _ _ h.1 ((@zg (linSym Js Ks) _ _ _).2 ⟨.empty,rfl,rfl⟩),zMl Ks hI hY h.2⟩
def zD1(o:Option CObj)(ck:Nat->Nat):Nat->Nat:=match o with
 |some (.map es clock)=>λj=>ck (qZ (uE es) clock j)
 |_=>ck
theorem zPW(hI:qO Js JT I)(hY:zAW U Ys YT){o o':CObj}(h:zCp U I o o'=true){w:World}{p p':Pl}(h1:p'.blk=p.blk)(h2:p'.off=p.off)(h3:p'.sz=p.sz)(h4:p'.ck=zD1 (some o') p.ck)
 (ho:@xQ (linSym Js Ks) Ys w p o'):@xQ (linSym JT KT) YT w p' o/\o.isRo=false/\o'.isRo=false:=by
 unfold zCp at h;split at h
 . exact⟨wx hI hY h h1 h2 h3 ho,rfl,rfl⟩
 . exact⟨wx hI hY h h1 h2 h3 (@jt.toCells (linSym Js Ks) _ _ _ _ _ ho),rfl,rfl⟩
 . rename_i es c es' c';rw[Bool.and_eq_true,Bool.and_eq_true]at h;refine⟨?_,rfl,rfl⟩;obtain⟨arr,g1,⟨l0,gp,g2⟩,g3⟩:=ho;have hlen:=zDy h.1.1;obtain⟨n1,n2⟩:=zJT h.1.2;have hc:c=(uE es').length:=by omega
   have h4:p'.ck=λj=>p.ck (qZ (uE es') c' j):=h4;obtain⟨l1,gq,g2⟩:=zVC (zJJ (l:=es')) g2;refine⟨arr,?_,⟨l1,gq.trans gp,?_⟩,?_⟩
   . rw[h1,g1,h4,hc];show _=some (Obj.map arr (p.ck (qZ (uE es') c' (uE es').length)));have h0:qZ (uE es') c' (uE es').length=c':=ut 0;rw[h0]
   . refine zLG hI hY h.1.1 (λj a b ha hb=>?_) g2;rw[h4];show p.ck (qZ (uE es') c' a.born)=_;rw[n2 j a ha,Nat.zero_add];unfold qZ;rw[hb]
   . rw[h4,hc];exact zUK h.2 g3
 . obtain⟨arr,c,g1,l,gp,g2⟩:=ho;exact⟨⟨arr,c,by rw[h1]; exact g1,l,gp,zKR hI hY h g2⟩,rfl,rfl⟩
 . obtain⟨arr,g1,⟨l,gp,g2⟩,_⟩:=ho;have g2:l=[]:=g2;subst g2;exact⟨⟨arr,_,by rw[h1]; exact g1,[],gp,zMl Ks hI hY h⟩,rfl,rfl⟩
 . obtain⟨arr,e,fz,g1,g2,g3,g4,q,l,c,g5,g6,g7,g8,g9,g10⟩:=ho;obtain⟨q',k1,k2,k3,k4⟩:=hY _ _ _ h g6;exact⟨⟨arr,e,fz,by rw[h1]; exact g1,by rw[h3]; exact g2,by rw[h2,h3]; exact g3,by rw[h3]; exact g4,q',l,c,by rw[h2,k2,k3]; exact g5,k1,g7,g8,g9,by rw[k4,k3]; exact g10⟩,rfl,rfl⟩
 . obtain⟨arr,e,fz,g1,g2,g3,g4,g5⟩:=ho;exact⟨⟨arr,e,fz,by rw[h1]; exact g1,by rw[h3]; exact g2,by rw[h2,h3]; exact g3,g4,by rw[h2,h3]; exact g5⟩,rfl,rfl⟩
 . cases h
end
theorem zMp{U:zC}{I:TH}{o o':CObj}(h:zCp U I o o'=true):o'.isRo=false:=by
 unfold zCp at h;split at h
 . rfl
 . rfl
 . rfl
 . rfl
 . rfl
 . rfl
 . rfl
 . cases h
structure Win where
 key:Key
 esz:Nat
 base:Option Addr
 B:Nat
 x:Nat
 len:Nat
 cap:Nat
 sz:Nat
structure TS where
 locs:List (Nat × CV)
 objs:List (Key × CObj)
 n:Key
 b:List (Int × Int)
 f:List (LL × Int × Int)
 r:List SRule:=[]
 sl:List (Nat × List Nat):=[]
def zN(n:Nat)(k:Nat->Bool):Bool:=match n with
 | 0=>k 0|m+1=>k (Nat.succ m)
theorem j3{n:Nat}{k:Nat->Bool}:zN n k=k n:=by cases n <;> rfl
def zI(z:Int)(k:Int->Bool):Bool:=match z with
 |.ofNat n=>zN n λn=>k (.ofNat n)
 |.negSucc n=>zN n λn=>k (.negSucc n)
theorem zFl{z:Int}{k:Int->Bool}:zI z k=k z:=by
 cases z with
 |ofNat n=>exact j3 (k:=λn=>k (.ofNat n))|negSucc n=>exact j3 (k:=λn=>k (.negSucc n))
def zDg(d:Dg)(k:Dg->Bool):Bool:=match d with
 |.d0=>k .d0|.d1=>k .d1|.d2=>k .d2|.d3=>k .d3|.d4=>k .d4|.d5=>k .d5|.d6=>k .d6|.d7=>k .d7|.d8=>k .d8|.d9=>k .d9|.d10=>k .d10|.d11=>k .d11|.d12=>k .d12|.d13=>k .d13|.d14=>k .d14|.d15=>k .d15
theorem zW9{d:Dg}{k:Dg->Bool}:zDg d k=k d:=by cases d <;> rfl
def zK(b:Key)(k:Key->Bool):Bool:=match b with
 |.mk a b c d=>zDg a λa=>zDg b λb=>zDg c λc=>zDg d λd=>k (.mk a b c d)
theorem wj{b:Key}{k:Key->Bool}:zK b k=k b:=by cases b;unfold zK;simp only[zW9]
def zLL:LL->(LL->Bool)->Bool
 | [],k=>k []|(i,a)::l,k=>zN i λi=>zI a λa=>zLL l λl=>k ((i,a)::l)
theorem zNS:∀{l:LL} {k:LL->Bool},zLL l k=k l
 | [],_=>rfl|(i,a)::l,k=>by unfold zLL; rw[j3,zFl,zNS]
def zSE(e:SE)(k:SE->Bool):Bool:=match e with
 |⟨j,c,l⟩=>zI c λc=>zLL l λl=>k ⟨j,c,l⟩
theorem zET{e:SE}{k:SE->Bool}:zSE e k=k e:=by obtain⟨j,c,l⟩:=e;show(zI c λc=>zLL l λl=>k ⟨j,c,l⟩)=k ⟨j,c,l⟩;rw[zFl,zNS]
mutual
def zV:CV->(CV->Bool)->Bool
 |.agg l,k=>zVs l λl=>k (.agg l)
 |.tup l,k=>zVs l λl=>k (.tup l)
 |.sst l,k=>zVs l λl=>k (.sst l)
 |.iface t v,k=>zV v λv=>k (.iface t v)
 |.func f a b,k=>zVs a λa=>zVs b λb=>k (.func f a b)
 |.sym e,k=>zSE e λe=>k (.sym e)
 |.bool b,k=>k (.bool b)|.nat n,k=>zN n λn=>k (.nat n)
 |.int j n,k=>zI n λn=>k (.int j n)
 |.anyi j,k=>k (.anyi j)|.str s,k=>k (.str s)|.nilptr,k=>k .nilptr|.ptr b o,k=>zK b λb=>zN o λo=>k (.ptr b o)
 |.nilsl,k=>k .nilsl|.sl b o l c e x,k=>zK b λb=>zN o λo=>zN l λl=>zN c λc=>zN e λe=>k (.sl b o l c e x)
 |.nilmap,k=>k .nilmap|.map b,k=>zK b λb=>k (.map b)
 |.nilfunc,k=>k .nilfunc|.niliface,k=>k .niliface|.win a b c d,k=>zSE c λc=>zSE d λd=>k (.win a b c d)
 |.big n,k=>k (.big n)|.few i t,k=>zN i λi=>k (.few i t)
 |.elt b o i m,k=>k (.elt b o i m)|.any,k=>k .any
def zVs:List CV->(List CV->Bool)->Bool
 | [],k=>k []|v::l,k=>zV v λv=>zVs l λl=>k (v::l)
end
mutual
theorem zGC:∀(c:CV) (k:CV->Bool),zV c k=k c
 |.agg l,k=>by unfold zV; exact zCI l _|.tup l,k=>by unfold zV; exact zCI l _|.sst l,k=>by unfold zV; exact zCI l _|.iface t v,k=>by unfold zV; exact zGC v _|.func f a b,k=>by unfold zV; rw[zCI a,zCI b]|.sym e,k=>by unfold zV; exact zET|.bool b,k=>by unfold zV; rfl|.nat n,k=>by unfold zV; exact j3|.int j n,k=>by unfold zV; exact zFl|.anyi j,k=>by unfold zV; rfl|.str s,k=>by unfold zV; rfl|.nilptr,k=>by unfold zV; rfl|.ptr b o,k=>by unfold zV; rw[wj,j3]|.nilsl,k=>by unfold zV; rfl|.sl b o l c e x,k=>by unfold zV; rw[wj,j3,j3,j3,j3]|.nilmap,k=>by unfold zV; rfl|.map b,k=>by unfold zV; exact wj|.nilfunc,k=>by unfold zV; rfl|.niliface,k=>by unfold zV; rfl|.win a b c d,k=>by unfold zV; rw[zET,zET]|.big n,k=>by unfold zV; rfl|.few i t,k=>by unfold zV; exact j3|.elt b o i m,k=>by unfold zV; rfl|.any,k=>by unfold zV; rfl
theorem zCI:∀(l:List CV) (k:List CV->Bool),zVs l k=k l
 | [],k=>by unfold zVs; rfl|v::l,k=>by unfold zVs; rw[zGC v,zCI l]
end
def zEs:List CE->(List CE->Bool)->Bool
 | [],k=>k []|⟨a,b,n⟩::l,k=>zV a λa=>zV b λb=>zN n λn=>zEs l λl=>k (⟨a,b,n⟩::l)
theorem zS3:∀{l:List CE} {k:List CE->Bool},zEs l k=k l
 | [],_=>rfl|⟨a,b,n⟩::l,k=>by unfold zEs; rw[zGC,zGC,j3,zS3]
def zZ:List (CV × CV)->(List (CV × CV)->Bool)->Bool
 | [],k=>k []|(a,b)::l,k=>zV a λa=>zV b λb=>zZ l λl=>k ((a,b)::l)
theorem zWy:∀{l:List (CV × CV)} {k:List (CV × CV)->Bool},zZ l k=k l
 | [],_=>rfl|(a,b)::l,k=>by unfold zZ; rw[zGC,zGC,zWy]
def zO(o:CObj)(k:CObj->Bool):Bool:=match o with
 |.cells l=>zVs l λl=>k (.cells l)
 |.map es c=>zEs es λes=>zN c λc=>k (.map es c)
 |.mapz es=>zZ es λes=>k (.mapz es)
 |.seen b=>zK b λb=>k (.seen b)
 |o=>k o
theorem zCR{o:CObj}{k:CObj->Bool}:zO o k=k o:=by
 cases o with
 |cells l=>exact zCI l _|map es c=>show(zEs es λes=>zN c λc=>k (.map es c))=_;rw[zS3,j3]|mapz es=>exact zWy|seen b=>exact wj (k:=λb=>k (.seen b))|_=>rfl
def zOs:List (Key × CObj)->(List (Key × CObj)->Bool)->Bool
 | [],k=>k []|(j,o)::l,k=>zK j λj=>zO o λo=>zOs l λl=>k ((j,o)::l)
theorem zTR:∀{l:List (Key × CObj)} {k:List (Key × CObj)->Bool},zOs l k=k l
 | [],_=>rfl|(j,o)::l,k=>by unfold zOs; rw[wj,zCR,zTR]
def zLc:List (Nat × CV)->(List (Nat × CV)->Bool)->Bool
 | [],k=>k []|(j,o)::l,k=>zN j λj=>zV o λo=>zLc l λl=>k ((j,o)::l)
theorem zOC:∀{l:List (Nat × CV)} {k:List (Nat × CV)->Bool},zLc l k=k l
 | [],_=>rfl|(j,o)::l,k=>by unfold zLc; rw[j3,zGC,zOC]
def zB:List (Int × Int)->(List (Int × Int)->Bool)->Bool
 | [],k=>k []|(a,b)::l,k=>zI a λa=>zI b λb=>zB l λl=>k ((a,b)::l)
theorem zPg:∀{l:List (Int × Int)} {k:List (Int × Int)->Bool},zB l k=k l
 | [],_=>rfl|(a,b)::l,k=>by unfold zB; rw[zFl,zFl,zPg]
def zF:List (LL × Int × Int)->(List (LL × Int × Int)->Bool)->Bool
 | [],k=>k []|(m,a,b)::l,k=>zLL m λm=>zI a λa=>zI b λb=>zF l λl=>k ((m,a,b)::l)
theorem zUa:∀{l:List (LL × Int × Int)} {k:List (LL × Int × Int)->Bool},zF l k=k l
 | [],_=>rfl|(m,a,b)::l,k=>by unfold zF; rw[zNS,zFl,zFl,zUa]
def zTS(T:TS)(k:TS->Bool):Bool:=match T with
 |⟨l,o,n,b,f,r,s⟩=>zLc l λl=>zOs o λo=>zK n λn=>zB b λb=>zF f λf=>k ⟨l,o,n,b,f,r,s⟩
theorem zOr{T:TS}{k:TS->Bool}:zTS T k=k T:=by obtain⟨l,o,n,b,f,r,s⟩:=T;show(zLc l λl=>zOs o λo=>zK n λn=>zB b λb=>zF f λf=>k ⟨l,o,n,b,f,r,s⟩)=_;rw[zOC,zTR,wj,zPg,zUa]
def wd:List (Nat × CV)->Tm
 | []=>.nil|p::r=>wP p.2 (Loc.ofNat p.1) (wd r)
def mkH(h:zC):List (Key × CObj)->zC
 | []=>h|p::r=>yy (some p.2) p.1 (mkH h r)
def kT:List (Key × CObj)->List Key->zC
 |p::r,j::js=>yy (some (.cells [.ptr j 0])) p.1 (kT r js)|_,_=>.nil
def kC:List (Key × CObj)->List Key->zC
 |p::r,j::js=>yy (some (.cells [.ptr p.1 0])) j (kC r js)|_,_=>.nil
def qo(U inv:zC)(I:TH)(h:zC)(lo hi:Nat):List (Key × CObj)->List Key->Bool
 | [],[]=>true|p::r,j::js=>wS U p.1 j&&wS inv j p.1&&Nat.ble lo p.1.ix&&Nat.ble (Nat.succ p.1.ix) hi&&(match zb j h with
  |some o=>zCp U I p.2 o|none=>false)&&qo U inv I h lo hi r js
 |_,_=>false
def findW:List Win->Key->Option Win
 | [],_=>none|w::r,k=>match decide (w.key=k)with
  |true=>some w|false=>findW r k
def zOj:List (Key × Nat)->Key->Nat->Bool
 | [],_,_=>false|p::r,k,z=>match decide (p.1=k)with
  |true=>Nat.beq p.2 z|false=>zOj r k z
def zIi(lo hi:Nat):List (Key × Nat)->Bool
 | []=>true|p::r=>Nat.ble lo p.1.ix&&Nat.ble (Nat.succ p.1.ix) hi&&zIi lo hi r
def wsOf(l:List Win):List (Key × Nat):=l.map λw=>(w.key,w.esz)
def zDG(U:zC)(k:Key):Bool:=match zl U k with
 |none=>true|some _=>false
def zW7(U:zC)(I:TH)(ws:List (Key × Nat))(c d:CV):Bool:=match c with
 |.win k z e n=>match d with
  |.win k' z' _ n'=>decide (k=k')&&Nat.beq z z'&&(zMK e (sv 0)&&zOj ws k z || zMK e ⟨.i64,0,[]⟩&&zOj ws k 0&&Nat.beq z 1)&&uk I n (.sym n')&&zDG U k&&Nat.ble 1 z|_=>false
 |c=>yH U I c d
def zLW(U:zC)(I:TH)(ws:List (Key × Nat))(tm:Tm):List (Nat × CV)->Bool
 | []=>true|p::r=>Nat.ble p.1 271&&zW7 U I ws p.2 (qC (Loc.ofNat p.1) tm)&&zLW U I ws tm r
def inQ(s:Int)(lo hi:Int):Option (Int × Int)->Bool
 |some u=>decide (lo<=s+u.1)&&decide (s+u.2<=hi)|none=>false
theorem zKd{s lo hi:Int}{o:Option (Int × Int)}(h:inQ s lo hi o=true):∃u,o=some u/\lo<=s+u.1/\s+u.2<=hi:=by
 unfold inQ at h;split at h
 . rename_i u;rw[Bool.and_eq_true,decide_eq_true_eq,decide_eq_true_eq]at h;exact⟨u,rfl,h.1,h.2⟩
 . cases h
def zRH(K:zU):List (Int × Int)->TH->Bool
 | [],[]=>true|q::r,s::I=>(inQ s.1 q.1 q.2 (zGy K.b s.2) || inQ s.1 q.1 q.2 (zNi K.b s.2 K.f))&&zRH K r I|_,_=>false
def zQ1(K:zU)(I:TH):List (LL × Int × Int)->Bool
 | []=>true|q::r=>(match up I q.1 with
  |some s=>inQ s.1 q.2.1 q.2.2 (zSC s.2 K.f) || inQ s.1 q.2.1 q.2.2 (zNi K.b s.2 K.f)|none=>false)&&zQ1 K I r
def zNP(I:TH)(r q:SRule):Bool:=(match up I r.x.l with
 |some s=>decide (r.op=q.op)&&kEq r.x.k q.x.k&&Nat.beq r.c q.c&&zm (r.x.c+s.1) q.x.c&&j9 s.2 q.x.l|none=>false)&&(match r.v,q.v with
 |.sym e,.sym e'=>uk I e (.sym e')|_,_=>false)
def zF0(I:TH)(r:SRule):List SRule->Bool
 | []=>false|q::l=>zNP I r q || zF0 I r l
def zU9(I:TH):List CV->List CV->Bool
 | [],[]=>true|.sym e::l,.sym e'::m=>uk I e (.sym e')&&zU9 I l m|_,_=>false
def zS2(I:TH)(r q:SRule):Bool:=(match r.op,q.op with
 |.lss,.lss=>true|.leq,.leq=>true|_,_=>false)&&Nat.beq r.c q.c&&uk I r.x (.sym q.x)&&(match r.v,q.v with
 |.agg l,.agg m=>zU9 I l m|_,_=>false)
def zG2(I:TH)(r:SRule):List SRule->Bool
 | []=>false|q::l=>zS2 I r q || zG2 I r l
def neC(I:TH)(K:zU)(r:SRule):Bool:=match r.v,r.c with
 |.bool false,0=>kEq r.x.k .i64&&(match up I r.x.l with
  |some s=>neX (r.x.c+s.1) s.2 (wH (-1) s.2) K.rules || neK K (r.x.c+s.1) s.2 K.rules || (match rng K s.2 with
   |some q=>decide (0<r.x.c+s.1+q.1) || decide (r.x.c+s.1+q.2<0)|none=>false)
  |none=>false)
 |_,_=>false
def zON(I:TH):CV->Option (Int × LL)
 |.sym e=>match up I e.l with
  |some s=>some (e.c+s.1,s.2)|none=>none
 |_=>none
def isE(z:Int × LL):CV->Bool
 |.sym e=>zm e.c z.1&&j9 e.l z.2|_=>false
def zPe(z:Int × LL):List CV->Option (List CV)
 | []=>none|c::l=>match isE z c with
  |true=>some l|false=>zPe z l
def zVA(I:TH):List CV->List CV->Option (Int × LL)
 | [],_=>none| [c],_=>zON I c|c::l,m=>match zON I c with
  |some z=>match zPe z m with
   |some m'=>zVA I l m'|none=>none
  |none=>none
def eqZ(a b:Int × LL):Bool:=zm a.1 b.1&&j9 a.2 b.2
def eqR(K:zU)(x:Int × LL)(e:SE):Bool:=match rng K (vf x.2 (wH (-1) e.l))with
 |some q=>decide (q.1=q.2)&&decide (x.1+q.1=e.c)|none=>false
def zXJ(K:zU)(x:Int × LL)(qx:SE)(m:List CV)(q:SRule):Bool:=match q.op,q.v with
 |.add,.agg (.sym n::l)=>eqR K x q.x&&zm n.c qx.c&&j9 n.l qx.l&&CV.beqs l m|_,_=>false
def zXr(K:zU)(x:Int × LL)(qx:SE)(m:List CV):List SRule->Bool:=List.rec (motive:=λ_=>Bool) false (λq _ ih=>zXJ K x qx m q || ih)
def zVi(I:TH)(K:zU)(r:SRule)(l:List CV)(q:SRule):Bool:=match q.op,q.v with
 |.sub,.agg m=>Nat.beq r.c (Nat.succ q.c)&&(match zON I (.sym r.x),zVA I l m with
  |some x,some z=>isE x (.sym q.x) || (eqZ x z&&zXr K x q.x m K.rules)|_,_=>false)
 |_,_=>false
def zXD(I:TH)(K:zU)(r:SRule)(l:List CV):List SRule->Bool:=List.rec (motive:=λ_=>Bool) false (λq _ ih=>zVi I K r l q || ih)
def zXh(I:TH)(K:zU)(r:SRule):Bool:=match r.v with
 |.agg []=>(match zON I (.sym r.x)with
  |some x=>(match rng K x.2 with
   |some q=>decide (x.1+q.2<=Int.ofNat r.c)|none=>false)
  |none=>false)
 |.agg l=>zXD I K r l K.rules|_=>false
def ui(I:TH)(K:zU):List SRule->Bool
 | []=>true|r::rs=>(match r.op with
  |.eql=>neC I K r|.sub=>zXh I K r|.lss=>zG2 I r K.rules|.leq=>zG2 I r K.rules|_=>zF0 I r K.rules)&&ui I K rs
theorem vk(k:IntKind)(n:Int)(e:SE):mkInt k n≠.sym e:=by
 cases n with
 |ofNat m=>cases m <;> cases k <;> (intro h; cases h)
 |negSucc m=>cases m <;> (intro h; cases h)
theorem zND(k:IntKind)(n:Nat)(e:SE):j6 k n≠.sym e:=by cases n <;> cases k <;> (intro h; cases h)
theorem zMs{op:BinOp}{k:IntKind}{a b:Int}{e:SE}(h:yR op k a b=some (.sym e)):False:=by
 cases op <;> first
  | (have h:some (mkInt k _)=some (.sym e):=h
     injection h with h; exact vk _ _ _ h)
  | (have h:some (CV.bool _)=some (.sym e):=h
     injection h with h; cases h)
  | (have h:Bool.rec (motive:=fun _=>Option CV) (some (mkInt k _)) none (zm b (.ofNat 0))=some (.sym e):=h
     cases hb:zm b (.ofNat 0) <;> rw[hb]at h
     . injection h with h; exact vk _ _ _ h
     . cases h)
  | (cases b with
     |ofNat m=>
      first
       | (have h:some (mkInt k _)=some (.sym e):=h
          injection h with h; exact vk _ _ _ h)
       | (cases a with
          |ofNat x=>have h:some (j6 k _)=some (.sym e):=h;injection h with h; exact zND _ _ _ h
          |negSucc x=>have h:some (mkInt k _)=some (.sym e):=h;injection h with h; exact vk _ _ _ h)
     |negSucc m=>cases h)
theorem zR9{Js JT:Nat->Int}{I:TH}(hI:qO Js JT I){r q:SRule}(h:zNP I r q=true)(hq:zi Js q):zi JT r:=by
 unfold zNP at h;rw[Bool.and_eq_true]at h;obtain⟨h1,h2⟩:=h;split at h1
 . rename_i s hs;simp only[Bool.and_eq_true,decide_eq_true_eq]at h1;obtain⟨⟨⟨⟨a1,a2⟩,a3⟩,a4⟩,a5⟩:=h1;rw[@yj noSym,decide_eq_true_eq]at a2;have a3:=@ze noSym _ _ a3;rw[@zX noSym,decide_eq_true_eq]at a4;have a5:=@jJ noSym _ _ a5;have hq:zi Js q/\(q.op=.add\/q.op=.sub\/q.op=.mul\/q.op=.lss\/q.op=.leq->False):=by
    refine⟨hq,λho=>?_⟩;split at h2
    . rename_i e e' he he';unfold zi at hq;rcases ho with ho |ho |ho |ho |ho <;> rw[ho]at hq
      . have hq:zCa Js q:=hq;unfold zCa at hq; rw[he']at hq; exact hq
      . have hq:zB7 Js q:=hq;unfold zB7 at hq; rw[he']at hq; exact hq
      . have hq:zB5 Js q:=hq;unfold zB5 at hq; rw[he']at hq; exact hq
      . have hq:zAb Js q:=hq;unfold zAb at hq; rw[he']at hq; exact hq
      . have hq:ua Js q:=hq;unfold ua at hq; rw[he']at hq; exact hq
    . cases h2
   have hq:zAk Js q/\(zAk JT r->zi JT r):=by
    obtain⟨hq,ho⟩:=hq;unfold zi at hq ⊢;rw[a1];generalize q.op=o at *
    cases o <;> first |exact⟨hq,id⟩ |exact(ho (.inl rfl)).elim |exact(ho (.inr (.inl rfl))).elim |exact(ho (.inr (.inr (.inl rfl)))).elim |exact(ho (.inr (.inr (.inr (.inl rfl))))).elim |exact(ho (.inr (.inr (.inr (.inr rfl))))).elim
   obtain⟨⟨u,b1,b2,b3⟩,hback⟩:=hq;have ex:evE JT r.x=evE Js q.x:=by unfold evE;rw[uC hI hs,<- a4,a5];omega
   refine hback ⟨u,by rw[a1,a2]; exact b1,by rw[a1,a2,a3,ex]; exact b2,?_⟩;split at h2
   . rename_i e e' he he';refine .inr ⟨e,he,?_⟩;unfold uk at h2;split at h2
     . rename_i k c l hf;split at h2
       . rename_i s' hs';simp only[Bool.and_eq_true]at h2;obtain⟨⟨c1,c2⟩,c3⟩:=h2;rw[@yj noSym,decide_eq_true_eq]at c1;rw[@zX noSym,decide_eq_true_eq]at c2;have c3:=@jJ noSym _ _ c3;injection hf with hf;injection hf with d1 hf;injection hf with d2 d3;rcases b3 with b3 |⟨e2,b4,b5⟩
         . rw[he']at b3;rw[<- b3]at b2;exact(zMs b2).elim
         . rw[he']at b4;injection b4 with b4;subst b4;rw[b5,c1,<- d1]
           congr 1
           unfold evE;rw[uC hI hs',c3,<- d3,d2,<- c2];omega
       . cases h2
     . cases h2
   . cases h2
 . cases h1
theorem zXQ{Js JT:Nat->Int}{I:TH}{K:zU}(hK:KnownOk Js K)(hI:qO Js JT I){r:SRule}(ho:r.op=.eql)(h:neC I K r=true):zi JT r:=by
 unfold neC at h;split at h
 . rename_i h1 h2;rw[Bool.and_eq_true,@yj noSym,decide_eq_true_eq]at h;obtain⟨hk,h⟩:=h;split at h
   . rename_i s hs;have hne:evE JT r.x≠0:=by
      unfold evE;rw[uC hI hs];rw[Bool.or_eq_true,Bool.or_eq_true]at h;rcases h with(h |h) |h
      . have:=zGc (J:=Js) (by rw[qQ]; omega) hK.rules h
        omega
      . have:=zD4 hK hK.rules h
        omega
      . split at h
        . rename_i q hq
          have:=yt hK hq
          rw[Bool.or_eq_true,decide_eq_true_eq,decide_eq_true_eq]at h;omega
        . cases h
     refine(zAO ho).2 ⟨.bool false,.inl hk,?_,.inl h1⟩;rw[ho,h2];show some (CV.bool (zm (evE JT r.x) (.ofNat 0)))=_;rw[@zX noSym,decide_eq_false (by simpa using hne)]
   . cases h
 . cases h
theorem zFK{Js JT:Nat->Int}{I:TH}(hI:qO Js JT I){c:CV}{z:Int × LL}(h:zON I c=some z):x8 JT c=z.1+evL Js z.2:=by
 unfold zON at h;split at h
 . rename_i e;split at h
   . rename_i s hs;injection h with h; subst h;show e.c+evL JT e.l=e.c+s.1+evL Js s.2;rw[uC hI hs]; omega
   . cases h
 . cases h
theorem zSj{J:Nat->Int}{z:Int × LL}{c:CV}(h:isE z c=true):x8 J c=z.1+evL J z.2:=by
 unfold isE at h;split at h
 . rename_i e;rw[Bool.and_eq_true,@zX noSym,decide_eq_true_eq]at h;show e.c+evL J e.l=_;rw[h.1,@jJ noSym _ _ h.2]
 . cases h
theorem zLC{J:Nat->Int}{z:Int × LL}{y:Int}:∀{m m':List CV},zPe z m=some m'->(if y<z.1+evL J z.2 then 1 else 0)+jr y (yc J m')<=jr y (yc J m)
 | [],_,h=>by cases h|c::l,m',h=>by
  unfold zPe at h;split at h
  . rename_i hc;injection h with h; subst h;show _<=jr y (x8 J c::yc J l);rw[zSj hc];exact Nat.le_refl _
  . have:=zLC (J:=J) (y:=y) h
    show _<=jr y (x8 J c::yc J l);simp only[jr];omega
theorem zPt{Js JT:Nat->Int}{I:TH}(hI:qO Js JT I){z:Int × LL}{y:Int}:∀{l m:List CV},zVA I l m=some z->jr y (yc JT l)<=jr y (yc Js m)+(if y<z.1+evL Js z.2 then 1 else 0)
 | [],_,h=>by cases h| [c],m,h=>by have h:zON I c=some z:=h;show jr y (x8 JT c::[])<=_;rw[zFK hI h];simp only[jr];omega|c::c'::l,m,h=>by
  unfold zVA at h;split at h
  . rename_i zc hz;split at h
    . rename_i m' hm;have h1:=zPt hI (y:=y) h;have h2:=zLC (J:=Js) (y:=y) hm;show jr y (x8 JT c::yc JT (c'::l))<=_;rw[zFK hI hz];simp only[jr]at h1 h2 ⊢;omega
    . cases h
  . cases h
theorem zXq{J:Nat->Int}{K:zU}(hK:KnownOk J K){x:Int × LL}{e:SE}(h:eqR K x e=true):evE J e=x.1+evL J x.2:=by
 unfold eqR at h;split at h
 . rename_i q hq;rw[Bool.and_eq_true,decide_eq_true_eq,decide_eq_true_eq]at h
   have:=yt hK hq
   rw[jM,qQ]at this;unfold evE;omega
 . cases h
theorem zQz{J:Nat->Int}{K:zU}(hK:KnownOk J K){x:Int × LL}{qx:SE}{m:List CV}:∀{rs:List SRule},(∀r∈rs,zi J r)->zXr K x qx m rs=true->x.1+evL J x.2=frA (evE J qx) (yc J m)
 | [],_,h=>by cases h|q::rs,hr,h=>by
  have h:(zXJ K x qx m q || zXr K x qx m rs)=true:=h;rw[Bool.or_eq_true]at h;rcases h with h |h
  . have hq:=hr q (by simp);unfold zXJ at h;split at h
    . rename_i n l ho hv;simp only[Bool.and_eq_true]at h;obtain⟨⟨⟨h1,h2⟩,h3⟩,h4⟩:=h;rw[@zX noSym,decide_eq_true_eq]at h2;have h3:=@jJ noSym _ _ h3;have h4:=@CV.beqs_eq noSym _ _ h4;have e1:evE J q.x=_:=zXq hK h1;unfold zi at hq;rw[ho]at hq;have hq:zCa J q:=hq;unfold zCa at hq;rw[hv]at hq;have hq:evE J q.x=frA (evE J n) (yc J l):=hq;rw[<- e1,hq,h4];unfold evE;rw[h2,h3]
    . cases h
  . exact zQz hK (λr h'=>hr r (by simp[h'])) h
theorem zVh{Js JT:Nat->Int}{I:TH}{K:zU}(hK:KnownOk Js K)(hI:qO Js JT I){r q:SRule}{l:List CV}(hq:zi Js q)(h:zVi I K r l q=true):evE JT r.x+jr (evE JT r.x) (yc JT l)<=r.c:=by
 unfold zVi at h;split at h
 . rename_i m ho hv;rw[Bool.and_eq_true]at h;obtain⟨hc,h⟩:=h;have hc:=Nat.eq_of_beq_eq_true hc;have hq:evE Js q.x+jr (evE Js q.x) (yc Js m)<=q.c:=by unfold zi at hq;rw[ho]at hq;have hq:zB7 Js q:=hq;unfold zB7 at hq;rw[hv]at hq;exact hq
   split at h
   . rename_i x z hx hz;have ex:evE JT r.x=x.1+evL Js x.2:=zFK hI (c:=.sym r.x) hx;have hs:=zPt hI (y:=evE JT r.x) hz;rw[Bool.or_eq_true]at h;rcases h with h |h
     . have e:evE Js q.x=_:=zSj (J:=Js) h;have e:evE JT r.x=evE Js q.x:=by rw[e,ex]
       rw[e]at hs ⊢;split at hs <;> omega
     . rw[Bool.and_eq_true]at h;obtain⟨h1,h2⟩:=h;unfold eqZ at h1;rw[Bool.and_eq_true,@zX noSym,decide_eq_true_eq]at h1;have e2:=@jJ noSym _ _ h1.2;have e3:=zQz hK hK.rules h2;obtain⟨f1,f2,f3⟩:=zLF (evE Js q.x) (yc Js m);rw[<- e3,<- ex]at f3;rw[<- h1.1,<- e2,<- ex,if_neg (by omega)]at hs;omega
   . cases h
 . cases h
theorem zPR{Js JT:Nat->Int}{I:TH}{K:zU}(hK:KnownOk Js K)(hI:qO Js JT I){r:SRule}{l:List CV}:∀{rs:List SRule},(∀q∈rs,zi Js q)->zXD I K r l rs=true->evE JT r.x+jr (evE JT r.x) (yc JT l)<=r.c
 | [],_,h=>by cases h|q::rs,hr,h=>by
  have h:(zVi I K r l q || zXD I K r l rs)=true:=h;rw[Bool.or_eq_true]at h;rcases h with h |h
  . exact zVh hK hI (hr q (by simp)) h
  . exact zPR hK hI (λr h'=>hr r (by simp[h'])) h
theorem zUY{Js JT:Nat->Int}{I:TH}{K:zU}(hK:KnownOk Js K)(hI:qO Js JT I){r:SRule}(ho:r.op=.sub)(h:zXh I K r=true):zi JT r:=by
 unfold zi;rw[ho];show zB7 JT r;unfold zB7;unfold zXh at h;split at h
 . rename_i hv;rw[hv];split at h
   . rename_i x hx;split at h
     . rename_i q hq;rw[decide_eq_true_eq]at h
       have:=yt hK hq
       have e:evE JT r.x=x.1+evL Js x.2:=zFK hI (c:=.sym r.x) hx;show evE JT r.x+((0:Nat):Int)<=r.c
       have:Int.ofNat r.c=(r.c:Int):=rfl
       omega
     . cases h
   . cases h
 . rename_i l _ hv;rw[hv];exact zPR hK hI hK.rules h
 . cases h
theorem zF8{Js JT:Nat->Int}{I:TH}(hI:qO Js JT I){r:SRule}:∀{m:List SRule},zF0 I r m=true->(∀q∈m,zi Js q)->zi JT r
 | [],h,_=>by cases h|q::m,h,hm=>by
  unfold zF0 at h;rw[Bool.or_eq_true]at h;rcases h with h |h
  . exact zR9 hI h (hm q (by simp))
  . exact zF8 hI h λq' hq'=>hm q' (by simp[hq'])
theorem zMo{Js JT:Nat->Int}{I:TH}(hI:qO Js JT I){e e':SE}(h:uk I e (.sym e')=true):evE JT e=evE Js e':=by
 have:=@zLg Js JT ⟨[],[],[],λ_=>none⟩ I (λ_=>none) hI e (.sym e') h _ ((@zp (linSym Js ⟨[],[],[],λ_=>none⟩) (λ_=>none) e' _).2 rfl)
 have this:Value.int e'.k (evE Js e')=Value.int e.k (evE JT e):=this;injection this with _ h2;exact h2.symm
theorem zWw{Js JT:Nat->Int}{I:TH}(hI:qO Js JT I){l:List CV}:∀{m:List CV},zU9 I l m=true->yc JT l=yc Js m:=by
 induction l with
 |nil=>
  intro m h;cases m with
  |nil=>rfl|cons _ _=>cases h
 |cons c l ih=>
  intro m h;cases m with
  |nil=>cases c <;> cases h|cons d m=>
   unfold zU9 at h;split at h
   . rename_i h1 h2; cases h1
   . rename_i e l' e' m' h1 h2;injection h1 with h1 h3;injection h2 with h2 h4;subst h1 h2 h3 h4;rw[Bool.and_eq_true]at h;show evE JT e::yc JT l=evE Js e'::yc Js m;rw[zMo hI h.1,ih h.2]
   . cases h
theorem zSZ{Js JT:Nat->Int}{I:TH}(hI:qO Js JT I){r q:SRule}(h:zS2 I r q=true)(hq:zi Js q):zi JT r:=by
 unfold zS2 at h;simp only[Bool.and_eq_true]at h;obtain⟨⟨⟨h1,h2⟩,h3⟩,h4⟩:=h;have hc:=@ze noSym _ _ h2;split at h4
 . rename_i l m hl hm;have hv:=zWw hI h4;split at h1
   . rename_i o1 o2;unfold zi at hq ⊢;rw[o2]at hq;rw[o1];show zAb JT r;have hq:zAb Js q:=hq;unfold zAb at hq ⊢;rw[hm]at hq;rw[hl];simp only at hq ⊢;rw[hv,hc]; exact hq
   . rename_i o1 o2;unfold zi at hq ⊢;rw[o2]at hq;rw[o1];show ua JT r;have hq:ua Js q:=hq;unfold ua at hq ⊢;rw[hm]at hq;rw[hl];have hx:=zMo hI h3;split at hq
     . rename_i a b hab;injection hab with hab;subst hab;have hlen:l.length=2:=by
        have:=congrArg List.length hv
        simpa [yc]using this
       match l,hlen with
       | [a',b'],_=>injection hv with e1 e2;injection e2 with e2 _;show evE JT r.x=max (x8 JT a') (x8 JT b');rw[hx,hq,e1,e2]
     . exact hq.elim
   . cases h1
 . cases h4
theorem zEM{Js JT:Nat->Int}{I:TH}(hI:qO Js JT I){r:SRule}:∀{m:List SRule},zG2 I r m=true->(∀q∈m,zi Js q)->zi JT r
 | [],h,_=>by cases h|q::m,h,hm=>by
  unfold zG2 at h;rw[Bool.or_eq_true]at h;rcases h with h |h
  . exact zSZ hI h (hm q (by simp))
  . exact zEM hI h λq' hq'=>hm q' (by simp[hq'])
theorem zBw{Js JT:Nat->Int}{I:TH}{K:zU}(hK:KnownOk Js K)(hI:qO Js JT I):∀{rs:List SRule},ui I K rs=true->yV JT rs
 | [],_=>trivial|r::rs,h=>by
  unfold ui at h;rw[Bool.and_eq_true]at h;refine⟨?_,zBw hK hI h.2⟩;have h:=h.1;split at h
  . rename_i ho; exact zXQ hK hI ho h
  . rename_i ho; exact zUY hK hI ho h
  . exact zEM hI h hK.rules
  . exact zEM hI h hK.rules
  . exact zF8 hI h hK.rules
def zKN(G:Nat)(ws:List (Key × Nat))(T:TS)(ks:List Key)(I:TH)(K:zU)(tm:Tm)(h:zC):Bool:=
 qo (kT T.objs ks) (kC T.objs ks) I h G T.n.ix T.objs ks&&zLW (kT T.objs ks) I ws tm T.locs&&zRH K T.b I&&zQ1 K I T.f&&zIi G T.n.ix ws&&Nat.ble G T.n.ix&&ui I K T.r
theorem zX5(p:Loc):qC p Tm.nil=.any:=@zGe noSym p
theorem zQo(v:CV)(p:Loc)(t:Tm):qC p (wP v p t)=v:=@kV noSym v p t
theorem zLQ(v:CV)(p q:Loc)(t:Tm)(h:q≠p):qC q (wP v p t)=qC q t:=@x9 noSym v p q t h
theorem ke(o:Option CObj)(k j:Key)(h:zC):zb j (yy o k h)=if j=k then o else zb j h:=@zEb noSym o k j h
theorem jG(k:Key):zb k (.nil:zC)=none:=@zBP noSym k
theorem uq(t:Nat):∀{locs:List (Nat × CV)},qC (Loc.ofNat t) (wd locs)=.any\/∃p∈locs,Loc.ofNat p.1=Loc.ofNat t/\qC (Loc.ofNat t) (wd locs)=p.2
 | []=>.inl (zX5 _)|p::r=>by
  by_cases e:Loc.ofNat p.1=Loc.ofNat t
  . refine .inr ⟨p,by simp,e,?_⟩;show qC _ (wP p.2 _ _)=_;rw[e,zQo]
  . have h:qC (Loc.ofNat t) (wd (p::r))=qC (Loc.ofNat t) (wd r):=zLQ _ _ _ _ (λq=>e q.symm);rcases uq t (locs:=r)with h' |⟨q,hq,h1,h2⟩
    . exact .inl (h.trans h')
    . exact .inr ⟨q,by simp[hq],h1,h.trans h2⟩
theorem qE{h:zC}{k:Key}{o:CObj}:∀{objs:List (Key × CObj)},zb k (mkH h objs)=some o->(∃j:Nat,objs[j]? = some (k,o))\/zb k h=some o
 | [],hh=>.inr hh|p::r,hh=>by
  have hh:zb k (yy (some p.2) p.1 (mkH h r))=some o:=hh;rw[ke]at hh;split at hh
  . rename_i e;injection hh with h1;exact .inl ⟨0,by subst e; subst h1; rfl⟩
  . rcases qE hh with⟨j,hj⟩ |h'
    . exact .inl ⟨j+1,by simpa using hj⟩
    . exact .inr h'
theorem zHK{k b:Key}:∀{objs:List (Key × CObj)} {ks:List Key},zl (kT objs ks) k=some b->∃(j:Nat) (o:CObj),objs[j]? = some (k,o)/\ks[j]? = some b
 | [],_,h=>by have h:zl .nil k=some b:=h;unfold zl at h;rw[jG]at h; cases h|_::_,[],h=>by have h:zl .nil k=some b:=h;unfold zl at h;rw[jG]at h; cases h|p::r,j::js,h=>by
  by_cases e:k=p.1
  . have h:zl (yy (some (.cells [.ptr j 0])) p.1 (kT r js)) k=some b:=h;unfold zl at h;rw[ke,if_pos e]at h;injection h with h;exact⟨0,p.2,by subst e; rfl,by subst h; rfl⟩
  . have h':zl (kT r js) k=some b:=by have h:zl (yy (some (.cells [.ptr j 0])) p.1 (kT r js)) k=some b:=h;unfold zl at h ⊢;rw[ke,if_neg e]at h;exact h
    obtain⟨i,o,h1,h2⟩:=zHK h';exact⟨i+1,o,by simpa using h1,by simpa using h2⟩
theorem jU{U:zC}{k j:Key}(h:wS U k j=true):zl U k=some j:=by
 unfold wS at h;split at h
 . rename_i b hb;rw[hb,@Key.ix_inj noSym _ _ (Nat.eq_of_beq_eq_true h)]
 . cases h
theorem kv{U inv:zC}{I:TH}{h:zC}{lo hi:Nat}:∀{objs:List (Key × CObj)} {ks:List Key},qo U inv I h lo hi objs ks=true->∀(j:Nat) (k:Key) (o:CObj),objs[j]? = some (k,o) ->
 ∃i o',ks[j]? = some i/\zl U k=some i/\zl inv i=some k/\lo<=k.ix/\k.ix<hi/\zb i h=some o'/\zCp U I o o'=true
 | [],_,_,j,k,o,hj=>by simp at hj|_::_,[],hc,_,_,_,_=>by cases hc|p::r,i::is,hc,j,k,o,hj=>by
  unfold qo at hc;simp only[Bool.and_eq_true]at hc;obtain⟨⟨⟨⟨⟨c1,c2⟩,c3⟩,c4⟩,c5⟩,c6⟩:=hc;cases j with
  |zero=>
   simp at hj;subst hj;split at c5
   . rename_i o' ho;exact⟨i,o',rfl,jU c1,jU c2,@zH noSym _ _ c3,@zH noSym _ _ c4,ho,c5⟩
   . cases c5
  |succ j=>obtain⟨i',o',h1,h2⟩:=kv c6 j k o (by simpa using hj);exact⟨i',o',by simpa using h1,h2⟩
theorem ku{l:List Win}{k:Key}{w:Win}(h:findW l k=some w):w∈l/\w.key=k:=by
 induction l with
 |nil=>cases h|cons x l ih=>
  unfold findW at h;split at h
  . rename_i e;injection h with h; subst h;exact⟨by simp,of_decide_eq_true e⟩
  . have:=ih h
    exact⟨by simp[this.1],this.2⟩
theorem zU6{l:List Win}{k:Key}{z:Nat}(h:zOj (wsOf l) k z=true):∃w,findW l k=some w/\w.esz=z:=by
 induction l with
 |nil=>cases h|cons x l ih=>
  have h:zOj ((x.key,x.esz)::wsOf l) k z=true:=h;unfold zOj at h;unfold findW;split at h
  . rename_i e;simp only at e;rw[e];exact⟨x,rfl,@ze noSym _ _ h⟩
  . rename_i e;simp only at e;rw[e];exact ih h
theorem zJ5{lo hi:Nat}{l:List Win}(h:zIi lo hi (wsOf l)=true):∀w∈l,lo<=w.key.ix/\w.key.ix<hi:=by
 induction l with
 |nil=>intro w hw; cases hw
 |cons x l ih=>
  have h:zIi lo hi ((x.key,x.esz)::wsOf l)=true:=h;unfold zIi at h;rw[Bool.and_eq_true,Bool.and_eq_true]at h;intro w hw;rcases List.mem_cons.1 hw with rfl |hw
  . exact⟨@zH noSym _ _ h.1.1,@zH noSym _ _ h.1.2⟩
  . exact ih h.2 w hw
theorem zMw{U:zC}{I:TH}{ws:List (Key × Nat)}{tm:Tm}:∀{locs:List (Nat × CV)},zLW U I ws tm locs=true->∀p∈locs,p.1<=271/\zW7 U I ws p.2 (qC (Loc.ofNat p.1) tm)=true
 | [],_,p,hp=>by cases hp|q::r,h,p,hp=>by
  unfold zLW at h;rw[Bool.and_eq_true,Bool.and_eq_true]at h;rcases List.mem_cons.1 hp with rfl |hp
  . exact⟨@zH noSym _ _ h.1.1,h.1.2⟩
  . exact zMw h.2 p hp
def qq(U h:zC)(wins:List Win)(Y:Psi)(G:Nat)(i:Int):Psi:=λk=>match zl U k with
 |some j=>(Y j).map λp=>⟨p.blk,p.off,p.sz,zD1 (zb j h) p.ck⟩
 |none=>match findW wins k with
  |some w=>some ⟨w.B,w.x+i.toNat*w.esz,w.sz,λn=>n⟩|none=>if k.ix<G then Y k else none
def evQ(J:Nat->Int)(q:Int × LL):Int:=q.1+evL J q.2
def ArgsAre(A:Key->Option Value)(wins:List Win):Prop:=∀w∈wins,A w.key=some (.slice w.base w.len w.cap)/\(0<w.len->w.base=some ⟨w.B,w.x,none⟩)/\(w.sz=w.x+w.cap*(max 1 w.esz))/\w.len<=w.cap
section
variable{Js:Nat->Int}{Ks:zU}{I:TH}{T:TS}{ks:List Key}{wins:List Win}{G:Nat}{F N:Nat}{Y:Psi}{tm:Tm}{h:zC}{n:Key}{a:Act}{w:World}
theorem zLi{Js:Nat->Int}{Ks:zU}(hK:KnownOk Js Ks){JT:Nat->Int}:∀{b:List (Int × Int)} {I:TH} {k:Nat},zRH Ks b I=true->(∀j q,nth I j=some q->JT (k+j)=evQ Js q) ->
 b.length=I.length/\zk JT k b
 | [],[],_,_,_=>⟨rfl,trivial⟩
 | [],_::_,_,h,_=>by cases h|_::_,[],_,h,_=>by cases h|q::r,s::I,k,h,hI=>by
  unfold zRH at h;rw[Bool.and_eq_true]at h;obtain⟨h1,h2⟩:=h;obtain⟨g1,g2⟩:=zLi hK (JT:=JT) (k:=k+1) h2 (λj q hj=>by
   have:=hI (j+1) q hj
   rw[show k+1+j=k+(j+1)from by omega]; exact this)
  refine⟨by simp[g1],?_,g2⟩;have h0:JT k=evQ Js s:=hI 0 s rfl;rw[Bool.or_eq_true]at h1;obtain⟨u,r,l1,l2⟩:∃u:Int × Int,(u.1<=evL Js s.2/\evL Js s.2<=u.2)/\q.1<=s.1+u.1/\s.1+u.2<=q.2:=by
   rcases h1 with h1 |h1
   . obtain⟨u,hu,l⟩:=zKd h1;exact⟨u,kf hK.b hu,l⟩
   . obtain⟨u,hu,l⟩:=zKd h1;exact⟨u,zBW hK.b hK.f hu,l⟩
  rw[h0];unfold evQ;constructor <;> omega
theorem zKS{Js JT:Nat->Int}{Ks:zU}(hK:KnownOk Js Ks){I:TH}(hI:qO Js JT I):∀{f:List (LL × Int × Int)},zQ1 Ks I f=true->xI JT f
 | [],_=>trivial|q::r,h=>by
  unfold zQ1 at h;rw[Bool.and_eq_true]at h;refine⟨?_,zKS hK hI h.2⟩;have h1:=h.1;split at h1
  . rename_i s hs;rw[Bool.or_eq_true]at h1;obtain⟨u,r,l1,l2⟩:∃u:Int × Int,(u.1<=evL Js s.2/\evL Js s.2<=u.2)/\q.2.1<=s.1+u.1/\s.1+u.2<=q.2.2:=by
     rcases h1 with h1 |h1
     . obtain⟨u,hu,l⟩:=zKd h1;exact⟨u,zHX hK.f hu,l⟩
     . obtain⟨u,hu,l⟩:=zKd h1;exact⟨u,zBW hK.b hK.f hu,l⟩
    rw[uC hI hs];constructor <;> omega
  . cases h1
theorem zTG(hst:@St (linSym Js Ks) P F N Y tm [] h n a w)(hG:P.globals.size<=G)(hA:ArgsAre Ks.arg wins)(hc:zKN G (wsOf wins) T ks I Ks tm h=true)(i:Int)(hi:∀q,nth I 0=some q->evQ Js q=i)(h0:∃q,nth I 0=some q) :
 ∃YT,(∀JT KT,qO Js JT I->KT.arg=Ks.arg->@St (linSym JT KT) P F N YT (wd T.locs) [] (mkH .nil T.objs) T.n a w) /\
  (∀k o p,zC.fam (mkH .nil T.objs) k=some o->YT k=some p->o.isRo=false/\∃k0 o0 p0,zC.fam h k0=some o0/\o0.isRo=false/\Y k0=some p0/\p0.blk=p.blk) /\
  (∀k wn,findW wins k=some wn->zDG (kT T.objs ks) k=true->YT k=some ⟨wn.B,wn.x+i.toNat*wn.esz,wn.sz,λn=>n⟩)/\zAW (kT T.objs ks) Y YT:=by
 have hR:@Rel (linSym Js Ks) Y (zC.fam h) w:=@St.rel (linSym Js Ks) _ _ _ _ _ _ _ _ _ _ hst;have hTot:∀k o,zC.fam h k=some o->∃p,Y k=some p:=@Rel.tot (linSym Js Ks) _ _ _ hR;have hOn:∀k o p,zC.fam h k=some o->Y k=some p->@xQ (linSym Js Ks) Y w p o:=@Rel.on (linSym Js Ks) _ _ _ hR;have hInj:=@Rel.inj (linSym Js Ks) _ _ _ hR;have hGl:vU P Y:=@St.glob (linSym Js Ks) _ _ _ _ _ _ _ _ _ _ hst;have hDf:=@St.dfr (linSym Js Ks) _ _ _ _ _ _ _ _ _ _ hst;have hFr:@xS (linSym Js Ks) Y F N tm a:=@St.frame (linSym Js Ks) _ _ _ _ _ _ _ _ _ _ hst;have hTmp:=@xS.tmp (linSym Js Ks) _ _ _ _ _ hFr;have hSz:=@xS.size (linSym Js Ks) _ _ _ _ _ hFr;unfold zKN at hc;simp only[Bool.and_eq_true]at hc;obtain⟨⟨⟨⟨⟨⟨c1,c2⟩,c3⟩,c4⟩,c5⟩,c6⟩,_⟩:=hc;have c6:=@zH noSym _ _ c6;generalize hU:kT T.objs ks=U at c1 c2;generalize hinv:kC T.objs ks=inv at c1;have hobj:=kv c1;have hwb:=zJ5 c5;have hrho:∀k b,zl U k=some b->G<=k.ix/\k.ix<T.n.ix/\∃(o o':CObj) (j:Nat),T.objs[j]? = some (k,o)/\zl inv b=some k/\zb b h=some o'/\zCp U I o o'=true:=by intro k b hk;have hk':=hk;rw[<- hU]at hk';obtain⟨j,o,h1,h2⟩:=zHK hk';obtain⟨i',o',g1,g2,g3,g4,g5,g6,g7⟩:=hobj j k o h1;rw[hk]at g2;injection g2 with g2;subst g2;exact⟨g4,g5,o,o',j,h1,g3,g6,g7⟩
 have hps:∀k j p,zl U k=some j->Y j=some p->qq U h wins Y G i k=some ⟨p.blk,p.off,p.sz,zD1 (zb j h) p.ck⟩:=by intro k j p hk hp;unfold qq;rw[hk];simp only;rw[hp]; rfl
 have hPs:zAW U Y (qq U h wins Y G i):=λk j p hk hp=>⟨_,hps k j p (jU hk) hp,rfl,rfl,rfl⟩
 have hwin:∀k wn,findW wins k=some wn->zDG U k=true->qq U h wins Y G i k=some ⟨wn.B,wn.x+i.toNat*wn.esz,wn.sz,λn=>n⟩:=by
  intro k wn hw hno;have hno:zl U k=none:=by
   unfold zDG at hno;split at hno
   . assumption
   . cases hno
  unfold qq;rw[hno];simp only;rw[hw]
 have hfam:∀k o p,zC.fam (mkH .nil T.objs) k=some o->qq U h wins Y G i k=some p->∃b o' p0,zl U k=some b/\zl inv b=some k/\zC.fam h b=some o'/\Y b=some p0/\zCp U I o o'=true /\
  p=⟨p0.blk,p0.off,p0.sz,zD1 (some o') p0.ck⟩:=by
  intro k o p hk hp;rcases qE hk with⟨j,hj⟩ |hn
  . obtain⟨b,o',g1,g2,g3,g4,g5,g6,g7⟩:=hobj j k o hj;obtain⟨p0,hp0⟩:=hTot b o' g6;rw[hps k b p0 g2 hp0,g6]at hp;injection hp with hp;exact⟨b,o',p0,g2,g3,g6,hp0,g7,hp.symm⟩
  . rw[jG]at hn; cases hn
 refine⟨qq U h wins Y G i,λJT KT hI hKT=>?_,?_,hwin,by first |exact hPs |(rw[hU]; exact hPs)⟩
 . refine @St.mk (linSym JT KT) P F N _ _ _ _ _ _ _ ?_ ?_ ?_ ?_ ?_
   . refine @xS.mk (linSym JT KT) _ _ _ _ _ hSz λt h1 h2 h3=>?_;rcases uq t (locs:=T.locs)with e |⟨p,hp,e1,e2⟩
     . rw[e]; exact @xo (linSym JT KT) _ _
     . obtain⟨q1,q2⟩:=zMw c2 p hp;have e1:p.1=t:=@Loc.ofNat_inj noSym _ _ q1 h2 e1;rw[e2];rw[e1]at q2;have hv:=hTmp t h1 h2 h3;unfold zW7 at q2;split at q2
       . rename_i k z e nn heq;split at q2
         . rename_i k' z' e' n' heq';simp only[Bool.and_eq_true,decide_eq_true_eq]at q2;obtain⟨⟨⟨⟨⟨rfl,hz⟩,hew⟩,hn⟩,hno⟩,h1z⟩:=q2;have h1z:=@zH noSym _ _ h1z;obtain rfl:=@ze noSym _ _ hz;rw[heq',@qW (linSym Js Ks)]at hv;obtain⟨ha,base,len,cap,iv,hv',hn',he',_⟩:=hv;have ha:Ks.arg k=some (a.tmps.getD t undef):=ha;have hn2:=zLg (Ks:=Ks) (Ys:=Y) hI hn (v:=.int .i64 len) ((@zp (linSym Js Ks) _ _ _).2 hn'.symm);have key:∀zz,zOj (wsOf wins) k zz=true->∃wn,findW wins k=some wn/\wn.esz=zz/\a.tmps.getD t undef=.slice wn.base wn.len wn.cap/\(0<wn.len->wn.base=some ⟨wn.B,wn.x,none⟩)/\wn.sz=wn.x+wn.cap*(max 1 wn.esz)/\wn.len<=wn.cap/\len=wn.len:=by intro zz hw;obtain⟨wn,hwn,hez⟩:=zU6 hw;obtain⟨hmem,hkey⟩:=ku hwn;obtain⟨hA',hbase,hsz,hlc⟩:=hA wn hmem;rw[hkey]at hA';rw[ha]at hA';injection hA' with hA';refine⟨wn,hwn,hez,hA',hbase,hsz,hlc,?_⟩;rw[hv']at hA';injection hA' with _ h2 _
           rw[heq,@qW (linSym JT KT)];rw[Bool.or_eq_true,Bool.and_eq_true,Bool.and_eq_true,Bool.and_eq_true]at hew;rcases hew with⟨he,hw⟩ |⟨⟨he,hw⟩,hz1⟩
           . obtain rfl:=@zBy noSym _ _ he;obtain⟨wn,hwn,hez,hA',hbase,hsz,hlc,hlen⟩:=key z hw;obtain⟨q0,hq0⟩:=h0;refine⟨by show KT.arg k=_; rw[hKT]; exact ha,wn.base,wn.len,wn.cap,i,hA',?_,?_,λq1 q2=>⟨_,wn.x,hwin k wn hwn hno,hbase (by omega),?_⟩⟩
             . rw[<- hlen]; exact hn2.symm
             . show Value.int .i64 (evE JT (sv 0))=.int .i64 i;rw[xn,hI 0 q0 hq0]
               have:=hi q0 hq0
               unfold evQ at this;rw[this]
             . rw[<- hez];refine⟨rfl,?_,hlc⟩;rw[hsz,show max 1 wn.esz=wn.esz from by omega]
           . obtain rfl:=@zBy noSym _ _ he;obtain rfl:=@ze noSym _ _ hz1;obtain⟨wn,hwn,hez,hA',hbase,hsz,hlc,hlen⟩:=key 0 hw;refine⟨by show KT.arg k=_; rw[hKT]; exact ha,wn.base,wn.len,wn.cap,0,hA',?_,?_,λq1 q2=>⟨_,wn.x,hwin k wn hwn hno,hbase (by omega),?_⟩⟩
             . rw[<- hlen]; exact hn2.symm
             . rfl
             . refine⟨?_,?_,hlc⟩
               . show wn.x+i.toNat*wn.esz=wn.x+(0:Int).toNat*1;rw[hez]; simp
               . rw[hsz,hez]; rfl
         . cases q2
       . exact qP hI hPs _ _ q2 hv
   . exact hDf
   . refine @Rel.mk (linSym JT KT) _ _ _ ?_ ?_ ?_
     . intro k o p hk hp;obtain⟨b,o',p0,g1,g2,g3,g4,g5,rfl⟩:=hfam k o p hk hp;exact(zPW (p:=p0) (p':=⟨p0.blk,p0.off,p0.sz,zD1 (some o') p0.ck⟩) hI hPs g5 rfl rfl rfl rfl (hOn b o' p0 g3 g4)).1
     . intro k o hk;rcases qE hk with⟨j,hj⟩ |hn
       . obtain⟨b,o',g1,g2,g3,g4,g5,g6,g7⟩:=hobj j k o hj;obtain⟨p0,hp0⟩:=hTot b o' g6;exact⟨_,hps k b p0 g2 hp0⟩
       . rw[jG]at hn; cases hn
     . intro k₁ k₂ o₁ o₂ p₁ p₂ h1 h2 h3 h4 hr e;obtain⟨b1,o1',q1,g1,g2,g3,g4,g5,rfl⟩:=hfam _ _ _ h1 h3;obtain⟨b2,o2',q2,f1,f2,f3,f4,f5,rfl⟩:=hfam _ _ _ h2 h4
       have:=hInj b1 b2 _ _ _ _ g3 f3 g4 f4 (.inl (zMp g5)) e
       subst this;rw[g2]at f2;injection f2
   . intro g hg h4;obtain⟨sz,e⟩:=hGl g hg h4;have hix:(Key.ofNat g).ix=g:=@Key.ix_ofNat noSym _ (by omega);refine⟨sz,?_⟩;have hno:zl U (Key.ofNat g)=none:=by
      cases hr:zl U (Key.ofNat g)with
      |none=>rfl|some b=>have:=(hrho _ _ hr).1; omega
     have hnw:findW wins (Key.ofNat g)=none:=by
      cases hr:findW wins (Key.ofNat g)with
      |none=>rfl|some wn=>
       obtain⟨hm,hk⟩:=ku hr
       have:=(hwb wn hm).1
       rw[hk]at this; omega
     unfold qq;rw[hno];simp only;rw[hnw];simp only;rw[if_pos (by omega)];exact e
   . intro k hk;have hno:zl U k=none:=by
      cases hr:zl U k with
      |none=>rfl|some b=>have:=(hrho _ _ hr).2.1; omega
     have hnw:findW wins k=none:=by
      cases hr:findW wins k with
      |none=>rfl|some wn=>
       obtain⟨hm,hk⟩:=ku hr
       have:=(hwb wn hm).2
       rw[hk]at this; omega
     unfold qq;rw[hno];simp only;rw[hnw];simp only;split
     . rename_i hlt;omega
     . rfl
 . intro k o p hk hp;obtain⟨b,o',p0,g1,g2,g3,g4,g5,rfl⟩:=hfam k o p hk hp;have hro:o.isRo=false/\o'.isRo=false:=by
    unfold zCp at g5;split at g5
    . exact⟨rfl,rfl⟩
    . exact⟨rfl,rfl⟩
    . exact⟨rfl,rfl⟩
    . exact⟨rfl,rfl⟩
    . exact⟨rfl,rfl⟩
    . exact⟨rfl,rfl⟩
    . exact⟨rfl,rfl⟩
    . cases g5
   exact⟨hro.1,b,o',p0,g3,hro.2,g4,rfl⟩
end
end
end Go.Ev
namespace Go.Ev
variable[Sym]
noncomputable section
variable{P:Program}
variable[SymFact P]
inductive Stp where
 |l |r |b
def zEk(P:Program)(call:yw):List Stp->CCode->K
 | [],_=>λtm ds h n=>.ok .normal tm ds h n
 |.l::p,.seq a _=>zEk P call p a|.r::p,.seq a b=>λtm ds h n=>qi (zEk P call p b) (zq P call a tm ds h n)
 |.b::p,.block _ x=>zEk P call p x|_,_=>λ_ _ _ _=>.err 330
def uv(P:Program)(call:yw):List Stp->CCode->R->R
 | [],_=>λr=>r
 |.l::p,.seq a b=>λr=>qi (zq P call b) (uv P call p a r)
 |.r::p,.seq _ b=>uv P call p b|.b::p,.block id x=>λr=>zAM id (uv P call p x r)
 |_,_=>λ_=>.err 331
def uc:List Stp->CCode->CCode
 | [],.loop b=>b|.l::p,.seq a _=>uc p a|.r::p,.seq _ b=>uc p b|.b::p,.block _ x=>uc p x|_,_=>.bad 50
def bodyF:CFn->CCode
 |.mk b _=>b|_=>.bad 51
def resF:CFn->List CRes
 |.mk _ r=>r|_=>[]
def subC:List Stp->Code->Option Code
 | [],.loop b=>some b|.l::p,.seq x _=>subC p x|.r::p,.seq _ y=>subC p y|.b::p,.block _ x=>subC p x|_,_=>none
def QH(P:Program):List Stp->Code->(Exit->Act->World->Prop)->Exit->Act->World->Prop
 |.l::p,.seq x y,Q=>QH P p x (Exit.then (y.wp P Q) Q)|.r::p,.seq _ y,Q=>QH P p y Q|.b::p,.block id x,Q=>QH P p x (Exit.inBlock id Q)|_,_,Q=>Q
omit [SymFact P]in
theorem kx{F N:Nat}:∀{p:List Stp} {c b:Code},subC p c=some b->uc p (zS P F N c)=zS P F N b
 | [],c,b,h=>by cases c <;> first |(injection h with h; subst h; rfl) |cases h
 |.l::p,c,b,h=>by cases c <;> first |exact kx (p:=p) h |cases h
 |.r::p,c,b,h=>by cases c <;> first |exact kx (p:=p) h |cases h
 |.b::p,c,b,h=>by cases c <;> first |exact kx (p:=p) h |cases h
section
variable{F N:Nat}{call:yw}
theorem k9(hcall:xP call):∀(p:List Stp) (c:CCode) (tm:Tm) (ds:xz) (h:zC) (n:Key),zo n (zEk P call p c tm ds h n)
 | [],_,_,_,_,_=>Nat.le_refl _|.l::p,c,tm,ds,h,n=>by cases c <;> first |exact k9 hcall p _ tm ds h n |trivial
 |.r::p,c,tm,ds,h,n=>by cases c <;> first |exact qt (λtm ds h n=>k9 hcall p _ tm ds h n) (xL hcall _ tm ds h n) |trivial
 |.b::p,c,tm,ds,h,n=>by cases c <;> first |exact k9 hcall p _ tm ds h n |trivial
theorem zBC(hcall:yk P call)(hdraw:qc P F N call):∀(p:List Stp) (c:Code) {b:Code} {Q:Exit->Act->World->Prop} {Y:Psi} {tm:Tm} {ds:xz} {h:zC} {n:Key} {a:Act} {w:World},
 subC p c=some b->zt c=true->St P F N Y tm ds h n a w->zd (zEk P call p (zS P F N c) tm ds h n) ->
 (∀e a' w',xN P F N Y (zC.fam h) n w (zEk P call p (zS P F N c) tm ds h n) e a' w'->e=.normal/\uQ P b (QH P p c Q) a' w')->c.wp P Q a w
 | [],c,b,Q,Y,tm,ds,h,n,a,w,hs,hn,hst,hc,hq=>by
  cases c <;> try (cases hs; done)
  rename_i b';injection hs with hs; subst hs;exact zHb (hq .normal a w ⟨trivial,Y,hst,yF.refl hst.rel,hc⟩).2
 |.l::p,c,b,Q,Y,tm,ds,h,n,a,w,hs,hn,hst,hc,hq=>by
  cases c <;> try (cases hs; done)
  rename_i x y;have hnr:zt x=true/\zt y=true:=by simpa [zt]using hn
  exact wp_seq (zBC hcall hdraw p x (Q:=Exit.then (y.wp P Q) Q) hs hnr.1 hst hc hq)
 |.r::p,c,b,Q,Y,tm,ds,h,n,a,w,hs,hn,hst,hc,hq=>by
  cases c <;> try (cases hs; done)
  rename_i x y;have hnr:zt x=true/\zt y=true:=by simpa [zt]using hn
  have hc:zd (qi (zEk P call p (zS P F N y)) (zq P call (zS P F N x) tm ds h n)):=hc;have hab:=λtm ds h n=>k9 (P:=P) hcall.above p (zS P F N y) tm ds h n;refine wp_seq (wp_mono (kG hcall hdraw x hnr.1 hst (qG hab hc)) λe a' w' ho=>?_);rcases kw hc ho with⟨rfl,tm',ds',h',n',Y',h2,h3,h4,h5⟩ |⟨h1,h2⟩
  . refine zBC hcall hdraw p y (Q:=Q) hs hnr.2 h2 h4 λe'' a'' w'' ho'=>?_;exact hq e'' a'' w'' (h5 e'' a'' w'' (xN.trans h3 ho'))
  . exact absurd (hq e a' w' h2).1 h1
 |.b::p,c,b,Q,Y,tm,ds,h,n,a,w,hs,hn,hst,hc,hq=>by
  cases c <;> try (cases hs; done)
  rename_i id x;exact wp_block (zBC hcall hdraw p x (Q:=Exit.inBlock id Q) hs hn hst hc hq)
theorem k7(hcall:xP call):∀(p:List Stp) (c:CCode) {r:R},zd (uv P call p c r)->zd r
 | [],_,_,h=>h|.l::p,c,r,h=>by cases c <;> first |exact k7 hcall p _ (qG (λtm ds h n=>xL hcall _ tm ds h n) h) |exact h.elim
 |.r::p,c,r,h=>by cases c <;> first |exact k7 hcall p _ h |exact h.elim
 |.b::p,c,r,h=>by cases c <;> first |exact k7 hcall p _ (kO _ h) |exact h.elim
theorem u9(hcall:yk P call)(hdraw:qc P F N call){Y₀:Psi}{g₀:Fam}{n₀:Key}{w₀:World}:∀(p:List Stp) (c:Code) {b:Code} {Q:Exit->Act->World->Prop} {r:R} {e:Exit} {a:Act} {w:World},
 subC p c=some b->zt c=true->xN P F N Y₀ g₀ n₀ w₀ r e a w->zd (uv P call p (zS P F N c) r) ->
 (∀e a w,xN P F N Y₀ g₀ n₀ w₀ (uv P call p (zS P F N c) r) e a w->Q e a w)->QH P p c Q e a w
 | [],c,b,Q,r,e,a,w,hs,hn,ho,hc,hq=>by cases c <;> first |exact hq e a w ho |cases hs
 |.l::p,c,b,Q,r,e,a,w,hs,hn,ho,hc,hq=>by
  cases c <;> try (cases hs; done)
  rename_i x y;have hnr:zt x=true/\zt y=true:=by simpa [zt]using hn
  have hc:zd (qi (zq P call (zS P F N y)) (uv P call p (zS P F N x) r)):=hc;have hab:=λtm ds h n=>xL (P:=P) hcall.above (zS P F N y) tm ds h n;refine u9 hcall hdraw p x (Q:=Exit.then (y.wp P Q) Q) hs hnr.1 ho (qG hab hc) λe a w ho=>?_;rcases kw hc ho with⟨rfl,tm',ds',h',n',Y',h2,h3,h4,h5⟩ |⟨h1,h2⟩
  . exact wp_mono (kG hcall hdraw y hnr.2 h2 h4) λe'' a'' w'' ho'=>hq e'' a'' w'' (h5 e'' a'' w'' (xN.trans h3 ho'))
  . cases e <;> first |exact absurd rfl h1 |exact hq _ _ _ h2
 |.r::p,c,b,Q,r,e,a,w,hs,hn,ho,hc,hq=>by
  cases c <;> try (cases hs; done)
  rename_i x y;have hnr:zt x=true/\zt y=true:=by simpa [zt]using hn
  exact u9 hcall hdraw p y (Q:=Q) hs hnr.2 ho hc hq
 |.b::p,c,b,Q,r,e,a,w,hs,hn,ho,hc,hq=>by
  cases c <;> try (cases hs; done)
  rename_i id x;have hc:zd (zAM id (uv P call p (zS P F N x) r)):=hc;refine u9 hcall hdraw p x (Q:=Exit.inBlock id Q) hs hn ho (kO id hc) λe a w ho=>?_;exact zAE (λe a w h=>hq e a w h) ho
end
end
end Go.Ev
namespace Go.Ev
noncomputable section
variable{P:Program}
def zY6(v:CV):Option (Key × Nat):=match v with
 |.ptr b o=>some (b,o)|.sl b o _ _ _ _=>some (b,o)|_=>none
def zNR(l:List CV)(v:CV):Nat->List CV:=List.rec (motive:=λ_=>Nat->List CV) (λ_=>[]) (λx r ih i=>Nat.rec (motive:=λ_=>List CV) (v::r) (λj _=>x::ih j) i) l
theorem zNf{v:CV}:∀{l:List CV} {i j:Nat} {c:CV},(zNR l v i)[j]? = some c->(j=i/\c=v/\i<l.length)\/(j≠i/\l[j]? = some c)
 | [],i,j,c,h=>by have h:([]:List CV)[j]? = some c:=h;simp at h|x::r,0,j,c,h=>by
  have h:(v::r)[j]? = some c:=h;cases j with
  |zero=>simp at h; exact .inl ⟨rfl,h.symm,by simp⟩|succ j=>exact .inr ⟨by omega,by simpa using h⟩
 |x::r,i+1,j,c,h=>by
  have h:(x::zNR r v i)[j]? = some c:=h;cases j with
  |zero=>simp at h; exact .inr ⟨by omega,by simpa using h⟩|succ j=>
   rcases zNf (l:=r) (i:=i) (by simpa using h)with⟨a,b,d⟩ |⟨a,b⟩
   . exact .inl ⟨by omega,b,by simp; omega⟩
   . exact .inr ⟨by omega,by simpa using b⟩
theorem zM9{v:CV}:∀{l:List CV} {i:Nat},(zNR l v i).length=l.length
 | [],_=>rfl|x::r,0=>rfl|x::r,i+1=>by show(zNR r v i).length+1=_;rw[zM9]; rfl
def slV:List Nat->CV->zC->Key->(CV->zC->Key->Bool)->Bool
 | [],v,h,n,k=>match v with
  |.sl b (.succ o) l c e x=>match zb b h with
   |some (.cells vs)=>match Nat.ble (Nat.succ o) vs.length&&Nat.ble (Nat.succ n.ix) 65535 with
    |true=>k (.sl n 0 l c e x) (yy (some (.cells (vs.drop (Nat.succ o)))) n (yy none b h)) n.succ|false=>k (.sl b (.succ o) l c e x) h n
   |_=>k (.sl b (.succ o) l c e x) h n
  |v=>k v h n
 |i::r,v,h,n,k=>match zY6 v with
  |some q=>match zb q.1 h with
   |some (.cells vs)=>match nth vs (q.2+i)with
    |some c=>slV r c h n λc' h' n'=>match zb q.1 h' with
     |some (.cells vs')=>k v (yy (some (.cells (zNR vs' c' (q.2+i)))) q.1 h') n'|_=>k v h' n'
    |none=>k v h n
   |_=>k v h n
  |none=>k v h n
def zB6:List (Nat × List Nat)->Tm->zC->Key->(Tm->zC->Key->Bool)->Bool
 | [],tm,h,n,k=>k tm h n|p::r,tm,h,n,k=>slV p.2 (qC (Loc.ofNat p.1) tm) h n λv h n=>zB6 r (wP v (Loc.ofNat p.1) tm) h n k
theorem zTL:∀(p:List Nat) (v:CV) (h:zC) (n:Key),∃v' h' n',∀k,slV p v h n k=k v' h' n'
 | [],v,h,n=>by
  unfold slV;split
  . split
    . split
      . exact⟨_,_,_,λ_=>rfl⟩
      . exact⟨_,_,_,λ_=>rfl⟩
    . exact⟨_,_,_,λ_=>rfl⟩
  . exact⟨_,_,_,λ_=>rfl⟩
 |i::r,v,h,n=>by
  unfold slV;split
  . rename_i q _;split
    . split
      . rename_i c _;obtain⟨c',h',n',e⟩:=zTL r c h n;cases hg:zb q.1 h' with
        |none=>exact⟨v,h',n',λk=>by rw[e]; simp only[hg]⟩|some o=>cases o with
         |cells vs'=>exact⟨v,yy (some (.cells (zNR vs' c' (q.2+i)))) q.1 h',n',λk=>by rw[e]; simp only[hg]⟩|_=>exact⟨v,h',n',λk=>by rw[e]; simp only[hg]⟩
      . exact⟨_,_,_,λ_=>rfl⟩
    . exact⟨_,_,_,λ_=>rfl⟩
  . exact⟨_,_,_,λ_=>rfl⟩
theorem zL3:∀(l:List (Nat × List Nat)) (tm:Tm) (h:zC) (n:Key),∃tm' h' n',∀k,zB6 l tm h n k=k tm' h' n'
 | [],tm,h,n=>⟨tm,h,n,λ_=>rfl⟩
 |p::r,tm,h,n=>by obtain⟨v,h1,n1,e⟩:=zTL p.2 (qC (Loc.ofNat p.1) tm) h n;obtain⟨tm',h',n',e'⟩:=zL3 r (wP v (Loc.ofNat p.1) tm) h1 n1;exact⟨tm',h',n',λk=>by unfold zB6; rw[e]; exact e' k⟩
theorem zOb{l:List (Nat × List Nat)}{tm:Tm}{h:zC}{n:Key}{α:Type}{k:Tm->zC->Key->Bool}{k':α->Tm->zC->Key->Bool}(hk:zB6 l tm h n k=true)(hh:∀tm h n,k tm h n=true->∃x,k' x tm h n=true) :
 ∃x,zB6 l tm h n (k' x)=true:=by
 obtain⟨tm',h',n',e⟩:=zL3 l tm h n;rw[e]at hk;obtain⟨x,hx⟩:=hh _ _ _ hk;exact⟨x,by rw[e]; exact hx⟩
theorem zS1{w:World}{B:Nat}{o:Obj}(h:w.heap[B]? = some o):w.upB B o=w:=by
 have:w.heap.setIfInBounds B o=w.heap:=by
  apply Array.ext_getElem?;intro i;rw[Array.getElem?_setIfInBounds];split
  . rename_i e;subst e;split
    . exact h.symm
    . rename_i q;rw[Array.getElem?_eq_none (by omega)]
  . rfl
 show { w with heap:=w.heap.setIfInBounds B o }=w;rw[this]
section
variable[Sym]
theorem zUR{w:World}:∀(p:List Nat) {v:CV} {h:zC} {n:Key} {Y:Psi} {k:CV->zC->Key->Bool},Rel Y (zC.fam h) w->qN Y n->slV p v h n k=true ->
 ∃v' h' n' Y',yF Y (zC.fam h) n w Y' (zC.fam h') n' w/\qN Y' n'/\(∀x,zG Y v x->zG Y' v' x)/\k v' h' n'=true
 | [],v,h,n,Y,k,hr,hf,hk=>by
  have same:k v h n=true->∃v' h' n' Y',yF Y (zC.fam h) n w Y' (zC.fam h') n' w/\qN Y' n'/\(∀x,zG Y v x->zG Y' v' x)/\k v' h' n'=true:=
   λhk=>⟨v,h,n,Y,yF.refl hr,hf,λ_ h=>h,hk⟩
  unfold slV at hk;split at hk
  . rename_i b o l c e x;split at hk
    . rename_i vs hb;split at hk
      . rename_i hc;rw[Bool.and_eq_true]at hc;have c1:=@zH noSym _ _ hc.1;have c2:=@zH noSym _ _ hc.2;have hb':zC.fam h b=some (.cells vs):=hb;obtain⟨p,hp⟩:=hr.tot b _ hb';have ho:=hr.on b _ p hb' hp;obtain⟨arr,elem,fz,g1,g2,g3,g4,g5⟩:=ho;have hroom:n.room:=by unfold Key.room; omega
        have hnone:Y n=none:=hf n (Nat.le_refl _);have hle:=Psi.le_upd (Y:=Y) (k:=n) ⟨p.blk,p.off+Nat.succ o,p.sz,p.ck⟩ hnone;have hpost:=zJj (n:=n) (p':=⟨p.blk,p.off+Nat.succ o,p.sz,p.ck⟩) (ob:=.cells arr elem fz) (o':=.cells (vs.drop (Nat.succ o))) hr hroom hnone hb' rfl hp rfl (by
         rw[zS1 g1];refine⟨arr,elem,fz,g1,g2,?_,g4,λi c hi=>?_⟩
         . show p.off+Nat.succ o+(vs.drop (Nat.succ o)).length<=p.sz;rw[List.length_drop]; omega
         . rw[List.getElem?_drop]at hi;obtain⟨y,q1,q2⟩:=g5 _ c hi;refine⟨y,?_,q2.mono hle⟩;rw[<- q1]; congr 1; show p.off+Nat.succ o+i=_; omega)
        rw[zS1 g1]at hpost;refine⟨_,_,_,_,by rw[z7,z7]; exact hpost,?_,λy hy=>?_,hk⟩
        . intro j hj;have hix:=Key.ix_succ hroom;rw[Psi.upd_other _ _ (λe=>by subst e; omega)];exact hf j (by omega)
        . rw[yJ]at hy ⊢;obtain⟨p1,y1,cap',k1,k2,k3,k4,k5,k6⟩:=hy;rw[hp]at k1; injection k1 with k1; subst k1;exact⟨_,y1,cap',Psi.upd_same _ _ _,k2,k3,k4,k5,k6⟩
      . exact same hk
    . exact same hk
  . exact same hk
 |i::r,v,h,n,Y,k,hr,hf,hk=>by
  have same:k v h n=true->∃v' h' n' Y',yF Y (zC.fam h) n w Y' (zC.fam h') n' w/\qN Y' n'/\(∀x,zG Y v x->zG Y' v' x)/\k v' h' n'=true:=
   λhk=>⟨v,h,n,Y,yF.refl hr,hf,λ_ h=>h,hk⟩
  unfold slV at hk;split at hk
  . rename_i q _;split at hk
    . rename_i vs hb;split at hk
      . rename_i c hc;obtain⟨c',h',n',Y',g1,g2,g3,g4⟩:=zUR r hr hf hk;split at g4
        . rename_i vs' hb';have hb0:zC.fam h q.1=some (.cells vs):=hb;have hb1:zC.fam h' q.1=some (.cells vs'):=hb';obtain⟨p,hp⟩:=hr.tot _ _ hb0;have hp':=g1.ext _ _ hp;obtain⟨arr,elem,fz,a1,a2,a3,a4,a5⟩:=hr.on _ _ _ hb0 hp;obtain⟨arr',elem',fz',b1,b2,b3,b4,b5⟩:=g1.rel.on _ _ _ hb1 hp';have hsame:arr'=arr:=by rw[a1]at b1; injection b1 with b1; injection b1 with b1; exact b1.symm
          rw[@nth_eq noSym]at hc;obtain⟨x,x1,x2⟩:=a5 _ _ hc;have hpost:=zEv (n:=n') (o':=.cells (zNR vs' c' (q.2+i))) g1.rel hb1 hp' ⟨arr',elem',fz',b1,b2,by rw[zM9]; exact b3,b4,λj d hj=>by
           rcases zNf hj with⟨e1,e2,_⟩ |⟨_,e2⟩
           . subst e1; subst e2;exact⟨x,by rw[hsame]; exact x1,g3 x x2⟩
           . exact b5 j d e2⟩
          exact⟨v,_,n',Y',g1.trans (by rw[z7]; exact hpost),g2,λx hx=>hx.mono g1.ext,g4⟩
        . exact⟨v,h',n',Y',g1,g2,λx hx=>hx.mono g1.ext,g4⟩
      . exact same hk
    . exact same hk
  . exact same hk
theorem zNo{F N:Nat}{a:Act}{w:World}:∀(l:List (Nat × List Nat)) {tm:Tm} {h:zC} {n:Key} {Y:Psi} {k:Tm->zC->Key->Bool},St P F N Y tm [] h n a w->zB6 l tm h n k=true ->
 ∃tm' h' n' Y',St P F N Y' tm' [] h' n' a w/\yF Y (zC.fam h) n w Y' (zC.fam h') n' w/\k tm' h' n'=true
 | [],tm,h,n,Y,k,hs,hk=>⟨tm,h,n,Y,hs,yF.refl hs.rel,hk⟩
 |p::r,tm,h,n,Y,k,hs,hk=>by
  unfold zB6 at hk;obtain⟨v,h1,n1,Y1,g1,g2,g3,g4⟩:=zUR p.2 hs.rel hs.fresh hk;have hs1:St P F N Y1 (wP v (Loc.ofNat p.1) tm) [] h1 n1 a w:=by
   refine⟨⟨hs.frame.size,λt q1 q2 q3=>?_⟩,hs.dfr,g1.rel,λj q1 q2=>let ⟨sz,e⟩:=hs.glob j q1 q2; ⟨sz,g1.ext _ _ e⟩,g2⟩;have h0:=hs.frame.tmp t q1 q2 q3;by_cases e:Loc.ofNat t=Loc.ofNat p.1
   . rw[e,zQo];rw[e]at h0;exact g3 _ h0
   . rw[zLQ _ _ _ _ e];exact h0.mono g1.ext
  obtain⟨tm',h',n',Y',k1,k2,k3⟩:=zNo r hs1 g4;exact⟨tm',h',n',Y',k1,g1.trans k2,k3⟩
end
end
end Go.Ev
namespace Go.Ev
open Go.RowKit
noncomputable section
variable{P:Program}
structure kn where
 T:Nat
 ks:List Key
 I:TH
def zVF(I:TH):Bool:=match I with
 |q::_=>zm q.1 1&&j9 q.2 [(0,1)]| []=>false
def uK(I:TH):Bool:=match I with
 |_::_=>true| []=>false
def jo(I:TH):List (Key × Nat)->Bool
 | []=>true|q::r=>(match nth I q.2 with
  |some u=>zm u.1 0&&j9 u.2 [(q.2,1)]|none=>false)&&jo I r
def LensAre(wins:List Win)(L:List (Key × Nat))(J:Nat->Int):Prop:=∀q∈L,∃wn,findW wins q.1=some wn/\J q.2=wn.len
theorem zID{I:TH}:∀{L:List (Key × Nat)},jo I L=true->∀q∈L,nth I q.2=some (0,[(q.2,1)])
 | [],_,q,h=>by cases h|x::r,h,q,hq=>by
  unfold jo at h;rw[Bool.and_eq_true]at h;rcases List.mem_cons.1 hq with rfl |hq
  . have h1:=h.1;split at h1
    . rename_i u hu;rw[Bool.and_eq_true,@zX noSym,decide_eq_true_eq]at h1;rw[hu];obtain⟨a,b⟩:=u;simp only at h1;rw[h1.1,@jJ noSym _ _ h1.2]
    . cases h1
  . exact zID h.2 q hq
def zDE(G:Nat)(ws:List (Key × Nat))(Ts:List TS)(ok:kn->Bool)(K:zU)(t:kn)(tm:Tm)(ds:xz)(h:zC)(n:Key):Bool:=match ds with
 | []=>match nth Ts t.T with
  |some T=>zTS T λT=>Nat.ble (Nat.succ n.ix) 65535&&zB6 T.sl tm h n λtm h n=>ok t&&zKN G ws T t.ks t.I K tm h
  |none=>false
 |_=>false
def km(G:Nat)(ws:List (Key × Nat))(Ts:List TS)(ok:kn->Bool)(K:zU)(fin:R->Bool):R->List kn->Option (List kn)
 |.ok .normal tm ds h n,t::r=>match zDE G ws Ts ok K t tm ds h n with
  |true=>some r|false=>none
 |.ok (.exit i) tm ds h n,r=>match fin (.ok (.exit i) tm ds h n)with
  |true=>some r|false=>none
 |.ok .ret tm ds h n,r=>match fin (.ok .ret tm ds h n)with
  |true=>some r|false=>none
 |.fork a b,r=>match km G ws Ts ok K fin a r with
  |some r=>km G ws Ts ok K fin b r|none=>none
 |_,_=>none
def wo(o:Option (List kn)):Bool:=match o with
 |some _=>true|none=>false
section
variable{G:Nat}{ws:List (Key × Nat)}{Ts:List TS}{ok:kn->Bool}{K:zU}{fin:R->Bool}
theorem qH(hf:∀r,fin r=true->zd r):∀{r:R} {l l':List kn},km G ws Ts ok K fin r l=some l'->zd r
 |.ok .normal tm ds h n,[],_,hc=>by cases hc|.ok .normal tm ds h n,t::r,l',hc=>by
  unfold km at hc;split at hc
  . rename_i hl;unfold zDE at hl;split at hl
    . split at hl
      . rw[zOr,Bool.and_eq_true]at hl;exact @zH noSym _ _ hl.1
      . cases hl
    . cases hl
  . cases hc
 |.ok (.exit i) tm ds h n,l,l',hc=>by
  unfold km at hc;split at hc
  . rename_i h1; exact hf _ h1
  . cases hc
 |.ok .ret tm ds h n,l,l',hc=>by
  unfold km at hc;split at hc
  . rename_i h1; exact hf _ h1
  . cases hc
 |.ret ..,l,l',hc=>by cases hc|.err _,l,l',hc=>by cases hc|.fork a b,l,l',hc=>by
  unfold km at hc;split at hc
  . rename_i r hr;exact⟨qH hf hr,qH hf hc⟩
  . cases hc
def zXs(P:Program)(F N:Nat)(Y₀:Psi)(g₀:Fam)(n₀:Key)(w₀:World)(G:Nat)(ws:List (Key × Nat))(Ts:List TS)(ok:kn->Bool)(K:zU)(fin:R->Bool)(S:Sym)(e:Exit)(a:Act)(w:World):Prop:=
 (e=.normal/\∃(tm:Tm) (h:zC) (n:Key) (Y:Psi) (t:kn) (T:TS),@St S P F N Y tm [] h n a w/\@yF S Y₀ g₀ n₀ w₀ Y (zC.fam h) n w/\nth Ts t.T=some T/\ok t=true/\zKN G ws T t.ks t.I K tm h=true) \/
 (e≠.normal/\∃r,@xN S P F N Y₀ g₀ n₀ w₀ r e a w/\fin r=true)
theorem kR{S:Sym}{F N:Nat}{Y₀:Psi}{g₀:Fam}{n₀:Key}{w₀:World}{e:Exit}{a:Act}{w:World}:∀{r:R} {l l':List kn},km G ws Ts ok K fin r l=some l' ->
 @xN S P F N Y₀ g₀ n₀ w₀ r e a w->zXs P F N Y₀ g₀ n₀ w₀ G ws Ts ok K fin S e a w
 |.ok .normal tm ds h n,[],_,hc,_=>by cases hc|.ok .normal tm ds h n,t::r,l',hc,⟨h1,Y,h2,h3,h4⟩=>by
  unfold km at hc;split at hc
  . rename_i hl;unfold zDE at hl;split at hl
    . split at hl
      . rename_i T hT;rw[zOr,Bool.and_eq_true]at hl;cases e <;> first |exact h1.elim |skip
        obtain⟨tm',h',n',Y',k1,k2,k3⟩:=@zNo P S F N a w T.sl tm h n Y _ h2 hl.2;rw[Bool.and_eq_true]at k3;exact Or.inl ⟨rfl,tm',h',n',Y',t,T,k1,@yF.trans S _ _ _ _ _ _ _ _ _ _ _ _ h3 k2,hT,k3.1,k3.2⟩
      . cases hl
    . cases hl
  . cases hc
 |.ok (.exit i) tm ds h n,l,l',hc,ho=>by
  unfold km at hc;split at hc
  . rename_i hf;refine Or.inr ⟨λe1=>?_,_,ho,hf⟩;subst e1; exact ho.1.elim
  . cases hc
 |.ok .ret tm ds h n,l,l',hc,ho=>by
  unfold km at hc;split at hc
  . rename_i hf;refine Or.inr ⟨λe1=>?_,_,ho,hf⟩;subst e1; exact ho.1.elim
  . cases hc
 |.ret ..,l,l',hc,_=>by cases hc|.err _,l,l',hc,_=>by cases hc|.fork a b,l,l',hc,ho=>by
  unfold km at hc;split at hc
  . rename_i r hr;rcases ho with ho |ho
    . exact kR hr ho
    . exact kR hc ho
  . cases hc
end
structure zO8(P:Program)(F N:Nat)(G:Nat)(A:Key->Option Value)(wins:List Win)(L:List (Key × Nat))(w0:World)(T:TS)(J:Nat->Int)(Y:Psi)(a:Act)(w:World):Prop where
 bnd:zk J 0 T.b
 fct:xI J T.f
 rul:yV J T.r
 len:LensAre wins L J
 st:∀J' K',(∀j,j<T.b.length->J' j=J j)->K'.arg=A->@St (linSym J' K') P F N Y (wd T.locs) [] (mkH .nil T.objs) T.n a w
 own:∀k o p,zC.fam (mkH .nil T.objs) k=some o->Y k=some p->o.isRo=false/\w0.heap.size<=p.blk
 blw:Below w0.heap.size w0 w
 win:∀k wn,findW wins k=some wn->zC.fam (mkH .nil T.objs) k=none->Y k=some ⟨wn.B,wn.x+(J 0).toNat*wn.esz,wn.sz,λn=>n⟩
theorem zDx{S:Sym}{Y Y':Psi}{g g':Fam}{n n':Key}{w0 w w':World}(h:Below w0.heap.size w0 w)(hp:@yF S Y g n w Y' g' n' w')(hm:∀k o p,g k=some o->o.isRo=false->Y k=some p->w0.heap.size<=p.blk) :
 Below w0.heap.size w0 w':=by
 have h1:=@yF.os S _ _ _ _ _ _ _ _ hp;have h2:=@yF.tape S _ _ _ _ _ _ _ _ hp;have h3:=@yF.output S _ _ _ _ _ _ _ _ hp;have h4:=@yF.size S _ _ _ _ _ _ _ _ hp;have h5:=@yF.frame S _ _ _ _ _ _ _ _ hp;refine⟨h1.trans h.os,h2.trans h.tape,h3.trans h.output,Nat.le_trans h.size h4,λk hk=>?_⟩;rw[h5 k (Nat.lt_of_lt_of_le hk h.size) λk' o p q1 q2 q3 e=>?_,h.block k hk]
 have:=hm k' o p q1 q2 q3
 omega
theorem zPP{h:zC}:∀{objs:List (Key × CObj)} {j:Nat} {k:Key} {o:CObj},objs[j]? = some (k,o)->∃o',zb k (mkH h objs)=some o'
 | [],j,k,o,hj=>by simp at hj|p::r,j,k,o,hj=>by
  show ∃o',zb k (yy (some p.2) p.1 (mkH h r))=some o';rw[ke];split
  . exact⟨_,rfl⟩
  . rename_i e;cases j with
    |zero=>simp at hj; subst hj; exact absurd rfl e|succ j=>exact zPP (j:=j) (by simpa using hj)
theorem zSL{objs:List (Key × CObj)}{ks:List Key}{k:Key}(h:zC.fam (mkH .nil objs) k=none):zDG (kT objs ks) k=true:=by
 unfold zDG;split
 . rfl
 . rename_i b hb;obtain⟨j,o,h1,h2⟩:=zHK hb;obtain⟨o',h3⟩:=zPP (h:=.nil) h1;have h:zb k (mkH .nil objs)=none:=h;rw[h]at h3; cases h3
theorem zGF{L:List (Key × Nat)}{wins:List Win}{Js:Nat->Int}{Ks:zU}(hK:KnownOk Js Ks)(hlen:LensAre wins L Js){I:TH}{T:TS}{ks:List Key}{G F N:Nat}{Y₀ Y:Psi}{g₀:Fam}{n₀:Key}{w0 w₀:World}{tm:Tm}{h:zC}{n:Key}{a:Act}{w:World}
 (hst:@St (linSym Js Ks) P F N Y tm [] h n a w) (hp:@yF (linSym Js Ks) Y₀ g₀ n₀ w₀ Y (zC.fam h) n w) (hG:P.globals.size<=G) (hA:ArgsAre Ks.arg wins) (hc:zKN G (wsOf wins) T ks I Ks tm h=true)
 (h0:∃q,nth I 0=some q) (hL:jo I L=true) (hm:∀k o p,g₀ k=some o->o.isRo=false->Y₀ k=some p->w0.heap.size<=p.blk) (hb:Below w0.heap.size w0 w₀) :
 ∃J YT,zO8 P F N G Ks.arg wins L w0 T J YT a w/\∀q,nth I 0=some q->J 0=evQ Js q:=by
 obtain⟨J,hJ⟩:∃J:Nat->Int,∀j,J j=match nth I j with |some q=>evQ Js q |none=>0:=⟨_,λ_=>rfl⟩
 have hth:∀j q,nth I j=some q->J j=evQ Js q:=λj q hj=>by rw[hJ,hj]
 obtain⟨q0,hq0⟩:=h0;obtain⟨YT,c1,c2,c3⟩:=zTG hst hG hA hc (evQ Js q0) (λq hq=>by rw[hq0]at hq; injection hq with hq; rw[hq]) ⟨q0,hq0⟩;have hc':=hc;unfold zKN at hc';simp only[Bool.and_eq_true]at hc';obtain⟨⟨⟨⟨⟨⟨_,_⟩,c6⟩,c7⟩,_⟩,_⟩,c10⟩:=hc';obtain⟨hlenb,hbd⟩:=zLi hK (JT:=J) (k:=0) c6 (λj q hj=>by rw[Nat.zero_add]; exact hth j q hj);have hout:=@yF.img (linSym Js Ks) _ _ _ _ _ _ _ _ hp;have hsz:=@yF.size (linSym Js Ks) _ _ _ _ _ _ _ _ hp;refine⟨J,YT,⟨hbd,zKS hK (λj q hj=>hth j q hj) c7,zBw hK (λj q hj=>hth j q hj) c10,λq hq=>?_,λJ' K' hag hK'=>?_,λk o p h1 h2=>?_,zDx hb hp hm,λk wn hw hno=>?_⟩,λq hq=>hth 0 q hq⟩
 . obtain⟨wn,h1,h2⟩:=hlen q hq;refine⟨wn,h1,?_⟩;rw[hth _ _ (zID hL q hq)];show(0:Int)+(1*Js q.2+0)=_;rw[h2]; omega
 . refine c1 J' K' (λj q hj=>?_) hK';have hlt:j<T.b.length:=by rw[hlenb];rw[@nth_eq noSym]at hj;exact(List.getElem?_eq_some_iff.1 hj).1
   rw[hag j hlt];exact hth j q hj
 . obtain⟨g1,k0,o0,p0,g2,g3,g4,g5⟩:=c2 k o p h1 h2;refine⟨g1,?_⟩;rw[<- g5];rcases hout k0 o0 p0 g2 g3 g4 with⟨k1,o1,p1,r1,r2,r3,r4⟩ |r
   . rw[<- r4]; exact hm k1 o1 p1 r1 r2 r3
   . exact Nat.le_trans hb.size (Nat.le_trans (by exact Nat.le_refl _) r)
 . rw[c3.1 k wn hw (zSL hno),hth 0 q0 hq0]
def zV0:CV->Option Key
 |.sl k _ _ _ _ _=>some k|.win k _ _ _=>some k|_=>none
def zTB(wins:List Win)(i:Int)(Y:Psi)(c:CV):Prop:=∀k wn,zV0 c=some k->findW wins k=some wn->Y k=some ⟨wn.B,wn.x+i.toNat*wn.esz,wn.sz,λn=>n⟩
def zB9(S:Sym)(wins:List Win)(w0:World)(i:Int)(q:Key × List CV):Prop:=
 ∃wn arr elem fz,findW wins q.1=some wn/\w0.heap[wn.B]? = some (.cells arr elem fz)/\wn.x+i.toNat*wn.esz+q.2.length<=arr.size /\
  ∀(j:Nat) (c:CV),q.2[j]? = some c->∃v,arr[wn.x+i.toNat*wn.esz+j]? = some v/\∀Y,zTB wins i Y c->@zG S Y c v
def zEG(l:List (Key × List CV)):List (Key × CObj):=l.map λq=>(q.1,.ro q.2)
def zHQ(objs:List (Key × CObj)):List CV->Bool
 | []=>true|c::r=>(match zV0 c with
  |none=>true|some k=>(match zb k (mkH .nil objs)with
   |none=>true|some _=>false))&&zHQ objs r
theorem zIE{objs:List (Key × CObj)}:∀{l:List CV},zHQ objs l=true->∀(j:Nat) c k,l[j]? = some c->zV0 c=some k->zb k (mkH .nil objs)=none
 | [],_,j,c,k,hj,_=>by simp at hj|x::r,h,j,c,k,hj,hk=>by
  unfold zHQ at h;rw[Bool.and_eq_true]at h;cases j with
  |zero=>
   simp at hj;subst hj;have h1:=h.1;rw[hk]at h1;simp only at h1;split at h1
   . assumption
   . cases h1
  |succ j=>exact zIE h.2 j c k (by simpa using hj) hk
def kH(objs:List (Key × CObj)):List (Key × List CV)->Bool
 | []=>true|q::r=>zHQ objs q.2&&(match zb q.1 (mkH .nil objs)with
  |none=>true|some _=>false)&&(match zb q.1 (mkH .nil (zEG r))with
  |none=>true|some _=>false)&&kH objs r
theorem zTJ{l:List (Key × List CV)}{j:Nat}{k:Key}{o:CObj}(h:(zEG l)[j]? = some (k,o)):∃cs,(k,cs)∈l/\o=.ro cs:=by
 unfold zEG at h;rw[List.getElem?_map]at h;cases hq:l[j]? with
 |none=>rw[hq]at h; cases h|some q=>rw[hq]at h;injection h with h;injection h with h1 h2;subst h1 h2;exact⟨q.2,List.mem_of_getElem? hq,rfl⟩
theorem zJH{objs:List (Key × CObj)}:∀{l:List (Key × List CV)},kH objs l=true->∀q∈l,zb q.1 (mkH .nil objs)=none
 | [],_,q,hq=>by cases hq|x::r,h,q,hq=>by
  unfold kH at h;simp only[Bool.and_eq_true]at h;rcases List.mem_cons.1 hq with rfl |hq
  . have h1:=h.1.1.2;split at h1
    . assumption
    . cases h1
  . exact zJH h.2 q hq
theorem zHG{objs:List (Key × CObj)}:∀{l:List (Key × List CV)},kH objs l=true->∀q∈l,zHQ objs q.2=true
 | [],_,q,hq=>by cases hq|x::r,h,q,hq=>by
  unfold kH at h;simp only[Bool.and_eq_true]at h;rcases List.mem_cons.1 hq with rfl |hq
  . exact h.1.1.1
  . exact zHG h.2 q hq
theorem uW{objs:List (Key × CObj)}{l:List (Key × List CV)}{k:Key}{o:CObj}(h:zC.fam (mkH (mkH .nil objs) (zEG l)) k=some o) :
 (∃cs,(k,cs)∈l/\o=.ro cs)\/zC.fam (mkH .nil objs) k=some o:=by
 rcases qE h with⟨j,hj⟩ |h
 . exact .inl (zTJ hj)
 . exact .inr h
section
variable{F N G:Nat}{A:Key->Option Value}{wins:List Win}{L:List (Key × Nat)}{w0:World}{T:TS}{J:Nat->Int}{Y:Psi}{a:Act}{w:World}
theorem zNn(hi:zO8 P F N G A wins L w0 T J Y a w){J':Nat->Int}{K':zU}(hag:∀j,j<T.b.length->J' j=J j)(hA:K'.arg=A){l:List (Key × List CV)}
 (hl:∀q∈l,zB9 (linSym J' K') wins w0 (J 0) q) (hap:kH T.objs l=true) :
 @St (linSym J' K') P F N Y (wd T.locs) [] (mkH (mkH .nil T.objs) (zEG l)) T.n a w:=by
 have hst:=hi.st J' K' hag hA;have hR:@Rel (linSym J' K') Y (zC.fam (mkH .nil T.objs)) w:=@St.rel (linSym J' K') _ _ _ _ _ _ _ _ _ _ hst;have hTot:=@Rel.tot (linSym J' K') _ _ _ hR;have hOn:=@Rel.on (linSym J' K') _ _ _ hR;have hInj:=@Rel.inj (linSym J' K') _ _ _ hR;have hwin:∀k cs,(k,cs)∈l->∃wn arr elem fz,findW wins k=some wn/\Y k=some ⟨wn.B,wn.x+(J 0).toNat*wn.esz,wn.sz,λn=>n⟩/\w.heap[wn.B]? = some (.cells arr elem fz)/\wn.B<w0.heap.size /\
  wn.x+(J 0).toNat*wn.esz+cs.length<=arr.size /\
  ∀(j:Nat) (c:CV),cs[j]? = some c->∃v,arr[wn.x+(J 0).toNat*wn.esz+j]? = some v/\@zG (linSym J' K') Y c v:=by
  intro k cs hm;obtain⟨wn,arr,elem,fz,h1,h2,h5,h6⟩:=hl _ hm;have hlt:wn.B<w0.heap.size:=by
   rcases Nat.lt_or_ge wn.B w0.heap.size with h |h
   . exact h
   . rw[Array.getElem?_eq_none h]at h2; cases h2
  exact⟨wn,arr,elem,fz,h1,hi.win k wn h1 (zJH hap _ hm),by rw[hi.blw.block _ hlt]; exact h2,hlt,h5,λj c hj=>by obtain⟨v,hv,hr⟩:=h6 j c hj;exact⟨v,hv,hr Y λk' wn' hk' hw'=>hi.win k' wn' hw' (zIE (zHG hap _ hm) j c k' hj hk')⟩⟩
 refine @St.mk (linSym J' K') P F N _ _ _ _ _ _ _ (@St.frame (linSym J' K') _ _ _ _ _ _ _ _ _ _ hst) (@St.dfr (linSym J' K') _ _ _ _ _ _ _ _ _ _ hst) ?_ (@St.glob (linSym J' K') _ _ _ _ _ _ _ _ _ _ hst) (@St.fresh (linSym J' K') _ _ _ _ _ _ _ _ _ _ hst);refine @Rel.mk (linSym J' K') _ _ _ ?_ ?_ ?_
 . intro k o p hk hp;rcases uW hk with⟨cs,hm,rfl⟩ |hk
   . obtain⟨wn,arr,elem,fz,h1,h2,h3,_,h6,h7⟩:=hwin k cs hm;rw[h2]at hp;injection hp with hp; subst hp;exact⟨arr,elem,fz,h3,h6,h7⟩
   . exact hOn k o p hk hp
 . intro k o hk;rcases uW hk with⟨cs,hm,rfl⟩ |hk
   . obtain⟨wn,arr,elem,fz,h1,h2,_⟩:=hwin k cs hm;exact⟨_,h2⟩
   . exact hTot k o hk
 . intro k₁ k₂ o₁ o₂ p₁ p₂ h1 h2 h3 h4 hr e;rcases uW h1 with⟨cs1,m1,rfl⟩ |h1 <;> rcases uW h2 with⟨cs2,m2,rfl⟩ |h2
   . exact hr.elim (λh=>by cases h) (λh=>by cases h)
   . exfalso;obtain⟨w1,_,_,_,f1,g1,_,hlt,_⟩:=hwin k₁ cs1 m1;rw[g1]at h3;injection h3 with h3; subst h3
     have:=(hi.own _ _ _ h2 h4).2
     simp only at e;omega
   . exfalso;obtain⟨w1,_,_,_,f1,g1,_,hlt,_⟩:=hwin k₂ cs2 m2;rw[g1]at h4;injection h4 with h4; subst h4
     have:=(hi.own _ _ _ h1 h3).2
     simp only at e;omega
   . exact hInj k₁ k₂ o₁ o₂ p₁ p₂ h1 h2 h3 h4 hr e
end
def boundIs(m:Int):List TS->Bool
 | []=>true|T::r=>(match T.b with
  |q::_=>decide (q.2<=m)| []=>false)&&boundIs m r
theorem zCC{m:Int}:∀{Ts:List TS} {t:Nat} {T:TS},boundIs m Ts=true->nth Ts t=some T->∃q r,T.b=q::r/\q.2<=m
 | [],_,_,_,h=>by cases h|x::r,t,T,hb,h=>by
  unfold boundIs at hb;rw[Bool.and_eq_true]at hb;cases t with
  |zero=>
   injection h with h; subst h;have h1:=hb.1;split at h1
   . rename_i q l e;exact⟨q,l,e,of_decide_eq_true h1⟩
   . cases h1
  |succ t=>exact zCC hb.2 h
section
variable{code:FuncId->CFn}{nat:Nats}{fuel:Nat}{fn:Func}{c b:Code}{p:List Stp}{rs:List CRes}{G:Nat}{wins:List Win}{L:List (Key × Nat)}{A:Key->Option Value}{Ts:List TS}{bound:Int}{w0:World}
def zIu(P:Program)(code:FuncId->CFn)(nat:Nats)(fuel:Nat)(p:List Stp)(cc:CCode)(rs:List CRes)(S:Sym)(r:R):Bool:=
 allTrue (xJ false (@ev S P code nat fuel) rs (@uv S P (@ev S P code nat fuel) p cc r))
def zXE(P:Program)(code:FuncId->CFn)(nat:Nats)(fuel:Nat)(G:Nat)(ws L:List (Key × Nat))(Ts:List TS)(p:List Stp)(cc:CCode)(rs:List CRes)(T:TS)(l:List (Key × List CV))(S:Sym)(K:zU)(hs:List kn):Bool:=
 wo (km G ws Ts (λt=>zVF t.I&&jo t.I L) K (zIu P code nat fuel p cc rs S) (@zq S P (@ev S P code nat fuel) (uc p cc) (wd T.locs) [] (mkH (mkH .nil T.objs) (zEG l)) T.n) hs)
def Passes(P:Program)(code:FuncId->CFn)(nat:Nats)(fuel:Nat)(G:Nat)(wins:List Win)(L:List (Key × Nat))(A:Key->Option Value)(Ts:List TS)(p:List Stp)(cc:CCode)(rs:List CRes)(w0:World):Prop:=
 ∀t T,nth Ts t=some T->∀J,zk J 0 T.b->xI J T.f->yV J T.r->LensAre wins L J->∃J' K' l hs,(∀j,j<T.b.length->J' j=J j)/\(∀q∈L,J' q.2=J q.2)/\K'.arg=A/\KnownOk J' K'/\(∀q∈l,zB9 (linSym J' K') wins w0 (J 0) q)/\kH T.objs l=true /\
  zXE P code nat fuel G (wsOf wins) L Ts p cc rs T l (linSym J' K') K' hs=true
theorem zD6{J:Nat->Int}{K:zU}(hK:KnownOk J K)(hm:P.follows .mixedOrders=true)(hcode:CodeOk P code)(hnat:∀J K,KnownOk J K->@NatsOk (linSym J K) P nat){cc:CCode}:∀r,zIu P code nat fuel p cc rs (linSym J K) r=true->zd r:=by
 letI S:Sym:=linSym J K
 haveI hS:SymFact P:=yn hK
 have hcall:yk P (ev P code nat fuel):=kZ (λcall hcall F N=>ym hm hcall) hcode (hnat _ _ hK) fuel;intro r h;have h:allTrue (xJ false (ev P code nat fuel) rs (uv P (ev P code nat fuel) p cc r))=true:=h;exact k7 hcall.above p cc (xw hcall.above false rs (jZ h))
abbrev zDS(P:Program)(fn:Func)(w0:World):Exit->Act->World->Prop:=bodyPostD P fn λe w=>e=.returned (.bool true)/\Below w0.heap.size w0 w
theorem zLd{J:Nat->Int}{K:zU}(hK:KnownOk J K)(hm:P.follows .mixedOrders=true)(hcode:CodeOk P code)(hnat:∀J K,KnownOk J K->@NatsOk (linSym J K) P nat){F N:Nat}(hsub:subC p c=some b)(hn:zt c=true)
 (hrs:xH (xc P F N) fn.results.toList=some rs) {Y₀:Psi} {g₀:Fam} {n₀:Key} {w₀:World} {r:R} {e:Exit} {a:Act} {w:World}
 (ho:@xN (linSym J K) P F N Y₀ g₀ n₀ w₀ r e a w) (hf:zIu P code nat fuel p (zS P F N c) rs (linSym J K) r=true)
 (hb:Below w0.heap.size w0 w₀) (ho0:∀k o p,g₀ k=some o->o.isRo=false->Y₀ k=some p->w0.heap.size<=p.blk):QH P p c (zDS P fn w0) e a w:=by
 letI S:Sym:=linSym J K
 haveI hS:SymFact P:=yn hK
 have hcall:yk P (ev P code nat fuel):=kZ (λcall hcall F N=>ym hm hcall) hcode (hnat _ _ hK) fuel;have hdraw:qc P F N (ev P code nat fuel):=ym hm hcall;have hf:allTrue (xJ false (ev P code nat fuel) rs (uv P (ev P code nat fuel) p (zS P F N c) r))=true:=hf;have hc:=jZ hf;have hc2:=xw hcall.above false rs hc;refine u9 hcall hdraw p c hsub hn ho hc2 λe a w ho=>?_;refine vB false rs hc ho λtm ds h' n' Y' q1 q2 q3 q4 q5=>?_;have hl:=zIM hcall hrs q2 q4
 have:Leaves P fn a.tmps (λe w=>e=.returned (.bool true)/\Below w0.heap.size w0 w) a.defers .returning w:=by refine kK (λe w'' ⟨v,he,hr⟩=>?_) _ _ _ hl;obtain⟨rfl,Y'',g'',n'',hp⟩:=vy hf (q5 _ _ (zr.trans q3 hr));exact⟨he,zDx hb hp ho0⟩
 rcases q1 with rfl |rfl
 . exact this
 . exact this
end
end
end Go.Ev
namespace Go.Ev
open Go.RowKit
noncomputable section
variable{P:Program}
theorem compFn_inv{f:FuncId}{fn:Func}{c:Code}{cc:CCode}{rs:List CRes}(hf:P.funcs[f]? = some fn)(hb:fn.body=some c)(h:compFn P f=.mk cc rs) :
 xH (xc P (frameBits fn c) fn.ntmps) fn.results.toList=some rs/\zt c=true/\cc=zS P (frameBits fn c) fn.ntmps c:=by
 unfold compFn at h;rw[@nth_eq noSym]at h;have hf':P.funcs.toList[f]? = some fn:=by simpa using hf
 simp only[hf',hb]at h;split at h
 . cases h
 . unfold zCL at h;cases hrs:xH (xc P (frameBits fn c) fn.ntmps) fn.results.toList with
   |none=>simp only[hrs]at h; cases h|some r=>
    simp only[hrs]at h;split at h
    . rename_i hn;injection h with h1 h2;subst h1 h2;exact⟨rfl,hn,rfl⟩
    . split at h
      . split at h <;> cases h
      . cases h
def psiW(G:Nat)(wins:List Win):Psi:=λk=>match findW wins k with
 |some w=>some ⟨w.B,w.x+0*w.esz,w.sz,λn=>n⟩|none=>zH7 G k
theorem zQU{G:Nat}{wins:List Win}{hi:Nat}(hG:P.globals.size<=G)(hw:zIi G hi (wsOf wins)=true):vU P (psiW G wins):=by
 intro g hg h4;obtain⟨sz,e⟩:=@zEF noSym P zTq _ hG g hg h4;have hix:(Key.ofNat g).ix=g:=@Key.ix_ofNat noSym _ (by omega);have hnw:findW wins (Key.ofNat g)=none:=by
  cases hr:findW wins (Key.ofNat g)with
  |none=>rfl|some wn=>
   obtain⟨hm,hk⟩:=ku hr
   have:=(zJ5 hw wn hm).1
   rw[hk]at this; omega
 refine⟨sz,?_⟩;unfold psiW;rw[hnw];exact e
theorem zOv{G:Nat}{wins:List Win}{n:Key}(hn:G<=n.ix)(hw:zIi G n.ix (wsOf wins)=true):qN (psiW G wins) n:=by
 intro k hk;have hnw:findW wins k=none:=by
  cases hr:findW wins k with
  |none=>rfl|some wn=>
   obtain⟨hm,hk'⟩:=ku hr
   have:=(zJ5 hw wn hm).2
   rw[hk']at this; omega
 unfold psiW;rw[hnw];exact @zCF noSym _ _ hn k hk
def startOf(P:Program)(code:FuncId->CFn)(nat:Nats)(fuel:Nat)(G:Nat)(ws L:List (Key × Nat))(Ts:List TS)(p:List Stp)(cc:CCode)(args:List CV)(n:Key)(S:Sym)(K:zU)(hs:List kn):Bool:=
 wo (km G ws Ts (λt=>uK t.I&&jo t.I L) K (λ_=>false) (@zEk S P (@ev S P code nat fuel) p cc (qz args 0 .nil) [] .nil n) hs)
end
end Go.Ev
