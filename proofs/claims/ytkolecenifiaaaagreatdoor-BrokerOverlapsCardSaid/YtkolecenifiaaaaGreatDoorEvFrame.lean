/- A verified evaluator for the model's code: EvFrame, EvLits, EvGo. -/
import Derived.Test.YtkolecenifiaaaaGreatDoorEvSum
set_option linter.unusedSectionVars false
set_option linter.unusedVariables false
set_option linter.unusedSimpArgs false
namespace Go.Ev
open Go.RowKit
noncomputable section
variable{P:Program}
structure Fs where
 args:List CV
 objs:List (Key × CObj)
 ext:List Key
 mid:Nat
 n:Key
 b:List (Int × Int)
 posts:List Po
 ros:List (Key × CObj):=[]
 pn:Nat:=0
 walk:List Nat:=[]
def zKZ:Nat->List (Int × Int)
 | 0=>[]
 |n+1=>(0,255)::zKZ n
def Fs.bA(s:Fs):List (Int × Int):=s.b++zKZ s.pn
def kP(q:Nat):Nat->TH
 | 0=>[]
 |n+1=>(0,[(q,1)])::kP (Nat.succ q) n
theorem zMW:∀{n:Nat},(zKZ n).length=n
 | 0=>rfl|n+1=>by show(zKZ n).length+1=_; rw[zMW]
theorem zL4:∀{n q:Nat},(kP q n).length=n
 | 0,_=>rfl|n+1,q=>by show(kP (q+1) n).length+1=_; rw[zL4]
theorem zHJ:∀{n q i:Nat},i<n->nth (kP q n) i=some (0,[(q+i,1)])
 | 0,_,_,h=>by omega|n+1,q,0,_=>rfl|n+1,q,i+1,h=>by show nth (kP (q+1) n) i=_;rw[zHJ (by omega),show q+1+i=q+(i+1)from by omega]
theorem zGq{α:Type}:∀{l m:List α} {i:Nat},i<l.length->nth (l++m) i=nth l i
 | [],_,_,h=>by simp at h|_::_,_,0,_=>rfl|_::l,m,i+1,h=>zGq (l:=l) (m:=m) (i:=i) (by simpa using h)
theorem zHr{α:Type}:∀{l m:List α} {i:Nat},nth (l++m) (l.length+i)=nth m i
 | [],_,i=>by rw[show([]:List α).length+i=i from by simp]; rfl|x::l,m,i=>by rw[show(x::l).length+i=(l.length+i)+1 from by simp; omega];exact zHr (l:=l) (m:=m) (i:=i)
theorem zDH{J:Nat->Int}{n:Nat}:∀{b:List (Int × Int)} {j:Nat},zk J j b->(∀i,i<n->0<=J (j+b.length+i)/\J (j+b.length+i)<=255)->zk J j (b++zKZ n)
 | [],j,_,h=>by
  have key:∀{n j:Nat},(∀i,i<n->0<=J (j+i)/\J (j+i)<=255)->zk J j (zKZ n):=by
   intro n;induction n with
   |zero=>intro j _; trivial
   |succ n ih=>
    intro j h;refine⟨h 0 (by omega),ih λi hi=>?_⟩
    have:=h (i+1) (by omega)
    rwa [show j+(i+1)=j+1+i from by omega]at this
  exact key λi hi=>h i hi
 |q::r,j,hb,h=>⟨hb.1,zDH (b:=r) (j:=j+1) hb.2 λi hi=>by
  have:=h i hi
  rwa [show j+(q::r).length+i=j+1+r.length+i from by simp; omega]at this⟩
def zSJ{α:Type}(m mn:Nat)(l:LL)(y:Nat->α)(z:α):α:=
 List.rec (motive:=λ_=>α) z (λp r _=>List.rec (motive:=λ_=>α) (Prod.rec (motive:=λ_=>α) (λj a=>Bool.rec (motive:=λ_=>α) z (Bool.rec (motive:=λ_=>α) z (Bool.rec (motive:=λ_=>α) z (y j) (zm a 1)) (Nat.ble (Nat.succ j) mn)) (Nat.ble m j)) p) (λ_ _ _=>z) r) l
theorem zPY{α:Type}{m mn:Nat}{y:Nat->α}{z:α}:∀{l:LL},zSJ m mn l y z=z\/∃j,l=[(j,1)]/\m<=j/\j<mn/\zSJ m mn l y z=y j
 | []=>.inl rfl|_::_::_=>.inl rfl| [(j,a)]=>by
  show(Bool.rec (motive:=λ_=>α) z (Bool.rec (motive:=λ_=>α) z (Bool.rec (motive:=λ_=>α) z (y j) (zm a 1)) (Nat.ble (Nat.succ j) mn)) (Nat.ble m j))=z\/∃j',[(j,a)]=[(j',1)]/\m<=j'/\j'<mn/\(Bool.rec (motive:=λ_=>α) z (Bool.rec (motive:=λ_=>α) z (Bool.rec (motive:=λ_=>α) z (y j) (zm a 1)) (Nat.ble (Nat.succ j) mn)) (Nat.ble m j))=y j';cases h1:Nat.ble m j with
  |false=>exact .inl rfl|true=>cases h2:Nat.ble (Nat.succ j) mn with
   |false=>exact .inl rfl|true=>cases h3:zm a 1 with
    |false=>exact .inl rfl|true=>rw[@zX noSym,decide_eq_true_eq]at h3;subst h3;exact .inr ⟨j,rfl,@zH noSym _ _ h1,@zH noSym _ _ h2,rfl⟩
theorem zNj{I:TH}{n q j:Nat}(h1:I.length<=j)(h2:j<I.length+n):up (I++kP q n) [(j,1)]=some (0,[(q+(j - I.length),1)]):=by
 have h:nth (I++kP q n) j=some (0,[(q+(j - I.length),1)]):=by
  rw[show j=I.length+(j - I.length)from by omega,zHr,zHJ (by omega)]
  congr 4
  omega
 unfold up up;show(match nth (I++kP q n) j,some ((0:Int),([]:LL))with
  |some q,some s=>some (1*q.1+s.1,vf (wH 1 q.2) s.2)|_,_=>none)=_
 rw[h];rfl
theorem zNh{I t:TH}:∀{l:LL} {s:Int × LL},up I l=some s->up (I++t) l=some s
 | [],s,h=>h|p::r,s,h=>by
  unfold up at h ⊢;split at h
  . rename_i x y hx hy;have hlt:p.1<I.length:=by rw[@nth_eq noSym]at hx;exact(List.getElem?_eq_some_iff.1 hx).1
    rw[zGq hlt,hx,zNh hy];exact h
  . cases h
def zOG(I:TH)(q n:Nat)(l:LL):Option (Int × LL):=match zNE I l with
 |some s=>some s|none=>zNE (I++kP q n) l
theorem zQL{I:TH}{q n:Nat}{l:LL}:zOG I q n l=up (I++kP q n) l:=by
 unfold zOG;rw[zBm,zBm];split
 . rename_i s hs;exact(zNh hs).symm
 . rfl
def zYP(v:CV)(k:SE->Bool):Bool:=CV.rec (motive_1:=λ_=>Bool) (motive_2:=λ_=>Unit) (λ_=>false) (λ_=>false) (λ_ _=>false) (λ_=>false) (λ_=>false) false (λ_ _=>false) false (λ_ _ _ _ _ _=>false) false (λ_=>false) (λ_ _ _ _ _=>false) false (λ_ _ _=>false) false (λ_ _=>false) (λ_ _=>false) k (λ_ _ _ _=>false) (λ_ _=>false) (λ_=>false) (λ_ _=>false) (λ_ _ _ _=>false) false () (λ_ _ _ _=>()) v
def zXP(l:LL)(k:Nat->Bool):Bool:=List.rec (motive:=λ_=>Bool) false (λp r _=>List.rec (motive:=λ_=>Bool) (Prod.rec (motive:=λ_=>Bool) (λj a=>jn (zm a 1) (k j)) p) (λ_ _ _=>false) r) l
def zPa(o:Option (Int × LL))(e:SE)(v:CV):Bool:=match zCh v with
 |some (k,c,l)=>match o with
  |some s=>kEq e.k k&&zm (e.c+s.1) c&&j9 s.2 l|none=>false
 |none=>false
def zSB(m q:Nat)(e:SE)(v:CV)(j:Nat):Bool:=zYP v λe'=>jn (kEq e.k e'.k) (jn (zm e.c e'.c) (zXP e'.l λi=>Nat.beq (Nat.add i m) (Nat.add q j)))
theorem zV2{m q j:Nat}(h:m<=j):∀{l:LL},(zXP l λi=>Nat.beq (Nat.add i m) (Nat.add q j))=j9 [(q+(j - m),1)] l
 | []=>rfl| [(i,a)]=>by
  show jn (zm a 1) (Nat.beq (Nat.add i m) (Nat.add q j))=(Nat.beq (q+(j - m)) i&&zm 1 a&&true)
  rw[jN,Bool.and_true,Bool.and_comm,Bool.eq_iff_iff,Bool.and_eq_true,Bool.and_eq_true,@zX noSym,@zX noSym,decide_eq_true_eq,decide_eq_true_eq];constructor
  . intro⟨h1,h2⟩;have h1:i+m=q+j:=Nat.eq_of_beq_eq_true h1;refine⟨?_,h2.symm⟩;rw[show q+(j - m)=i from by omega];exact Nat.beq_refl _
  . intro⟨h1,h2⟩;have h1:=Nat.eq_of_beq_eq_true h1;refine⟨?_,h2.symm⟩;rw[show Nat.add i m=Nat.add q j from by show i+m=q+j; omega];exact Nat.beq_refl _
 |p::r::t=>by
  show false=(Nat.beq (q+(j - m)) p.1&&zm 1 p.2&&false)
  rw[Bool.and_false]
theorem zSN{m q:Nat}{e:SE}{v:CV}{j:Nat}(h:m<=j):zSB m q e v j=zPa (some (0,[(q+(j - m),1)])) e v:=by
 have hc:∀c:Int,c+(0:Int)=c:=λc=>Int.add_zero c;have key:∀e':SE,jn (kEq e.k e'.k) (jn (zm e.c e'.c) (zXP e'.l λi=>Nat.beq (Nat.add i m) (Nat.add q j)))=(kEq e.k e'.k&&zm (e.c+0) e'.c&&j9 [(q+(j - m),1)] e'.l):=by intro e';rw[jN,jN,zV2 h,hc,Bool.and_assoc]
 cases v with
 |sym e'=>exact key e'|nat n=>
  show false=(kEq e.k .i64&&zm (e.c+0) (.ofNat n)&&false)
  rw[Bool.and_false]
 |int k c=>
  show false=(kEq e.k k&&zm (e.c+0) c&&false)
  rw[Bool.and_false]
 |_=>rfl
def zCN(I:TH)(m mn q n:Nat)(e:SE)(v:CV):Bool:=zSJ m mn e.l (zSB m q e v) (zPa (zOG I q n e.l) e v)
theorem zMt{I:TH}{m mn q n:Nat}(hm:m=I.length)(hn:mn=m+n)(e:SE)(v:CV):zCN I m mn q n e v=uk (I++kP q n) e v:=by
 have hs:∀o,o=up (I++kP q n) e.l->zPa o e v=uk (I++kP q n) e v:=λo ho=>by subst ho;rfl
 unfold zCN;rcases zPY (m:=m) (mn:=mn) (y:=zSB m q e v) (z:=zPa (zOG I q n e.l) e v) (l:=e.l)with h |⟨j,h1,h2,h3,h⟩
 . rw[h];exact hs _ zQL
 . rw[h,zSN h2];refine hs _ ?_;rw[h1,hm];exact(zNj (by omega) (by omega)).symm
def fN(n:Nat)(k:Nat->CV):CV:=Nat.rec (motive:=λ_=>(Nat->CV)->CV) (λk=>k 0) (λm _ k=>k (Nat.succ m)) n k
theorem zYJ{n:Nat}{k:Nat->CV}:fN n k=k n:=by cases n <;> rfl
def sbB(o:Option (Int × LL))(e:SE):CV:=match o with
 |some s=>mkS e.k (e.c+s.1) s.2|none=>.any
def sbP(I:TH)(m mn q n:Nat)(e:SE):CV:=SE.rec (motive:=λ_=>CV) (λk c l=>zSJ m mn l (λj=>fN (Nat.add q (Nat.sub j m)) λi=>.sym ⟨k,c,[(i,.ofNat 1)]⟩) (sbB (zOG I q n l) ⟨k,c,l⟩)) e
theorem zXV{U:zC}{I:TH}{m mn q n:Nat}(hm:m=I.length)(hn:mn=m+n)(e:SE):sbP I m mn q n e=yK U (I++kP q n) (.sym e):=by
 have hs:∀o,o=up (I++kP q n) e.l->sbB o e=yK U (I++kP q n) (.sym e):=λo ho=>by subst ho;unfold yK;rfl
 show zSJ m mn e.l (λj=>fN (Nat.add q (Nat.sub j m)) λi=>CV.sym ⟨e.k,e.c,[(i,1)]⟩) (sbB (zOG I q n e.l) e)=_;rcases zPY (m:=m) (mn:=mn) (y:=λj=>fN (Nat.add q (Nat.sub j m)) λi=>CV.sym ⟨e.k,e.c,[(i,1)]⟩) (z:=sbB (zOG I q n e.l) e) (l:=e.l)with h |⟨j,h1,h2,h3,h⟩
 . rw[h];exact hs _ zQL
 . rw[h,<- hs (some (0,[(q+(j - m),1)])) (by rw[h1,hm]; exact(zNj (by omega) (by omega)).symm)];show fN (Nat.add q (Nat.sub j m)) (λi=>CV.sym ⟨e.k,e.c,[(i,1)]⟩)=CV.sym ⟨e.k,e.c+0,[(q+(j - m),1)]⟩;rw[zYJ,Int.add_zero];rfl
def zXB(n:Nat)(kb:List (Int × Int)):Bool:=Nat.rec (motive:=λ_=>List (Int × Int)->Bool) (λ_=>true) (λ_ ih l=>List.rec (motive:=λ_=>Bool) false (λx r _=>Prod.rec (motive:=λ_=>Bool) (λa b=>jn (zm a 0) (jn (zm b 255) (ih r))) x) l) n kb
def zW4{α:Type}(q:Nat)(l:List α):List α:=Nat.rec (motive:=λ_=>List α->List α) (λl=>l) (λ_ ih l=>List.rec (motive:=λ_=>List α) [] (λ_ r _=>ih r) l) q l
theorem zJx{α:Type}:∀{q:Nat} {l:List α} {i:Nat},nth (zW4 q l) i=nth l (q+i)
 | 0,l,i=>by rw[Nat.zero_add]; rfl|q+1,[],i=>by
  have h:∀k,nth ([]:List α) k=none:=λk=>by cases k <;> rfl
  show nth [] i=nth [] (q+1+i);rw[h,h]
 |q+1,x::l,i=>by rw[show q+1+i=(q+i)+1 from by omega];exact zJx (q:=q) (l:=l) (i:=i)
theorem zP4:∀{n:Nat} {l:List (Int × Int)},zXB n l=true->∀i,i<n->nth l i=some (0,255)
 | 0,_,_,i,hi=>by omega|n+1,[],h,i,hi=>by cases h|n+1,(a,b)::l,h,i,hi=>by
  have h:jn (zm a 0) (jn (zm b 255) (zXB n l))=true:=h;simp only[jN,Bool.and_eq_true,@zX noSym,decide_eq_true_eq]at h;obtain⟨rfl,rfl,h⟩:=h;cases i with
  |zero=>rfl|succ i=>show nth l i=some (0,255);exact zP4 (l:=l) h i (by omega)
def zAr(U:zC)(si:SE->CV->Bool)(fw:Nat->List (List Nat)->CV->Bool)(l:List CV):List CV->Bool:=
 List.rec (motive:=λ_=>List CV->Bool) (λ_=>true) (λa _ g m=>List.rec (motive:=λ_=>Bool) false (λb r _=>jn (zTw U si fw a b) (g r)) m) l
def zW6(U:zC)(I:TH)(si:SE->CV->Bool)(fw:Nat->List (List Nat)->CV->Bool)(o o':CObj):Bool:=match o,o' with
 |.cells a,.cells b=>zAr U si fw a b|o,o'=>zCp U I o o'
def zC0(U inv:zC)(I:TH)(si:SE->CV->Bool)(fw:Nat->List (List Nat)->CV->Bool)(h:zC)(lo hi:Nat):List (Key × CObj)->List Key->Bool
 | [],[]=>true|p::r,j::js=>jn (wS U p.1 j) <| jn (wS inv j p.1) <| jn (Nat.ble lo p.1.ix) <| jn (Nat.ble (Nat.succ p.1.ix) hi) <| jn (match zb j h with
  |some o=>zW6 U I si fw p.2 o|none=>false) (zC0 U inv I si fw h lo hi r js)
 |_,_=>false
section
variable{U inv:zC}{I:TH}{si:SE->CV->Bool}{fw:Nat->List (List Nat)->CV->Bool}(hs:∀e d,si e d=uk I e d)(hf:∀i t d,fw i t d=yH U I (.few i t) d)
include hs hf
theorem zAP:∀{l m:List CV},zAr U si fw l m=qr U I l m
 | [],m=>by unfold qr; rfl|c::l,[]=>by unfold qr; rfl|c::l,d::m=>by unfold qr;rw[<- zCP hs hf c d,<- zAP (l:=l) (m:=m),<- jN];rfl
theorem zSU{o o':CObj}:zW6 U I si fw o o'=zCp U I o o':=by cases o <;> cases o' <;> first |rfl |exact zAP hs hf
theorem zE8{h:zC}{lo hi:Nat}:∀{l:List (Key × CObj)} {ks:List Key},zC0 U inv I si fw h lo hi l ks=qo U inv I h lo hi l ks
 | [],[]=>rfl| [],_::_=>rfl|_::_,[]=>rfl|p::r,j::js=>by unfold zC0 qo;rw[zE8 (l:=r) (ks:=js)];cases zb j h <;> simp only[jN,zSU hs hf,Bool.and_assoc]
end
def zGM:List (Key × CObj)->Bool
 | []=>true|p::r=>p.2.isRo&&zGM r
theorem zJz:∀{l:List (Key × CObj)},zGM l=true->∀q∈l,q.2.isRo=true
 | [],_,q,h=>by simp at h|p::r,h,q,hq=>by
  unfold zGM at h;rw[Bool.and_eq_true]at h;rcases List.mem_cons.1 hq with rfl |hq
  . exact h.1
  . exact zJz h.2 q hq
theorem uS{b:List (Key × CObj)}{k:Key}{o:CObj}:∀{a:List (Key × CObj)},vR (a++b) k=some o->vR a k=some o\/(k,o)∈b
 | [],h=>by
  rcases qE (show zb k (mkH .nil ([]++b))=some o from h)with⟨j,hj⟩ |hn
  . exact .inr (List.mem_of_getElem? (by simpa using hj))
  . rw[jG]at hn; cases hn
 |p::a,h=>by
  have h:zb k (yy (some p.2) p.1 (mkH .nil (a++b)))=some o:=h;show zb k (yy (some p.2) p.1 (mkH .nil a))=some o\/_;rw[@zEb noSym]at h ⊢;by_cases e:k=p.1
  . rw[if_pos e]at h ⊢;exact .inl h
  . rw[if_neg e]at h ⊢;exact uS (a:=a) h
def zRY:List Key->List (Key × CObj)
 | []=>[]
 |k::r=>(k,.cells [])::zRY r
def xj(objs:List (Key × CObj))(ext ks es:List Key):zC:=kT (objs++zRY ext) (ks++es)
theorem zMq:∀{l:List Key} {i:Nat} {k:Key} {o:CObj},(zRY l)[i]? = some (k,o)->l[i]? = some k
 | [],i,k,o,h=>by simp[zRY]at h|x::r,0,k,o,h=>by simp[zRY]at h; simp[h.1]|x::r,i+1,k,o,h=>by
  have:=zMq (l:=r) (i:=i) (k:=k) (o:=o) (by simpa [zRY]using h)
  simpa using this
theorem zPz{objs:List (Key × CObj)}{ext ks es:List Key}{k b:Key}(hl:objs.length=ks.length)(h:zl (xj objs ext ks es) k=some b) :
 (∃(i:Nat) (o:CObj),objs[i]? = some (k,o)/\ks[i]? = some b)\/∃i:Nat,ext[i]? = some k/\es[i]? = some b:=by
 obtain⟨j,o,h1,h2⟩:=zHK h;rcases Nat.lt_or_ge j objs.length with g |g
 . rw[List.getElem?_append_left g]at h1;rw[List.getElem?_append_left (by omega)]at h2;exact .inl ⟨j,o,h1,h2⟩
 . rw[List.getElem?_append_right g]at h1;rw[List.getElem?_append_right (by omega),<- hl]at h2;exact .inr ⟨_,zMq h1,h2⟩
def zRD(U:zC)(Y:Psi):Psi:=λk=>match zl U k with
 |some j=>Y j|none=>none
theorem zDO{U:zC}{Y:Psi}{k j:Key}(h:zl U k=some j):zRD U Y k=Y j:=by unfold zRD;rw[h]
theorem zFI{U:zC}{Y:Psi}:zAW U Y (zRD U Y):=λk j p hk hp=>⟨p,by rw[zDO (jU hk)]; exact hp,rfl,rfl,rfl⟩
def zQd(U:zC)(I:TH):List CE->List CE->Bool
 | [],[]=>true|a::as,b::bs=>yH U I a.key b.key&&yH U I a.val b.val&&Nat.beq a.born b.born&&zQd U I as bs|_,_=>false
def zGp(U:zC)(I:TH):CObj->CObj->Bool
 |.cells a,.cells b=>zAC U I a b|.cells a,.full _ b=>zAC U I a b|.map es c,.map es' c'=>Nat.beq c c'&&zQd U I es es'|_,_=>false
section
variable{Js JT:Nat->Int}{Ks KT:zU}{I:TH}{U:zC}{Ys YT:Psi}
theorem zL7(hI:qO Js JT I)(hY:zAW U Ys YT){ck:Nat->Nat}:∀{as bs:List CE} {l:List MapEntry},zQd U I as bs=true->@yI (linSym Js Ks) Ys ck bs l->@yI (linSym JT KT) YT ck as l
 | [],[],l,_,hl=>hl| [],_::_,_,h,_=>by cases h|_::_,[],_,h,_=>by cases h|a::as,b::bs,l,h,hl=>by unfold zQd at h;simp only[Bool.and_eq_true]at h;obtain⟨⟨⟨c1,c2⟩,c3⟩,c4⟩:=h;have c3:=@ze noSym _ _ c3;obtain⟨e,r,rfl,⟨h1,h2,h3⟩,h4⟩:=hl;exact⟨e,r,rfl,⟨qP hI hY _ _ c1 h1,qP hI hY _ _ c2 h2,by rw[h3,c3]⟩,zL7 hI hY c4 h4⟩
theorem zHa(hI:qO Js JT I)(hY:zAW U Ys YT){o o':CObj}(h:zGp U I o o'=true){w:World}{p:Pl}(ho:@xQ (linSym Js Ks) Ys w p o'):@xQ (linSym JT KT) YT w p o/\o.isRo=false/\o'.isRo=false:=by
 unfold zGp at h;split at h
 . rw[ju]at h;exact⟨wx hI hY h rfl rfl rfl ho,rfl,rfl⟩
 . rw[ju]at h;exact⟨wx hI hY h rfl rfl rfl (@jt.toCells (linSym Js Ks) _ _ _ _ _ ho),rfl,rfl⟩
 . rename_i es c es' c';rw[Bool.and_eq_true]at h;have hc:=@ze noSym _ _ h.1;subst hc;obtain⟨arr,g1,⟨l0,gp,g2⟩,g3⟩:=ho;exact⟨⟨arr,g1,⟨l0,gp,zL7 hI hY h.2 g2⟩,g3⟩,rfl,rfl⟩
 . cases h
end
def vO(U inv:zC)(I:TH)(h:zC)(lo hi:Nat):List (Key × CObj)->List Key->Bool
 | [],[]=>true|p::r,j::js=>wS U p.1 j&&wS inv j p.1&&Nat.ble lo p.1.ix&&Nat.ble (Nat.succ p.1.ix) hi&&(match zb j h with
  |some o=>zGp U I p.2 o|none=>false)&&vO U inv I h lo hi r js
 |_,_=>false
def zTV(U:zC)(I:TH)(si:SE->CV->Bool)(fw:Nat->List (List Nat)->CV->Bool):CObj->CObj->Bool
 |.cells a,.cells b=>zAr U si fw a b|.cells a,.full _ b=>zAr U si fw a b|o,o'=>zGp U I o o'
def zBR(U inv:zC)(I:TH)(si:SE->CV->Bool)(fw:Nat->List (List Nat)->CV->Bool)(h:zC)(lo hi:Nat):List (Key × CObj)->List Key->Bool
 | [],[]=>true|p::r,j::js=>wS U p.1 j&&wS inv j p.1&&Nat.ble lo p.1.ix&&Nat.ble (Nat.succ p.1.ix) hi&&(match zb j h with
  |some o=>zTV U I si fw p.2 o|none=>false)&&zBR U inv I si fw h lo hi r js
 |_,_=>false
theorem zRO{U:zC}{I:TH}{si:SE->CV->Bool}{fw:Nat->List (List Nat)->CV->Bool}(hs:∀e d,si e d=uk I e d)(hf:∀i t d,fw i t d=yH U I (.few i t) d){o o':CObj}:zTV U I si fw o o'=zGp U I o o':=by
 have h:∀a b,zAr U si fw a b=zAC U I a b:=λa b=>by rw[zAP hs hf,ju]
 cases o <;> cases o' <;> first |rfl |exact h _ _
theorem zDz{U inv:zC}{I:TH}{si:SE->CV->Bool}{fw:Nat->List (List Nat)->CV->Bool}(hs:∀e d,si e d=uk I e d)(hf:∀i t d,fw i t d=yH U I (.few i t) d){h:zC}{lo hi:Nat}:∀{l:List (Key × CObj)} {ks:List Key},zBR U inv I si fw h lo hi l ks=vO U inv I h lo hi l ks
 | [],[]=>rfl| [],_::_=>rfl|_::_,[]=>rfl|p::r,j::js=>by unfold zBR vO;rw[zDz hs hf (l:=r) (ks:=js)];cases zb j h <;> simp only[zRO hs hf]
theorem zBl{U inv:zC}{I:TH}{h:zC}{lo hi:Nat}:∀{objs:List (Key × CObj)} {ks:List Key},vO U inv I h lo hi objs ks=true->objs.length=ks.length/\∀(j:Nat) (k:Key) (o:CObj),objs[j]? = some (k,o) ->
 ∃i o',ks[j]? = some i/\zl U k=some i/\zl inv i=some k/\lo<=k.ix/\k.ix<hi/\zb i h=some o'/\zGp U I o o'=true
 | [],[],_=>⟨rfl,λj k o hj=>by simp at hj⟩
 | [],_::_,hc=>by cases hc|_::_,[],hc=>by cases hc|p::r,i::is,hc=>by
  unfold vO at hc;simp only[Bool.and_eq_true]at hc;obtain⟨⟨⟨⟨⟨c1,c2⟩,c3⟩,c4⟩,c5⟩,c6⟩:=hc;obtain⟨hl,hr⟩:=zBl c6;refine⟨by simp[hl],λj k o hj=>?_⟩;cases j with
  |zero=>
   simp at hj;subst hj;split at c5
   . rename_i o' ho;exact⟨i,o',rfl,jU c1,jU c2,@zH noSym _ _ c3,@zH noSym _ _ c4,ho,c5⟩
   . cases c5
  |succ j=>obtain⟨i',o',h1,h2⟩:=hr j k o (by simpa using hj);exact⟨i',o',by simpa using h1,h2⟩
theorem zO2{Js JT:Nat->Int}{Ks KT:zU}{I:TH}{U inv:zC}{objs:List (Key × CObj)}{ks:List Key}{h:zC}{lo hi:Nat}{Y:Psi}{w:World}(hI:qO Js JT I)(hR:@Rel (linSym Js Ks) Y (zC.fam h) w)
 (hc:vO U inv I h lo hi objs ks=true) :
 @Rel (linSym JT KT) (zRD U Y) (vR objs) w /\
 (∀k o p,vR objs k=some o->zRD U Y k=some p->o.isRo=false/\∃k0 o0,zC.fam h k0=some o0/\o0.isRo=false/\Y k0=some p):=by
 have hTot:∀k o,zC.fam h k=some o->∃p,Y k=some p:=@Rel.tot (linSym Js Ks) _ _ _ hR;have hOn:∀k o p,zC.fam h k=some o->Y k=some p->@xQ (linSym Js Ks) Y w p o:=@Rel.on (linSym Js Ks) _ _ _ hR;have hInj:=@Rel.inj (linSym Js Ks) _ _ _ hR;have hobj:=(zBl hc).2;have hfam:∀k o p,vR objs k=some o->zRD U Y k=some p->∃b o',zl U k=some b/\zl inv b=some k/\zC.fam h b=some o'/\Y b=some p/\zGp U I o o'=true:=by
  intro k o p hk hp;rcases qE hk with⟨j,hj⟩ |hn
  . obtain⟨b,o',g1,g2,g3,g4,g5,g6,g7⟩:=hobj j k o hj;rw[zDO g2]at hp;exact⟨b,o',g2,g3,g6,hp,g7⟩
  . rw[jG]at hn; cases hn
 refine⟨?_,?_⟩
 . refine @Rel.mk (linSym JT KT) _ _ _ ?_ ?_ ?_
   . intro k o p hk hp;obtain⟨b,o',g1,g2,g3,g4,g5⟩:=hfam k o p hk hp;exact(zHa hI zFI g5 (hOn b o' p g3 g4)).1
   . intro k o hk;rcases qE hk with⟨j,hj⟩ |hn
     . obtain⟨b,o',g1,g2,g3,g4,g5,g6,g7⟩:=hobj j k o hj;obtain⟨p0,hp0⟩:=hTot b o' g6;exact⟨p0,by rw[zDO g2]; exact hp0⟩
     . rw[jG]at hn; cases hn
   . intro k₁ k₂ o₁ o₂ p₁ p₂ h1 h2 h3 h4 hr e;obtain⟨b1,o1',g1,g2,g3,g4,g5⟩:=hfam _ _ _ h1 h3;obtain⟨b2,o2',f1,f2,f3,f4,f5⟩:=hfam _ _ _ h2 h4
     have:=hInj b1 b2 _ _ _ _ g3 f3 g4 f4 (.inl (zHa (KT:=KT) (JT:=JT) hI zFI g5 (hOn b1 o1' _ g3 g4)).2.2) e
     subst this;rw[g2]at f2;injection f2
 . intro k o p hk hp;obtain⟨b,o',g1,g2,g3,g4,g5⟩:=hfam k o p hk hp;have hro:=(zHa (KT:=KT) (JT:=JT) hI zFI g5 (hOn b o' p g3 g4)).2;exact⟨hro.1,b,o',g3,hro.2,g4⟩
structure zVW(S:Sym)(Y:Psi)(s:Fs)(w:World)(po:Po)(v:Value)(Y':Psi)(w':World):Prop where
 ext:∀k∈s.ext,k.ix<s.n.ix->Y' k=Y k
 pin:∀(i:Nat) k o,po.objs[i]? = some (k,o)->k.ix<s.mid->∀p,Y k=some p->Y' k=some p
 rel:@Rel S Y' (vR po.objs) w'
 val:@zG S Y' po.v v
 own:∀k o p,vR po.objs k=some o->Y' k=some p->o.isRo=false/\zIl Y s.objs w p.blk
 lft:Lft (zIl Y s.objs w) w w'
def FsOk(P:Program)(f:FuncId)(s:Fs):Prop:=∀(J:Nat->Int),zk J 0 s.bA->∀(Y:Psi) (w:World) (args':Array Value),
 (∀J' K',(∀j,j<s.bA.length->J' j=J j)->K'.arg=noA->@zP (linSym J' K') Y s.args args'.toList/\@Rel (linSym J' K') Y (vR (s.objs++s.ros)) w)->vU P Y->qN Y s.n ->
 yS P f args' w λv w'=>∃po∈s.posts,∃Y',zVW (linSym J kno) Y s w po v Y' w'
def zVI(k j:Key)(a:HA):HA:=match Nat.ble 32768 k.ix with
 |true=>⟨a.f,a.b,a.c,(k.ix,.ofNat j.ix,[])::a.th⟩
 |false=>match Nat.beq k.ix a.c with
  |true=>⟨a.f,j::a.b,Nat.succ a.c,a.th⟩
  |false=>a
def zYA(pm:Nat)(e:SE)(v:CV)(a:HA):HA:=List.rec (motive:=λ_=>HA) a (λp r _=>List.rec (motive:=λ_=>HA) (Prod.rec (motive:=λ_=>HA) (λj _=>Bool.rec (motive:=λ_=>HA) (zYo e v a) a (Nat.ble (Nat.succ pm) j)) p) (λ_ _ _=>a) r) e.l
def gV(pm:Nat)(c:CV):CV->HA->HA:=CV.rec (motive_1:=λ_=>CV->HA->HA) (motive_2:=λ_=>List CV->HA->HA)
 (λx0 d a=>a)
 (λx0 d a=>a)
 (λx0 x1 d a=>a)
 (λx0 d a=>a)
 (λx0 d a=>a)
 (λd a=>a)
 (λx0 x1 d a=>(CV.rec (motive_1:=λ_=>HA->HA) (motive_2:=λ_=>Unit) (λ_=>(λa=>a)) (λ_=>(λa=>a)) (λ_ _=>(λa=>a)) (λ_=>(λa=>a)) (λ_=>(λa=>a)) (λa=>a) (λy0 y1=>(λa=>zVI x0 y0 a)) (λa=>a) (λ_ _ _ _ _ _=>(λa=>a)) (λa=>a) (λ_=>(λa=>a)) (λ_ _ _ _ _=>(λa=>a)) (λa=>a) (λ_ _ _=>(λa=>a)) (λa=>a) (λ_ _=>(λa=>a)) (λ_ _=>(λa=>a)) (λ_=>(λa=>a)) (λ_ _ _ _=>(λa=>a)) (λ_ _=>(λa=>a)) (λ_=>(λa=>a)) (λ_ _=>(λa=>a)) (λ_ _ _ _=>(λa=>a)) (λa=>a) () (λ_ _ _ _=>()) d) a)
 (λd a=>a)
 (λx0 x1 x2 x3 x4 x5 d a=>(CV.rec (motive_1:=λ_=>HA->HA) (motive_2:=λ_=>Unit) (λ_=>(λa=>a)) (λ_=>(λa=>a)) (λ_ _=>(λa=>a)) (λ_=>(λa=>a)) (λ_=>(λa=>a)) (λa=>a) (λ_ _=>(λa=>a)) (λa=>a) (λy0 y1 y2 y3 y4 y5=>(λa=>zVI x0 y0 a)) (λa=>a) (λ_=>(λa=>a)) (λ_ _ _ _ _=>(λa=>a)) (λa=>a) (λ_ _ _=>(λa=>a)) (λa=>a) (λ_ _=>(λa=>a)) (λ_ _=>(λa=>a)) (λ_=>(λa=>a)) (λ_ _ _ _=>(λa=>a)) (λ_ _=>(λa=>a)) (λ_=>(λa=>a)) (λ_ _=>(λa=>a)) (λ_ _ _ _=>(λa=>a)) (λa=>a) () (λ_ _ _ _=>()) d) a)
 (λd a=>a)
 (λx0 d a=>(CV.rec (motive_1:=λ_=>HA->HA) (motive_2:=λ_=>Unit) (λ_=>(λa=>a)) (λ_=>(λa=>a)) (λ_ _=>(λa=>a)) (λ_=>(λa=>a)) (λ_=>(λa=>a)) (λa=>a) (λ_ _=>(λa=>a)) (λa=>a) (λ_ _ _ _ _ _=>(λa=>a)) (λa=>a) (λy0=>(λa=>zVI x0 y0 a)) (λ_ _ _ _ _=>(λa=>a)) (λa=>a) (λ_ _ _=>(λa=>a)) (λa=>a) (λ_ _=>(λa=>a)) (λ_ _=>(λa=>a)) (λ_=>(λa=>a)) (λ_ _ _ _=>(λa=>a)) (λ_ _=>(λa=>a)) (λ_=>(λa=>a)) (λ_ _=>(λa=>a)) (λ_ _ _ _=>(λa=>a)) (λa=>a) () (λ_ _ _ _=>()) d) a)
 (λx0 x1 x2 ha hc d a=>(CV.rec (motive_1:=λ_=>HA->HA) (motive_2:=λ_=>Unit) (λ_=>(λa=>a)) (λ_=>(λa=>a)) (λ_ _=>(λa=>a)) (λ_=>(λa=>a)) (λ_=>(λa=>a)) (λa=>a) (λ_ _=>(λa=>a)) (λa=>a) (λ_ _ _ _ _ _=>(λa=>a)) (λa=>a) (λ_=>(λa=>a)) (λy0 y1 y2 _ _=>(λa=>hc y2 (ha y1 a))) (λa=>a) (λ_ _ _=>(λa=>a)) (λa=>a) (λ_ _=>(λa=>a)) (λ_ _=>(λa=>a)) (λ_=>(λa=>a)) (λ_ _ _ _=>(λa=>a)) (λ_ _=>(λa=>a)) (λ_=>(λa=>a)) (λ_ _=>(λa=>a)) (λ_ _ _ _=>(λa=>a)) (λa=>a) () (λ_ _ _ _=>()) d) a)
 (λd a=>a)
 (λx0 x1 hv d a=>(CV.rec (motive_1:=λ_=>HA->HA) (motive_2:=λ_=>Unit) (λ_=>(λa=>a)) (λ_=>(λa=>a)) (λ_ _=>(λa=>a)) (λ_=>(λa=>a)) (λ_=>(λa=>a)) (λa=>a) (λ_ _=>(λa=>a)) (λa=>a) (λ_ _ _ _ _ _=>(λa=>a)) (λa=>a) (λ_=>(λa=>a)) (λ_ _ _ _ _=>(λa=>a)) (λa=>a) (λy0 y1 _=>(λa=>hv y1 a)) (λa=>a) (λ_ _=>(λa=>a)) (λ_ _=>(λa=>a)) (λ_=>(λa=>a)) (λ_ _ _ _=>(λa=>a)) (λ_ _=>(λa=>a)) (λ_=>(λa=>a)) (λ_ _=>(λa=>a)) (λ_ _ _ _=>(λa=>a)) (λa=>a) () (λ_ _ _ _=>()) d) a)
 (λd a=>a)
 (λx0 hl d a=>(CV.rec (motive_1:=λ_=>HA->HA) (motive_2:=λ_=>Unit) (λ_=>(λa=>a)) (λ_=>(λa=>a)) (λ_ _=>(λa=>a)) (λ_=>(λa=>a)) (λ_=>(λa=>a)) (λa=>a) (λ_ _=>(λa=>a)) (λa=>a) (λ_ _ _ _ _ _=>(λa=>a)) (λa=>a) (λ_=>(λa=>a)) (λ_ _ _ _ _=>(λa=>a)) (λa=>a) (λ_ _ _=>(λa=>a)) (λa=>a) (λy0 _=>(λa=>hl y0 a)) (λ_ _=>(λa=>a)) (λ_=>(λa=>a)) (λ_ _ _ _=>(λa=>a)) (λ_ _=>(λa=>a)) (λ_=>(λa=>a)) (λ_ _=>(λa=>a)) (λ_ _ _ _=>(λa=>a)) (λa=>a) () (λ_ _ _ _=>()) d) a)
 (λx0 hl d a=>(CV.rec (motive_1:=λ_=>HA->HA) (motive_2:=λ_=>Unit) (λ_=>(λa=>a)) (λ_=>(λa=>a)) (λ_ _=>(λa=>a)) (λ_=>(λa=>a)) (λ_=>(λa=>a)) (λa=>a) (λ_ _=>(λa=>a)) (λa=>a) (λ_ _ _ _ _ _=>(λa=>a)) (λa=>a) (λ_=>(λa=>a)) (λ_ _ _ _ _=>(λa=>a)) (λa=>a) (λ_ _ _=>(λa=>a)) (λa=>a) (λ_ _=>(λa=>a)) (λy0 _=>(λa=>hl y0 a)) (λ_=>(λa=>a)) (λ_ _ _ _=>(λa=>a)) (λ_ _=>(λa=>a)) (λ_=>(λa=>a)) (λ_ _=>(λa=>a)) (λ_ _ _ _=>(λa=>a)) (λa=>a) () (λ_ _ _ _=>()) d) a)
 (λx0 d a=>zYA pm x0 d a)
 (λx0 x1 x2 x3 d a=>a)
 (λx0 hl d a=>(CV.rec (motive_1:=λ_=>HA->HA) (motive_2:=λ_=>Unit) (λ_=>(λa=>a)) (λ_=>(λa=>a)) (λ_ _=>(λa=>a)) (λ_=>(λa=>a)) (λy0=>(λa=>hl (qT y0) a)) (λa=>a) (λ_ _=>(λa=>a)) (λa=>a) (λ_ _ _ _ _ _=>(λa=>a)) (λa=>a) (λ_=>(λa=>a)) (λ_ _ _ _ _=>(λa=>a)) (λa=>a) (λ_ _ _=>(λa=>a)) (λa=>a) (λ_ _=>(λa=>a)) (λ_ _=>(λa=>a)) (λ_=>(λa=>a)) (λ_ _ _ _=>(λa=>a)) (λy0 _=>(λa=>hl y0 a)) (λ_=>(λa=>a)) (λ_ _=>(λa=>a)) (λ_ _ _ _=>(λa=>a)) (λa=>a) () (λ_ _ _ _=>()) d) a)
 (λx0 d a=>a)
 (λx0 x1 d a=>zYb x0 x1 d a)
 (λx0 x1 x2 x3 d a=>a)
 (λd a=>a)
 (λ_ a=>a)
 (λ_ _ h g m a=>List.rec (motive:=λ_=>HA) a (λb r _=>g r (h b a)) m) c
def gVs(pm:Nat)(l m:List CV)(a:HA):HA:=gV pm (.agg l) (.agg m) a
def gEs(pm:Nat):List CE->List CE->HA->HA
 |x::xs,y::ys,a=>gEs pm xs ys (gV pm x.val y.val (gV pm x.key y.key a))|_,_,a=>a
def gZ(pm:Nat):List (CV × CV)->List (CV × CV)->HA->HA
 |x::xs,y::ys,a=>gZ pm xs ys (gV pm x.2 y.2 a)|x::xs,[],a=>gZ pm xs [] (gV pm x.2 (.str []) a)|_,_,a=>a
def gO(pm:Nat):CObj->CObj->HA->HA
 |.cells x,.cells y,a=>gVs pm x y a|.cells x,.full _ y,a=>gVs pm x y a|.map x _,.map y _,a=>gEs pm x (uE y) a|.mapz x,.mapz y,a=>gZ pm x y a|.mapz x,.map _ _,a=>gZ pm x [] a|.seen x,.seen y,a=>zVI x y a|_,_,a=>a
def gOR(pm:Nat)(o o':CObj)(a:HA):HA:=match o,o' with
 |.map x _,.map y _=>gEs pm x y a|o,o'=>gO pm o o' a
def zWV(pm:Nat)(h:zC):List (Key × CObj)->HA->List Key->List Key × HA
 | [],a,ks=>(ks.reverse,a)
 |p::r,a,ks=>match zVS a with
  |none=>(ks.reverse,a)
  |some (j,a)=>match zb j h with
   |some o=>zWV pm h r (gOR pm p.2 o a) (j::ks)|none=>(ks.reverse,a)
def zYf(th:List (Nat × Int × LL)):List Key->List Key
 | []=>[]
 |k::r=>(match(zLB k.ix th).1 with
  |.ofNat m=>Key.ofNat m|.negSucc _=>k)::zYf th r
def zYR(v:Int × LL):Key:=match v.1 with
 |.ofNat m=>Key.ofNat m|.negSucc _=>Key.ofNat 0
def zZc(th:List (Nat × Int × LL))(n:Nat)(acc:List Key):Option (List Key):=List.rec (motive:=λ_=>Nat->List Key->Option (List Key)) (λn acc=>Bool.rec (motive:=λ_=>Option (List Key)) none (some acc) (Nat.beq n 0))
 (λq _ ih n acc=>Prod.rec (motive:=λ_=>Option (List Key)) (λi v=>Bool.rec (motive:=λ_=>Option (List Key)) (ih n acc) (ih (Nat.sub n 1) (zYR v::acc)) (Nat.beq i (Nat.add 32767 n))) q) th n acc
def zYy(th:List (Nat × Int × LL))(ext:List Key):List Key:=match zZc th ext.length []with
 |some l=>l|none=>zYf th ext
def zXv(mid:Nat):List (Key × CObj)->List Key
 | []=>[]
 |p::r=>match Nat.ble mid p.1.ix with
  |true=>zXv mid r|false=>p.1::zXv mid r
def zUU(mid:Nat):List (Key × CObj)->List Key->Bool
 | [],[]=>true|p::r,j::js=>(match Nat.ble mid p.1.ix with
  |true=>true|false=>Nat.beq p.1.ix j.ix)&&zUU mid r js
 |_,_=>false
theorem zQj{mid:Nat}:∀{l:List (Key × CObj)} {ks:List Key},zUU mid l ks=true->∀(i:Nat) k o j,l[i]? = some (k,o)->ks[i]? = some j->k.ix<mid->j=k
 | [],_,_,i,k,o,j,h1,_,_=>by simp at h1|_::_,[],h,_,_,_,_,_,_,_=>by cases h|p::r,x::js,h,i,k,o,j,h1,h2,hk=>by
  unfold zUU at h;rw[Bool.and_eq_true]at h;cases i with
  |zero=>
   simp at h1 h2;subst h1 h2;have h3:=h.1;split at h3
   . rename_i hb
     have:=@zH noSym _ _ hb
     simp only at this hk;omega
   . exact(@Key.ix_inj noSym _ _ (Nat.eq_of_beq_eq_true h3)).symm
  |succ i=>exact zQj h.2 i k o j (by simpa using h1) (by simpa using h2) hk
theorem zPk{t:List (Int × Int)}:∀{r:List (Int × Int)} {j:Nat},thK (r++t) j=thK r j++thK t (j+r.length)
 | [],j=>rfl|x::r,j=>by show(0,[(j,1)])::thK (r++t) (j+1)=(0,[(j,1)])::(thK r (j+1)++thK t (j+(r.length+1)));rw[zPk,show j+1+r.length=j+(r.length+1)from by omega]
theorem zUF:∀{n j:Nat},thK (zKZ n) j=kP j n
 | 0,_=>rfl|n+1,j=>by show(0,[(j,1)])::thK (zKZ n) (j+1)=(0,[(j,1)])::kP (j+1) n;rw[zUF]
theorem zVj:∀{b:List (Int × Int)},(thS b).length=b.length:=by
 have key:∀{r:List (Int × Int)} {j:Nat},(thK r j).length=r.length:=by
  intro r;induction r with
  |nil=>intro j; rfl
  |cons x r ih=>intro j; show(thK r (j+1)).length+1=_; rw[ih]; rfl
 intro b;cases b with
 |nil=>rfl|cons x r=>show(thK r 1).length+1=_; rw[key]; rfl
def zTx(s:Fs):Bool:=match s.b with
 | []=>Nat.beq s.pn 0|_=>true
theorem zXL{s:Fs}(h:zTx s=true):thS s.bA=thS s.b++kP s.b.length s.pn:=by
 unfold Fs.bA;cases hb:s.b with
 |nil=>unfold zTx at h;rw[hb]at h;have e:s.pn=0:=Nat.eq_of_beq_eq_true h;rw[e];rfl|cons x r=>show(0,[])::thK (r++zKZ s.pn) 1=(0,[])::(thK r 1++kP (r.length+1) s.pn);rw[zPk,zUF,Nat.add_comm 1]
def fNB(n:Nat)(k:Nat->Bool):Bool:=Nat.rec (motive:=λ_=>(Nat->Bool)->Bool) (λk=>k 0) (λm _ k=>k (Nat.succ m)) n k
theorem zTi{n:Nat}{k:Nat->Bool}:fNB n k=k n:=by cases n <;> rfl
def zOg(G:Nat)(s:Fs)(m mn:Nat)(po:Po)(v:CV)(h:zC)(n:Key)(ks:List Key):Bool:=
 zTx s&&zBR (xj po.objs s.ext ks s.ext) (kC po.objs ks) (thS s.bA) (zCN (thS s.b) m mn m s.pn) (λi t d=>yH (xj po.objs s.ext ks s.ext) (thS s.bA) (.few i t) d) h G 65535 po.objs ks&&zTw (xj po.objs s.ext ks s.ext) (zCN (thS s.b) m mn m s.pn) (λi t d=>yH (xj po.objs s.ext ks s.ext) (thS s.bA) (.few i t) d) po.v v&&zUU s.mid po.objs ks&&zGD (xj po.objs s.ext ks s.ext) s.ext&&Nat.ble (Nat.succ n.ix) 65535
def zGu(G:Nat)(s:Fs)(po:Po)(v:CV)(h:zC)(n:Key)(ks:List Key):Bool:=
 vO (xj po.objs s.ext ks s.ext) (kC po.objs ks) (thS s.bA) h G 65535 po.objs ks&&yH (xj po.objs s.ext ks s.ext) (thS s.bA) po.v v&&zUU s.mid po.objs ks&&zGD (xj po.objs s.ext ks s.ext) s.ext&&Nat.ble (Nat.succ n.ix) 65535
theorem zRv{G:Nat}{s:Fs}{m mn:Nat}{po:Po}{v:CV}{h:zC}{n:Key}{ks:List Key}(hm:m=s.b.length)(hn:mn=m+s.pn)(hc:zOg G s m mn po v h n ks=true):zGu G s po v h n ks=true:=by
 unfold zOg at hc;simp only[Bool.and_eq_true]at hc;obtain⟨⟨⟨⟨⟨c0,c1⟩,c2⟩,c3⟩,c4⟩,c5⟩:=hc;have hs:∀e d,zCN (thS s.b) m mn m s.pn e d=uk (thS s.bA) e d:=λe d=>by rw[zMt (by rw[zVj]; exact hm) hn,zXL c0,hm]
 rw[zDz hs (λ_ _ _=>rfl)]at c1;rw[zCP hs (λ_ _ _=>rfl)]at c2;unfold zGu;simp only[Bool.and_eq_true];exact⟨⟨⟨⟨c1,c2⟩,c3⟩,c4⟩,c5⟩
def zNU(s:Fs)(po:Po)(v:CV)(h:zC)(k:List Key->Bool):Bool:=fNB (List.length s.b) λm=>match zWV m h po.objs (gV m po.v v ⟨zXv s.mid po.objs,[],s.mid,[]⟩) []with
 |(ks,_)=>zEd ks k
theorem zLw{s:Fs}{po:Po}{v:CV}{h:zC}{k:List Key->Bool}(hh:zNU s po v h k=true):∃x,k x=true:=by unfold zNU at hh;rw[zTi]at hh;split at hh;rw[u4]at hh;exact⟨_,hh⟩
def zMf(G:Nat)(s:Fs)(v:CV)(h:zC)(n:Key):List Po->Bool
 | []=>false|po::r=>match zNU s po v h (λks=>fNB (List.length s.b) λm=>fNB (Nat.add m s.pn) λmn=>zOg G s m mn po v h n ks)with
  |true=>true|false=>zMf G s v h n r
theorem zGz{G:Nat}{s:Fs}{v:CV}{h:zC}{n:Key}:∀{l:List Po},zMf G s v h n l=true->∃po∈l,∃ks,zGu G s po v h n ks=true
 | [],hh=>by cases hh|po::r,hh=>by
  unfold zMf at hh;split at hh
  . rename_i h1;obtain⟨ks,hk⟩:=zLw h1;simp only[zTi]at hk;exact⟨po,by simp,ks,zRv rfl rfl hk⟩
  . obtain⟨po',h1,h2⟩:=zGz hh;exact⟨po',by simp[h1],h2⟩
def jE(G:Nat)(s:Fs):R->Bool
 |.ret v h n=>zMf G s v h n s.posts|.fork a b=>jE G s a&&jE G s b|_=>false
theorem vD{G:Nat}{s:Fs}:∀{r:R},jE G s r=true->zd r
 |.ok ..,h=>by cases h|.ret v hh n,h=>by obtain⟨po,_,ks,hk⟩:=zGz (show zMf G s v hh n s.posts=true from h);unfold zGu at hk;rw[Bool.and_eq_true]at hk;exact @zH noSym _ _ hk.2
 |.err _,h=>by cases h|.fork a b,h=>by have h:(jE G s a&&jE G s b)=true:=h;rw[Bool.and_eq_true]at h;exact⟨vD h.1,vD h.2⟩
theorem zAc{S:Sym}{G:Nat}{s:Fs}{Y₀:Psi}{g₀:Fam}{n₀:Key}{w₀:World}{v:Value}{w:World}:∀{r:R},jE G s r=true->@zr S Y₀ g₀ n₀ w₀ r v w ->
 ∃(cv:CV) (h:zC) (n:Key) (Y:Psi),@yF S Y₀ g₀ n₀ w₀ Y (zC.fam h) n w/\@zG S Y cv v/\∃po∈s.posts,∃ks,zGu G s po cv h n ks=true
 |.ok ..,h,_=>by cases h|.ret cv hh n,h,⟨Y,h1,h2⟩=>⟨cv,hh,n,Y,h1,h2,zGz h⟩
 |.err _,h,_=>by cases h|.fork a b,h,ho=>by
  have h:(jE G s a&&jE G s b)=true:=h;rw[Bool.and_eq_true]at h;rcases ho with ho |ho
  . exact zAc h.1 ho
  . exact zAc h.2 ho
theorem zYE{J J0:Nat->Int}{K K0:zU}{G:Nat}{s:Fs}{po:Po}{Y Y':Psi}{n':Key}{w w':World}{v:Value}{cv:CV}{h:zC}{ks:List Key}
 (h0:∀x r,s.bA=x::r->J0 0=0) (hk:∀j,1<=j->j<s.bA.length->J j=J0 j)
 (hro:zGM s.ros=true) (hp:@yF (linSym J K) Y (vR (s.objs++s.ros)) s.n w Y' (zC.fam h) n' w') (hv:@zG (linSym J K) Y' cv v) (hc:zGu G s po cv h n' ks=true):∃YT,zVW (linSym J0 K0) Y s w po v YT w':=by
 unfold zGu at hc;simp only[Bool.and_eq_true]at hc;obtain⟨⟨⟨⟨c1,c2⟩,c3⟩,c4⟩,_⟩:=hc;have hI:=zXj h0 hk;obtain⟨hlen,hobj⟩:=zBl c1;obtain⟨r1,r2⟩:=zO2 (KT:=K0) hI (@yF.rel (linSym J K) _ _ _ _ _ _ _ _ hp) c1;have hm:∀k o p,vR (s.objs++s.ros) k=some o->o.isRo=false->Y k=some p->zIl Y s.objs w p.blk:=λk o p g1 g2 g3=>by
  rcases uS g1 with g1 |g1
  . exact .inl ⟨k,o,p,g1,g3,rfl⟩
  . have:=zJz hro _ g1
    simp only at this;rw[this]at g2; cases g2
 refine⟨_,⟨λk hk hlt=>?_,λi k o hi hmid p hp0=>?_,r1,qP hI zFI po.v cv c2 hv,λk o p q1 q2=>?_,zT0 (Lft.refl _ _) hp zMm hm⟩⟩
 . rw[zDO (jU (zIt c4 k hk))];exact @yF.out (linSym J K) _ _ _ _ _ _ _ _ hp k (.inl hlt)
 . obtain⟨j,o',g1,g2,_⟩:=hobj i k o hi;obtain rfl:=zQj c3 i k o j hi g1 hmid;rw[zDO g2];exact @yF.ext (linSym J K) _ _ _ _ _ _ _ _ hp _ p hp0
 . obtain⟨f1,k0,o0,f2,f3,f4⟩:=r2 k o p q1 q2;exact⟨f1,zUN (Lft.refl _ _) hp zMm hm k0 o0 p f2 f3 f4⟩
section
variable{code:FuncId->CFn}{nat:Nats}{fuel:Nat}{f:FuncId}{G:Nat}{s:Fs}
theorem zUv{tree:LTree}{ls:List Lf}(hm:P.follows .mixedOrders=true)(hcode:CodeOk P code)(hnat:∀J K,KnownOk J K->@NatsOk (linSym J K) P nat)
 (hls:leaves [] tree ⟨s.bA,[],[],[],1000⟩=some ls) (hok:okB s.bA=true) (hro:zGM s.ros=true)
 (hrun:AllG (λe=>∀(J:Nat->Int),jE G s (@ev (linSym J (e.known noA)) P code nat fuel false f s.args (mkH .nil (s.objs++s.ros)) s.n)=true) ls):FsOk P f s:=by
 intro J hb Y w args' hrel hglob hfr;unfold okB at hok;rw[Bool.and_eq_true]at hok;obtain⟨hlen,hz⟩:=zT5 hok.1 hb;obtain⟨e,he,J',r1,r2⟩:=zh (wins:=[]) (w0:=w) (i:=J 0) tree _ J hls ⟨hb,trivial,trivial,λq hq=>by cases hq⟩ zRr rfl (by show 0<s.bA.length; omega) (@zH noSym _ _ hok.2) (Nat.le_refl _);have hag:∀j,j<s.bA.length->J' j=J j:=λj hj=>r2 j (.inl hj);have hrun:=zBd hrun e he J';have hK:KnownOk J' (e.known noA):=r1.known noA;obtain⟨q1,q2⟩:=hrel J' (e.known noA) hag rfl;have hcall:@yk (linSym J' (e.known noA)) P (@ev (linSym J' (e.known noA)) P code nat fuel):=by
  letI S:Sym:=linSym J' (e.known noA)
  haveI hS:SymFact P:=yn hK
  exact kZ (λcall hcall F N=>ym hm hcall) hcode (hnat _ _ hK) fuel
 refine zDc (@yk.calls (linSym J' (e.known noA)) _ _ hcall f s.args _ s.n Y w args' q1 hglob q2 hfr (vD hrun)) λv w' ho=>?_;obtain⟨cv,h,n,Y',p1,p2,po,hpo,ks,hc⟩:=zAc hrun ho;obtain⟨YT,hT⟩:=zYE (J0:=J) (K0:=kno) (λ_ _ _=>hz) (λj _ hj=>hag j hj) hro p1 p2 hc;exact⟨po,hpo,YT,hT⟩
end
def fsChk(P:Program)(code:FuncId->CFn)(nat:Nats)(fuel:Nat)(f:FuncId)(G:Nat)(J:Nat->Int):List Fs->Bool
 | []=>true|s::r=>(zB s.bA λb=>okB b&&zGM s.ros&&jE G s (@ev (linSym J ((⟨b,[],[],[],1000⟩:Lf).known noA)) P code nat fuel false f s.args (mkH .nil (s.objs++s.ros)) s.n))&&fsChk P code nat fuel f G J r
theorem fsChk_ok{code:FuncId->CFn}{nat:Nats}{fuel:Nat}{f:FuncId}{G:Nat}(hm:P.follows .mixedOrders=true)(hcode:CodeOk P code)(hnat:∀J K,KnownOk J K->@NatsOk (linSym J K) P nat) :
 ∀{l:List Fs},(∀J,fsChk P code nat fuel f G J l=true)->∀s∈l,FsOk P f s
 | [],_,s,hs=>by cases hs|x::r,h,s,hs=>by
  have h':∀J,((okB x.bA=true/\zGM x.ros=true)/\jE G x (@ev (linSym J ((⟨x.bA,[],[],[],1000⟩:Lf).known noA)) P code nat fuel false f x.args (mkH .nil (x.objs++x.ros)) x.n)=true)/\fsChk P code nat fuel f G J r=true:=by
   intro J
   have:=h J
   unfold fsChk at this
   rwa [zPg,Bool.and_eq_true,Bool.and_eq_true,Bool.and_eq_true]at this
  rcases List.mem_cons.1 hs with rfl |hs
  . exact zUv (tree:=.leaf) (ls:=[⟨s.bA,[],[],[],1000⟩]) hm hcode hnat rfl (h' λ_=>0).1.1.1 (h' λ_=>0).1.1.2 ⟨λJ=>(h' J).1.2,trivial⟩
  . exact fsChk_ok hm hcode hnat (λJ=>(h' J).2) s hs
theorem zGZ{Js JT:Nat->Int}{Ks KT:zU}{I:TH}{U inv:zC}{objs:List (Key × CObj)}{ks:List Key}{h:zC}{lo hi G:Nat}{Y:Psi}{w:World}(hI:qO Js JT I)(hR:@Rel (linSym Js Ks) Y (zC.fam h) w)
 (hc:qo U inv I h lo hi objs ks=true) :
 @Rel (linSym JT KT) (qq U h [] Y G 0) (vR objs) w/\zAW U Y (qq U h [] Y G 0) /\
 (∀k o p,vR objs k=some o->qq U h [] Y G 0 k=some p->o.isRo=false/\∃k0 o0 p0,zC.fam h k0=some o0/\o0.isRo=false/\Y k0=some p0/\p0.blk=p.blk/\zl U k=some k0/\k0∈ks):=by
 have hTot:∀k o,zC.fam h k=some o->∃p,Y k=some p:=@Rel.tot (linSym Js Ks) _ _ _ hR;have hOn:∀k o p,zC.fam h k=some o->Y k=some p->@xQ (linSym Js Ks) Y w p o:=@Rel.on (linSym Js Ks) _ _ _ hR;have hInj:=@Rel.inj (linSym Js Ks) _ _ _ hR;have hobj:=kv hc;have hps:∀k j p,zl U k=some j->Y j=some p->qq U h [] Y G 0 k=some ⟨p.blk,p.off,p.sz,zD1 (zb j h) p.ck⟩:=by intro k j p hk hp;unfold qq;rw[hk];simp only;rw[hp]; rfl
 have hPs:zAW U Y (qq U h [] Y G 0):=λk j p hk hp=>⟨_,hps k j p (jU hk) hp,rfl,rfl,rfl⟩
 have hfam:∀k o p,vR objs k=some o->qq U h [] Y G 0 k=some p->∃b o' p0,zl U k=some b/\zl inv b=some k/\zC.fam h b=some o'/\Y b=some p0/\zCp U I o o'=true /\
  p=⟨p0.blk,p0.off,p0.sz,zD1 (some o') p0.ck⟩/\b∈ks:=by
  intro k o p hk hp;rcases qE hk with⟨j,hj⟩ |hn
  . obtain⟨b,o',g1,g2,g3,g4,g5,g6,g7⟩:=hobj j k o hj;obtain⟨p0,hp0⟩:=hTot b o' g6;rw[hps k b p0 g2 hp0,g6]at hp;injection hp with hp;exact⟨b,o',p0,g2,g3,g6,hp0,g7,hp.symm,List.mem_of_getElem? g1⟩
  . rw[jG]at hn; cases hn
 refine⟨?_,hPs,?_⟩
 . refine @Rel.mk (linSym JT KT) _ _ _ ?_ ?_ ?_
   . intro k o p hk hp;obtain⟨b,o',p0,g1,g2,g3,g4,g5,rfl,_⟩:=hfam k o p hk hp;exact(zPW (p:=p0) (p':=⟨p0.blk,p0.off,p0.sz,zD1 (some o') p0.ck⟩) hI hPs g5 rfl rfl rfl rfl (hOn b o' p0 g3 g4)).1
   . intro k o hk;rcases qE hk with⟨j,hj⟩ |hn
     . obtain⟨b,o',g1,g2,g3,g4,g5,g6,g7⟩:=hobj j k o hj;obtain⟨p0,hp0⟩:=hTot b o' g6;exact⟨_,hps k b p0 g2 hp0⟩
     . rw[jG]at hn; cases hn
   . intro k₁ k₂ o₁ o₂ p₁ p₂ h1 h2 h3 h4 hr e;obtain⟨b1,o1',q1,g1,g2,g3,g4,g5,rfl,_⟩:=hfam _ _ _ h1 h3;obtain⟨b2,o2',q2,f1,f2,f3,f4,f5,rfl,_⟩:=hfam _ _ _ h2 h4
     have:=hInj b1 b2 _ _ _ _ g3 f3 g4 f4 (.inl (zMp g5)) e
     subst this;rw[g2]at f2;injection f2
 . intro k o p hk hp;obtain⟨b,o',p0,g1,g2,g3,g4,g5,rfl,g6⟩:=hfam k o p hk hp;have hro:o.isRo=false/\o'.isRo=false:=by
    unfold zCp at g5;split at g5
    . exact⟨rfl,rfl⟩
    . exact⟨rfl,rfl⟩
    . exact⟨rfl,rfl⟩
    . exact⟨rfl,rfl⟩
    . exact⟨rfl,rfl⟩
    . exact⟨rfl,rfl⟩
    . exact⟨rfl,rfl⟩
    . cases g5
   exact⟨hro.1,b,o',p0,g3,hro.2,g4,rfl,g1,g6⟩
def roB:CObj->Option (List CV)
 |.ro b=>some b|.cells b=>some b|.full _ b=>some b|_=>none
def zEC(U inv:zC)(I:TH)(h:zC):List (Key × CObj)->Bool
 | []=>true|p::r=>(match p.2,zl U p.1 with
  |.ro a,some j=>(match zb j h with
   |some o=>(match roB o with
    |some b=>zDG inv j&&zAC U I a b|none=>false)
   |none=>false)
  |_,_=>false)&&zEC U inv I h r
def zFE(U inv:zC)(si:SE->CV->Bool)(fw:Nat->List (List Nat)->CV->Bool)(h:zC):List (Key × CObj)->Bool
 | []=>true|p::r=>(match p.2,zl U p.1 with
  |.ro a,some j=>(match zb j h with
   |some o=>(match roB o with
    |some b=>zDG inv j&&zAr U si fw a b|none=>false)
   |none=>false)
  |_,_=>false)&&zFE U inv si fw h r
theorem zHi{U inv:zC}{I:TH}{si:SE->CV->Bool}{fw:Nat->List (List Nat)->CV->Bool}(hs:∀e d,si e d=uk I e d)(hf:∀i t d,fw i t d=yH U I (.few i t) d){h:zC}:∀{l:List (Key × CObj)},zFE U inv si fw h l=zEC U inv I h l
 | []=>rfl|p::r=>by
  have e:∀a b,zAr U si fw a b=zAC U I a b:=λa b=>by rw[zAP hs hf,ju]
  unfold zFE zEC;rw[zHi hs hf (l:=r)];simp only[e]
theorem zIQ{U inv:zC}{I:TH}{h:zC}:∀{l:List (Key × CObj)},zEC U inv I h l=true->∀k o,(k,o)∈l->∃a b j o',o=.ro a/\zl U k=some j/\zb j h=some o'/\roB o'=some b/\zl inv j=none/\qr U I a b=true
 | [],_,k,o,hk=>by simp at hk|p::r,hc,k,o,hk=>by
  unfold zEC at hc;rw[Bool.and_eq_true]at hc;rcases List.mem_cons.1 hk with e |hk
  . subst e;have h1:=hc.1;split at h1
    . rename_i a j e1 e2;split at h1
      . rename_i o' hb;split at h1
        . rename_i b hb';rw[Bool.and_eq_true,ju]at h1;refine⟨a,b,j,o',e1,e2,hb,hb',?_,h1.2⟩;have h2:=h1.1;unfold zDG at h2;split at h2
          . assumption
          . cases h2
        . cases h1
      . cases h1
    . cases h1
  . exact zIQ hc.2 k o hk
theorem zXm{S:Sym}{Y:Psi}{w:World}{p:Pl}{o:CObj}{b:List CV}(hb:roB o=some b)(h:@xQ S Y w p o):@zBf S Y w p b:=by
 cases o with
 |ro c=>injection hb with hb; subst hb; exact h
 |cells c=>injection hb with hb; subst hb; exact @yZ.toRo S _ _ _ _ h
 |full u c=>injection hb with hb; subst hb; exact @yZ.toRo S _ _ _ _ (@jt.toCells S _ _ _ _ _ h)
 |map _ _=>cases hb|striter _ _=>cases hb|mapiter _ _ _ _=>cases hb|mapz _=>cases hb|seen _=>cases hb|hid=>cases hb|bag _=>cases hb
theorem zRa{Js JT:Nat->Int}{Ks KT:zU}{I:TH}{U:zC}{Ys YT:Psi}(hI:qO Js JT I)(hY:zAW U Ys YT){as bs:List CV}(h:qr U I as bs=true){w:World}{p p':Pl}(h1:p'.blk=p.blk)(h2:p'.off=p.off)
 (hc:@zBf (linSym Js Ks) Ys w p bs):@zBf (linSym JT KT) YT w p' as:=by
 obtain⟨arr,elem,fz,g1,g3,g5⟩:=hc;obtain⟨q1,q2⟩:=zES h;refine⟨arr,elem,fz,by rw[h1]; exact g1,by rw[h2]; omega,λi c hi=>?_⟩;obtain⟨d,hd,hcd⟩:=q2 i c hi;obtain⟨x,hx,hr⟩:=g5 i d hd;exact⟨x,by rw[h2]; exact hx,qP hI hY c d hcd hr⟩
theorem zOl{Js JT:Nat->Int}{Ks KT:zU}{I:TH}{U inv:zC}{objs ros:List (Key × CObj)}{ks:List Key}{h:zC}{lo hi G:Nat}{Y:Psi}{w:World}(hI:qO Js JT I)(hR:@Rel (linSym Js Ks) Y (zC.fam h) w)
 (hc:qo U inv I h lo hi objs ks=true) (hr:zEC U inv I h ros=true) :
 @Rel (linSym JT KT) (qq U h [] Y G 0) (vR (objs++ros)) w/\zAW U Y (qq U h [] Y G 0):=by
 have hTot:∀k o,zC.fam h k=some o->∃p,Y k=some p:=@Rel.tot (linSym Js Ks) _ _ _ hR;have hOn:∀k o p,zC.fam h k=some o->Y k=some p->@xQ (linSym Js Ks) Y w p o:=@Rel.on (linSym Js Ks) _ _ _ hR;have hInj:=@Rel.inj (linSym Js Ks) _ _ _ hR;obtain⟨c1,c2,c3⟩:=zGZ (G:=G) (KT:=KT) hI hR hc;have c1on:∀k o p,vR objs k=some o->qq U h [] Y G 0 k=some p->@xQ (linSym JT KT) (qq U h [] Y G 0) w p o:=@Rel.on (linSym JT KT) _ _ _ c1;have c1tot:=@Rel.tot (linSym JT KT) _ _ _ c1;have c1inj:=@Rel.inj (linSym JT KT) _ _ _ c1;have hps:∀k j p,zl U k=some j->Y j=some p->qq U h [] Y G 0 k=some ⟨p.blk,p.off,p.sz,zD1 (zb j h) p.ck⟩:=by intro k j p hk hp;unfold qq;rw[hk];simp only;rw[hp]; rfl
 have hro:∀k o,(k,o)∈ros->∃a b j p o',o=.ro a/\zC.fam h j=some o'/\Y j=some p/\qq U h [] Y G 0 k=some ⟨p.blk,p.off,p.sz,zD1 (zb j h) p.ck⟩/\qr U I a b=true/\roB o'=some b/\zl inv j=none:=by intro k o hk;obtain⟨a,b,j,o',e,g1,g2,gb,gn,g3⟩:=zIQ hr k o hk;obtain⟨p,hp⟩:=hTot j _ g2;exact⟨a,b,j,p,o',e,g2,hp,hps k j p g1 hp,g3,gb,gn⟩
 have hinv:∀k o k0,vR objs k=some o->zl U k=some k0->zl inv k0=some k:=by
  intro k o k0 hk hk0;rcases qE hk with⟨j,hj⟩ |hn
  . obtain⟨b,o',g1,g2,g3,_⟩:=kv hc j k o hj;rw[g2]at hk0;injection hk0 with hk0;rw[<- hk0]; exact g3
  . rw[jG]at hn; cases hn
 have mix:∀k₁ k₂ o₁ o₂ p₁ p₂,vR objs k₁=some o₁->(k₂,o₂)∈ros->qq U h [] Y G 0 k₁=some p₁->qq U h [] Y G 0 k₂=some p₂->p₁.blk=p₂.blk->False:=by
  intro k₁ k₂ o₁ o₂ p₁ p₂ h1 h2 h3 h4 e;obtain⟨_,k0,o0,p0,q1,q2,q3,q4,q5,_⟩:=c3 _ _ _ h1 h3;obtain⟨a,b,j,p,o',e0,r1,r2,r3,r4,r5,r6⟩:=hro _ _ h2;rw[r3]at h4;injection h4 with h4;have e':p0.blk=p.blk:=by rw[q4,e,<- h4]
  have:=hInj k0 j _ _ _ _ q1 r1 q3 r2 (.inl q2) e'
  subst this;rw[hinv _ _ _ h1 q5]at r6;cases r6
 refine⟨@Rel.mk (linSym JT KT) _ _ _ ?_ ?_ ?_,c2⟩
 . intro k o p hk hp;rcases uS hk with hk |hk
   . exact c1on k o p hk hp
   . obtain⟨a,b,j,p0,o',rfl,r1,r2,r3,r4,r5,r6⟩:=hro _ _ hk;rw[r3]at hp;injection hp with hp;subst hp;exact zRa (p:=p0) hI c2 r4 rfl rfl (zXm r5 (hOn _ _ _ r1 r2))
 . intro k o hk;rcases uS hk with hk |hk
   . exact c1tot k o hk
   . obtain⟨a,b,j,p0,o',rfl,r1,r2,r3,r4,r5,r6⟩:=hro _ _ hk;exact⟨_,r3⟩
 . intro k₁ k₂ o₁ o₂ p₁ p₂ h1 h2 h3 h4 hor e;rcases uS h1 with g1 |g1 <;> rcases uS h2 with g2 |g2
   . exact c1inj k₁ k₂ o₁ o₂ p₁ p₂ g1 g2 h3 h4 hor e
   . exact(mix _ _ _ _ _ _ g1 g2 h3 h4 e).elim
   . exact(mix _ _ _ _ _ _ g2 g1 h4 h3 e.symm).elim
   . obtain⟨a,_,_,_,_,rfl,_⟩:=hro _ _ g1;obtain⟨b,_,_,_,_,rfl,_⟩:=hro _ _ g2;rcases hor with hor |hor <;> cases hor
def zEj(U:zC)(G hi:Nat)(h:zC):List Key->List Key->Bool
 | [],[]=>true|k::r,j::js=>wS U k j&&Nat.ble G k.ix&&Nat.ble (Nat.succ k.ix) hi&&zEj U G hi h r js|_,_=>false
theorem zEN{U:zC}{G hi:Nat}{h:zC}:∀{l es:List Key},zEj U G hi h l es=true->∀(i:Nat) k j,l[i]? = some k->es[i]? = some j->zl U k=some j/\G<=k.ix/\k.ix<hi
 | [],_,_,i,k,j,h1,_=>by simp at h1|_::_,[],hc,_,_,_,_,_=>by cases hc|x::r,y::js,hc,i,k,j,h1,h2=>by
  unfold zEj at hc;simp only[Bool.and_eq_true]at hc;obtain⟨⟨⟨c0,c1⟩,c2⟩,c4⟩:=hc;cases i with
  |zero=>simp at h1 h2;subst h1 h2;exact⟨jU c0,@zH noSym _ _ c1,@zH noSym _ _ c2⟩|succ i=>exact zEN c4 i k j (by simpa using h1) (by simpa using h2)
def uL(mid:Nat)(U:zC):List (Key × CObj)->Key->Option (List Key × Key)
 | [],n=>some ([],n)|p::r,n=>match Nat.ble mid p.1.ix with
  |false=>match zl U p.1 with
   |some j=>match uL mid U r n with
    |some q=>some (j::q.1,q.2)|none=>none
   |none=>none
  |true=>match n.succ with
   |.mk a b c d=>match uL mid U r (.mk a b c d)with
    |some q=>some (n::q.1,q.2)|none=>none
theorem zEU{mid:Nat}{U:zC}:∀{l:List (Key × CObj)} {n:Key} {q:List Key × Key},uL mid U l n=some q->n.ix<=q.2.ix
 | [],n,q,h=>by injection h with h; subst h;exact Nat.le_refl _
 |p::r,n,q,h=>by
  unfold uL at h;split at h
  . split at h
    . split at h
      . rename_i q' hq';injection h with h; subst h
        have:=zEU hq'
        exact this
      . cases h
    . cases h
  . split at h;rename_i a b c d hs;split at h
    . rename_i q' hq';injection h with h; subst h;have h1:=zEU hq';rw[<- hs]at h1;have hle:=@Key.ix_le_succ noSym n;simp only; omega
    . cases h
theorem zEu{mid:Nat}{U:zC}:∀{l:List (Key × CObj)} {n:Key} {q:List Key × Key},uL mid U l n=some q->q.2.room->n.ix<=q.2.ix /\
 ∀(i:Nat) (k:Key) (o:CObj) (j:Key),l[i]? = some (k,o)->q.1[i]? = some j->(k.ix<mid/\zl U k=some j)\/(mid<=k.ix/\n.ix<=j.ix/\j.ix<q.2.ix)
 | [],n,q,h,hr=>by injection h with h; subst h;exact⟨Nat.le_refl _,λi k o j h1 _=>by simp at h1⟩
 |p::r,n,q,h,hr=>by
  unfold uL at h;split at h
  . rename_i hm;have hlt:p.1.ix<mid:=by
     rcases Nat.lt_or_ge p.1.ix mid with g |g
     . exact g
     . rw[Nat.ble_eq_true_of_le g]at hm; cases hm
    split at h
    . rename_i j hj;split at h
      . rename_i q' hq';injection h with h; subst h;obtain⟨h1,h2⟩:=zEu hq' hr;refine⟨h1,λi k o j' g1 g2=>?_⟩;cases i with
        |zero=>simp at g1 g2;subst g1 g2;exact .inl ⟨hlt,hj⟩|succ i=>exact h2 i k o j' (by simpa using g1) (by simpa using g2)
      . cases h
    . cases h
  . rename_i hm;have hm:=@zH noSym _ _ hm;split at h;rename_i a b c d hs;split at h
    . rename_i q' hq';injection h with h; subst h;obtain⟨h1,h2⟩:=zEu hq' hr;rw[<- hs]at h1 h2;have hle:=@Key.ix_le_succ noSym n;have hroom:n.ix<65535:=by
       have:q'.2.ix<65535:=hr
       omega
      have hix:=@Key.ix_succ noSym n hroom;refine⟨by simp only; omega,λi k o j' g1 g2=>?_⟩;cases i with
      |zero=>simp at g1 g2;subst g1 g2;exact .inr ⟨hm,Nat.le_refl _,by simp only; omega⟩|succ i=>
       rcases h2 i k o j' (by simpa using g1) (by simpa using g2)with g |⟨g3,g4,g5⟩
       . exact .inl g
       . exact .inr ⟨g3,by omega,g5⟩
    . cases h
def ckQ(bs:List CE)(clock:Nat)(j:Nat):Nat:=match nth bs j with
 |some e=>e.born|none=>Nat.add clock (Nat.sub j (zRo bs))
theorem zNJ{bs:List CE}{clock j:Nat}:ckQ bs clock j=qZ bs clock j:=by unfold ckQ qZ;rw[@nth_eq noSym,@zDv noSym];rfl
def zOA(U:zC)(I:TH)(bs:List CE)(clock:Nat):List CE->List CE
 | []=>[]
 |e::l=>⟨zI4 U I e.key,zI4 U I e.val,ckQ bs clock e.born⟩::zOA U I bs clock l
def wg(U:zC)(I:TH)(mid:Nat)(h:zC)(k j:Key)(o:CObj):CObj:=match o with
 |.cells l=>.cells (zOh U I l)|.map es c=>match Nat.ble mid k.ix with
  |true=>.map (zLh U I es) c|false=>match zb j h with
   |some (.map es0 c0)=>.map (zOA U I (uE es0) c0 es) (ckQ (uE es0) c0 c)|_=>.map [] 0
 |o=>o
def zP0(U:zC)(sb:SE->CV)(I:TH)(mid:Nat)(h:zC)(k j:Key)(o:CObj):CObj:=match o with
 |.cells l=>.cells (zNG U sb l)|o=>wg U I mid h k j o
theorem zN8{U:zC}{sb:SE->CV}{I:TH}(hs:∀e,sb e=yK U I (.sym e)){mid:Nat}{h:zC}{k j:Key}{o:CObj}:zP0 U sb I mid h k j o=wg U I mid h k j o:=by cases o <;> first |rfl |exact congrArg CObj.cells ((j4 hs _).trans (zIv _).symm)
def zQO(mid:Nat)(h:zC)(k j:Key)(o:CObj):Bool:=match o with
 |.cells _=>true|.map _ c=>match Nat.ble mid k.ix with
  |true=>true|false=>match zb j h with
   |some (.map es0 _)=>Nat.ble (zRo (uE es0)) c|_=>false
 |_=>false
def zKx(U inv:zC)(mid:Nat)(h:zC):List (Key × CObj)->List Key->Bool
 | [],[]=>true|p::r,j::js=>wS U p.1 j&&wS inv j p.1&&zQO mid h p.1 j p.2&&zKx U inv mid h r js|_,_=>false
theorem zPO{U inv:zC}{mid:Nat}{h:zC}:∀{l:List (Key × CObj)} {ks:List Key},zKx U inv mid h l ks=true->l.length=ks.length/\∀(i:Nat) (k:Key) (o:CObj),l[i]? = some (k,o)->∃j,ks[i]? = some j/\zl U k=some j/\zl inv j=some k/\zQO mid h k j o=true
 | [],[],_=>⟨rfl,λi k o h=>by simp at h⟩
 | [],_::_,h=>by cases h|_::_,[],h=>by cases h|p::r,j::js,h=>by
  unfold zKx at h;simp only[Bool.and_eq_true]at h;obtain⟨⟨⟨h1,h2⟩,h3⟩,h4⟩:=h;obtain⟨g1,g2⟩:=zPO h4;refine⟨by simp[g1],λi k o hi=>?_⟩;cases i with
  |zero=>simp at hi;subst hi;exact⟨j,rfl,jU h1,jU h2,h3⟩|succ i=>obtain⟨j',q1,q2⟩:=g2 i k o (by simpa using hi);exact⟨j',by simpa using q1,q2⟩
def zDA(U:zC)(I:TH)(mid:Nat)(h:zC):List (Key × CObj)->List Key->List (Key × CObj)
 |p::r,j::js=>(j,wg U I mid h p.1 j p.2)::zDA U I mid h r js|_,_=>[]
def zD7(U:zC)(sb:SE->CV)(I:TH)(mid:Nat)(h:zC):List (Key × CObj)->List Key->List (Key × CObj)
 |p::r,j::js=>(j,zP0 U sb I mid h p.1 j p.2)::zD7 U sb I mid h r js|_,_=>[]
theorem zJr{U:zC}{sb:SE->CV}{I:TH}(hs:∀e,sb e=yK U I (.sym e)){mid:Nat}{h:zC}:∀{l:List (Key × CObj)} {ks:List Key},zD7 U sb I mid h l ks=zDA U I mid h l ks
 | [],_=>by simp[zD7,zDA]|_::_,[]=>by simp[zD7,zDA]|p::r,j::js=>by unfold zD7 zDA; rw[zN8 hs,zJr hs]
theorem zF7{U inv U':zC}{I:TH}{mid:Nat}{h h0:zC}{k:Key}{o:CObj}:∀{l:List (Key × CObj)} {ks:List Key},zKx U inv mid h l ks=true->zb k (mkH h0 (zDA U' I mid h l ks))=some o ->
 (∃(kp:Key) (o':CObj) (i:Nat),zb kp (mkH .nil l)=some o'/\o=wg U' I mid h kp k o'/\zQO mid h kp k o'=true/\zl U kp=some k/\l[i]? = some (kp,o')/\ks[i]? = some k)\/zb k h0=some o
 | [],[],_,hh=>.inr hh| [],_::_,hb,_=>by cases hb|_::_,[],hb,_=>by cases hb|p::r,j::js,hb,hh=>by
  unfold zKx at hb;simp only[Bool.and_eq_true]at hb;obtain⟨⟨⟨h1,h2⟩,h3⟩,h4⟩:=hb;have hh:zb k (yy (some (wg U' I mid h p.1 j p.2)) j (mkH h0 (zDA U' I mid h r js)))=some o:=hh;rw[ke]at hh;split at hh
  . rename_i e;subst e;injection hh with hh;refine .inl ⟨p.1,p.2,0,?_,hh.symm,h3,jU h1,rfl,rfl⟩;show zb p.1 (yy (some p.2) p.1 (mkH .nil r))=_;rw[ke,if_pos rfl]
  . rename_i e;rcases zF7 h4 hh with⟨kp,o',i,g1,g2,g3,g4,g5,g6⟩ |g
    . refine .inl ⟨kp,o',i+1,?_,g2,g3,g4,by simpa using g5,by simpa using g6⟩;show zb kp (yy (some p.2) p.1 (mkH .nil r))=_;rw[ke,if_neg (λe'=>by rw[e',jU h1]at g4;injection g4 with g4;exact e g4.symm)]
      exact g1
    . exact .inr g
theorem zMh{ck:Nat->Nat}{clock:Nat}(h:vd ck clock):∀d,vd ck (clock+d)
 | 0=>h|d+1=>@vd.succ noSym _ _ (zMh h d)
theorem zJQ{J JT:Nat->Int}{K KT:zU}{I:TH}{U:zC}{Ys YT:Psi}(hI:qO J JT I)(hY:zJS U Ys YT){bs:List CE}{clock:Nat}{ck:Nat->Nat}:∀{es:List CE} {l:List MapEntry},
 @yI (linSym JT KT) Ys (λj=>ck (qZ bs clock j)) es l->@yI (linSym J K) YT ck (zOA U I bs clock es) l
 | [],l,h=>h|c::es,l,h=>by
  obtain⟨e,r,rfl,⟨h1,h2,h3⟩,h4⟩:=h;refine⟨e,r,rfl,⟨?_,?_,?_⟩,zJQ hI hY h4⟩
  . show @zG (linSym J K) YT (zI4 U I c.key) e.key;rw[zDX]; exact wL hI hY _ h1
  . show @zG (linSym J K) YT (zI4 U I c.val) e.val;rw[zDX]; exact wL hI hY _ h2
  . show e.born=ck (ckQ bs clock c.born);rw[zNJ]; exact h3
def fEF:List CE->(List CE->R)->R
 | [],k=>k []|⟨a,b,n⟩::l,k=>fQ a λa=>fQ b λb=>Nat.rec (motive:=λ_=>(Nat->R)->R) (λk=>k 0) (λm _ k=>k (Nat.succ m)) n λn=>fEF l λl=>k (⟨a,b,n⟩::l)
theorem zW0{n:Nat}{k:Nat->R}:Nat.rec (motive:=λ_=>(Nat->R)->R) (λk=>k 0) (λm _ k=>k (Nat.succ m)) n k=k n:=by cases n <;> rfl
theorem zTk:∀{l:List CE} {k:List CE->R},fEF l k=k l
 | [],_=>rfl|⟨a,b,n⟩::l,k=>by unfold fEF; rw[zIF,zIF,zW0,zTk]
def fOF(o:CObj)(k:CObj->R):R:=match o with
 |.cells l=>fQs l λl=>k (.cells l)
 |.map es c=>fEF es λes=>Nat.rec (motive:=λ_=>(Nat->R)->R) (λk=>k 0) (λm _ k=>k (Nat.succ m)) c λc=>k (.map es c)
 |o=>k o
theorem zXi{o:CObj}{k:CObj->R}:fOF o k=k o:=by
 cases o with
 |cells l=>exact zCg l _|map es c=>show(fEF es λes=>Nat.rec (motive:=λ_=>(Nat->R)->R) (λk=>k 0) (λm _ k=>k (Nat.succ m)) c λc=>k (.map es c))=_;rw[zTk];exact zW0|ro _=>rfl|striter _ _=>rfl|mapiter _ _ _ _=>rfl|full _ _=>rfl|mapz _=>rfl|seen _=>rfl|hid=>rfl|bag _=>rfl
def zSy:List (Key × CObj)->(List (Key × CObj)->R)->R
 | [],k=>k []|(j,o)::l,k=>fOF o λo=>zSy l λl=>k ((j,o)::l)
theorem zKM:∀{l:List (Key × CObj)} {k:List (Key × CObj)->R},zSy l k=k l
 | [],_=>rfl|(j,o)::l,k=>by unfold zSy; rw[zXi,zKM]
def zSw[Sym](G:Nat)(s:Fs)(m mn q:Nat)(ks es:List Key)(I:TH)(args:List CV)(h:zC):Bool:=
 zVu s.b I&&zXB s.pn (zW4 q Sym.kb)&&zWz (xj s.objs s.ext ks es) (zCN I m mn q s.pn) (λi t d=>yH (xj s.objs s.ext ks es) (I++kP q s.pn) (.few i t) d) s.args args &&
 zC0 (xj s.objs s.ext ks es) (kC s.objs ks) (I++kP q s.pn) (zCN I m mn q s.pn) (λi t d=>yH (xj s.objs s.ext ks es) (I++kP q s.pn) (.few i t) d) h G s.n.ix s.objs ks &&
 zEj (xj s.objs s.ext ks es) G s.n.ix h s.ext es&&Nat.ble G s.n.ix&&zFE (xj s.objs s.ext ks es) (kC s.objs ks) (zCN I m mn q s.pn) (λi t d=>yH (xj s.objs s.ext ks es) (I++kP q s.pn) (.few i t) d) h s.ros
def zAy(s:Fs)(ks es:List Key)(I:TH)(h:zC)(n:Key)(po:Po):R:=match uL s.mid (kT s.objs ks) po.objs n with
 |none=>.err 435|some q=>match zKx (xj po.objs s.ext q.1 es) (kC po.objs q.1) s.mid h po.objs q.1 with
  |false=>.err 436|true=>fQ (zI4 (xj po.objs s.ext q.1 es) I po.v) λv=>zSy (zDA (xj po.objs s.ext q.1 es) I s.mid h po.objs q.1) λos=>.ret v (mkH (zIr ks h) os) q.2
def zBZ(s:Fs)(ks es:List Key)(I:TH)(h:zC)(n:Key):List Po->R
 | []=>.err 437| [po]=>zAy s ks es I h n po|po::r=>.fork (zAy s ks es I h n po) (zBZ s ks es I h n r)
def zAz(s:Fs)(ks es:List Key)(sb:SE->CV)(I:TH)(h:zC)(n:Key)(po:Po):R:=match uL s.mid (kT s.objs ks) po.objs n with
 |none=>.err 435|some q=>match zKx (xj po.objs s.ext q.1 es) (kC po.objs q.1) s.mid h po.objs q.1 with
  |false=>.err 436|true=>fQ (zTl (xj po.objs s.ext q.1 es) sb po.v) λv=>zSy (zD7 (xj po.objs s.ext q.1 es) sb I s.mid h po.objs q.1) λos=>.ret v (mkH (zIr ks h) os) q.2
def vF(s:Fs)(ks es:List Key)(sb:SE->CV)(I:TH)(h:zC)(n:Key):List Po->R
 | []=>.err 437| [po]=>zAz s ks es sb I h n po|po::r=>.fork (zAz s ks es sb I h n po) (vF s ks es sb I h n r)
theorem zGL{s:Fs}{ks es:List Key}{sb:SE->CV}{I:TH}(hs:∀U e,sb e=yK U I (.sym e)){h:zC}{n:Key}{po:Po}:zAz s ks es sb I h n po=zAy s ks es I h n po:=by unfold zAz zAy;simp only[zDi (hs _),zJr (hs _),zDX]
theorem zE0{s:Fs}{ks es:List Key}{sb:SE->CV}{I:TH}(hs:∀U e,sb e=yK U I (.sym e)){h:zC}{n:Key}:∀{l:List Po},vF s ks es sb I h n l=zBZ s ks es I h n l
 | []=>rfl| [po]=>zGL hs|po::po2::r=>by show R.fork (zAz s ks es sb I h n po) (vF s ks es sb I h n (po2::r))=R.fork (zAy s ks es I h n po) (zBZ s ks es I h n (po2::r));rw[zGL hs,zE0 hs]
def fNR(n:Nat)(k:Nat->R):R:=Nat.rec (motive:=λ_=>(Nat->R)->R) (λk=>k 0) (λm _ k=>k (Nat.succ m)) n k
theorem zT3{n:Nat}{k:Nat->R}:fNR n k=k n:=by cases n <;> rfl
def qOf(m:Nat)(th:List (Nat × Int × LL)):Nat:=match zLB m th with
 |(_,(q,_)::_)=>q|_=>0
def zYK(pm:Nat)(h:zC)(th:List (Nat × Int × LL)):List (Key × CObj)->HA->HA
 | [],a=>a|p::r,a=>zYK pm h th r (match p.2,(zLB p.1.ix th).1 with
  |.ro x,.ofNat m=>(match zb (Key.ofNat m) h with
   |some o=>(match roB o with
    |some y=>gVs pm x y a|none=>a)
   |none=>a)
  |_,_=>a)
def thQ(th:List (Nat × Int × LL))(j:Nat)(acc:TH):Option TH:=List.rec (motive:=λ_=>Nat->TH->Option TH) (λj acc=>Nat.rec (motive:=λ_=>Option TH) (some acc) (λ_ _=>none) j)
 (λq _ ih j acc=>Prod.rec (motive:=λ_=>Option TH) (λi v=>Bool.rec (motive:=λ_=>Option TH) (ih j acc) (ih (Nat.pred j) (v::acc)) (Nat.beq i j)) q) th j acc
def zY9(n m:Nat)(th:List (Nat × Int × LL)):Nat:=Nat.rec (motive:=λ_=>Nat) 0 (λ_ _=>qOf m th) n
def zYv(th:List (Nat × Int × LL))(b:List (Int × Int)):TH:=match b with
 | []=>[]
 |_::r=>match thQ th (List.length r) []with
  |some I=>(0,[])::I|none=>zZh th b
def zYr(th:List (Nat × Int × LL))(k:List (Nat × Int × LL)->R):R:=List.rec (motive:=λ_=>(List (Nat × Int × LL)->R)->R) (λk=>k []) (λx _ g k=>g λl=>k (x::l)) th k
theorem zJ8:∀{th:List (Nat × Int × LL)} {k:List (Nat × Int × LL)->R},zYr th k=k th
 | [],_=>rfl|x::th,k=>zJ8 (th:=th) (k:=λl=>k (x::l))
def qkO:CObj->CObj->Bool
 |.cells x,.cells y=>zSi x y|.cells x,.full _ y=>zSi x y|_,_=>true
def zOV(pm:Nat)(h:zC):List (Key × CObj)->HA->List Key->Option (List Key × HA)
 | [],a,ks=>some (ks.reverse,a)|p::r,a,ks=>match zVS a with
  |none=>none|some (j,a)=>match zb j h with
   |some o=>match qkO p.2 o with
    |true=>zOV pm h r (gO pm p.2 o a) (j::ks)|false=>none
   |none=>none
def zTW(pm:Nat)(h:zC)(ros:List (Key × CObj)):List Nat->List (Key × CObj)->HA->List Key->Option (List Key × HA)
 | [],l,a,ks=>zOV pm h l a ks| 0::w,p::r,a,ks=>(match zVS a with
  |none=>none|some (j,a)=>match zb j h with
   |some o=>match qkO p.2 o with
    |true=>zTW pm h ros w r (gO pm p.2 o a) (j::ks)|false=>none
   |none=>none)
 | 0::_,[],_,_=>none|Nat.succ q::w,l,a,ks=>(match nth ros q with
  |some (k,.ro x)=>(match(zLB k.ix a.th).1 with
   |.ofNat m=>(match zb (Key.ofNat m) h with
    |some o=>(match roB o with
     |some y=>(match zSi x y with
      |true=>zTW pm h ros w l (gVs pm x y a) ks|false=>none)
     |none=>none)
    |none=>none)
   |.negSucc _=>none)
  |_=>none)
def zY3(pm:Nat)(h:zC)(s:Fs)(a:HA):Option (List Key × HA):=match s.walk with
 | []=>(match zOV pm h s.objs a []with
  |some (ks,a)=>some (ks,zYK pm h a.th s.ros a)|none=>none)
 |w=>zTW pm h s.ros w s.objs a []
def zSM[Sym](G:Nat)(args:List CV)(h:zC)(n:Key)(s:Fs)(z:R):R:=fNR (List.length s.b) λm=>fNR (Nat.add m s.pn) λmn=>match zY3 m h s (gVs m s.args args ⟨[],[],zWP s.objs,[]⟩)with
 |none=>z|some (ks,a)=>fKs ks λks=>fKs (zYy a.th s.ext) λes=>zYr a.th λth=>fTH (zYv th s.b) λI=>fNR (zY9 s.pn m th) λq=>match zSw G s m mn q ks es I args h with
  |true=>vF s ks es (sbP I m mn q s.pn) (I++kP q s.pn) h n s.posts|false=>z
def qkK(h:zC)(objs:List (Key × CObj))(b:Nat)(k j:Key):Bool:=match Nat.ble 32768 k.ix with
 |true=>true|false=>match nth objs (Nat.sub k.ix b),zb j h with
  |some p,some (.cells y)=>(match p.2 with
   |.cells x=>zSi x y|_=>true)
  |_,_=>true
def qkA(h:zC)(objs:List (Key × CObj))(b:Nat):List CV->List CV->Bool
 |x::l,y::m=>(match x,y with
  |.ptr k _,.ptr j _=>qkK h objs b k j|.sl k _ _ _ _ _,.sl j _ _ _ _ _=>qkK h objs b k j|.agg (.sl k _ _ _ _ _::_),.agg (.sl j _ _ _ _ _::_)=>qkK h objs b k j|_,_=>true)&&qkA h objs b l m
 |_,_=>true
def zFg[Sym](G:Nat)(args:List CV)(h:zC)(n:Key)(z:R):List Fs->R
 | []=>z|s::r=>match zSi s.args args&&qkA h s.objs (zWP s.objs) s.args args with
  |true=>zSM G args h n s (zFg G args h n z r)|false=>zFg G args h n z r
theorem zBb{U inv:zC}{I:TH}{h:zC}{lo hi:Nat}:∀{objs:List (Key × CObj)} {ks:List Key},qo U inv I h lo hi objs ks=true->objs.length=ks.length
 | [],[],_=>rfl| [],_::_,h=>by cases h|_::_,[],h=>by cases h|p::r,j::js,h=>by unfold qo at h;rw[Bool.and_eq_true]at h;simp[zBb h.2]
theorem zCc{s:Fs}{ks es:List Key}{sb:SE->CV}{I:TH}{h:zC}{n:Key}{po:Po}:zo n (zAz s ks es sb I h n po):=by
 unfold zAz;cases hq:uL s.mid (kT s.objs ks) po.objs n with
 |none=>trivial|some q=>
  simp only;cases hb:zKx (xj po.objs s.ext q.1 es) (kC po.objs q.1) s.mid h po.objs q.1 with
  |false=>trivial|true=>simp only[zIF,zKM];exact zEU hq
theorem zBa{s:Fs}{ks es:List Key}{sb:SE->CV}{I:TH}{h:zC}{n:Key}:∀{l:List Po},zo n (vF s ks es sb I h n l)
 | []=>trivial| [po]=>zCc|po::po'::r=>⟨zCc,zBa (l:=po'::r)⟩
theorem vl[Sym]{G:Nat}{args:List CV}{h:zC}{n:Key}{z:R}(hz:zo n z):∀{l:List Fs},zo n (zFg G args h n z l)
 | []=>hz|s::r=>by
  unfold zFg;split
  . unfold zSM;simp only[zT3];split
    . exact vl hz
    rw[zKX,zKX,zJ8,zOy];split
    . exact zBa
    . exact vl hz
  . exact vl hz
theorem zF1{J JT:Nat->Int}{K:zU}{G:Nat}{s:Fs}{ks es:List Key}{I:TH}{h:zC}{n:Key}{po:Po}{Y Y':Psi}{w w':World}{v:Value}(hI:qO J JT I)(hR:@Rel (linSym J K) Y (zC.fam h) w)(hfr:qN Y n)
 (hc:qo (xj s.objs s.ext ks es) (kC s.objs ks) I h G s.n.ix s.objs ks=true) (he:zEj (xj s.objs s.ext ks es) G s.n.ix h s.ext es=true)
 (hpo:zVW (linSym JT kno) (qq (xj s.objs s.ext ks es) h [] Y G 0) s w po v Y' w') (hcl:zd (zAy s ks es I h n po)) :
 @zr (linSym J K) Y (zC.fam h) n w (zAy s ks es I h n po) v w':=by
 unfold zAy at hcl ⊢;cases hq:uL s.mid (kT s.objs ks) po.objs n with
 |none=>rw[hq]at hcl; exact hcl.elim|some q=>
  rw[hq]at hcl;simp only at hcl ⊢;cases hb:zKx (xj po.objs s.ext q.1 es) (kC po.objs q.1) s.mid h po.objs q.1 with
  |false=>rw[hb]at hcl; exact hcl.elim|true=>
   rw[hb]at hcl;simp only[zIF,zKM,zDX]at hcl ⊢;have hroom:q.2.room:=hcl;obtain⟨hmono,hkeys⟩:=zEu hq hroom;obtain⟨hlen,hbij⟩:=zPO hb;obtain⟨c1,c2,c3⟩:=zGZ (G:=G) (KT:=kno) hI hR hc;have hobj:=kv hc;have hlen0:=zBb hc;have hTot:∀k o,zC.fam h k=some o->∃p,Y k=some p:=@Rel.tot (linSym J K) _ _ _ hR;have hOn:∀k o p,zC.fam h k=some o->Y k=some p->@xQ (linSym J K) Y w p o:=@Rel.on (linSym J K) _ _ _ hR;have hInj:=@Rel.inj (linSym J K) _ _ _ hR;have pTot:=@Rel.tot (linSym JT kno) _ _ _ hpo.rel;have pOn:=@Rel.on (linSym JT kno) _ _ _ hpo.rel;have pInj:=@Rel.inj (linSym JT kno) _ _ _ hpo.rel;have hold:∀k p,Y k=some p->k.ix<n.ix:=λk p hp=>by
    rcases Nat.lt_or_ge k.ix n.ix with g |g
    . exact g
    . rw[hfr k g]at hp; cases hp
   obtain⟨Y2,hY2⟩:∃Y2:Psi,∀k,Y2 k=if n.ix<=k.ix then(match zl (kC po.objs q.1) k with |some kp=>Y' kp |none=>Y k)else Y k:=⟨_,λ_=>rfl⟩
   have h2old:∀k,k.ix<n.ix->Y2 k=Y k:=λk hk=>by rw[hY2,if_neg (by omega)]
   have hle:Y.le Y2:=λk p hp=>by rw[h2old k (hold k p hp)]; exact hp
   have hpsT:∀k j p,zl (xj s.objs s.ext ks es) k=some j->Y j=some p->qq (xj s.objs s.ext ks es) h [] Y G 0 k=some ⟨p.blk,p.off,p.sz,zD1 (zb j h) p.ck⟩:=by intro k j p hk hp;unfold qq;rw[hk];simp only;rw[hp]; rfl
   have hrho0:∀k j,zl (kT s.objs ks) k=some j->zl (xj s.objs s.ext ks es) k=some j/\j∈ks/\∃o p,zb j h=some o/\Y j=some p:=by intro k j hk;obtain⟨i,o,g1,g2⟩:=zHK hk;obtain⟨j',o',f1,f2,f3,f4,f5,f6,f7⟩:=hobj i k o g1;rw[g2]at f1;injection f1 with f1;subst f1;obtain⟨p,hp⟩:=hTot j o' f6;exact⟨f2,List.mem_of_getElem? g2,o',p,f6,hp⟩
   have hend:∀(i:Nat) (k:Key) (o:CObj) (j:Key),po.objs[i]? = some (k,o)->q.1[i]? = some j->∀p,Y' k=some p->∃p',Y2 j=some p'/\zGS p p' /\
    ((s.mid<=k.ix/\p'=p)\/(k.ix<s.mid/\p=⟨p'.blk,p'.off,p'.sz,zD1 (zb j h) p'.ck⟩/\Y j=some p')):=by
    intro i k o j g1 g2 p hp;rcases hkeys i k o j g1 g2 with⟨f1,f2⟩ |⟨f1,f2,f3⟩
    . obtain⟨e0,_,o0,pj,e1,e2⟩:=hrho0 k j f2;have e3:=hpo.pin i k o g1 f1 _ (hpsT k j pj e0 e2);rw[hp]at e3;injection e3 with e3;subst e3;exact⟨pj,by rw[h2old j (hold j pj e2)]; exact e2,⟨rfl,rfl,rfl⟩,.inr ⟨f1,rfl,e2⟩⟩
    . obtain⟨j',b1,b2,b3,_⟩:=hbij i k o g1;rw[g2]at b1;injection b1 with b1;subst b1;exact⟨p,by rw[hY2,if_pos f2,b3]; exact hp,⟨rfl,rfl,rfl⟩,.inl ⟨f1,rfl⟩⟩
   have hM:zJS (xj po.objs s.ext q.1 es) Y' Y2:=by
    intro k j p hk hp;rcases zPz hlen hk with⟨i,o,g1,g2⟩ |⟨i,g1,g2⟩
    . obtain⟨p',h1,h2,_⟩:=hend i k o j g1 g2 p hp;exact⟨p',h1,h2⟩
    . obtain⟨a0,a1,a2⟩:=zEN he i k j g1 g2;have e3:=hpo.ext k (List.mem_of_getElem? g1) a2;cases e2:Y j with
      |none=>
       have e4:qq (xj s.objs s.ext ks es) h [] Y G 0 k=none:=by unfold qq;rw[a0];simp only;rw[e2]; rfl
       rw[e3,e4]at hp;cases hp
      |some pj=>rw[e3,hpsT k j pj a0 e2]at hp;injection hp with hp;subst hp;exact⟨pj,by rw[h2old j (hold j pj e2)]; exact e2,⟨rfl,rfl,rfl⟩⟩
   have hOwn:∀B,zIl (qq (xj s.objs s.ext ks es) h [] Y G 0) s.objs w B->(∃k0 o0 p0,zb k0 h=some o0/\o0.isRo=false/\Y k0=some p0/\p0.blk=B/\k0∈ks)\/w.heap.size<=B:=by
    intro B hB;rcases hB with⟨k,o,p,g1,g2,g3⟩ |g
    . obtain⟨_,k0,o0,p0,f1,f2,f3,f4,f5,f6⟩:=c3 k o p g1 g2;exact .inl ⟨k0,o0,p0,f1,f2,f3,f4.trans g3,f6⟩
    . exact .inr g
   have hnew:∀k o,zb k (mkH (zIr ks h) (zDA (xj po.objs s.ext q.1 es) I s.mid h po.objs q.1))=some o ->
    (∃(kp:Key) (o':CObj) (p p':Pl),vR po.objs kp=some o'/\o=wg (xj po.objs s.ext q.1 es) I s.mid h kp k o'/\zQO s.mid h kp k o'=true/\Y' kp=some p/\Y2 k=some p'/\zGS p p' /\
      ((s.mid<=kp.ix/\p'=p)\/(kp.ix<s.mid/\p=⟨p'.blk,p'.off,p'.sz,zD1 (zb k h) p'.ck⟩/\Y k=some p'))/\zl (xj po.objs s.ext q.1 es) kp=some k)\/(k ∉ ks/\zb k h=some o):=by
    intro k o hk;rcases zF7 hb hk with⟨kp,o',i,g1,g2,g3,g4,g5,g6⟩ |hk
    . obtain⟨p,hp⟩:=pTot kp o' g1;obtain⟨p',e1,e2,e3⟩:=hend i kp o' k g5 g6 p hp;exact .inl ⟨kp,o',p,p',g1,g2,g3,hp,e1,e2,e3,g4⟩
    . exact .inr (zIS hk)
   have hin:∀k o p,zb k h=some o->Y k=some p->p.blk<w.heap.size:=λk o p h1 h2=>@xQ.lt (linSym J K) _ _ _ _ (hOn k o p h1 h2);have hlow:∀k o p,k ∉ ks->zb k h=some o->Y k=some p->¬zIl (qq (xj s.objs s.ext ks es) h [] Y G 0) s.objs w p.blk:=by
    intro k o p g1 g2 g3 hB;rcases hOwn _ hB with⟨k0,o0,p0,f1,f2,f3,f4,f5⟩ |g
    . have:=hInj k0 k o0 o p0 p f1 g2 f3 g3 (.inl f2) f4
      subst this;exact g1 f5
    . have:=hin k o p g2 g3
      omega
   have hone:∀(kp k:Key) (o':CObj) (p p':Pl),vR po.objs kp=some o'->zQO s.mid h kp k o'=true->Y' kp=some p->zGS p p' ->
    ((s.mid<=kp.ix/\p'=p)\/(kp.ix<s.mid/\p=⟨p'.blk,p'.off,p'.sz,zD1 (zb k h) p'.ck⟩/\Y k=some p')) ->
    @xQ (linSym J K) Y2 w' p' (wg (xj po.objs s.ext q.1 es) I s.mid h kp k o')/\(wg (xj po.objs s.ext q.1 es) I s.mid h kp k o').isRo=false:=by
    intro kp k o' p p' g1 g3 g4 g6 g7;have hpon:=pOn kp o' p g1 g4;cases o' with
    |cells l=>
     have e:wg (xj po.objs s.ext q.1 es) I s.mid h kp k (.cells l)=zT2 (xj po.objs s.ext q.1 es) I (.cells l):=by show CObj.cells (zOh _ I l)=CObj.cells (qJ _ I l);rw[zIv]
     rw[e];exact⟨zNs hI hM rfl g6 (λ_ _ e=>by cases e) hpon,rfl⟩
    |map es1 c1=>
     rcases g7 with⟨m1,m2⟩ |⟨m1,m2,m3⟩
     . have hb1:Nat.ble s.mid kp.ix=true:=Nat.ble_eq_true_of_le m1;have e:wg (xj po.objs s.ext q.1 es) I s.mid h kp k (.map es1 c1)=zT2 (xj po.objs s.ext q.1 es) I (.map es1 c1):=by unfold wg;simp only[hb1];rfl
       rw[e];exact⟨zNs hI hM rfl g6 (λ_ _ _=>m2) hpon,rfl⟩
     . have hb1:Nat.ble s.mid kp.ix=false:=by
        cases hx:Nat.ble s.mid kp.ix with
        |false=>rfl|true=>have:=@zH noSym _ _ hx; omega
       unfold zQO at g3;simp only[hb1]at g3;unfold wg;simp only[hb1];split at g3
       . rename_i es0 c0 h0;rw[h0]at m2;have hle0:=@zH noSym _ _ g3;rw[@zDv noSym]at hle0;obtain⟨arr0,a1,_,a3⟩:=hOn k _ p' h0 m3;have m2:p=⟨p'.blk,p'.off,p'.sz,λj=>p'.ck (qZ (uE es0) c0 j)⟩:=m2;subst m2;obtain⟨arr,b1,⟨l0,bp,b2⟩,b3⟩:=hpon;obtain⟨d,hd⟩:∃d,c1=(uE es0).length+d:=⟨c1 - (uE es0).length,by omega⟩
         have hck:qZ (uE es0) c0 c1=c0+d:=by rw[hd]; exact ut d
         refine⟨⟨arr,?_,⟨l0,bp,zJQ hI hM b2⟩,?_⟩,rfl⟩
         . rw[zNJ]; exact b1
         . rw[zNJ,hck]; exact zMh a3 d
       . cases g3
    |ro _=>cases g3|striter _ _=>cases g3|mapiter _ _ _ _=>cases g3|full _ _=>cases g3|mapz _=>cases g3|seen _=>cases g3|hid=>cases g3|bag _=>cases g3
   refine⟨Y2,@yF.mk (linSym J K) _ _ _ _ _ _ _ _ hle ?_ (@Rel.mk (linSym J K) _ _ _ ?_ ?_ ?_) ?_ ?_ hpo.lft.size hpo.lft.tape hpo.lft.os hpo.lft.output hmono ?_,wL hI hM _ hpo.val⟩
   . intro k hk;rcases hk with hk |hk
     . exact h2old k hk
     . rw[hY2,if_pos (by omega)];split
       . rename_i kp hkp;exfalso;obtain⟨i,⟨o,g1⟩,g2⟩:=zSG hkp;rcases hkeys i kp o k g1 g2 with⟨f1,f2⟩ |⟨f1,f2,f3⟩
         . obtain⟨_,_,o0,pj,e1,e2⟩:=hrho0 kp k f2
           have:=hold k pj e2
           omega
         . omega
       . rfl
   . intro k o p hk hp;rcases hnew k o hk with⟨kp,o',p0,p',g1,rfl,g3,g4,g5,g6,g7,_⟩ |⟨g1,g2⟩
     . rw[g5]at hp;injection hp with hp;subst hp;exact(hone kp k o' p0 p' g1 g3 g4 g6 g7).1
     . obtain⟨p1,hp1⟩:=hTot k o g2;rw[hle k p1 hp1]at hp;injection hp with hp;subst hp;exact @xQ.mono (linSym J K) _ _ hle _ _ _ (@xQ.congr (linSym J K) _ _ _ _ _ (hpo.lft.block _ (hlow k o p1 g1 g2 hp1)) (hOn k o p1 g2 hp1))
   . intro k o hk;rcases hnew k o hk with⟨kp,o',p0,p',g1,_,g3,g4,g5,_⟩ |⟨g1,g2⟩
     . exact⟨p',g5⟩
     . obtain⟨p1,hp1⟩:=hTot k o g2;exact⟨p1,hle k p1 hp1⟩
   . intro k₁ k₂ o₁ o₂ p₁ p₂ h1 h2 h3 h4 hr e;rcases hnew k₁ o₁ h1 with⟨kp1,o1',p01,p1',a1,_,a3,a4,a5,a6,_,a8⟩ |⟨a1,a2⟩ <;> rcases hnew k₂ o₂ h2 with⟨kp2,o2',p02,p2',b1,_,b3,b4,b5,b6,_,b8⟩ |⟨b1,b2⟩
     . rw[a5]at h3; rw[b5]at h4;injection h3 with h3; injection h4 with h4;subst h3; subst h4
       have:=pInj kp1 kp2 o1' o2' p01 p02 a1 b1 a4 b4 (.inl (hpo.own kp1 o1' p01 a1 a4).1) (by rw[<- a6.1,<- b6.1]; exact e)
       subst this;rw[a8]at b8;injection b8
     . exfalso;rw[a5]at h3;injection h3 with h3; subst h3;obtain⟨p1,hp1⟩:=hTot k₂ o₂ b2;rw[hle k₂ p1 hp1]at h4;injection h4 with h4; subst h4;refine hlow k₂ o₂ p1 b1 b2 hp1 ?_;rw[<- e,a6.1];exact(hpo.own kp1 o1' p01 a1 a4).2
     . exfalso;rw[b5]at h4;injection h4 with h4; subst h4;obtain⟨p1,hp1⟩:=hTot k₁ o₁ a2;rw[hle k₁ p1 hp1]at h3;injection h3 with h3; subst h3;refine hlow k₁ o₁ p1 a1 a2 hp1 ?_;rw[e,b6.1];exact(hpo.own kp2 o2' p02 b1 b4).2
     . obtain⟨p1,hp1⟩:=hTot k₁ o₁ a2;obtain⟨p2,hp2⟩:=hTot k₂ o₂ b2;rw[hle k₁ p1 hp1]at h3;rw[hle k₂ p2 hp2]at h4;injection h3 with h3; injection h4 with h4;subst h3; subst h4;exact hInj k₁ k₂ o₁ o₂ p1 p2 a2 b2 hp1 hp2 hr e
   . intro B hB hfree;refine hpo.lft.block B λhO=>?_;rcases hOwn B hO with⟨k0,o0,p0,f1,f2,f3,f4,_⟩ |g
     . exact hfree k0 o0 p0 f1 f2 f3 f4
     . omega
   . intro k o p hk hro hp;rcases hnew k o hk with⟨kp,o',p0,p',g1,_,g3,g4,g5,g6,_⟩ |⟨g1,g2⟩
     . rw[g5]at hp;injection hp with hp;subst hp
       have:=(hpo.own kp o' p0 g1 g4).2
       rw[<- g6.1]at this;rcases hOwn _ this with⟨k0,o0,p00,f1,f2,f3,f4,_⟩ |g
       . exact .inl ⟨k0,o0,p00,f1,f2,f3,f4⟩
       . exact .inr g
     . obtain⟨p1,hp1⟩:=hTot k o g2;rw[hle k p1 hp1]at hp;injection hp with hp;subst hp;exact .inl ⟨k,o,p1,g2,hro,hp1,rfl⟩
   . intro k o p hk hp;rcases hnew k o hk with⟨kp,o',p0,p',g1,_,g3,g4,g5,g6,_⟩ |⟨g1,g2⟩
     . rw[g5]at hp;injection hp with hp;subst hp
       have:=(hpo.own kp o' p0 g1 g4).2
       rw[<- g6.1]at this;rcases hOwn _ this with⟨k0,o0,p00,f1,f2,f3,f4,_⟩ |g
       . exact .inl ⟨k0,o0,p00,f1,f3,f4⟩
       . exact .inr g
     . obtain⟨p1,hp1⟩:=hTot k o g2;rw[hle k p1 hp1]at hp;injection hp with hp;subst hp;exact .inl ⟨k,o,p1,g2,hp1,rfl⟩
theorem zFw{J JT:Nat->Int}{K:zU}{G:Nat}{s:Fs}{ks es:List Key}{I:TH}{h:zC}{n:Key}{Y Y':Psi}{w w':World}{v:Value}(hI:qO J JT I)(hR:@Rel (linSym J K) Y (zC.fam h) w)(hfr:qN Y n)
 (hc:qo (xj s.objs s.ext ks es) (kC s.objs ks) I h G s.n.ix s.objs ks=true) (he:zEj (xj s.objs s.ext ks es) G s.n.ix h s.ext es=true):∀{l:List Po} {po:Po},po∈l->zVW (linSym JT kno) (qq (xj s.objs s.ext ks es) h [] Y G 0) s w po v Y' w'->zd (zBZ s ks es I h n l) ->
 @zr (linSym J K) Y (zC.fam h) n w (zBZ s ks es I h n l) v w'
 | [],_,hm,_,_=>by cases hm| [po'],po,hm,hpo,hcl=>by rw[List.mem_singleton.1 hm]at hpo;exact zF1 hI hR hfr hc he hpo hcl|po'::po2::r,po,hm,hpo,hcl=>by
  have hcl:zd (zAy s ks es I h n po')/\zd (zBZ s ks es I h n (po2::r)):=hcl;rcases List.mem_cons.1 hm with e |hm
  . subst e;exact .inl (zF1 hI hR hfr hc he hpo hcl.1)
  . exact .inr (zFw hI hR hfr hc he (l:=po2::r) hm hpo hcl.2)
theorem zRi{J:Nat->Int}{K:zU}(hK:KnownOk J K){f:FuncId}{G:Nat}(hG:P.globals.size<=G){s:Fs}(hs:FsOk P f s){args:List CV}{h:zC}{n:Key}{Y:Psi}{w:World}{args':Array Value}{m mn q:Nat}{ks es:List Key}{Il:TH}
 (hm:m=s.b.length) (hn:mn=m+s.pn) (ha:@zP (linSym J K) Y args args'.toList) (hg:vU P Y) (hR:@Rel (linSym J K) Y (zC.fam h) w) (hfr:qN Y n) (hfit:@zSw (linSym J K) G s m mn q ks es Il args h=true) (hcl:zd (vF s ks es (sbP Il m mn q s.pn) (Il++kP q s.pn) h n s.posts)) :
 yS P f args' w (@zr (linSym J K) Y (zC.fam h) n w (vF s ks es (sbP Il m mn q s.pn) (Il++kP q s.pn) h n s.posts)):=by
 unfold zSw at hfit;simp only[Bool.and_eq_true]at hfit;obtain⟨⟨⟨⟨⟨⟨f4,fp⟩,f1⟩,f2⟩,fe⟩,f3⟩,f5⟩:=hfit;have hlow:s.b.length=Il.length:=(zKU hK P (JT:=λi=>match nth Il i with |some q=>evQ J q |none=>0) (j:=0) f4 (λi q hi=>by simp only[Nat.zero_add,hi])).1;have hm':m=Il.length:=by omega
 have hsi:∀e d,zCN Il m mn q s.pn e d=uk (Il++kP q s.pn) e d:=zMt hm' hn;rw[zE0 (λU e=>zXV hm' hn e)]at hcl ⊢;rw[wQ hsi (λ_ _ _=>rfl)]at f1;rw[zE8 hsi (λ_ _ _=>rfl)]at f2;rw[zHi hsi (λ_ _ _=>rfl)]at f5;obtain⟨I,hIe⟩:∃I,I=Il++kP q s.pn:=⟨_,rfl⟩
 rw[<- hIe]at f1 f2 f5 hcl ⊢;obtain⟨JT,hJ⟩:∃JT:Nat->Int,∀j,JT j=match nth I j with |some q=>evQ J q |none=>0:=⟨_,λ_=>rfl⟩
 have hth:∀j q,nth I j=some q->JT j=evQ J q:=λj q hj=>by rw[hJ,hj]
 have hlen:s.bA.length=I.length:=by rw[hIe];unfold Fs.bA;rw[List.length_append,List.length_append,zMW,zL4,hlow]
 have hb:zk JT 0 s.bA:=by
  refine zDH (zKU hK P (JT:=JT) (j:=0) f4 (λi x hi=>?_)).2 λi hi=>?_
  . rw[Nat.zero_add];refine hth i x ?_;have hlt:i<Il.length:=by rw[@nth_eq noSym]at hi;exact(List.getElem?_eq_some_iff.1 hi).1
    rw[hIe,zGq hlt,hi]
  . have h1:nth I (0+s.b.length+i)=some (0,[(q+i,1)]):=by rw[Nat.zero_add,hlow,hIe,zHr,zHJ hi]
    rw[hth _ _ h1];have h2:=zP4 fp i hi;rw[zJx]at h2;have h3:=hK.b _ _ h2;show(0:Int)<=0+(1*J (q+i)+0)/\(0:Int)+(1*J (q+i)+0)<=255;simp only at h3;omega
 have hobj:=kv f2;have hlen0:=zBb f2;have f3:=@zH noSym _ _ f3;have hrho:∀k b,zl (xj s.objs s.ext ks es) k=some b->G<=k.ix/\k.ix<s.n.ix:=by
  intro k b hk;rcases zPz hlen0 hk with⟨j,o,h1,h2⟩ |⟨j,h1,h2⟩
  . obtain⟨i',o',g1,g2,g3,g4,g5,g6,g7⟩:=hobj j k o h1;exact⟨g4,g5⟩
  . obtain⟨_,a1,a2⟩:=zEN fe j k b h1 h2;exact⟨a1,a2⟩
 refine zDc (hs JT hb (qq (xj s.objs s.ext ks es) h [] Y G 0) w args' (λJ' K' hag hK'=>?_) ?_ ?_) λv w' ⟨po,hpo,Y',hok⟩=>?_
 . have hI':qO J J' I:=λj q hj=>by
    have hlt:j<I.length:=by rw[@nth_eq noSym]at hj;exact(List.getElem?_eq_some_iff.1 hj).1
    rw[hag j (by omega)];exact hth j q hj
   obtain⟨c1,c2⟩:=zOl (G:=G) (KT:=K') hI' hR f2 f5;exact⟨wR hI' c2 _ _ f1 ha,c1⟩
 . intro g hg' h4;obtain⟨sz,e⟩:=hg g hg' h4;have hix:(Key.ofNat g).ix=g:=@Key.ix_ofNat noSym _ (by omega);refine⟨sz,?_⟩;have hno:zl (xj s.objs s.ext ks es) (Key.ofNat g)=none:=by
    cases hr:zl (xj s.objs s.ext ks es) (Key.ofNat g)with
    |none=>rfl|some b=>have:=(hrho _ _ hr).1; omega
   unfold qq;rw[hno];simp only[findW];rw[if_pos (by omega)];exact e
 . intro k hk;have hno:zl (xj s.objs s.ext ks es) k=none:=by
    cases hr:zl (xj s.objs s.ext ks es) k with
    |none=>rfl|some b=>have:=(hrho _ _ hr).2; omega
   unfold qq;rw[hno];simp only[findW];rw[if_neg (by omega)]
 . exact zFw (λj q hj=>hth j q hj) hR hfr f2 fe hpo hok hcl
theorem zBz{J:Nat->Int}{K:zU}(hK:KnownOk J K){f:FuncId}{G:Nat}(hG:P.globals.size<=G){args:List CV}{h:zC}{n:Key}{Y:Psi}{w:World}{args':Array Value}
 (ha:@zP (linSym J K) Y args args'.toList) (hg:vU P Y) (hR:@Rel (linSym J K) Y (zC.fam h) w) (hfr:qN Y n) {z:R} (hz:zd z->yS P f args' w (@zr (linSym J K) Y (zC.fam h) n w z)):∀{l:List Fs},(∀s∈l,FsOk P f s) ->
 zd (@zFg (linSym J K) G args h n z l)->yS P f args' w (@zr (linSym J K) Y (zC.fam h) n w (@zFg (linSym J K) G args h n z l))
 | [],_,hcl=>hz hcl|s::r,hl,hcl=>by
  unfold zFg at hcl ⊢;split at hcl
  . unfold zSM at hcl ⊢;simp only[zT3]at hcl ⊢;split at hcl
    . exact zBz hK hG ha hg hR hfr hz (λs' h'=>hl s' (by simp[h'])) hcl
    rename_i ks a hh;simp only[zKX,zOy,zJ8]at hcl ⊢;split at hcl
    . rename_i hfit;exact zRi hK hG (hl s (by simp)) rfl rfl ha hg hR hfr hfit hcl
    . rename_i hfit;exact zBz hK hG ha hg hR hfr hz (λs' h'=>hl s' (by simp[h'])) hcl
  . exact zBz hK hG ha hg hR hfr hz (λs' h'=>hl s' (by simp[h'])) hcl
def fsF[Sym](P:Program)(code:FuncId->CFn)(nat:Nats)(fuel G:Nat)(f:FuncId)(l:List Fs)(d:Bool)(args:List CV)(h:zC)(n:Key):R:=match d with
 |true=>ev P code nat fuel true f args h n|false=>zFg G args h n (ev P code nat fuel false f args h n) l
def zYz(P:Program)(code:FuncId->CFn)(nat:Nats)(fuel G:Nat)(f:FuncId)(l:List Fs):NatF:=λS=>@fsF S P code nat fuel G f l
def natF(P:Program)(code:FuncId->CFn)(fuel:Nat)(f:FuncId)(G:Nat)(l:List Fs)(nat:Nats):Nats:=λg=>Bool.rec (motive:=λ_=>Option NatF) (nat g) (some (zYz P code nat fuel G f l)) (Nat.beq g f)
theorem natF_ok{code:FuncId->CFn}{fuel:Nat}{f:FuncId}{G:Nat}{l:List Fs}{nat:Nats}(hm:P.follows .mixedOrders=true)(hcode:CodeOk P code)(hG:P.globals.size<=G)(hl:∀s∈l,FsOk P f s)(hn:∀J K,KnownOk J K->@NatsOk (linSym J K) P nat) :
 ∀J K,KnownOk J K->@NatsOk (linSym J K) P (natF P code fuel f G l nat):=by
 intro J K hK;have hc:@yk (linSym J K) P (@ev (linSym J K) P code nat fuel):=by
  letI S:Sym:=linSym J K
  haveI hS:SymFact P:=yn hK
  exact kZ (λcall hcall F N=>ym hm hcall) hcode (hn _ _ hK) fuel
 have hn:=hn J K hK;have key:∀g q,natF P code fuel f G l nat g=some q->(g=f/\q=zYz P code nat fuel G f l)\/nat g=some q:=by
  intro g q h;unfold natF at h;cases e:Nat.beq g f with
  |true=>rw[e]at h;injection h with h;exact .inl ⟨Nat.eq_of_beq_eq_true e,h.symm⟩
  |false=>rw[e]at h; exact .inr h
 refine @NatsOk.mk (linSym J K) P _ (λg q hg d args h n=>?_) (λg q hg args h n Y w args' h1 h2 h3 h4 hcl=>?_) (λg q hg args h n Y w args' h1 h2 h3 h4 hcl=>?_)
 . rcases key g q hg with⟨rfl,rfl⟩ |hg
   . cases d with
     |true=>exact @yk.above (linSym J K) _ _ hc true g args h n|false=>exact @vl (linSym J K) G args h n _ (@yk.above (linSym J K) _ _ hc false g args h n) l
   . exact @NatsOk.above (linSym J K) _ _ hn g q hg d args h n
 . rcases key g q hg with⟨rfl,rfl⟩ |hg
   . exact zBz hK hG h1 h2 h3 h4 (λhz=>@yk.calls (linSym J K) _ _ hc g args h n Y w args' h1 h2 h3 h4 hz) hl hcl
   . exact @NatsOk.calls (linSym J K) _ _ hn g q hg args h n Y w args' h1 h2 h3 h4 hcl
 . rcases key g q hg with⟨rfl,rfl⟩ |hg
   . exact @yk.defers (linSym J K) _ _ hc g args h n Y w args' h1 h2 h3 h4 hcl
   . exact @NatsOk.defers (linSym J K) _ _ hn g q hg args h n Y w args' h1 h2 h3 h4 hcl
end
end Go.Ev
namespace Go.Ev
open Go.RowKit
noncomputable section
variable{P:Program}
def zZd(k:IntKind)(mid:Nat)(n:Key)(v:Int)(r:List Nat):Fs:=⟨[.int k v],[],[],mid,n,[(0,0)],[⟨.str r,[]⟩],[],0,[]⟩
end
end Go.Ev
namespace Go.Ev
open Go.RowKit
noncomputable section
variable{P:Program}
mutual
theorem zG.sw{S S':Sym}(hv:∀e,@Sym.val S e=@Sym.val S' e)(ha:∀k,@Sym.arg S k=@Sym.arg S' k){Y:Psi}:∀(c:CV) {v:Value},@zG S Y c v->@zG S' Y c v
 |.bool _,_,h=>h|.nat _,_,h=>h|.int _ _,_,h=>h|.anyi _,_,h=>h|.str _,_,h=>h|.nilptr,_,h=>h|.ptr _ _,_,h=>h|.nilsl,_,h=>h|.sl ..,_,h=>h|.nilmap,_,h=>h|.map _,_,h=>h|.func _ a c,_,h=>by unfold zG at h ⊢;obtain⟨a',c',e,h1,h2⟩:=h;exact⟨a',c',e,zP.sw hv ha a h1,zP.sw hv ha c h2⟩
 |.nilfunc,_,h=>h|.iface _ x,_,h=>by unfold zG at h ⊢;obtain⟨y,e,h1⟩:=h;exact⟨y,e,zG.sw hv ha x h1⟩
 |.niliface,_,h=>h|.agg cs,_,h=>by unfold zG at h ⊢;obtain⟨a,e,h1⟩:=h;exact⟨a,e,zP.sw hv ha cs h1⟩
 |.tup cs,_,h=>by unfold zG at h ⊢;obtain⟨a,e,h1⟩:=h;exact⟨a,e,zP.sw hv ha cs h1⟩
 |.sym _,_,h=>by unfold zG at h ⊢;rw[<- hv]; exact h|.win ..,_,h=>by unfold zG at h ⊢;rw[<- ha,<- hv,<- hv]; exact h|.sst l,_,h=>by unfold zG at h ⊢;obtain⟨b,e,h1⟩:=h;exact⟨b,e,zP.sw hv ha l h1⟩
 |.big _,_,h=>h|.few _ _,_,h=>by unfold zG at h ⊢;rw[<- hv]; exact h|.elt ..,_,h=>by unfold zG at h ⊢;rw[<- hv]; exact h|.any,_,_=>by unfold zG; trivial
theorem zP.sw{S S':Sym}(hv:∀e,@Sym.val S e=@Sym.val S' e)(ha:∀k,@Sym.arg S k=@Sym.arg S' k){Y:Psi}:∀(cs:List CV) {l:List Value},@zP S Y cs l->@zP S' Y cs l
 | [],_,h=>h|c::cs,_,h=>by unfold zP at h ⊢;obtain⟨v,r,e,h1,h2⟩:=h;exact⟨v,r,e,zG.sw hv ha c h1,zP.sw hv ha cs h2⟩
end
section
variable{S S':Sym}(hv:∀e,@Sym.val S e=@Sym.val S' e)(ha:∀k,@Sym.arg S k=@Sym.arg S' k){Y:Psi}
include hv ha
theorem zJC{ck:Nat->Nat}:∀{es:List CE} {l:List MapEntry},@yI S Y ck es l->@yI S' Y ck es l
 | [],_,h=>h|c::cs,_,⟨e,r,h1,⟨h2,h3,h4⟩,h5⟩=>⟨e,r,h1,⟨zG.sw hv ha _ h2,zG.sw hv ha _ h3,h4⟩,zJC h5⟩
theorem zGN:∀{es:List (CV × CV)} {l:List MapEntry},@wl S Y es l->@wl S' Y es l
 | [],_,h=>h|q::r,_,h=>by
  rcases h with⟨h1,h2⟩ |⟨e,m,h1,h2,h3,h4⟩
  . exact .inl ⟨zG.sw hv ha _ h1,zGN h2⟩
  . exact .inr ⟨e,m,h1,zG.sw hv ha _ h2,zG.sw hv ha _ h3,zGN h4⟩
theorem zV4{w:World}{p:Pl}:∀{o:CObj},@xQ S Y w p o->@xQ S' Y w p o
 |.cells _,⟨a,e,f,h1,h2,h3,h4,h5⟩=>⟨a,e,f,h1,h2,h3,h4,λi c hc=>let ⟨x,g1,g2⟩:=h5 i c hc; ⟨x,g1,zG.sw hv ha _ g2⟩⟩
 |.ro _,⟨a,e,f,h1,h2,h5⟩=>⟨a,e,f,h1,h2,λi c hc=>let ⟨x,g1,g2⟩:=h5 i c hc; ⟨x,g1,zG.sw hv ha _ g2⟩⟩
 |.map _ _,⟨a,h1,⟨l,h2,h3⟩,h4⟩=>⟨a,h1,⟨l,h2,zJC hv ha h3⟩,h4⟩
 |.striter _ _,⟨b,h1,h2,h3⟩=>⟨b,h1,zP.sw hv ha _ h2,h3⟩
 |.full _ _,⟨a,e,f,h1,h2,h3,h4,h5⟩=>⟨a,e,f,h1,h2,h3,h4,λi c hc=>let ⟨x,g1,g2⟩:=h5 i c hc; ⟨x,g1,zG.sw hv ha _ g2⟩⟩
 |.mapz _,⟨a,c,h1,⟨l,h2,h3⟩⟩=>⟨a,c,h1,⟨l,h2,zGN hv ha h3⟩⟩
 |.seen _,h=>h|.hid,h=>h|.bag _,⟨arr,e,fz,vs,h1,h2,h3⟩=>⟨arr,e,fz,vs,h1,zP.sw hv ha _ h2,h3⟩
 |.mapiter ..,h=>h
theorem zXf{g:Fam}{w:World}(h:@Rel S Y g w):@Rel S' Y g w:=
 @Rel.mk S' _ _ _ (λk o p h1 h2=>zV4 hv ha (@Rel.on S _ _ _ h k o p h1 h2)) (@Rel.tot S _ _ _ h) (@Rel.inj S _ _ _ h)
theorem zT6:∀{ds:xz} {l:List Deferred},@jg S P Y ds l->@jg S' P Y ds l
 | [],_,h=>h|f::fs,_,⟨d,r,h1,⟨fv,cap,as,g1,g2,g3⟩,h4⟩=>⟨d,r,h1,⟨fv,cap,as,g1,g2,zP.sw hv ha _ g3⟩,zT6 h4⟩
theorem zYa{F N:Nat}{tm:Tm}{ds:xz}{h:zC}{n:Key}{a:Act}{w:World}(hs:@St S P F N Y tm ds h n a w):@St S' P F N Y tm ds h n a w:=
 @St.mk S' P F N _ _ _ _ _ _ _ (@xS.mk S' _ _ _ _ _ (@xS.size S _ _ _ _ _ (@St.frame S _ _ _ _ _ _ _ _ _ _ hs)) λt h1 h2 h3=>zG.sw hv ha _ (@xS.tmp S _ _ _ _ _ (@St.frame S _ _ _ _ _ _ _ _ _ _ hs) t h1 h2 h3))
  (zT6 hv ha (@St.dfr S _ _ _ _ _ _ _ _ _ _ hs)) (zXf hv ha (@St.rel S _ _ _ _ _ _ _ _ _ _ hs)) (@St.glob S _ _ _ _ _ _ _ _ _ _ hs) (@St.fresh S _ _ _ _ _ _ _ _ _ _ hs)
end
def zDP(o:Option CObj):Bool:=match o with
 |none=>true|some _=>false
def rdL(tm:Tm):List (Nat × CV)->(List (Nat × CV)->Bool)->Bool
 | [],k=>k []|p::r,k=>zQ (qC (Loc.ofNat p.1) tm) λv=>rdL tm r λl=>k ((p.1,v)::l)
def rdO(X h:zC):List (Nat × CV)->(List (Key × CObj)->Bool)->Bool
 | [],k=>k []|p::r,k=>match zV0 p.2 with
  |none=>rdO X h r k|some j=>match zb j h with
   |none=>rdO X h r k|some o=>zDP (zb j X)&&zOQ o λo=>rdO X h r λl=>k ((j,o)::l)
def zE1(X:zC)(locs:List (Nat × CV))(r:R)(k:List (Nat × CV)->List (Key × CObj)->Key->Bool):Bool:=match r with
 |.ok .normal tm [] h n=>Nat.ble (Nat.succ n.ix) 65535&&rdL tm locs λl=>rdO X h l λo=>zK n λn=>k l o n
 |_=>false
theorem zKs{tm:Tm}:∀{l:List (Nat × CV)} {k:List (Nat × CV)->Bool},rdL tm l k=k (l.map λp=>(p.1,qC (Loc.ofNat p.1) tm))
 | [],_=>rfl|p::r,k=>by unfold rdL;rw[zSh,zKs];rfl
theorem zDL{X h:zC}:∀{l:List (Nat × CV)} {k:List (Key × CObj)->Bool},rdO X h l k=true->∃o,k o=true/\∀q∈o,zb q.1 h=some q.2/\zb q.1 X=none
 | [],k,hk=>⟨[],hk,λq hq=>by cases hq⟩
 |p::r,k,hk=>by
  unfold rdO at hk;split at hk
  . exact zDL hk
  . rename_i j _;split at hk
    . exact zDL hk
    . rename_i o ho;rw[Bool.and_eq_true,zHI]at hk;obtain⟨l,h1,h2⟩:=zDL hk.2;refine⟨_,h1,λq hq=>?_⟩;rcases List.mem_cons.1 hq with rfl |hq
      . refine⟨ho,?_⟩;have h3:=hk.1;unfold zDP at h3;split at h3
        . assumption
        . cases h3
      . exact h2 q hq
theorem zAK{X:zC}{locs:List (Nat × CV)}{r:R}{k:List (Nat × CV)->List (Key × CObj)->Key->Bool}(h:zE1 X locs r k=true) :
 ∃tm hh n o,r=.ok .normal tm [] hh n/\n.ix+1<=65535/\k (locs.map λp=>(p.1,qC (Loc.ofNat p.1) tm)) o n=true/\∀q∈o,zb q.1 hh=some q.2/\zb q.1 X=none:=by
 unfold zE1 at h;split at h
 . rename_i tm hh n;rw[Bool.and_eq_true,zKs]at h;obtain⟨o,h1,h2⟩:=zDL h.2;rw[wj]at h1;exact⟨tm,hh,n,o,rfl,@zH noSym _ _ h.1,h1,h2⟩
 . cases h
theorem zLk{X:zC}{k:Key}{o:CObj}:∀{objs:List (Key × CObj)},zb k (mkH .nil objs)=some o->zb k (mkH X objs)=some o
 | [],h=>by rw[show mkH .nil []=(.nil:zC)from rfl,jG]at h; cases h|p::r,h=>by
  have h:zb k (yy (some p.2) p.1 (mkH .nil r))=some o:=h;show zb k (yy (some p.2) p.1 (mkH X r))=some o;rw[ke]at h ⊢;split at h
  . rename_i e; rw[if_pos e]; exact h
  . rename_i e; rw[if_neg e]; exact zLk h
theorem zCZ{X:zC}{k:Key}:∀{objs:List (Key × CObj)},(∀q∈objs,q.1≠k)->zb k (mkH X objs)=zb k X
 | [],_=>rfl|p::r,h=>by show zb k (yy (some p.2) p.1 (mkH X r))=_;rw[ke,if_neg λe=>h p (by simp) e.symm];exact zCZ λq hq=>h q (by simp[hq])
theorem zH5{k:Key}{o:CObj}:∀{objs:List (Key × CObj)},zb k (mkH .nil objs)=some o->(k,o)∈objs:=by
 intro objs h;rcases qE h with⟨j,hj⟩ |h
 . exact List.mem_of_getElem? hj
 . rw[jG]at h; cases h
section
variable{code:FuncId->CFn}{nat:Nats}{fuel:Nat}{fn:Func}{c b:Code}{p:List Stp}{rs:List CRes}{G:Nat}{wins:List Win}{ws L:List (Key × Nat)}{w0:World}{F N:Nat}
def HdX(P:Program)(F N:Nat)(fn:Func)(c b:Code)(p:List Stp)(w0:World)(J:Nat->Int)(K:zU)(X:zC)(locs:List (Nat × CV))(objs:List (Key × CObj))(n:Key):Prop:=
 ∀(Y:Psi) (a:Act) (w:World),@St (linSym J K) P F N Y (wd locs) [] (mkH X objs) n a w->Below w0.heap.size w0 w->(∀k o q,zC.fam (mkH X objs) k=some o->o.isRo=false->Y k=some q->w0.heap.size<=q.blk) ->
  uQ P b (QH P p c (zDS P fn w0)) a w
theorem zUH{J:Nat->Int}{K K':zU}(h:K'.arg=K.arg){X:zC}{locs:List (Nat × CV)}{objs:List (Key × CObj)}{n:Key}(hd:HdX P F N fn c b p w0 J K' X locs objs n):HdX P F N fn c b p w0 J K X locs objs n:=
 λY a w hs hb ho=>hd Y a w (zYa (S:=linSym J K) (S':=linSym J K') (λ_=>rfl) (λk=>by show K.arg k=K'.arg k; rw[h]) hs) hb ho
theorem zHZ{J:Nat->Int}{e e':Lf}{A:Key->Option Value}{X:zC}{locs:List (Nat × CV)}{objs:List (Key × CObj)}{n:Key}(hd:HdX P F N fn c b p w0 J (e'.known A) X locs objs n):HdX P F N fn c b p w0 J (e.known A) X locs objs n:=
 zUH (K:=e.known A) (K':=e'.known A) rfl hd
theorem zCu:∀{p:List Stp} {c:Code},subC p c=some b->zt c=true->zt b=true:=by
 intro p;induction p with
 |nil=>
  intro c hs hn;cases c <;> try (cases hs; done)
  injection hs with hs; subst hs;simpa [zt]using hn
 |cons x p ih=>
  intro c hs hn;cases x <;> cases c <;> try (cases hs; done)
  . rename_i x y;have hn:zt x=true/\zt y=true:=by simpa [zt]using hn
    exact ih hs hn.1
  . rename_i x y;have hn:zt x=true/\zt y=true:=by simpa [zt]using hn
    exact ih hs hn.2
  . exact ih hs hn
theorem zC3(hm:P.follows .mixedOrders=true)(hcode:CodeOk P code)(hnat:∀J K,KnownOk J K->@NatsOk (linSym J K) P nat)(hsub:subC p c=some b)(hn:zt c=true){J:Nat->Int}{K:zU}(hK:KnownOk J K)
 {X:zC} {locs:List (Nat × CV)} {objs:List (Key × CObj)} {n:Key} (hap:∀q∈objs,zb q.1 X=none) {k:List (Nat × CV)->List (Key × CObj)->Key->Bool}
 (hrun:zE1 X locs (@zq (linSym J K) P (@ev (linSym J K) P code nat fuel) (uc p (zS P F N c)) (wd locs) [] (mkH .nil objs) n) k=true)
 (hk:∀l o n',k l o n'=true->(∀q∈o,zb q.1 X=none)->HdX P F N fn c b p w0 J K X l o n'):HdX P F N fn c b p w0 J K X locs objs n:=by
 intro Y a w hst hb ho
 letI S:Sym:=linSym J K
 haveI hS:SymFact P:=yn hK
 have hcall:yk P (ev P code nat fuel):=kZ (λcall hcall F N=>ym hm hcall) hcode (hnat _ _ hK) fuel;have hdraw:qc P F N (ev P code nat fuel):=ym hm hcall;rw[@kx S P F N p c b hsub]at hrun;obtain⟨tm,hh,n',os,hr,hroom,hk1,hos⟩:=zAK hrun;have hjo:Rel Y (zC.fam (mkH X objs)) w:=hst.rel;have hup:∀k o,zC.fam (mkH .nil objs) k=some o->zC.fam (mkH X objs) k=some o:=λk o h=>zLk h;have hkey:∀k o,zC.fam (mkH .nil objs) k=some o->zb k X=none:=λk o h=>hap _ (zH5 h);have hXin:∀k o,zb k X=some o->zC.fam (mkH X objs) k=some o:=λk o h=>by
  show zb k (mkH X objs)=some o;rw[zCZ λq hq e=>?_]
  . exact h
  . have:=hap q hq
    rw[e,h]at this; cases this
 have hsm:St P F N Y (wd locs) [] (mkH .nil objs) n a w:=
  ⟨hst.frame,hst.dfr,⟨λk o q h1 h2=>hjo.on k o q (hup k o h1) h2,λk o h1=>hjo.tot k o (hup k o h1),λk1 k2 o1 o2 p1 p2 h1 h2 h3 h4 h5 h6=>hjo.inj k1 k2 o1 o2 p1 p2 (hup _ _ h1) (hup _ _ h2) h3 h4 h5 h6⟩,hst.glob,hst.fresh⟩
 have hsim:=kG hcall hdraw b (zCu hsub hn) hsm (by rw[hr]; exact hroom);rw[hr]at hsim;refine uz (wp_mono hsim λe a' w' ho'=>?_);obtain⟨h1,Y',h2,h3,h4⟩:=ho';cases e <;> first |exact h1.elim |skip
 have hXlt:∀k o q,zb k X=some o->Y k=some q->q.blk<w.heap.size/\Y' k=some q/\w'.heap[q.blk]? = w.heap[q.blk]?/\xQ Y' w' q o:=by
  intro k o q g1 g2;have g3:=hjo.on k o q (hXin k o g1) g2;have g4:=h3.frame q.blk g3.lt λk1 o1 p1 f1 f2 f3 f4=>by
   have:=hjo.inj k1 k _ _ _ _ (hup _ _ f1) (hXin k o g1) f3 g2 (.inl f2) f4
   subst this;rw[hkey _ _ f1]at g1; cases g1
  exact⟨g3.lt,h3.ext _ _ g2,g4,(g3.congr g4).mono h3.ext⟩
 have hkept:∀k o,(k,o)∈os->zC.fam hh k=some o:=λk o h=>(hos _ h).1;have hcase:∀k o,zC.fam (mkH X os) k=some o->zC.fam hh k=some o/\zb k X=none\/zb k X=some o:=by
  intro k o h;rcases qE (show zb k (mkH X os)=some o from h)with⟨j,hj⟩ |h
  . exact .inl ⟨hkept _ _ (List.mem_of_getElem? hj),(hos _ (List.mem_of_getElem? hj)).2⟩
  . exact .inr h
 have hXtot:∀k o,zb k X=some o->∃q,Y k=some q:=λk o h=>hjo.tot k o (hXin k o h);have hR:Rel Y' (zC.fam hh) w':=h2.rel;have hmix:∀k1 k2 o1 o2 p1 p2,zC.fam hh k1=some o1->zb k2 X=some o2->Y' k1=some p1->Y' k2=some p2->(o1.isRo=false\/o2.isRo=false)->p1.blk=p2.blk->False:=by
  intro k1 k2 o1 o2 p1 p2 f1 f2 f3 f4 hor e;obtain⟨q,hq⟩:=hXtot k2 o2 f2;obtain⟨g1,g2,g3,g4⟩:=hXlt k2 o2 q f2 hq;rw[g2]at f4;injection f4 with f4;subst f4;have done:∀k0 o0 p0,zC.fam (mkH .nil objs) k0=some o0->Y k0=some p0->p0.blk=p1.blk->(o0.isRo=false\/o2.isRo=false)->False:=by
   intro k0 o0 p0 a1 a2 a3 a4
   have:=hjo.inj k0 k2 _ _ _ _ (hup _ _ a1) (hXin _ _ f2) a2 hq a4 (a3.trans e)
   subst this;rw[hkey _ _ a1]at f2; cases f2
  rcases hor with hor |hor
  . rcases h3.img k1 o1 p1 f1 hor f3 with⟨k0,o0,p0,a1,a2,a3,a4⟩ |hge
    . exact done k0 o0 p0 a1 a3 a4 (.inl a2)
    . omega
  . rcases h3.imgA k1 o1 p1 f1 f3 with⟨k0,o0,p0,a1,a3,a4⟩ |hge
    . exact done k0 o0 p0 a1 a3 a4 (.inr hor)
    . omega
 have hoS:∀k o q,zC.fam (mkH .nil objs) k=some o->o.isRo=false->Y k=some q->w0.heap.size<=q.blk:=λk o q f1 f2 f3=>ho k o q (hup _ _ f1) f2 f3;refine hk _ os n' hk1 (λq hq=>(hos q hq).2) Y' a' w' ⟨⟨h2.frame.size,λt f1 f2 f3=>?_⟩,h2.dfr,⟨?_,?_,?_⟩,h2.glob,h2.fresh⟩ (zDx hb h3 hoS) ?_
 . rcases uq t (locs:=locs.map λp=>(p.1,qC (Loc.ofNat p.1) tm))with e |⟨q,hq,e1,e2⟩
   . rw[e]; exact xo
   . rw[e2];obtain⟨q',_,rfl⟩:=List.mem_map.1 hq;simp only at e1 ⊢;rw[e1];exact h2.frame.tmp t f1 f2 f3
 . intro k o q f1 f2;rcases hcase k o f1 with⟨f1,_⟩ |f1
   . exact hR.on k o q f1 f2
   . obtain⟨q0,hq0⟩:=hXtot k o f1;obtain⟨_,g2,_,g4⟩:=hXlt k o q0 f1 hq0;rw[g2]at f2;injection f2 with f2;subst f2;exact g4
 . intro k o f1;rcases hcase k o f1 with⟨f1,_⟩ |f1
   . exact hR.tot k o f1
   . obtain⟨q0,hq0⟩:=hXtot k o f1;exact⟨q0,h3.ext _ _ hq0⟩
 . intro k1 k2 o1 o2 p1 p2 f1 f2 f3 f4 hor e;rcases hcase k1 o1 f1 with⟨f1,_⟩ |f1 <;> rcases hcase k2 o2 f2 with⟨f2,_⟩ |f2
   . exact hR.inj k1 k2 o1 o2 p1 p2 f1 f2 f3 f4 hor e
   . exact(hmix _ _ _ _ _ _ f1 f2 f3 f4 hor e).elim
   . exact(hmix _ _ _ _ _ _ f2 f1 f4 f3 hor.symm e.symm).elim
   . obtain⟨q1,hq1⟩:=hXtot k1 o1 f1;obtain⟨q2,hq2⟩:=hXtot k2 o2 f2;rw[h3.ext _ _ hq1]at f3;rw[h3.ext _ _ hq2]at f4;injection f3 with f3;injection f4 with f4;subst f3 f4;exact hjo.inj k1 k2 o1 o2 _ _ (hXin _ _ f1) (hXin _ _ f2) hq1 hq2 hor e
 . intro k o q f1 f2 f3;rcases hcase k o f1 with⟨f1,_⟩ |f1
   . rcases h3.img k o q f1 f2 f3 with⟨k0,o0,p0,a1,a2,a3,a4⟩ |hge
     . rw[<- a4]; exact hoS k0 o0 p0 a1 a2 a3
     . exact Nat.le_trans hb.size hge
   . obtain⟨q0,hq0⟩:=hXtot k o f1;rw[h3.ext _ _ hq0]at f3;injection f3 with f3;subst f3;exact ho k o q0 (hXin _ _ f1) f2 hq0
def zXU(P:Program)(code:FuncId->CFn)(nat:Nats)(fuel:Nat)(p:List Stp)(cc:CCode)(rs:List CRes)(s:Nat->Int)(K:zU)(X:zC)(locs:List (Nat × CV))(objs:List (Key × CObj))(n:Key):Bool:=
 wo (km 0 [] [] (λ_=>false) K (zIu P code nat fuel p cc rs (linSym s K)) (@zq (linSym s K) P (@ev (linSym s K) P code nat fuel) (uc p cc) (wd locs) [] (mkH X objs) n) [])
theorem zU1(hm:P.follows .mixedOrders=true)(hcode:CodeOk P code)(hnat:∀J K,KnownOk J K->@NatsOk (linSym J K) P nat)(hsub:subC p c=some b)(hn:zt c=true)(hrs:xH (xc P F N) fn.results.toList=some rs)
 {J:Nat->Int} {K:zU} (hK:KnownOk J K) {X:zC} {locs:List (Nat × CV)} {objs:List (Key × CObj)} {n:Key} (h:zXU P code nat fuel p (zS P F N c) rs J K X locs objs n=true):HdX P F N fn c b p w0 J K X locs objs n:=by
 intro Y a w hst hb ho
 letI S:Sym:=linSym J K
 haveI hS:SymFact P:=yn hK
 have hcall:yk P (ev P code nat fuel):=kZ (λcall hcall F N=>ym hm hcall) hcode (hnat _ _ hK) fuel;have hdraw:qc P F N (ev P code nat fuel):=ym hm hcall;unfold zXU at h;rw[@kx S P F N p c b hsub]at h;obtain⟨o,hchk⟩:=jR h;have hsim:=kG hcall hdraw b (zCu hsub hn) hst (qH (zD6 hK hm hcode hnat) hchk);refine uz (wp_mono hsim λe a' w' ho'=>?_);rcases kR hchk ho' with⟨rfl,tm,h,n,Y',t',T',h1,h2,h3,h4,h5⟩ |⟨hne,r',h1,h2⟩
 . cases h4
 . have:=zLd hK hm hcode hnat hsub hn hrs h1 h2 hb ho
   cases e <;> first |exact absurd rfl hne |exact this
inductive WT where
 |fin (x:Nat)
 |pass (t:WT)
 |cut (v:Nat) (z:Int) (a b:WT)
 |pin (v:Nat) (ts:Nat->WT)
 |join (v:Nat) (t:WT)
def orQ(a b:Bool):Bool:=match a with
 |true=>true|false=>b
def zQN(m:Nat)(f:Nat->Bool):Bool:=Nat.rec (motive:=λ_=>Bool) true (λj ih=>f j&&ih) m
theorem zHy{f:Nat->Bool}:∀{m:Nat},zQN m f=true->∀j,j<m->f j=true
 | 0,_,j,hj=>by omega|m+1,h,j,hj=>by
  have h:(f m&&zQN m f)=true:=h;rw[Bool.and_eq_true]at h;by_cases e:j=m
  . subst e; exact h.1
  . exact zHy h.2 j (by omega)
def zPI(e:Lf)(v:Nat)(q:Int × Int):Lf:={ e with b:=wb e.b v q }
def eqV(a b:CV):Bool:=match a,b with
 |.nat a,.nat b=>Nat.beq a b|.bool a,.bool b=>Bool.rec (motive:=λ_=>Bool) (Bool.rec (motive:=λ_=>Bool) true false b) b a|.ptr k o,.ptr k' o'=>Nat.beq o o'&&decide (k=k')|.sl k o l c z x,.sl k' o' l' c' z' x'=>Nat.beq o o'&&Nat.beq l l'&&Nat.beq c c'&&Nat.beq z z'&&decide (x=x')&&decide (k=k')|.win k z e n,.win k' z' e' n'=>Nat.beq z z'&&zMK e e'&&zMK n n'&&decide (k=k')|.sym e,.sym e'=>zMK e e'|.nilsl,.nilsl=>true|.nilptr,.nilptr=>true|.any,.any=>true|_,_=>false
theorem zS4{a b:CV}(h:eqV a b=true):a=b:=by
 unfold eqV at h;split at h
 . rw[@ze noSym _ _ h]
 . rename_i a b;cases a <;> cases b <;> first |rfl |cases h
 . simp only[Bool.and_eq_true,decide_eq_true_eq]at h;rw[@ze noSym _ _ h.1,h.2]
 . simp only[Bool.and_eq_true,decide_eq_true_eq]at h;obtain⟨⟨⟨⟨⟨h1,h2⟩,h3⟩,h4⟩,h5⟩,h6⟩:=h;rw[@ze noSym _ _ h1,@ze noSym _ _ h2,@ze noSym _ _ h3,@ze noSym _ _ h4,h5,h6]
 . simp only[Bool.and_eq_true,decide_eq_true_eq]at h;obtain⟨⟨⟨h1,h2⟩,h3⟩,h4⟩:=h;rw[@ze noSym _ _ h1,@zBy noSym _ _ h2,@zBy noSym _ _ h3,h4]
 . rw[@zBy noSym _ _ h]
 . rfl
 . rfl
 . rfl
 . cases h
def zUo:List CV->List CV->Bool
 | [],[]=>true|a::r,b::s=>eqV a b&&zUo r s|_,_=>false
theorem zKj:∀{a b:List CV},zUo a b=true->a=b
 | [],[],_=>rfl| [],_::_,h=>by cases h|_::_,[],h=>by cases h|a::r,b::s,h=>by unfold zUo at h;rw[Bool.and_eq_true]at h;rw[zS4 h.1,zKj h.2]
def eqO(a b:CObj):Bool:=match a,b with
 |.cells a,.cells b=>zUo a b|.ro a,.ro b=>zUo a b|_,_=>false
theorem zXe{a b:CObj}(h:eqO a b=true):a=b:=by
 unfold eqO at h;split at h
 . rw[zKj h]
 . rw[zKj h]
 . cases h
def zVR:List (Nat × CV)->List (Nat × CV)->Bool
 | [],[]=>true|a::r,b::s=>Nat.beq a.1 b.1&&eqV a.2 b.2&&zVR r s|_,_=>false
theorem zPm:∀{a b:List (Nat × CV)},zVR a b=true->a=b
 | [],[],_=>rfl| [],_::_,h=>by cases h|_::_,[],h=>by cases h|(a,x)::r,(b,y)::s,h=>by unfold zVR at h;rw[Bool.and_eq_true,Bool.and_eq_true]at h;have h1:a=b:=@ze noSym _ _ h.1.1;have h2:x=y:=zS4 h.1.2;rw[h1,h2,zPm h.2]
def zVM:List (Key × CObj)->List (Key × CObj)->Bool
 | [],[]=>true|a::r,b::s=>decide (a.1=b.1)&&eqO a.2 b.2&&zVM r s|_,_=>false
theorem zPp:∀{a b:List (Key × CObj)},zVM a b=true->a=b
 | [],[],_=>rfl| [],_::_,h=>by cases h|_::_,[],h=>by cases h|(a,x)::r,(b,y)::s,h=>by unfold zVM at h;rw[Bool.and_eq_true,Bool.and_eq_true,decide_eq_true_eq]at h;have h1:a=b:=h.1.1;have h2:x=y:=zXe h.1.2;rw[h1,h2,zPp h.2]
def zQx(P:Program)(code:FuncId->CFn)(nat:Nats)(fuel:Nat)(p:List Stp)(cc:CCode)(s:Nat->Int)(K:zU)(X:zC)(locs:List (Nat × CV))(objs:List (Key × CObj))(n:Key)(k:List (Nat × CV)->List (Key × CObj)->Key->Bool):Bool:=
 zE1 X locs (@zq (linSym s K) P (@ev (linSym s K) P code nat fuel) (uc p cc) (wd locs) [] (mkH .nil objs) n) k
def goW(P:Program)(code:FuncId->CFn)(nat:Nats)(natE:Nat->Nats)(fuel:Nat)(p:List Stp)(cc:CCode)(rs:List CRes)(X:zC)(s:Nat->Int)(A:Key->Option Value):WT->Lf->List (Nat × CV)->List (Key × CObj)->Key->Bool
 |.fin x,e,l,o,n=>zXU P code (natE x) fuel p cc rs s (e.known A) X l o n|.pass t,e,l,o,n=>zQx P code nat fuel p cc s (e.known A) X l o n λl o n=>goW P code nat natE fuel p cc rs X s A t e l o n
 |.cut v z a b,e,l,o,n=>match nth e.b v with
  |some q=>orQ (decide (min q.2 (z - 1)<q.1)) (wF (zPI e v (q.1,min q.2 (z - 1))) λe=>goW P code nat natE fuel p cc rs X s A a e l o n)&&orQ (decide (q.2<max q.1 z)) (wF (zPI e v (max q.1 z,q.2)) λe=>goW P code nat natE fuel p cc rs X s A b e l o n)|none=>false
 |.pin v ts,e,l,o,n=>match nth e.b v with
  |some q=>zQN (q.2 - q.1+1).toNat λj=>wF (zCj e v (q.1+Int.ofNat j)) λe=>zQx P code nat fuel p cc s (e.known A) X l o n λl o n=>goW P code nat natE fuel p cc rs X s A (ts j) e l o n
  |none=>false
 |.join v t,e,l,o,n=>match nth e.b v with
  |some q=>wF (zCj e v q.2) λe2=>zQx P code nat fuel p cc s (e2.known A) X l o n λl2 o2 n2=>zQN (q.2 - q.1).toNat (λj=>wF (zCj e v (q.1+Int.ofNat j)) λe=>zQx P code nat fuel p cc s (e.known A) X l o n λl o n=>zVR l2 l&&zVM o2 o&&decide (n2=n))&&goW P code nat natE fuel p cc rs X s A t e l2 o2 n2
  |none=>false
theorem zCz{natE:Nat->Nats}(hm:P.follows .mixedOrders=true)(hcode:CodeOk P code)(hnat:∀J K,KnownOk J K->@NatsOk (linSym J K) P nat)(hnE:∀x J K,KnownOk J K->@NatsOk (linSym J K) P (natE x))(hsub:subC p c=some b)(hn:zt c=true)(hrs:xH (xc P F N) fn.results.toList=some rs)
 {X:zC} {J:Nat->Int} {A:Key->Option Value}:∀(t:WT) (e:Lf) (l:List (Nat × CV)) (o:List (Key × CObj)) (n:Key),zk J 0 e.b->xI J e.f->yV J e.r->(∀q∈o,zb q.1 X=none) ->
 goW P code nat natE fuel p (zS P F N c) rs X J A t e l o n=true->HdX P F N fn c b p w0 J (e.known A) X l o n
 |.fin x,e,l,o,n,hb,hf,hr,_,h=>zU1 hm hcode (hnE x) hsub hn hrs (zBY hb hf hr) h|.pass t,e,l,o,n,hb,hf,hr,ho,h=>zC3 hm hcode hnat hsub hn (zBY hb hf hr) ho h λl o n h ho=>zCz hm hcode hnat hnE hsub hn hrs t e l o n hb hf hr ho h
 |.cut v z a b,e,l,o,n,hb,hf,hr,ho,h=>by
  unfold goW at h;split at h
  . rename_i q hq;rw[Bool.and_eq_true,qL,qL]at h;have g:=yq hb hq;rw[Nat.zero_add]at g;by_cases hc:J v<z
    . have h1:=h.1;rw[decide_eq_false (by omega)]at h1;exact zHZ (zCz hm hcode hnat hnE hsub hn hrs a (zPI e v (q.1,min q.2 (z - 1))) l o n (xd hb (by rw[Nat.zero_add]; exact g.1) (by rw[Nat.zero_add]; omega)) hf hr ho h1)
    . have h1:=h.2;rw[decide_eq_false (by omega)]at h1;exact zHZ (zCz hm hcode hnat hnE hsub hn hrs b (zPI e v (max q.1 z,q.2)) l o n (xd hb (by rw[Nat.zero_add]; omega) (by rw[Nat.zero_add]; exact g.2)) hf hr ho h1)
  . cases h
 |.pin v ts,e,l,o,n,hb,hf,hr,ho,h=>by
  unfold goW at h;split at h
  . rename_i q hq;have g:=yq hb hq;rw[Nat.zero_add]at g;have h1:=zHy h (J v - q.1).toNat (by omega);rw[qL]at h1;have ez:q.1+Int.ofNat (J v - q.1).toNat=J v:=by show q.1+(((J v - q.1).toNat:Nat):Int)=J v;omega
    rw[ez]at h1;have hb':zk J 0 (zCj e v (J v)).b:=qf hb (by rw[Nat.zero_add]);exact zHZ (zC3 hm hcode hnat hsub hn (K:=(zCj e v (J v)).known A) (zBY hb' hf hr) ho h1 λl o n h ho=>zCz hm hcode hnat hnE hsub hn hrs (ts (J v - q.1).toNat) (zCj e v (J v)) l o n hb' hf hr ho h)
  . cases h
 |.join v t,e,l,o,n,hb,hf,hr,ho,h=>by
  unfold goW at h;split at h
  . rename_i q hq;have g:=yq hb hq;rw[Nat.zero_add]at g;rw[qL]at h;have hb':zk J 0 (zCj e v (J v)).b:=qf hb (by rw[Nat.zero_add]);by_cases hc:J v=q.2
    . rw[<- hc]at h;refine zHZ (zC3 hm hcode hnat hsub hn (K:=(zCj e v (J v)).known A) (zBY hb' hf hr) ho h λl o n h ho=>?_);rw[Bool.and_eq_true]at h;exact zHZ (zCz hm hcode hnat hnE hsub hn hrs t e l o n hb hf hr ho h.2)
    . obtain⟨tm2,hh2,n2,o2,_,_,hk2,ho2⟩:=zAK h;rw[Bool.and_eq_true]at hk2;have h1:=zHy hk2.1 (J v - q.1).toNat (by omega);rw[qL]at h1;have ez:q.1+Int.ofNat (J v - q.1).toNat=J v:=by show q.1+(((J v - q.1).toNat:Nat):Int)=J v;omega
      rw[ez]at h1;refine zHZ (zC3 hm hcode hnat hsub hn (K:=(zCj e v (J v)).known A) (zBY hb' hf hr) ho h1 λl o n h ho=>?_);rw[Bool.and_eq_true,Bool.and_eq_true,decide_eq_true_eq]at h;rw[<- zPm h.1.1,<- zPp h.1.2,<- h.2];exact zHZ (zCz hm hcode hnat hnE hsub hn hrs t e _ _ _ hb hf hr (λq hq=>(ho2 q hq).2) hk2.2)
  . cases h
theorem zDJ{X h:zC}:∀{l:List (Nat × CV)},(∀k:List (Key × CObj)->Bool,rdO X h l k=false)\/∃o,∀k:List (Key × CObj)->Bool,rdO X h l k=k o
 | []=>.inr ⟨[],λk=>rfl⟩|p::r=>by
  unfold rdO;split
  . exact zDJ
  . split
    . exact zDJ
    . rename_i o _;simp only[zHI];cases zDP (zb _ X)with
      |false=>exact .inl λk=>rfl
      |true=>
       rcases zDJ (X:=X) (h:=h) (l:=r)with h1 |⟨o1,h1⟩
       . exact .inl λk=>by rw[h1]; rfl
       . exact .inr ⟨_,λk=>by rw[h1]; rfl⟩
end
end
end Go.Ev
