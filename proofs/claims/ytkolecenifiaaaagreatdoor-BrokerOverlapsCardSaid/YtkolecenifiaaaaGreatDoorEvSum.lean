/- A verified evaluator for the model's code: EvSum, EvSumN, EvSumH, EvMemo, EvSeq, EvMid. -/
import Derived.Test.YtkolecenifiaaaaGreatDoorEvHint
set_option linter.unusedSectionVars false
set_option linter.unusedVariables false
set_option linter.unusedSimpArgs false
namespace Go.Ev
open Go.RowKit
noncomputable section
variable{P:Program}
structure Po where
 v:CV
 objs:List (Key × CObj)
structure Sm where
 args:List CV
 objs:List (Key × CObj)
 n:Key
 b:List (Int × Int)
 pins:List Key
 posts:List Po
abbrev vR(l:List (Key × CObj)):Fam:=zC.fam (mkH .nil l)
def zIl(Y:Psi)(l:List (Key × CObj))(w:World)(B:Nat):Prop:=(∃k o p,vR l k=some o/\Y k=some p/\p.blk=B)\/w.heap.size<=B
structure Lft(O:Nat->Prop)(w w':World):Prop where
 os:w'.os=w.os
 tape:w'.tape=w.tape
 output:w'.output=w.output
 size:w.heap.size<=w'.heap.size
 block:∀B,¬O B->w'.heap[B]? = w.heap[B]?
theorem Lft.refl(O:Nat->Prop)(w:World):Lft O w w:=⟨rfl,rfl,rfl,Nat.le_refl _,λ_ _=>rfl⟩
theorem zT0{S:Sym}{O:Nat->Prop}{Y Y':Psi}{g g':Fam}{n n':Key}{w0 w w':World}(h:Lft O w0 w)(hp:@yF S Y g n w Y' g' n' w')(ho:∀B,w0.heap.size<=B->O B)
 (hm:∀k o p,g k=some o->o.isRo=false->Y k=some p->O p.blk):Lft O w0 w':=by
 have h1:=@yF.os S _ _ _ _ _ _ _ _ hp;have h2:=@yF.tape S _ _ _ _ _ _ _ _ hp;have h3:=@yF.output S _ _ _ _ _ _ _ _ hp;have h4:=@yF.size S _ _ _ _ _ _ _ _ hp;have h5:=@yF.frame S _ _ _ _ _ _ _ _ hp;refine⟨h1.trans h.os,h2.trans h.tape,h3.trans h.output,Nat.le_trans h.size h4,λB hB=>?_⟩;have hlt:B<w0.heap.size:=by
  rcases Nat.lt_or_ge B w0.heap.size with q |q
  . exact q
  . exact absurd (ho B q) hB
 rw[h5 B (Nat.lt_of_lt_of_le hlt h.size) λk o p q1 q2 q3 e=>hB (e ▸ hm k o p q1 q2 q3),h.block B hB]
theorem zUN{S:Sym}{O:Nat->Prop}{Y Y':Psi}{g g':Fam}{n n':Key}{w0 w w':World}(h:Lft O w0 w)(hp:@yF S Y g n w Y' g' n' w')(ho:∀B,w0.heap.size<=B->O B)
 (hm:∀k o p,g k=some o->o.isRo=false->Y k=some p->O p.blk):∀k o p,g' k=some o->o.isRo=false->Y' k=some p->O p.blk:=by
 intro k o p q1 q2 q3;rcases @yF.img S _ _ _ _ _ _ _ _ hp k o p q1 q2 q3 with⟨k₀,o₀,p₀,a,b,c,d⟩ |hge
 . rw[<- d]; exact hm k₀ o₀ p₀ a b c
 . exact ho _ (Nat.le_trans h.size hge)
theorem zMm{Y:Psi}{l:List (Key × CObj)}{w:World}:∀B,w.heap.size<=B->zIl Y l w B:=λ_ h=>.inr h
def zGS(p q:Pl):Prop:=q.blk=p.blk/\q.off=p.off/\q.sz=p.sz
structure zZA(S:Sym)(Y:Psi)(s:Sm)(w:World)(po:Po)(v:Value)(Y':Psi)(w':World):Prop where
 pin:∀k∈s.pins,∀p,Y k=some p->∃p',Y' k=some p'/\zGS p p'
 rel:@Rel S Y' (vR po.objs) w'
 val:@zG S Y' po.v v
 own:∀k o p,vR po.objs k=some o->Y' k=some p->o.isRo=false/\zIl Y s.objs w p.blk
 lft:Lft (zIl Y s.objs w) w w'
abbrev noA:Key->Option Value:=λ_=>none
abbrev kno:zU:=⟨[],[],[],noA⟩
def thK:List (Int × Int)->Nat->TH
 | [],_=>[]
 |_::r,j=>(0,[(j,1)])::thK r (Nat.succ j)
def thS:List (Int × Int)->TH
 | []=>[]
 |_::r=>(0,[])::thK r 1
theorem zPB:∀{b:List (Int × Int)} {i j:Nat} {q:Int × LL},nth (thK b i) j=some q->q=(0,[(i+j,1)])/\j<b.length
 | [],i,j,q,h=>by cases j <;> cases h|x::r,i,0,q,h=>by injection h with h;exact⟨h.symm,by simp⟩
 |x::r,i,j+1,q,h=>by have h:nth (thK r (i+1)) j=some q:=h;obtain⟨h1,h2⟩:=zPB h;exact⟨by rw[h1,show i+1+j=i+(j+1)from by omega],by simp; exact h2⟩
theorem zXj{J J0:Nat->Int}{b:List (Int × Int)}(h0:∀x r,b=x::r->J0 0=0)(hk:∀j,1<=j->j<b.length->J j=J0 j):qO J J0 (thS b):=by
 intro j q hj;cases b with
 |nil=>cases j <;> cases hj|cons x r=>
  cases j with
  |zero=>injection hj with hj;subst hj;rw[h0 x r rfl]; rfl
  |succ j=>
   have hj:nth (thK r 1) j=some q:=hj;obtain⟨h1,h2⟩:=zPB hj;subst h1
   have:=hk (j+1) (by omega) (by simp; exact h2)
   rw[<- this,show j+1=1+j from by omega];show _=(0:Int)+(1*J (1+j)+0)
   omega
def zGD(U:zC):List Key->Bool
 | []=>true|k::r=>wS U k k&&zGD U r
theorem zIt{U:zC}:∀{l:List Key},zGD U l=true->∀k∈l,wS U k k=true
 | [],_,k,h=>by cases h|x::r,h,k,hk=>by
  unfold zGD at h;rw[Bool.and_eq_true]at h;rcases List.mem_cons.1 hk with rfl |hk
  . exact h.1
  . exact zIt h.2 k hk
def zWP(l:List (Key × CObj)):Nat:=match l with
 |p::_=>p.1.ix| []=>0
theorem zDc{f:FuncId}{args:Array Value}{w:World}{K K':Value->World->Prop}(h:yS P f args w K)(hk:∀v w',K v w'->K' v w'):yS P f args w K':=by
 unfold yS at h ⊢;split at h
 . exact Calls.mono h λe w'' ⟨v,e1,h1⟩=>⟨v,e1,hk _ _ h1⟩
 . exact hk _ _ h
 . exact h.elim
def zSY:List (Int × Int)->Bool
 | []=>false|q::_=>zm q.1 0&&zm q.2 0
theorem zT5{b:List (Int × Int)}(h:zSY b=true){J:Nat->Int}(hb:zk J 0 b):1<=b.length/\J 0=0:=by
 cases b with
 |nil=>cases h|cons q r=>
  unfold zSY at h;rw[Bool.and_eq_true,@zX noSym,@zX noSym,decide_eq_true_eq,decide_eq_true_eq]at h
  have:=hb.1
  rw[h.1,h.2]at this;exact⟨by simp,by omega⟩
section
variable{code:FuncId->CFn}{nat:Nats}{fuel:Nat}{f:FuncId}{fn:Func}{G:Nat}{s:Sm}
def okB(b:List (Int × Int)):Bool:=zSY b&&Nat.ble b.length 1000
end
structure zZy(P:Program)(F N:Nat)(s:Sm)(J0:Nat->Int)(Y0:Psi)(w0:World)(T:TS)(J:Nat->Int)(Y:Psi)(a:Act)(w:World):Prop where
 bnd:zk J 0 T.b
 fct:xI J T.f
 rul:yV J T.r
 keep:∀j,1<=j->j<s.b.length->J j=J0 j
 st:∀J' K',(∀j,j<T.b.length->J' j=J j)->K'.arg=noA->@St (linSym J' K') P F N Y (wd T.locs) [] (mkH .nil T.objs) T.n a w
 own:∀k o p,vR T.objs k=some o->Y k=some p->o.isRo=false/\zIl Y0 s.objs w0 p.blk
 lft:Lft (zIl Y0 s.objs w0) w0 w
 pin:∀k∈s.pins,∀p0,Y0 k=some p0->∃p,Y k=some p/\zGS p0 p
section
variable{code:FuncId->CFn}{nat:Nats}{fuel:Nat}{fn:Func}{c b:Code}{p:List Stp}{rs:List CRes}{G:Nat}{Ts:List TS}{bound:Int}{s:Sm}{F N:Nat}{J0:Nat->Int}{Y0:Psi}{w0:World}
end
end
end Go.Ev
namespace Go.Ev
open Go.RowKit
noncomputable section
variable{P:Program}
mutual
def yK(U:zC)(I:TH):CV->CV
 |.sym e=>match up I e.l with
  |some s=>mkS e.k (e.c+s.1) s.2|none=>.any
 |.ptr k o=>match zl U k with
  |some j=>.ptr j o|none=>.any
 |.sl k o l c e x=>match zl U k with
  |some j=>.sl j o l c e x|none=>.any
 |.map k=>match zl U k with
  |some j=>.map j|none=>.any
 |.func f a b=>.func f (qJ U I a) (qJ U I b)|.iface t v=>.iface t (yK U I v)|.agg l=>.agg (qJ U I l)|.tup l=>.tup (qJ U I l)|.sst l=>zQV (qJ U I l)|.win ..=>.any|.bool b=>.bool b|.nat n=>.nat n|.int k n=>.int k n|.anyi k=>.anyi k|.str s=>.str s|.nilptr=>.nilptr|.nilsl=>.nilsl|.nilmap=>.nilmap|.nilfunc=>.nilfunc|.niliface=>.niliface|.big n=>.big n|.few _ _=>.any|.elt ..=>.any|.any=>.any
def qJ(U:zC)(I:TH):List CV->List CV
 | []=>[]
 |c::l=>yK U I c::qJ U I l
end
def zJS(U:zC)(Ys YT:Psi):Prop:=∀k j p,zl U k=some j->Ys k=some p->∃p',YT j=some p'/\zGS p p'
section
variable{J JT:Nat->Int}{K KT:zU}{I:TH}{U:zC}{Ys YT:Psi}
mutual
theorem wL(hI:qO J JT I)(hY:zJS U Ys YT):∀(c:CV) {v:Value},@zG (linSym JT KT) Ys c v->@zG (linSym J K) YT (yK U I c) v
 |.sym e,v,hv=>by
  rw[@zp (linSym JT KT)]at hv;have hv:v=.int e.k (evE JT e):=hv;unfold yK;split
  . rename_i s hs;have h2:=uC hI hs;rw[hv];unfold evE;rw[h2,<- Int.add_assoc];exact zDK _ _ _
  . exact @xo (linSym J K) _ _
 |.ptr k o,v,hv=>by
  rw[@zx (linSym JT KT)]at hv;obtain⟨p,hp,rfl⟩:=hv;unfold yK;split
  . rename_i j hj;obtain⟨p',h1,h2,h3,h4⟩:=hY k j p hj hp;exact(@zx (linSym J K) _ _ _ _).2 ⟨p',h1,by rw[h2,h3]⟩
  . exact @xo (linSym J K) _ _
 |.sl k o l c e x,v,hv=>by
  rw[@yJ (linSym JT KT)]at hv;obtain⟨p,y,cap',hp,rfl,h1,h2,h3,h4⟩:=hv;unfold yK;split
  . rename_i j hj;obtain⟨p',g1,g2,g3,g4⟩:=hY k j p hj hp;exact(@yJ (linSym J K) _ _ _ _ _ _ _ _).2 ⟨p',y,cap',g1,by rw[g2],h1,h2,h3,by rw[g3,g4]; exact h4⟩
  . exact @xo (linSym J K) _ _
 |.map k,v,hv=>by
  rw[@xC (linSym JT KT)]at hv;obtain⟨p,hp,rfl⟩:=hv;unfold yK;split
  . rename_i j hj;obtain⟨p',g1,g2,g3,g4⟩:=hY k j p hj hp;exact(@xC (linSym J K) _ _ _).2 ⟨p',g1,by rw[g2]⟩
  . exact @xo (linSym J K) _ _
 |.func f a b,v,hv=>by rw[@xW (linSym JT KT)]at hv;obtain⟨a',b',rfl,g1,g2⟩:=hv;unfold yK;exact(@xW (linSym J K) _ _ _ _ _).2 ⟨a',b',rfl,w9 hI hY a g1,w9 hI hY b g2⟩
 |.iface t x,v,hv=>by rw[@yr (linSym JT KT)]at hv;obtain⟨y,rfl,g⟩:=hv;unfold yK;exact(@yr (linSym J K) _ _ _ _).2 ⟨y,rfl,wL hI hY x g⟩
 |.agg a,v,hv=>by rw[@yx (linSym JT KT)]at hv;obtain⟨a',rfl,g⟩:=hv;unfold yK;exact(@yx (linSym J K) _ _ _).2 ⟨a',rfl,w9 hI hY a g⟩
 |.tup a,v,hv=>by rw[@yU (linSym JT KT)]at hv;obtain⟨a',rfl,g⟩:=hv;unfold yK;exact(@yU (linSym J K) _ _ _).2 ⟨a',rfl,w9 hI hY a g⟩
 |.sst a,v,hv=>by rw[@ya (linSym JT KT)]at hv;obtain⟨b,rfl,g⟩:=hv;unfold yK;exact @zPf (linSym J K) _ _ _ (w9 hI hY a g)
 |.win ..,v,hv=>by unfold yK; exact @xo (linSym J K) _ _|.few ..,v,hv=>by unfold yK; exact @xo (linSym J K) _ _|.elt ..,v,hv=>by unfold yK; exact @xo (linSym J K) _ _|.bool b,v,hv=>by rw[@zL (linSym JT KT)]at hv;unfold yK;exact(@zL (linSym J K) _ _ _).2 hv|.nat b,v,hv=>by rw[@zT (linSym JT KT)]at hv;unfold yK;exact(@zT (linSym J K) _ _ _).2 hv|.int k b,v,hv=>by rw[@zf (linSym JT KT)]at hv;unfold yK;exact(@zf (linSym J K) _ _ _ _).2 hv|.anyi k,v,hv=>by rw[@yo (linSym JT KT)]at hv;unfold yK;exact(@yo (linSym J K) _ _ _).2 hv|.str b,v,hv=>by rw[@zg (linSym JT KT)]at hv;unfold yK;exact(@zg (linSym J K) _ _ _).2 hv|.nilptr,v,hv=>by rw[@xv (linSym JT KT)]at hv;unfold yK;exact(@xv (linSym J K) _ _).2 hv|.nilsl,v,hv=>by rw[@yD (linSym JT KT)]at hv;unfold yK;exact(@yD (linSym J K) _ _).2 hv|.nilmap,v,hv=>by rw[@yg (linSym JT KT)]at hv;unfold yK;exact(@yg (linSym J K) _ _).2 hv|.nilfunc,v,hv=>by rw[@xY (linSym JT KT)]at hv;unfold yK;exact(@xY (linSym J K) _ _).2 hv|.niliface,v,hv=>by rw[@yu (linSym JT KT)]at hv;unfold yK;exact(@yu (linSym J K) _ _).2 hv|.big n,v,hv=>by rw[@wX (linSym JT KT)]at hv;unfold yK;exact(@wX (linSym J K) _ _ _).2 hv|.any,v,hv=>by unfold yK; exact @xo (linSym J K) _ _
theorem w9(hI:qO J JT I)(hY:zJS U Ys YT):∀(cs:List CV) {l:List Value},@zP (linSym JT KT) Ys cs l->@zP (linSym J K) YT (qJ U I cs) l
 | [],l,hl=>by rw[@zM (linSym JT KT)]at hl;unfold qJ;exact(@zM (linSym J K) _ _).2 hl|c::cs,l,hl=>by rw[@za (linSym JT KT)]at hl;obtain⟨v,r,rfl,h1,h2⟩:=hl;unfold qJ;exact(@zW (linSym J K) _ _ _ _ _).2 ⟨wL hI hY c h1,w9 hI hY cs h2⟩
end
def zLh(U:zC)(I:TH):List CE->List CE
 | []=>[]
 |e::l=>⟨yK U I e.key,yK U I e.val,e.born⟩::zLh U I l
def zT2(U:zC)(I:TH):CObj->CObj
 |.cells l=>.cells (qJ U I l)|.map es c=>.map (zLh U I es) c|o=>o
def okO:CObj->Bool
 |.cells _=>true|.map _ _=>true|_=>false
theorem zF4:∀{l:List CV},(qJ U I l).length=l.length
 | []=>rfl|c::l=>by rw[qJ,List.length_cons,List.length_cons,zF4]
theorem zGU:∀{l:List CV} {i:Nat} {c:CV},(qJ U I l)[i]? = some c->∃d,l[i]? = some d/\c=yK U I d
 | [],i,c,h=>by rw[qJ]at h; simp at h|d::l,0,c,h=>by rw[qJ]at h;simp at h;exact⟨d,rfl,h.symm⟩|d::l,i+1,c,h=>by rw[qJ]at h;exact zGU (l:=l) (i:=i) (by simpa using h)
theorem zIR(hI:qO J JT I)(hY:zJS U Ys YT){ck:Nat->Nat}:∀{es:List CE} {l:List MapEntry},@yI (linSym JT KT) Ys ck es l->@yI (linSym J K) YT ck (zLh U I es) l
 | [],l,h=>h|c::es,l,h=>by obtain⟨e,r,rfl,⟨h1,h2,h3⟩,h4⟩:=h;exact⟨e,r,rfl,⟨wL hI hY _ h1,wL hI hY _ h2,h3⟩,zIR hI hY h4⟩
theorem zNs(hI:qO J JT I)(hY:zJS U Ys YT){o:CObj}(ho:okO o=true){w:World}{p p':Pl}(hp:zGS p p')(hck:(∀es c,o=.map es c->p'=p))(h:@xQ (linSym JT KT) Ys w p o):@xQ (linSym J K) YT w p' (zT2 U I o):=by
 obtain⟨e1,e2,e3⟩:=hp;cases o with
 |cells l=>obtain⟨arr,elem,fz,g1,g2,g3,g4,g5⟩:=h;refine⟨arr,elem,fz,by rw[e1]; exact g1,by rw[e3]; exact g2,by rw[e2,e3,zF4]; exact g3,by rw[e3]; exact g4,λi c hi=>?_⟩;obtain⟨d,hd,rfl⟩:=zGU hi;obtain⟨x,hx,hr⟩:=g5 i d hd;exact⟨x,by rw[e2]; exact hx,wL hI hY d hr⟩
 |map es c=>obtain rfl:=hck es c rfl;obtain⟨arr,g1,⟨l0,gp,g2⟩,g3⟩:=h;exact⟨arr,g1,⟨l0,gp,zIR hI hY g2⟩,g3⟩
 |ro _=>cases ho|striter _ _=>cases ho|mapiter _ _ _ _=>cases ho|full _ _=>cases ho|mapz _=>cases ho|seen _=>cases ho|hid=>cases ho|bag _=>cases ho
end
def fZ(z:Int)(k:Int->R):R:=match z with
 |.ofNat n=>k (.ofNat n)|.negSucc n=>k (.negSucc n)
def fL:LL->(LL->R)->R
 | [],k=>k []|(i,a)::l,k=>fZ a λa=>fL l λl=>k ((i,a)::l)
theorem zWB{z:Int}{k:Int->R}:fZ z k=k z:=by cases z <;> rfl
theorem zWX:∀{l:LL} {k:LL->R},fL l k=k l
 | [],_=>rfl|(i,a)::l,k=>by unfold fL; rw[zWB,zWX]
def fTH:TH->(TH->R)->R
 | [],k=>k []|(a,l)::r,k=>fZ a λa=>fL l λl=>fTH r λr=>k ((a,l)::r)
theorem zOy:∀{l:TH} {k:TH->R},fTH l k=k l
 | [],_=>rfl|(a,l)::r,k=>by unfold fTH; rw[zWB,zWX,zOy]
def fKs:List Key->(List Key->R)->R
 | [],k=>k []|x::l,k=>fKs l λl=>k (x::l)
theorem zKX:∀{l:List Key} {k:List Key->R},fKs l k=k l
 | [],_=>rfl|x::l,k=>by unfold fKs; rw[zKX]
theorem zSG{k b:Key}:∀{objs:List (Key × CObj)} {ks:List Key},zl (kC objs ks) k=some b->∃j:Nat,(∃o:CObj,objs[j]? = some (b,o))/\ks[j]? = some k
 | [],_,h=>by have h:zl .nil k=some b:=h;unfold zl at h;rw[jG]at h; cases h|_::_,[],h=>by have h:zl .nil k=some b:=h;unfold zl at h;rw[jG]at h; cases h|p::r,j::js,h=>by
  by_cases e:k=j
  . have h:zl (yy (some (.cells [.ptr p.1 0])) j (kC r js)) k=some b:=h;unfold zl at h;rw[ke,if_pos e]at h;injection h with h;exact⟨0,⟨p.2,by subst h; rfl⟩,by subst e; rfl⟩
  . have h':zl (kC r js) k=some b:=by have h:zl (yy (some (.cells [.ptr p.1 0])) j (kC r js)) k=some b:=h;unfold zl at h ⊢;rw[ke,if_neg e]at h;exact h
    obtain⟨i,⟨o,h1⟩,h2⟩:=zSG h';exact⟨i+1,⟨o,by simpa using h1⟩,by simpa using h2⟩
def zIr:List Key->zC->zC
 | [],h=>h|k::r,h=>yy none k (zIr r h)
theorem zIS{h:zC}{k:Key}{o:CObj}:∀{l:List Key},zb k (zIr l h)=some o->k ∉ l/\zb k h=some o
 | [],hh=>⟨by simp,hh⟩
 |x::r,hh=>by
  have hh:zb k (yy none x (zIr r h))=some o:=hh;rw[ke]at hh;split at hh
  . cases hh
  . rename_i e;obtain⟨h1,h2⟩:=zIS hh;exact⟨by simp[e,h1],h2⟩
def zXg(kb:List (Int × Int))(q:Int × Int)(c:Int)(l:LL):Bool:=match l with
 | [(i,a)]=>match zVQ kb i with
  |some x=>jn (zm a 1) (jn (zm c 0) (jn (zm x.1 q.1) (zm x.2 q.2)))|none=>false
 |_=>false
def zXA[Sym](q:Int × Int)(u:Int × LL):Bool:=match u.2 with
 | []=>decide (q.1<=u.1)&&decide (u.1<=q.2)|l=>match Sym.bin .geq (.sym ⟨.i64,u.1,l⟩) (mkInt .i64 q.1),Sym.bin .leq (.sym ⟨.i64,u.1,l⟩) (mkInt .i64 q.2)with
  |some [.bool true],some [.bool true]=>true|_,_=>false
def zXW[Sym](q:Int × Int)(u:Int × LL):Bool:=match zXg Sym.kb q u.1 u.2 with
 |true=>true|false=>zXA q u
def zVu[Sym]:List (Int × Int)->TH->Bool
 | [],[]=>true|q::r,u::I=>zXW q u&&zVu r I|_,_=>false
def zTl(U:zC)(sb:SE->CV)(c:CV):CV:=CV.rec (motive_1:=λ_=>CV) (motive_2:=λ_=>List CV)
 (λx0=>.bool x0)
 (λx0=>.nat x0)
 (λx0 x1=>.int x0 x1)
 (λx0=>.anyi x0)
 (λx0=>.str x0)
 .nilptr
 (λx0 x1=>match zl U x0 with |some j=>.ptr j x1 |none=>.any)
 .nilsl
 (λx0 x1 x2 x3 x4 x5=>match zl U x0 with |some j=>.sl j x1 x2 x3 x4 x5 |none=>.any)
 .nilmap
 (λx0=>match zl U x0 with |some j=>.map j |none=>.any)
 (λx0 x1 x2 ha hc=>.func x0 ha hc)
 .nilfunc
 (λx0 x1 hv=>.iface x0 hv)
 .niliface
 (λx0 hl=>.agg hl)
 (λx0 hl=>.tup hl)
 sb
 (λx0 x1 x2 x3=>.any)
 (λx0 hl=>zQV hl)
 (λx0=>.big x0)
 (λx0 x1=>.any)
 (λx0 x1 x2 x3=>.any)
 .any
 []
 (λ_ _ h g=>h::g) c
def zNG(U:zC)(sb:SE->CV)(l:List CV):List CV:=CV.rec_1 (motive_1:=λ_=>CV) (motive_2:=λ_=>List CV)
 (λx0=>.bool x0)
 (λx0=>.nat x0)
 (λx0 x1=>.int x0 x1)
 (λx0=>.anyi x0)
 (λx0=>.str x0)
 .nilptr
 (λx0 x1=>match zl U x0 with |some j=>.ptr j x1 |none=>.any)
 .nilsl
 (λx0 x1 x2 x3 x4 x5=>match zl U x0 with |some j=>.sl j x1 x2 x3 x4 x5 |none=>.any)
 .nilmap
 (λx0=>match zl U x0 with |some j=>.map j |none=>.any)
 (λx0 x1 x2 ha hc=>.func x0 ha hc)
 .nilfunc
 (λx0 x1 hv=>.iface x0 hv)
 .niliface
 (λx0 hl=>.agg hl)
 (λx0 hl=>.tup hl)
 sb
 (λx0 x1 x2 x3=>.any)
 (λx0 hl=>zQV hl)
 (λx0=>.big x0)
 (λx0 x1=>.any)
 (λx0 x1 x2 x3=>.any)
 .any
 []
 (λ_ _ h g=>h::g) l
def sbQ(I:TH)(e:SE):CV:=match zNE I e.l with
 |some s=>mkS e.k (e.c+s.1) s.2|none=>.any
theorem zTn{U:zC}{I:TH}(e:SE):sbQ I e=yK U I (.sym e):=by unfold sbQ yK;rw[zBm]
section
variable{U:zC}{I:TH}{sb:SE->CV}(hs:∀e,sb e=yK U I (.sym e))
include hs
mutual
theorem zDi:∀(c:CV),zTl U sb c=yK U I c
 |.bool x0=>by unfold yK; rfl|.nat x0=>by unfold yK; rfl|.int x0 x1=>by unfold yK; rfl|.anyi x0=>by unfold yK; rfl|.str x0=>by unfold yK; rfl|.nilptr=>by unfold yK; rfl|.ptr x0 x1=>by unfold yK; rfl|.nilsl=>by unfold yK; rfl|.sl x0 x1 x2 x3 x4 x5=>by unfold yK; rfl|.nilmap=>by unfold yK; rfl|.map x0=>by unfold yK; rfl|.func x0 x1 x2=>by unfold yK; rw[<- j4 x1,<- j4 x2]; rfl|.nilfunc=>by unfold yK; rfl|.iface x0 x1=>by unfold yK; rw[<- zDi x1]; rfl|.niliface=>by unfold yK; rfl|.agg x0=>by unfold yK; rw[<- j4 x0]; rfl|.tup x0=>by unfold yK; rw[<- j4 x0]; rfl|.sym x0=>hs x0|.win x0 x1 x2 x3=>by unfold yK; rfl|.sst x0=>by unfold yK; rw[<- j4 x0]; rfl|.big x0=>by unfold yK; rfl|.few x0 x1=>by unfold yK; rfl|.elt x0 x1 x2 x3=>by unfold yK; rfl|.any=>by unfold yK; rfl
theorem j4:∀(l:List CV),zNG U sb l=qJ U I l
 | []=>by unfold qJ; rfl|c::l=>by unfold qJ; rw[<- zDi c,<- j4 l]; rfl
end
end
def zI4(U:zC)(I:TH)(c:CV):CV:=zTl U (sbQ I) c
def zOh(U:zC)(I:TH)(l:List CV):List CV:=zNG U (sbQ I) l
section
variable{U:zC}{I:TH}
theorem zDX(c:CV):zI4 U I c=yK U I c:=zDi (λe=>zTn e) c
theorem zIv(l:List CV):zOh U I l=qJ U I l:=j4 (λe=>zTn e) l
end
def fZQ(z:Int)(k:Int->R):R:=Int.rec (motive:=λ_=>R) (λn=>k (.ofNat n)) (λn=>k (.negSucc n)) z
theorem zTy{z:Int}{k:Int->R}:fZQ z k=k z:=by cases z <;> rfl
def fLQ(l:LL):(LL->R)->R:=List.rec (motive:=λ_=>(LL->R)->R) (λk=>k []) (λp _ g k=>Prod.rec (motive:=λ_=>R) (λi a=>fZQ a λa=>g λl=>k ((i,a)::l)) p) l
theorem zUD:∀{l:LL} {k:LL->R},fLQ l k=k l
 | [],_=>rfl|(i,a)::l,k=>by show(fZQ a λa=>fLQ l λl=>k ((i,a)::l))=_;rw[zTy,zUD]
def zXM(e:SE)(k:SE->R):R:=SE.rec (motive:=λ_=>R) (λj c l=>fZQ c λc=>fLQ l λl=>k ⟨j,c,l⟩) e
theorem zVo{e:SE}{k:SE->R}:zXM e k=k e:=by obtain⟨j,c,l⟩:=e;show(fZQ c λc=>fLQ l λl=>k ⟨j,c,l⟩)=k ⟨j,c,l⟩;rw[zTy,zUD]
def fQ(c:CV):(CV->R)->R:=CV.rec (motive_1:=λ_=>(CV->R)->R) (motive_2:=λ_=>(List CV->R)->R)
 (λx0 k=>k (.bool x0))
 (λx0 k=>k (.nat x0))
 (λx0 x1 k=>k (.int x0 x1))
 (λx0 k=>k (.anyi x0))
 (λx0 k=>k (.str x0))
 (λk=>k (.nilptr))
 (λx0 x1 k=>k (.ptr x0 x1))
 (λk=>k (.nilsl))
 (λx0 x1 x2 x3 x4 x5 k=>k (.sl x0 x1 x2 x3 x4 x5))
 (λk=>k (.nilmap))
 (λx0 k=>k (.map x0))
 (λx0 x1 x2 ha hc k=>ha λx1=>hc λx2=>k (.func x0 x1 x2))
 (λk=>k (.nilfunc))
 (λx0 x1 hv k=>hv λx1=>k (.iface x0 x1))
 (λk=>k (.niliface))
 (λx0 hl k=>hl λx0=>k (.agg x0))
 (λx0 hl k=>hl λx0=>k (.tup x0))
 (λx0 k=>zXM x0 λx0=>k (.sym x0))
 (λx0 x1 x2 x3 k=>k (.win x0 x1 x2 x3))
 (λx0 hl k=>hl λx0=>k (.sst x0))
 (λx0 k=>k (.big x0))
 (λx0 x1 k=>k (.few x0 x1))
 (λx0 x1 x2 x3 k=>k (.elt x0 x1 x2 x3))
 (λk=>k (.any))
 (λk=>k [])
 (λ_ _ h g k=>h λv=>g λl=>k (v::l)) c
def fQs(l:List CV):(List CV->R)->R:=CV.rec_1 (motive_1:=λ_=>(CV->R)->R) (motive_2:=λ_=>(List CV->R)->R)
 (λx0 k=>k (.bool x0))
 (λx0 k=>k (.nat x0))
 (λx0 x1 k=>k (.int x0 x1))
 (λx0 k=>k (.anyi x0))
 (λx0 k=>k (.str x0))
 (λk=>k (.nilptr))
 (λx0 x1 k=>k (.ptr x0 x1))
 (λk=>k (.nilsl))
 (λx0 x1 x2 x3 x4 x5 k=>k (.sl x0 x1 x2 x3 x4 x5))
 (λk=>k (.nilmap))
 (λx0 k=>k (.map x0))
 (λx0 x1 x2 ha hc k=>ha λx1=>hc λx2=>k (.func x0 x1 x2))
 (λk=>k (.nilfunc))
 (λx0 x1 hv k=>hv λx1=>k (.iface x0 x1))
 (λk=>k (.niliface))
 (λx0 hl k=>hl λx0=>k (.agg x0))
 (λx0 hl k=>hl λx0=>k (.tup x0))
 (λx0 k=>zXM x0 λx0=>k (.sym x0))
 (λx0 x1 x2 x3 k=>k (.win x0 x1 x2 x3))
 (λx0 hl k=>hl λx0=>k (.sst x0))
 (λx0 k=>k (.big x0))
 (λx0 x1 k=>k (.few x0 x1))
 (λx0 x1 x2 x3 k=>k (.elt x0 x1 x2 x3))
 (λk=>k (.any))
 (λk=>k [])
 (λ_ _ h g k=>h λv=>g λl=>k (v::l)) l
mutual
theorem zIF:∀(c:CV) (k:CV->R),fQ c k=k c
 |.bool x0,k=>rfl|.nat x0,k=>rfl|.int x0 x1,k=>rfl|.anyi x0,k=>rfl|.str x0,k=>rfl|.nilptr,k=>rfl|.ptr x0 x1,k=>rfl|.nilsl,k=>rfl|.sl x0 x1 x2 x3 x4 x5,k=>rfl|.nilmap,k=>rfl|.map x0,k=>rfl|.func x0 x1 x2,k=>by show(fQs x1 λx1=>fQs x2 λx2=>k (.func x0 x1 x2))=_; rw[zCg x1,zCg x2]|.nilfunc,k=>rfl|.iface x0 x1,k=>zIF x1 λx1=>k (.iface x0 x1)
 |.niliface,k=>rfl|.agg x0,k=>zCg x0 λx0=>k (.agg x0)
 |.tup x0,k=>zCg x0 λx0=>k (.tup x0)
 |.sym x0,k=>zVo (k:=λx0=>k (.sym x0))|.win x0 x1 x2 x3,k=>rfl|.sst x0,k=>zCg x0 λx0=>k (.sst x0)
 |.big x0,k=>rfl|.few x0 x1,k=>rfl|.elt x0 x1 x2 x3,k=>rfl|.any,k=>rfl
theorem zCg:∀(l:List CV) (k:List CV->R),fQs l k=k l
 | [],k=>rfl|c::l,k=>by show(fQ c λv=>fQs l λl=>k (v::l))=_; rw[zIF c,zCg l]
end
def zZh(th:List (Nat × Int × LL)):List (Int × Int)->TH
 | []=>[]
 |_::r=>(0,[])::hTh th r 1
def qkV(c:CV):CV->Bool:=CV.rec (motive_1:=λ_=>CV->Bool) (motive_2:=λ_=>List CV->Bool)
 (λx0 d=>(CV.rec (motive_1:=λ_=>Bool) (motive_2:=λ_=>Unit) (λy0=>zX0 x0 y0) (λ_=>true) (λ_ _=>true) (λ_=>true) (λ_=>true) true (λ_ _=>true) true (λ_ _ _ _ _ _=>true) true (λ_=>true) (λ_ _ _ _ _=>true) true (λ_ _ _=>true) true (λ_ _=>true) (λ_ _=>true) (λ_=>true) (λ_ _ _ _=>true) (λ_ _=>true) (λ_=>true) (λ_ _=>true) (λ_ _ _ _=>true) true () (λ_ _ _ _=>()) d))
 (λx0 d=>(CV.rec (motive_1:=λ_=>Bool) (motive_2:=λ_=>Unit) (λ_=>true) (λy0=>Nat.beq x0 y0) (λ_ _=>true) (λ_=>true) (λ_=>true) true (λ_ _=>true) true (λ_ _ _ _ _ _=>true) true (λ_=>true) (λ_ _ _ _ _=>true) true (λ_ _ _=>true) true (λ_ _=>true) (λ_ _=>true) (λ_=>true) (λ_ _ _ _=>true) (λ_ _=>true) (λ_=>true) (λ_ _=>true) (λ_ _ _ _=>true) true () (λ_ _ _ _=>()) d))
 (λx0 x1 d=>(CV.rec (motive_1:=λ_=>Bool) (motive_2:=λ_=>Unit) (λ_=>true) (λ_=>true) (λy0 y1=>zm x1 y1) (λ_=>true) (λ_=>true) true (λ_ _=>true) true (λ_ _ _ _ _ _=>true) true (λ_=>true) (λ_ _ _ _ _=>true) true (λ_ _ _=>true) true (λ_ _=>true) (λ_ _=>true) (λ_=>true) (λ_ _ _ _=>true) (λ_ _=>true) (λ_=>true) (λ_ _=>true) (λ_ _ _ _=>true) true () (λ_ _ _ _=>()) d))
 (λx0 d=>true)
 (λx0 d=>(CV.rec (motive_1:=λ_=>Bool) (motive_2:=λ_=>Unit) (λ_=>true) (λ_=>true) (λ_ _=>true) (λ_=>true) (λy0=>qY x0 y0) true (λ_ _=>true) true (λ_ _ _ _ _ _=>true) true (λ_=>true) (λ_ _ _ _ _=>true) true (λ_ _ _=>true) true (λ_ _=>true) (λ_ _=>true) (λ_=>true) (λ_ _ _ _=>true) (λ_ _=>true) (λ_=>true) (λ_ _=>true) (λ_ _ _ _=>true) true () (λ_ _ _ _=>()) d))
 (λd=>true)
 (λx0 x1 d=>true)
 (λd=>(CV.rec (motive_1:=λ_=>Bool) (motive_2:=λ_=>Unit) (λ_=>true) (λ_=>true) (λ_ _=>true) (λ_=>true) (λ_=>true) true (λ_ _=>true) true (λy0 y1 y2 y3 y4 y5=>false) true (λ_=>true) (λ_ _ _ _ _=>true) true (λ_ _ _=>true) true (λ_ _=>true) (λ_ _=>true) (λ_=>true) (λ_ _ _ _=>true) (λ_ _=>true) (λ_=>true) (λ_ _=>true) (λ_ _ _ _=>true) true () (λ_ _ _ _=>()) d))
 (λx0 x1 x2 x3 x4 x5 d=>(CV.rec (motive_1:=λ_=>Bool) (motive_2:=λ_=>Unit) (λ_=>true) (λ_=>true) (λ_ _=>true) (λ_=>true) (λ_=>true) true (λ_ _=>true) false (λy0 y1 y2 y3 y4 y5=>Nat.beq x2 y2) true (λ_=>true) (λ_ _ _ _ _=>true) true (λ_ _ _=>true) true (λ_ _=>true) (λ_ _=>true) (λ_=>true) (λ_ _ _ _=>true) (λ_ _=>true) (λ_=>true) (λ_ _=>true) (λ_ _ _ _=>true) true () (λ_ _ _ _=>()) d))
 (λd=>true)
 (λx0 d=>true)
 (λx0 x1 x2 ha hc d=>true)
 (λd=>true)
 (λx0 x1 hv d=>true)
 (λd=>true)
 (λx0 hl d=>(CV.rec (motive_1:=λ_=>Bool) (motive_2:=λ_=>Unit) (λ_=>true) (λ_=>true) (λ_ _=>true) (λ_=>true) (λ_=>true) true (λ_ _=>true) true (λ_ _ _ _ _ _=>true) true (λ_=>true) (λ_ _ _ _ _=>true) true (λ_ _ _=>true) true (λy0 _=>hl y0) (λ_ _=>true) (λ_=>true) (λ_ _ _ _=>true) (λ_ _=>true) (λ_=>true) (λ_ _=>true) (λ_ _ _ _=>true) true () (λ_ _ _ _=>()) d))
 (λx0 hl d=>true)
 (λx0 d=>true)
 (λx0 x1 x2 x3 d=>true)
 (λx0 hl d=>true)
 (λx0 d=>true)
 (λx0 x1 d=>true)
 (λx0 x1 x2 x3 d=>true)
 (λd=>true)
 (λ_=>true)
 (λ_ _ h g m=>List.rec (motive:=λ_=>Bool) true (λb r _=>jn (h b) (g r)) m) c
def zSi(l m:List CV):Bool:=qkV (.agg l) (.agg m)
theorem zIZ(P:Program)[Sym][SymFact P]{Y:Psi}{op:BinOp}{x y:CV}{b:Bool}{u v:Value}(w:World)(h:Sym.bin op x y=some [.bool b])(hx:zG Y x u)(hy:zG Y y v) :
 (binOp op 0 u v).run P w=.ok (.bool b) w:=by
 obtain⟨h1,z,h2,c,h3,h4⟩:=(SymFact.ok (P:=P)).1 op x y _ h Y 0 u v w hx hy;obtain rfl:c=.bool b:=by simpa using h3
 rw[zL.1 h4]at h2;exact h2
theorem zVa{J:Nat->Int}{K:zU}(hK:KnownOk J K){q:Int × Int}{u:Int × LL}(h:zXg K.b q u.1 u.2=true):q.1<=evQ J u/\evQ J u<=q.2:=by
 obtain⟨c,l⟩:=u;unfold zXg at h;split at h
 . rename_i i a hl;simp only at hl;subst hl;split at h
   . rename_i x hx;rw[zFV]at hx;obtain⟨b1,b2⟩:=hK.b _ _ hx;simp only[jN,Bool.and_eq_true]at h;obtain⟨h1,h2,h3,h4⟩:=h;rw[@zX noSym,decide_eq_true_eq]at h1;rw[@zX noSym,decide_eq_true_eq]at h2;rw[@zX noSym,decide_eq_true_eq]at h3;rw[@zX noSym,decide_eq_true_eq]at h4;subst h1 h2;show q.1<=0+(1*J i+0)/\0+(1*J i+0)<=q.2;omega
   . cases h
 . cases h
theorem zVP(P:Program){J:Nat->Int}{K:zU}(hK:KnownOk J K){q:Int × Int}{u:Int × LL}(h:@zXA (linSym J K) q u=true):q.1<=evQ J u/\evQ J u<=q.2:=by
 letI S:Sym:=linSym J K
 haveI hS:SymFact P:=yn hK
 unfold zXA at h;split at h
 . rename_i hu;rw[Bool.and_eq_true,decide_eq_true_eq,decide_eq_true_eq]at h;unfold evQ;rw[hu];simp[evL];exact h
 . split at h
   . rename_i h1 h2;have hv:@zG (linSym J K) (λ_=>none) (.sym ⟨.i64,u.1,u.2⟩) (.int .i64 (evQ J u)):=(@zp (linSym J K) _ _ _).2 rfl;have hl:∀z:Int,@zG (linSym J K) (λ_=>none) (mkInt .i64 z) (.int .i64 z):=λz=>@xF (linSym J K) _ _ _;have g1:=@zIZ P (linSym J K) hS _ _ _ _ _ _ _ default h1 hv (hl q.1);have g2:=@zIZ P (linSym J K) hS _ _ _ _ _ _ _ default h2 hv (hl q.2);have e1:q.1<=evQ J u:=by simpa [binOp,Op.intCmp]using g1
     have e2:evQ J u<=q.2:=by simpa [binOp,Op.intCmp]using g2
     exact⟨e1,e2⟩
   . cases h
theorem zV1(P:Program){J:Nat->Int}{K:zU}(hK:KnownOk J K){q:Int × Int}{u:Int × LL}(h:@zXW (linSym J K) q u=true):q.1<=evQ J u/\evQ J u<=q.2:=by
 unfold zXW at h;split at h
 . rename_i h1;exact zVa hK h1
 . exact zVP P hK h
theorem zKU{J:Nat->Int}{K:zU}(hK:KnownOk J K)(P:Program):∀{b:List (Int × Int)} {I:TH} {JT:Nat->Int} {j:Nat},@zVu (linSym J K) b I=true->(∀i q,nth I i=some q->JT (j+i)=evQ J q)->b.length=I.length/\zk JT j b
 | [],[],_,_,_,_=>⟨rfl,trivial⟩
 | [],_::_,_,_,h,_=>by cases h|_::_,[],_,_,h,_=>by cases h|q::r,u::I,JT,j,h,hI=>by
  unfold zVu at h;rw[Bool.and_eq_true]at h;obtain⟨g1,g2⟩:=zKU hK P (JT:=JT) (j:=j+1) h.2 (λi x hi=>by
   have:=hI (i+1) x hi
   rw[show j+1+i=j+(i+1)from by omega]; exact this)
  refine⟨by simp[g1],?_,g2⟩;rw[show JT j=evQ J u from hI 0 u rfl];exact zV1 P hK h.1
theorem nats_lin{nat:Nats}(h:∀[Sym] [SymFact P],NatsOk P nat):∀J K,KnownOk J K->@NatsOk (linSym J K) P nat:=λJ K hK=>@h (linSym J K) (yn hK)
end
end Go.Ev
namespace Go.Ev
open Go.RowKit
noncomputable section
variable{P:Program}
section
variable{code:FuncId->CFn}{nat:Nats}{fuel:Nat}{p:List Stp}{rs:List CRes}{G:Nat}{Ts:List TS}{s:Sm}{cc:CCode}{T:TS}
theorem zKV{Q:Lf->Prop}:∀{l:List Lf},(∀e∈l,Q e)->AllG Q l
 | [],_=>allG_nil|e::l,h=>allG_cons (h e (by simp)) (zKV λx hx=>h x (by simp[hx]))
end
end
end Go.Ev
namespace Go.Ev
open Go.RowKit
noncomputable section
variable{P:Program}
end
end Go.Ev
namespace Go.Ev
open Go.RowKit
noncomputable section
variable{P:Program}
theorem zDh{q:List Stp}{bl:Code}:∀{p:List Stp} {c a b:Code},atC p c=some (.seq a b)->subC (p++.r::q) c=some bl->subC q b=some bl
 | [],c,a,b,h,hs=>by injection h with h; subst h; exact hs
 |.l::p,c,a,b,h,hs=>by cases c <;> first |exact zDh (p:=p) h hs |cases h
 |.r::p,c,a,b,h,hs=>by cases c <;> first |exact zDh (p:=p) h hs |cases h
 |.b::p,c,a,b,h,hs=>by cases c <;> first |exact zDh (p:=p) h hs |cases h
theorem zGX{q:List Stp}:∀{p:List Stp} {c a b:Code} {Q:Exit->Act->World->Prop},atC p c=some (.seq a b)->QH P (p++.r::q) c Q=QH P q b (QH P p c Q)
 | [],c,a,b,Q,h=>by injection h with h; subst h; rfl
 |.l::p,c,a,b,Q,h=>by
  cases c <;> try (cases h; done)
  rename_i y z;exact zGX (p:=p) (Q:=Exit.then (z.wp P Q) Q) h
 |.r::p,c,a,b,Q,h=>by
  cases c <;> try (cases h; done)
  exact zGX (p:=p) h
 |.b::p,c,a,b,Q,h=>by
  cases c <;> try (cases h; done)
  exact zGX (p:=p) h
structure Nx where
 Ts:List TS
 pre:List Stp
 q:List Stp
 q2:List Stp
 mid:Bool:=false
section
variable{code:FuncId->CFn}{nat:Nats}{fuel:Nat}{fn:Func}{c b:Code}{p:List Stp}{rs:List CRes}{G:Nat}{wins:List Win}{L:List (Key × Nat)}{A:Key->Option Value}{Ts:List TS}{bound:Int}{w0:World}{nx:Option Nx}
def u6(K:zU)(I:TH):Bool:=match I with
 |q::_=>(zm q.1 1&&j9 q.2 [(0,1)]) || (match q.2,nth K.b 0 with
  | [],some p=>decide (p.1=p.2)&&decide (q.1=p.1+1)|_,_=>false)
 | []=>false
theorem zM2{J:Nat->Int}{K:zU}(hK:KnownOk J K){I:TH}(h:u6 K I=true):∃q0 Ir,I=q0::Ir/\q0.1+evL J q0.2=J 0+1:=by
 unfold u6 at h;split at h
 . rename_i q Ir;refine⟨q,Ir,rfl,?_⟩;rw[Bool.or_eq_true]at h;rcases h with h |h
   . rw[Bool.and_eq_true,@zX noSym,decide_eq_true_eq]at h;rw[h.1,@jJ noSym _ _ h.2];show(1:Int)+(1*J 0+0)=_;omega
   . split at h
     . rename_i p h1 h2;rw[Bool.and_eq_true,decide_eq_true_eq,decide_eq_true_eq]at h
       have:=hK.b 0 p h2
       rw[h1,h.2];show p.1+1+0=_;omega
     . cases h
 . cases h
def LoopOk(P:Program)(F N G:Nat)(A:Key->Option Value)(wins:List Win)(L:List (Key × Nat))(w0:World)(fn:Func)(c:Code)(Ts:List TS)(p:List Stp):Prop:=
 ∀(t:Nat) (T:TS) (J:Nat->Int) (Y:Psi) (a:Act) (w:World) (b:Code),subC p c=some b->nth Ts t=some T->zO8 P F N G A wins L w0 T J Y a w->uQ P b (QH P p c (zDS P fn w0)) a w
def zUS(P:Program)(F N G:Nat)(A:Key->Option Value)(wins:List Win)(L:List (Key × Nat))(w0:World)(fn:Func)(c:Code)(Ts:List TS)(pre:List Stp)(xb:Code):Prop:=
 ∀(t:Nat) (T:TS) (J:Nat->Int) (Y:Psi) (a:Act) (w:World),nth Ts t=some T->zO8 P F N G A wins L w0 T J Y a w->xb.wp P (QH P pre c (zDS P fn w0)) a w
def zG6(P:Program)(F N G:Nat)(A:Key->Option Value)(wins:List Win)(L:List (Key × Nat))(w0:World)(fn:Func)(c:Code)(p:List Stp):Option Nx->Prop
 |none=>True|some x=>p=x.pre++.l::x.q/\((x.mid=false/\(∃xa xb bl,atC x.pre c=some (.seq xa xb)/\subC (x.pre++.r::x.q2) c=some bl)/\LoopOk P F N G A wins L w0 fn c x.Ts (x.pre++.r::x.q2)) \/
  (x.mid=true/\∃xa xb,atC x.pre c=some (.seq xa xb)/\zUS P F N G A wins L w0 fn c x.Ts x.pre xb))
def zRZ(P:Program)(code:FuncId->CFn)(nat:Nats)(fuel:Nat)(G:Nat)(ws L:List (Key × Nat))(x:Nx)(cc:CCode)(s:Nat->Int)(K:zU)(ts:List Nat)(r:R):Bool:=
 match x.mid with
 |false=>wu (zAX G ws x.Ts (λt=>uK t.I&&jo t.I L) K (λ_=>false)
  (qi (@zEk (linSym s K) P (@ev (linSym s K) P code nat fuel) x.q2 (zEm x.pre cc)) (@uv (linSym s K) P (@ev (linSym s K) P code nat fuel) x.q (zIH x.pre cc) r)) ts)
 |true=>wu (zAX G ws x.Ts (λt=>uK t.I&&jo t.I L) K (λ_=>false) (@uv (linSym s K) P (@ev (linSym s K) P code nat fuel) x.q (zIH x.pre cc) r) ts)
def zMx(P:Program)(code:FuncId->CFn)(nat:Nats)(fuel:Nat)(G:Nat)(ws L:List (Key × Nat))(nx:Option Nx)(p:List Stp)(cc:CCode)(rs:List CRes)(s:Nat->Int)(K:zU)(ts:List Nat)(r:R):Bool:=match nx with
 |none=>zIu P code nat fuel p cc rs (linSym s K) r|some x=>match r with
  |.ok (.exit i) tm ds h n=>zRZ P code nat fuel G ws L x cc s K ts (.ok (.exit i) tm ds h n)|r=>zIu P code nat fuel p cc rs (linSym s K) r
def zSf(P:Program)(code:FuncId->CFn)(nat:Nats)(fuel:Nat)(G:Nat)(ws L:List (Key × Nat))(Ts:List TS)(nx:Option Nx)(p:List Stp)(cc:CCode)(rs:List CRes)(T:TS)(l:List (Key × List CV))(s:Nat->Int)(K:zU)(ts:List Nat)(hs:List kn):Bool:=
 wo (km G ws Ts (λt=>u6 K t.I&&jo t.I L) K (zMx P code nat fuel G ws L nx p cc rs s K ts) (@zq (linSym s K) P (@ev (linSym s K) P code nat fuel) (uc p cc) (wd T.locs) [] (mkH (mkH .nil T.objs) (zEG l)) T.n) hs)
def zFR(P:Program)(code:FuncId->CFn)(nat:Nats)(fuel:Nat)(G:Nat)(wins:List Win)(L:List (Key × Nat))(A:Key->Option Value)(Ts:List TS)(nx:Option Nx)(p:List Stp)(cc:CCode)(rs:List CRes)(w0:World):Prop:=
 ∀t T,nth Ts t=some T->∀J,zk J 0 T.b->xI J T.f->yV J T.r->LensAre wins L J->∃J' K' l hs ts,(∀j,j<T.b.length->J' j=J j)/\(∀q∈L,J' q.2=J q.2)/\K'.arg=A/\KnownOk J' K'/\(∀q∈l,zB9 (linSym J' K') wins w0 (J 0) q)/\kH T.objs l=true /\
  zSf P code nat fuel G (wsOf wins) L Ts nx p cc rs T l J' K' ts hs=true
theorem zIW[Sym][SymFact P]{call:yw}(hcall:xP call)(q:List Stp)(y:CCode){r:R}(h:zd (qi (zEk P call q y) r)):zd r:=
 qG (λtm ds h n=>k9 (P:=P) hcall q y tm ds h n) h
theorem zOO{J:Nat->Int}{K:zU}(hK:KnownOk J K)(hm:P.follows .mixedOrders=true)(hcode:CodeOk P code)(hnat:∀J K,KnownOk J K->@NatsOk (linSym J K) P nat){ws:List (Key × Nat)}{cc:CCode}{ts:List Nat}:∀r,zMx P code nat fuel G ws L nx p cc rs J K ts r=true->zd r:=by
 intro r h;unfold zMx at h;split at h
 . exact zD6 hK hm hcode hnat r h
 . split at h
   . unfold zRZ at h;split at h
     . obtain⟨hs,h1⟩:=qg h;obtain⟨o,h2⟩:=jR h1;have hc:=qH (λ_ h=>by cases h) h2
       letI S:Sym:=linSym J K
       haveI hS:SymFact P:=yn hK
       have hcall:yk P (ev P code nat fuel):=kZ (λcall hcall F N=>ym hm hcall) hcode (hnat _ _ hK) fuel;exact k7 hcall.above _ _ (zIW hcall.above _ _ hc)
     . obtain⟨hs,h1⟩:=qg h;obtain⟨o,h2⟩:=jR h1;have hc:=qH (λ_ h=>by cases h) h2
       letI S:Sym:=linSym J K
       haveI hS:SymFact P:=yn hK
       have hcall:yk P (ev P code nat fuel):=kZ (λcall hcall F N=>ym hm hcall) hcode (hnat _ _ hK) fuel;exact k7 hcall.above _ _ hc
   . exact zD6 hK hm hcode hnat _ h
theorem zUf{J:Nat->Int}{K:zU}(hK:KnownOk J K)(hlen:LensAre wins L J)(hA:ArgsAre K.arg wins)(hG:P.globals.size<=G)(hm:P.follows .mixedOrders=true)(hcode:CodeOk P code)(hnat:∀J K,KnownOk J K->@NatsOk (linSym J K) P nat){F N:Nat}{x:Nx}(hsub:subC (x.pre++.l::x.q) c=some b)(hn:zt c=true)
 (hmid:x.mid=true) {xa xb:Code} (hat:atC x.pre c=some (.seq xa xb)) (hok:zUS P F N G K.arg wins L w0 fn c x.Ts x.pre xb) {ts:List Nat} {Y₀:Psi} {g₀:Fam} {n₀:Key} {w₀:World} {r:R} {e:Exit} {a:Act} {w:World}
 (ho:@xN (linSym J K) P F N Y₀ g₀ n₀ w₀ r e a w) (hf:zRZ P code nat fuel G (wsOf wins) L x (zS P F N c) J K ts r=true)
 (hb:Below w0.heap.size w0 w₀) (ho0:∀k o p,g₀ k=some o->o.isRo=false->Y₀ k=some p->w0.heap.size<=p.blk):QH P (x.pre++.l::x.q) c (zDS P fn w0) e a w:=by
 rw[zLE hat];obtain⟨hl,hr⟩:=ky (P:=P) (F:=F) (N:=N) hat;have hnab:zt xa=true/\zt xb=true:=by
  have:=uY hat hn
  simpa [zt]using this
 unfold zRZ at hf;rw[hmid]at hf;obtain⟨hs,h1⟩:=qg hf;obtain⟨o,h2⟩:=jR h1;rw[hl]at h2;have hc:=qH (λ_ h=>by cases h) h2
 letI S:Sym:=linSym J K
 haveI hS:SymFact P:=yn hK
 have hcall:yk P (ev P code nat fuel):=kZ (λcall hcall F N=>ym hm hcall) hcode (hnat _ _ hK) fuel;have hdraw:qc P F N (ev P code nat fuel):=ym hm hcall;refine u9 hcall hdraw x.q xa (zGT hat hsub) hnab.1 ho hc λe a w ho=>?_;rcases kR h2 ho with⟨rfl,tm,h,n,Y,t,T,k1,k2,k3,k4,k5⟩ |⟨_,r',_,k2⟩
 . show xb.wp P (QH P x.pre c (zDS P fn w0)) a w;rw[Bool.and_eq_true]at k4;obtain⟨k4,k4L⟩:=k4;obtain⟨q0,Ir,hI⟩:∃q0 Ir,t.I=q0::Ir:=by
    unfold uK at k4;split at k4
    . rename_i q Ir hq; exact⟨q,Ir,hq⟩
    . cases k4
   obtain⟨J'',YT,hi,_⟩:=zGF hK hlen k1 k2 hG hA k5 ⟨q0,by rw[hI]; rfl⟩ k4L ho0 hb;exact hok _ _ _ _ _ _ k3 hi
 . cases k2
theorem zVt{J:Nat->Int}{K:zU}(hK:KnownOk J K)(hlen:LensAre wins L J)(hA:ArgsAre K.arg wins)(hG:P.globals.size<=G)(hm:P.follows .mixedOrders=true)(hcode:CodeOk P code)(hnat:∀J K,KnownOk J K->@NatsOk (linSym J K) P nat){F N:Nat}(hsub:subC p c=some b)(hn:zt c=true)
 {x:Nx} (hnx:zG6 P F N G K.arg wins L w0 fn c p (some x)) {ts:List Nat} {Y₀:Psi} {g₀:Fam} {n₀:Key} {w₀:World} {r:R} {e:Exit} {a:Act} {w:World}
 (ho:@xN (linSym J K) P F N Y₀ g₀ n₀ w₀ r e a w) (hf:zRZ P code nat fuel G (wsOf wins) L x (zS P F N c) J K ts r=true)
 (hb:Below w0.heap.size w0 w₀) (ho0:∀k o p,g₀ k=some o->o.isRo=false->Y₀ k=some p->w0.heap.size<=p.blk):QH P p c (zDS P fn w0) e a w:=by
 obtain⟨rfl,hnx⟩:=hnx;refine hnx.elim (λhnx=>?_) (λ⟨hmid,xa,xb,hat,hok⟩=>zUf hK hlen hA hG hm hcode hnat hsub hn hmid hat hok ho hf hb ho0);obtain⟨hmid,⟨xa,xb,bl,hat,hsub2⟩,hok⟩:=hnx;unfold zRZ at hf;rw[hmid]at hf;rw[zLE hat];obtain⟨hl,hr⟩:=ky (P:=P) (F:=F) (N:=N) hat;have hnab:zt xa=true/\zt xb=true:=by
  have:=uY hat hn
  simpa [zt]using this
 obtain⟨hs,h1⟩:=qg hf;obtain⟨o,h2⟩:=jR h1;rw[hl,hr]at h2;have hc:=qH (λ_ h=>by cases h) h2
 letI S:Sym:=linSym J K
 haveI hS:SymFact P:=yn hK
 have hcall:yk P (ev P code nat fuel):=kZ (λcall hcall F N=>ym hm hcall) hcode (hnat _ _ hK) fuel;have hdraw:qc P F N (ev P code nat fuel):=ym hm hcall;have hab:=λtm ds h n=>k9 (P:=P) hcall.above x.q2 (zS P F N xb) tm ds h n;have hok2:=λt T J Y a w=>hok t T J Y a w bl hsub2;rw[zGX hat]at hok2;refine u9 hcall hdraw x.q xa (zGT hat hsub) hnab.1 ho (zIW hcall.above _ _ hc) λe a w ho=>?_;rcases kw hc ho with⟨rfl,tm',ds',h',n',Y',g2,g3,g4,g5⟩ |⟨g1,g2⟩
 . show xb.wp P (QH P x.pre c (zDS P fn w0)) a w;refine zBC hcall hdraw x.q2 xb (Q:=QH P x.pre c (zDS P fn w0)) (zDh hat hsub2) hnab.2 g2 g4 λe'' a'' w'' ho'=>?_;have ho2:=g5 e'' a'' w'' (xN.trans g3 ho');rcases kR h2 ho2 with⟨rfl,tm,h,n,Y,t,T,k1,k2,k3,k4,k5⟩ |⟨_,r',_,k2⟩
   . rw[Bool.and_eq_true]at k4;obtain⟨k4,k4L⟩:=k4;obtain⟨q0,Ir,hI⟩:∃q0 Ir,t.I=q0::Ir:=by
      unfold uK at k4;split at k4
      . rename_i q Ir hq; exact⟨q,Ir,hq⟩
      . cases k4
     obtain⟨J'',YT,hi,_⟩:=zGF hK hlen k1 k2 hG hA k5 ⟨q0,by rw[hI]; rfl⟩ k4L ho0 hb;exact⟨rfl,hok2 _ _ _ _ _ _ k3 hi⟩
   . cases k2
 . rcases kR h2 g2 with⟨rfl,_⟩ |⟨_,r',_,k2⟩
   . exact absurd rfl g1
   . cases k2
theorem zS7{J:Nat->Int}{K:zU}(hK:KnownOk J K)(hlen:LensAre wins L J)(hA:ArgsAre K.arg wins)(hG:P.globals.size<=G)(hm:P.follows .mixedOrders=true)(hcode:CodeOk P code)(hnat:∀J K,KnownOk J K->@NatsOk (linSym J K) P nat){F N:Nat}(hsub:subC p c=some b)(hn:zt c=true)
 (hrs:xH (xc P F N) fn.results.toList=some rs) (hnx:zG6 P F N G K.arg wins L w0 fn c p nx) {ts:List Nat} {Y₀:Psi} {g₀:Fam} {n₀:Key} {w₀:World} {r:R} {e:Exit} {a:Act} {w:World}
 (ho:@xN (linSym J K) P F N Y₀ g₀ n₀ w₀ r e a w) (hf:zMx P code nat fuel G (wsOf wins) L nx p (zS P F N c) rs J K ts r=true)
 (hb:Below w0.heap.size w0 w₀) (ho0:∀k o p,g₀ k=some o->o.isRo=false->Y₀ k=some p->w0.heap.size<=p.blk):QH P p c (zDS P fn w0) e a w:=by
 unfold zMx at hf;split at hf
 . exact zLd hK hm hcode hnat hsub hn hrs ho hf hb ho0
 . split at hf
   . exact zVt hK hlen hA hG hm hcode hnat hsub hn hnx ho hf hb ho0
   . exact zLd hK hm hcode hnat hsub hn hrs ho hf hb ho0
theorem zNI(hm:P.follows .mixedOrders=true)(hcode:CodeOk P code)(hnat:∀J K,KnownOk J K->@NatsOk (linSym J K) P nat)(hG:P.globals.size<=G){F N:Nat}(hsub:subC p c=some b)(hn:zt c=true)
 (hrs:xH (xc P F N) fn.results.toList=some rs) (hA:ArgsAre A wins) (hbd:boundIs bound Ts=true)
 (hnx:zG6 P F N G A wins L w0 fn c p nx) (hgood:zFR P code nat fuel G wins L A Ts nx p (zS P F N c) rs w0):∀(m:Nat) (t:Nat) (T:TS) (J:Nat->Int) (Y:Psi) (a:Act) (w:World),nth Ts t=some T->zO8 P F N G A wins L w0 T J Y a w->(bound - J 0).toNat<=m ->
 uQ P b (QH P p c (zDS P fn w0)) a w:=by
 have hnb:zt b=true:=by
  have:∀{p:List Stp} {c:Code},subC p c=some b->zt c=true->zt b=true:=by
   intro p;induction p with
   |nil=>
    intro c hs hn;cases c <;> try (cases hs; done)
    injection hs with hs; subst hs;simpa [zt]using hn
   |cons x p ih=>
    intro c hs hn;cases x <;> cases c <;> try (cases hs; done)
    . rename_i x y;have hn:zt x=true/\zt y=true:=by simpa [zt]using hn
      exact ih hs hn.1
    . rename_i x y;have hn:zt x=true/\zt y=true:=by simpa [zt]using hn
      exact ih hs hn.2
    . exact ih hs hn
  exact this hsub hn
 have step:∀(t:Nat) (T:TS) (J:Nat->Int) (Y:Psi) (a:Act) (w:World),nth Ts t=some T->zO8 P F N G A wins L w0 T J Y a w ->
  (∀(t':Nat) (T':TS) (J':Nat->Int) (Y':Psi) (a':Act) (w':World),nth Ts t'=some T'->zO8 P F N G A wins L w0 T' J' Y' a' w'->(bound - J' 0).toNat<(bound - J 0).toNat->uQ P b (QH P p c (zDS P fn w0)) a' w') ->
  uQ P b (QH P p c (zDS P fn w0)) a w:=by
  intro t T J Y a w hT hi hrec;obtain⟨J',K',l,hs,ts,hag,hagL,hKA,hK,hl,hap,hpass⟩:=hgood t T hT J hi.bnd hi.fct hi.rul hi.len;have hst:=zNn hi hag hKA hl hap;obtain⟨q1,r1,hb1,_⟩:=zCC hbd hT;have hag0:J' 0=J 0:=hag 0 (by rw[hb1]; simp);have hm0:∀k o p,zC.fam (mkH (mkH .nil T.objs) (zEG l)) k=some o->o.isRo=false->Y k=some p->w0.heap.size<=p.blk:=by
   intro k o p h1 h2 h3;rcases uW h1 with⟨cs,_,rfl⟩ |h1
   . cases h2
   . exact(hi.own k o p h1 h3).2
  letI S:Sym:=linSym J' K'
  haveI hS:SymFact P:=yn hK
  have hcall:yk P (ev P code nat fuel):=kZ (λcall hcall F N=>ym hm hcall) hcode (hnat _ _ hK) fuel;have hdraw:qc P F N (ev P code nat fuel):=ym hm hcall;unfold zSf at hpass;rw[@kx S P F N p c b hsub]at hpass;generalize hres:zq P (ev P code nat fuel) (zS P F N b) (wd T.locs) [] (mkH (mkH .nil T.objs) (zEG l)) T.n=r at hpass;obtain⟨hs',hchk⟩:∃x,km G (wsOf wins) Ts (λt=>u6 K' t.I&&jo t.I L) K' (zMx P code nat fuel G (wsOf wins) L nx p (zS P F N c) rs J' K' ts) r hs=some x:=by
   unfold wo at hpass;split at hpass
   . rename_i x hx; exact⟨x,hx⟩
   . cases hpass
  have hclean:zd r:=qH (zOO hK hm hcode hnat) hchk;have hsim:=kG hcall hdraw b hnb hst (by rw[hres]; exact hclean);rw[hres]at hsim;refine uz (wp_mono hsim λe a' w' ho=>?_);rcases kR hchk ho with⟨rfl,tm,h,n,Y',t',T',h1,h2,h3,h4,h5⟩ |⟨hne,r',h1,h2⟩
  . rw[Bool.and_eq_true]at h4;obtain⟨h4,h4L⟩:=h4;obtain⟨q0,Ir,hI,e1⟩:=zM2 hK h4;obtain⟨J'',YT,hinv,h0⟩:=zGF hK (λq hq=>by obtain⟨wn,g1,g2⟩:=hi.len q hq;exact⟨wn,g1,by rw[hagL q hq]; exact g2⟩) h1 h2 hG (by rw[hKA]; exact hA) h5 ⟨q0,by rw[hI]; rfl⟩ h4L hm0 hi.blw
    rw[hKA]at hinv;have hJ:J'' 0=J 0+1:=by rw[h0 q0 (by rw[hI]; rfl)];unfold evQ;rw[e1,hag0]
    obtain⟨q2,r2,hb2,hle⟩:=zCC hbd h3;have hbb:=hinv.bnd;rw[hb2]at hbb
    have:=hbb.1.2
    exact hrec t'.T T' J'' YT a' w' h3 hinv (by omega)
  . have:=zS7 hK (λq hq=>by obtain⟨wn,g1,g2⟩:=hi.len q hq;exact⟨wn,g1,by rw[hagL q hq]; exact g2⟩) (by rw[hKA]; exact hA) hG hm hcode hnat hsub hn hrs (by rw[hKA]; exact hnx) h1 h2 hi.blw hm0
    cases e <;> first |exact absurd rfl hne |exact this
 intro m;induction m with
 |zero=>intro t T J Y a w hT hi hm0;exact step t T J Y a w hT hi λt' T' J' Y' a' w' hT' hi' hlt=>by omega
 |succ m ih=>intro t T J Y a w hT hi hm0;exact step t T J Y a w hT hi λt' T' J' Y' a' w' hT' hi' hlt=>ih t' T' J' Y' a' w' hT' hi' (by omega)
theorem zQR(hm:P.follows .mixedOrders=true)(hcode:CodeOk P code)(hnat:∀J K,KnownOk J K->@NatsOk (linSym J K) P nat)(hG:P.globals.size<=G){F N:Nat}(hn:zt c=true)
 (hrs:xH (xc P F N) fn.results.toList=some rs) (hA:ArgsAre A wins) (hbd:boundIs bound Ts=true)
 (hnx:zG6 P F N G A wins L w0 fn c p nx) (hgood:zFR P code nat fuel G wins L A Ts nx p (zS P F N c) rs w0):LoopOk P F N G A wins L w0 fn c Ts p:=
 λt T J Y a w b hsub hT hi=>zNI hm hcode hnat hG hsub hn hrs hA hbd hnx hgood _ t T J Y a w hT hi (Nat.le_refl _)
theorem loopOk_fn{cc:CCode}{f:FuncId}(hm:P.follows .mixedOrders=true)(hcode:CodeOk P code)(hnat:∀J K,KnownOk J K->@NatsOk (linSym J K) P nat)(hG:P.globals.size<=G)(hf:P.funcs[f]? = some fn)(hb:fn.body=some c)(hcf:compFn P f=.mk cc rs)(hA:ArgsAre A wins)(hbd:boundIs bound Ts=true)
 (hnx:zG6 P (frameBits fn c) fn.ntmps G A wins L w0 fn c p nx) (hgood:zFR P code nat fuel G wins L A Ts nx p cc rs w0):LoopOk P (frameBits fn c) fn.ntmps G A wins L w0 fn c Ts p:=by
 obtain⟨hrs,hnr,rfl⟩:=compFn_inv hf hb hcf;exact zQR hm hcode hnat hG hnr hrs hA hbd hnx hgood
end
theorem zNl{code:FuncId->CFn}{nat:Nats}{fuel:Nat}{f:FuncId}{fn:Func}{c b:Code}{cc:CCode}{p:List Stp}{rs:List CRes}{G:Nat}{wins:List Win}{L:List (Key × Nat)}{A:Key->Option Value}{Ts:List TS}{w0:World}
 {J:Nat->Int} {K:zU} {args:List CV} {args':Array Value} {n:Key} {hs:List kn} (hK:KnownOk J K) (hKA:K.arg=A) (hlen:LensAre wins L J)
 (hm:P.follows .mixedOrders=true) (hcode:CodeOk P code) (hnat:∀J K,KnownOk J K->@NatsOk (linSym J K) P nat) (hf:P.funcs[f]? = some fn) (hb:fn.body=some c) (hcf:compFn P f=.mk cc rs) (hsub:subC p c=some b)
 (hG:P.globals.size<=G) (hn:G<=n.ix) (hw:zIi G n.ix (wsOf wins)=true) (hA:ArgsAre A wins)
 (hargs:@zP (linSym J K) (psiW G wins) args args'.toList) (hrun:startOf P code nat fuel G (wsOf wins) L Ts p cc args n (linSym J K) K hs=true)
 (hgood:LoopOk P (frameBits fn c) fn.ntmps G A wins L w0 fn c Ts p):Calls P f args' w0 λe w=>e=.returned (.bool true)/\Below w0.heap.size w0 w:=by
 obtain⟨hrs,hnr,rfl⟩:=compFn_inv hf hb hcf
 letI S:Sym:=linSym J K
 haveI hS:SymFact P:=yn hK
 have hcall:yk P (ev P code nat fuel):=kZ (λcall hcall F N=>ym hm hcall) hcode (hnat _ _ hK) fuel;have hdraw:∀F N,qc P F N (ev P code nat fuel):=λF N=>ym hm hcall;have hst:St P (frameBits fn c) fn.ntmps (psiW G wins) (qz args 0 .nil) [] .nil n { tmps:=args'++Array.replicate (fn.ntmps - args'.size) undef,defers:=[] } w0:=
  zD0 hcall hdraw hargs (zQU hG hw) (zLf _ _) (zOv hn hw)
 unfold startOf at hrun;generalize hres:zEk P (ev P code nat fuel) p (zS P (frameBits fn c) fn.ntmps c) (qz args 0 .nil) [] .nil n=r at hrun;obtain⟨hs',hchk⟩:∃x,km G (wsOf wins) Ts (λt=>uK t.I&&jo t.I L) K (λ_=>false) r hs=some x:=by
  unfold wo at hrun;split at hrun
  . rename_i x hx; exact⟨x,hx⟩
  . cases hrun
 have hclean:zd r:=qH (λ_ h=>by cases h) hchk;refine calls_of_wp_defers hf hb (zBC hcall (hdraw _ _) p c hsub hnr hst (by rw[hres]; exact hclean) λe a' w' ho=>?_);rw[hres]at ho;rcases kR hchk ho with⟨rfl,tm,h,n',Y',t',T',h1,h2,h3,h4,h5⟩ |⟨_,r',_,h2⟩
 . rw[Bool.and_eq_true]at h4;obtain⟨h4,h4L⟩:=h4;obtain⟨q0,Ir,hI⟩:∃q0 Ir,t'.I=q0::Ir:=by
    unfold uK at h4;split at h4
    . rename_i q Ir hq; exact⟨q,Ir,hq⟩
    . cases h4
   obtain⟨J'',YT,hinv,_⟩:=zGF hK hlen h1 h2 hG (by rw[hKA]; exact hA) h5 ⟨q0,by rw[hI]; rfl⟩ h4L (w0:=w0) (λk o p h1 _ _=>by have h1:zb k .nil=some o:=h1;rw[jG]at h1; cases h1) (Below.refl _ _)
   rw[hKA]at hinv;exact⟨rfl,hgood _ _ _ _ _ _ _ hsub h3 hinv⟩
 . cases h2
def zRF(P:Program)(code:FuncId->CFn)(nat:Nats)(fuel G:Nat)(ws L:List (Key × Nat))(Ts:List TS)(nx:Option Nx)(p:List Stp)(cc:CCode)(rs:List CRes)(T:TS)(e:Lf):Prop:=
 kH T.objs e.l=true/\∀(s:Nat->Int) (A:Key->Option Value),∃hs ts,zSf P code nat fuel G ws L Ts nx p cc rs T e.l s (e.known A) ts hs=true
def StateGoodM(P:Program)(code:FuncId->CFn)(nat:Nats)(fuel G:Nat)(ws L:List (Key × Nat))(Ts:List TS)(nx:Option Nx)(p:List Stp)(cc:CCode)(rs:List CRes)(ks:List (Key × Kd))(T:TS):Prop:=
 ∃(tree:LTree) (ls:List Lf),leaves ks tree ⟨T.b,T.f,T.r,[],1000⟩=some ls/\(Nat.ble (Nat.succ ks.length) T.b.length&&Nat.ble T.b.length 1000&&zAL T.b.length L)=true /\
  AllG (zRF P code nat fuel G ws L Ts nx p cc rs T) ls
theorem passes_allM{code:FuncId->CFn}{nat:Nats}{fuel G:Nat}{wins:List Win}{ws L:List (Key × Nat)}{A:Key->Option Value}{Ts:List TS}{p:List Stp}{cc:CCode}{rs:List CRes}{w0:World}{ks:List (Key × Kd)}
 (hws:wsOf wins=ws) (hA:ArgsAre A wins) (hwin:∀J,LensAre wins L J->WinIs wins w0 J ks) {nx:Option Nx} (h:AllS (StateGoodM P code nat fuel G ws L Ts nx p cc rs ks) Ts):zFR P code nat fuel G wins L A Ts nx p cc rs w0:=by
 intro t T hT J hb hf hr hlen;obtain⟨tree,ls,h1,h2,h3⟩:=zDY h hT;rw[Bool.and_eq_true,Bool.and_eq_true]at h2;have g1:=@zH noSym _ _ h2.1.1;have g2:=@zH noSym _ _ h2.1.2;obtain⟨e,hm,J',r1,r2⟩:=zh (wins:=wins) (w0:=w0) (i:=J 0) tree _ J h1 ⟨hb,hf,hr,λq hq=>by cases hq⟩ (hwin J hlen) rfl (by show ks.length<T.b.length; omega) g2 (Nat.le_refl _);obtain⟨hap,hall⟩:=zBd h3 e hm;obtain⟨hs,ts,hpass⟩:=hall J' A;refine⟨J',e.known A,e.l,hs,ts,λj hj=>r2 j (.inl hj),λq hq=>r2 _ (.inl (zBD h2.2 q hq)),rfl,r1.known A,λq hq=>r1.w q hq J' _ hA wY,hap,?_⟩;rw[hws];exact hpass
theorem calls_treeM{code:FuncId->CFn}{nat:Nats}{fuel:Nat}{f:FuncId}{fn:Func}{c b:Code}{cc:CCode}{p:List Stp}{rs:List CRes}{G:Nat}{wins:List Win}{ws L:List (Key × Nat)}{A:Key->Option Value}{Ts:List TS}{w0:World}
 {ks:List (Key × Kd)} {tree:LTree} {e0:Lf} {ls:List Lf} {J:Nat->Int} {args:List CV} {args':Array Value} {n:Key} (hws:wsOf wins=ws)
 (hls:leaves ks tree e0=some ls) (hchk:(Nat.ble (Nat.succ ks.length) e0.b.length&&Nat.ble e0.b.length 1000&&Nat.ble 1000 e0.u&&zAL e0.b.length L)=true)
 (hall:AllG (λe=>∀(s:Nat->Int) (A:Key->Option Value),∃hs,startOf P code nat fuel G ws L Ts p cc args n (linSym s (e.known A)) (e.known A) hs=true) ls)
 (h0:wz wins w0 (J 0) J e0) (hlen:LensAre wins L J) (hwin:∀J,LensAre wins L J->WinIs wins w0 J ks)
 (hm:P.follows .mixedOrders=true) (hcode:CodeOk P code) (hnat:∀J K,KnownOk J K->@NatsOk (linSym J K) P nat) (hf:P.funcs[f]? = some fn) (hb:fn.body=some c) (hcf:compFn P f=.mk cc rs) (hsub:subC p c=some b)
 (hG:P.globals.size<=G) (hn:G<=n.ix) (hw:zIi G n.ix ws=true) (hA:ArgsAre A wins)
 (hargs:∀J' K',K'.arg=A->(∀j,(j<e0.b.length\/(1000<=j/\j<e0.u))->J' j=J j)->@zP (linSym J' K') (psiW G wins) args args'.toList)
 (hgood:LoopOk P (frameBits fn c) fn.ntmps G A wins L w0 fn c Ts p):Calls P f args' w0 λe w=>e=.returned (.bool true)/\Below w0.heap.size w0 w:=by
 simp only[Bool.and_eq_true]at hchk;obtain⟨⟨⟨g1,g2⟩,g3⟩,g4⟩:=hchk;have g1:=@zH noSym _ _ g1;obtain⟨e,hmem,J',r1,r2⟩:=zh (wins:=wins) (w0:=w0) (i:=J 0) tree e0 J hls h0 (hwin J hlen) rfl (by omega) (@zH noSym _ _ g2) (@zH noSym _ _ g3);obtain⟨hs,hrun⟩:=zBd hall e hmem J' A;subst hws;exact zNl (K:=e.known A) (r1.known A) rfl (λq hq=>by obtain⟨wn,h1,h2⟩:=hlen q hq;exact⟨wn,h1,by rw[r2 _ (.inl (zBD g4 q hq))]; exact h2⟩) hm hcode hnat hf hb hcf hsub hG hn hw hA (hargs J' _ rfl r2) hrun hgood
section
variable{code:FuncId->CFn}{nat:Nats}{fuel:Nat}{p:List Stp}{rs:List CRes}{G:Nat}{ws L:List (Key × Nat)}{ks:List (Key × Kd)}{Ts:List TS}{nx:Option Nx}{cc:CCode}{T:TS}
def zST(P:Program)(code:FuncId->CFn)(nat:Nats)(fuel:Nat)(G:Nat)(ws L:List (Key × Nat))(Ts:List TS)(nx:Option Nx)(p:List Stp)(cc:CCode)(rs:List CRes)(T:TS)(l:List (Key × List CV))(s:Nat->Int)(K:zU)(t:List Nat × List Nat):Bool:=
 wu (zAX G ws Ts (λt=>u6 K t.I&&jo t.I L) K (zMx P code nat fuel G ws L nx p cc rs s K t.2) (@zq (linSym s K) P (@ev (linSym s K) P code nat fuel) (uc p cc) (wd T.locs) [] (mkH (mkH .nil T.objs) (zEG l)) T.n) t.1)
def zA1(f:Lf->List Nat × List Nat->Bool):List Lf->List (List Nat × List Nat)->Bool
 | [],[]=>true|e::l,t::r=>wF e (λe=>f e t)&&zA1 f l r|_,_=>false
theorem zCq{f:Lf->List Nat × List Nat->Bool}:∀{l:List Lf} {r:List (List Nat × List Nat)},zA1 f l r=true->∀e∈l,∃t,f e t=true
 | [],_,_,e,he=>by cases he|x::l,[],h,_,_=>by cases h|x::l,t::r,h,e,he=>by
  unfold zA1 at h;rw[Bool.and_eq_true,qL]at h;rcases List.mem_cons.1 he with rfl |he
  . exact⟨t,h.1⟩
  . exact zCq h.2 e he
def zGx(P:Program)(code:FuncId->CFn)(nat:Nats)(fuel:Nat)(G:Nat)(ws L:List (Key × Nat))(ks:List (Key × Kd))(Ts:List TS)(nx:Option Nx)(p:List Stp)(cc:CCode)(rs:List CRes)(T:TS)(tree:LTree)(tss:List (List Nat × List Nat))(s:Nat->Int)(A:Key->Option Value):Bool:=
 (match leaves ks tree ⟨T.b,T.f,T.r,[],1000⟩with
 |some ls=>zA1 (λe t=>kH T.objs e.l&&zST P code nat fuel G ws L Ts nx p cc rs T e.l s (e.known A) t) ls tss|none=>false)&&(Nat.ble (Nat.succ ks.length) T.b.length&&Nat.ble T.b.length 1000&&zAL T.b.length L)
theorem zLu{tree:LTree}{tss:List (List Nat × List Nat)}(h:∀s A,zGx P code nat fuel G ws L ks Ts nx p cc rs T tree tss s A=true):StateGoodM P code nat fuel G ws L Ts nx p cc rs ks T:=by
 have h0:=h (λ_=>0) (λ_=>none);unfold zGx at h0;rw[Bool.and_eq_true]at h0;split at h0
 . rename_i ls hls;refine⟨tree,ls,hls,h0.2,zKV λe he=>⟨?_,λs A=>?_⟩⟩
   . obtain⟨t,ht⟩:=zCq h0.1 e he;rw[Bool.and_eq_true]at ht;exact ht.1
   . have h1:=h s A;unfold zGx at h1;rw[Bool.and_eq_true,hls]at h1;obtain⟨t,ht⟩:=zCq h1.1 e he;rw[Bool.and_eq_true]at ht;obtain⟨hs,hp⟩:=qg ht.2;exact⟨hs,t.2,hp⟩
 . cases h0.1
def statesM(f:Nat->Bool):Nat->Nat->Bool
 |_,0=>true|a,n+1=>f a&&statesM f (Nat.succ a) n
theorem statesM_all{f:Nat->Bool}:∀{n a:Nat},statesM f a n=true->∀i,a<=i->i<a+n->f i=true
 | 0,a,_,i,h1,h2=>by omega|n+1,a,h,i,h1,h2=>by
  unfold statesM at h;rw[Bool.and_eq_true]at h;rcases Nat.eq_or_lt_of_le h1 with rfl |h1
  . exact h.1
  . exact statesM_all h.2 i h1 (by omega)
def mkTs(g:Nat->TS)(m n:Nat):List TS:=Nat.rec (motive:=λ_=>List TS) [] (λk ih=>g (Nat.sub m (Nat.succ k))::ih) n
theorem mkTs_all{Q:TS->Prop}{g:Nat->TS}{m:Nat}(h:∀i,i<m->Q (g i)):∀{n:Nat},n<=m->AllS Q (mkTs g m n)
 | 0,_=>zUA|n+1,hn=>zRI (h (m - (n+1)) (by omega)) (mkTs_all h (n:=n) (by omega))
end
section
variable{G:Nat}{ws:List (Key × Nat)}{Ts:List TS}{ok:kn->Bool}{K:zU}{fin:R->Bool}
def zFm(f:Nat->Tm->xz->zC->Key->Bool)(fin:R->Bool):R->List Nat->Option (List Nat)
 |.ok .normal tm ds h n,t::r=>match f t tm ds h n with
  |true=>some r|false=>none
 |.ok (.exit i) tm ds h n,r=>match fin (.ok (.exit i) tm ds h n)with
  |true=>some r|false=>none
 |.ok .ret tm ds h n,r=>match fin (.ok .ret tm ds h n)with
  |true=>some r|false=>none
 |.fork a b,r=>match zFm f fin a r with
  |some r=>zFm f fin b r|none=>none
 |_,_=>none
theorem zKC{f:Nat->Tm->xz->zC->Key->Bool}(hf:∀t tm ds h n,f t tm ds h n=true->uw G ws Ts ok K t tm ds h n=true):∀{r:R} {l l':List Nat},zFm f fin r l=some l'->zAX G ws Ts ok K fin r l=some l'
 |.ok .normal tm ds h n,[],_,hc=>by cases hc|.ok .normal tm ds h n,t::l,l',hc=>by
  unfold zFm at hc;split at hc
  . rename_i hl;unfold zAX;rw[hf _ _ _ _ _ hl];exact hc
  . cases hc
 |.ok (.exit i) tm ds h n,l,l',hc=>hc|.ok .ret tm ds h n,l,l',hc=>hc|.ret ..,l,l',hc=>by unfold zFm at hc; cases hc|.err _,l,l',hc=>by unfold zFm at hc; cases hc|.fork a b,l,l',hc=>by
  unfold zFm at hc;split at hc
  . rename_i r hr;unfold zAX;rw[zKC hf hr];exact zKC hf hc
  . cases hc
def zFs(t:Nat):List (Nat × TS)->Option TS
 | []=>none|q::r=>match Nat.beq q.1 t with
  |true=>some q.2|false=>zFs t r
def zTc(G:Nat)(ws:List (Key × Nat))(acc:List (Nat × TS))(ok:kn->Bool)(K:zU)(t:Nat)(tm:Tm)(ds:xz)(h:zC)(n:Key):Bool:=match ds with
 | []=>match zFs t acc with
  |some T=>Nat.ble (Nat.succ n.ix) 65535&&zB6 T.sl tm h n λtm h n=>zDo t T tm h λx=>ok x&&zPT G ws T x.ks x.I K tm h
  |none=>false
 |_=>false
theorem zVq{acc:List (Nat × TS)}(hacc:∀t T,zFs t acc=some T->nth Ts t=some T){t:Nat}{tm:Tm}{ds:xz}{h:zC}{n:Key}(hl:zTc G ws acc ok K t tm ds h n=true):uw G ws Ts ok K t tm ds h n=true:=by
 unfold zTc at hl;split at hl
 . split at hl
   . rename_i T hT;unfold uw;simp only[hacc t T hT];rw[wy];exact hl
   . cases hl
 . cases hl
def zG9(g:Nat->TS)(m:Nat):List Nat->List (Nat × TS)->(List (Nat × TS)->Bool)->Bool
 | [],acc,k=>k acc|t::r,acc,k=>match zFs t acc with
  |some _=>zG9 g m r acc k|none=>Nat.ble (Nat.succ t) m&&zMQ (g t) λT=>zG9 g m r ((t,T)::acc) k
theorem zD8{g:Nat->TS}{m:Nat}{k:List (Nat × TS)->Bool}:∀{l:List Nat} {acc:List (Nat × TS)},zG9 g m l acc k=true->(∀t T,zFs t acc=some T->T=g t/\t<m) ->
 ∃acc',(∀t T,zFs t acc'=some T->T=g t/\t<m)/\k acc'=true
 | [],acc,h,ha=>⟨acc,ha,h⟩
 |t::r,acc,h,ha=>by
  unfold zG9 at h;split at h
  . exact zD8 h ha
  . rw[Bool.and_eq_true,wy]at h;refine zD8 h.2 λt' T hT=>?_;unfold zFs at hT;split at hT
    . rename_i e;injection hT with hT;have e:=@ze noSym _ _ e;simp only at e hT;subst e;exact⟨hT.symm,@zH noSym _ _ h.1⟩
    . exact ha t' T hT
end
theorem zLz{g:Nat->TS}{m:Nat}:∀{n t:Nat},n<=m->t<n->nth (mkTs g m n) t=some (g (m - n+t))
 | 0,t,_,h=>by omega|n+1,0,_,_=>rfl|n+1,t+1,h1,h2=>by
  show nth (mkTs g m n) t=_;rw[zLz (n:=n) (t:=t) (by omega) (by omega)]
  congr 2
  omega
def zWE:List (List Nat × List Nat)->List Nat
 | []=>[]
 |q::r=>q.1++zWE r
theorem zFd{f f':Lf->List Nat × List Nat->Bool}(hf:∀e t,f e t=true->f' e t=true):∀{l:List Lf} {r:List (List Nat × List Nat)},zA1 f l r=true->zA1 f' l r=true
 | [],[],_=>rfl| [],_::_,h=>by cases h|_::_,[],h=>by cases h|e::l,t::r,h=>by unfold zA1 at h ⊢;rw[Bool.and_eq_true,qL]at h;rw[Bool.and_eq_true,qL];exact⟨hf e t h.1,zFd hf h.2⟩
section
variable{code:FuncId->CFn}{nat:Nats}{fuel:Nat}{p:List Stp}{rs:List CRes}{G:Nat}{ws L:List (Key × Nat)}{ks:List (Key × Kd)}{nx:Option Nx}{cc:CCode}{T:TS}
def stateY(P:Program)(code:FuncId->CFn)(nat:Nats)(fuel:Nat)(G:Nat)(ws L:List (Key × Nat))(ks:List (Key × Kd))(g:Nat->TS)(m:Nat)(nx:Option Nx)(p:List Stp)(cc:CCode)(rs:List CRes)(T:TS)(tree:LTree)(tss:List (List Nat × List Nat))(s:Nat->Int)(A:Key->Option Value):Bool:=
 zMQ T λT=>zG9 g m (zWE tss) [] λacc=>(match leaves ks tree ⟨T.b,T.f,T.r,[],1000⟩with
 |some ls=>zA1 (λe t=>kH T.objs e.l&&wu (zFm (zTc G ws acc (λt=>u6 (e.known A) t.I&&jo t.I L) (e.known A)) (zMx P code nat fuel G ws L nx p cc rs s (e.known A) t.2) (@zq (linSym s (e.known A)) P (@ev (linSym s (e.known A)) P code nat fuel) (uc p cc) (wd T.locs) [] (mkH (mkH .nil T.objs) (zEG e.l)) T.n) t.1)) ls tss|none=>false)&&(Nat.ble (Nat.succ ks.length) T.b.length&&Nat.ble T.b.length 1000&&zAL T.b.length L)
theorem zSV{g:Nat->TS}{m:Nat}{tree:LTree}{tss:List (List Nat × List Nat)}{s:Nat->Int}{A:Key->Option Value}(h:stateY P code nat fuel G ws L ks g m nx p cc rs T tree tss s A=true):zGx P code nat fuel G ws L ks (mkTs g m m) nx p cc rs T tree tss s A=true:=by
 unfold stateY at h;rw[wy]at h;obtain⟨acc,ha,h⟩:=zD8 h (λt T hT=>by cases hT);have hacc:∀t T,zFs t acc=some T->nth (mkTs g m m) t=some T:=λt T hT=>by obtain⟨e,hlt⟩:=ha t T hT;rw[zLz (Nat.le_refl _) hlt,e,Nat.sub_self,Nat.zero_add]
 unfold zGx;rw[Bool.and_eq_true]at h ⊢;refine⟨?_,h.2⟩;have h1:=h.1;split at h1
 . rename_i ls hls;refine zFd (λe t ht=>?_) h1;rw[Bool.and_eq_true]at ht ⊢;refine⟨ht.1,?_⟩;have h2:=ht.2;unfold zST;unfold wu at h2 ⊢;split at h2
   . rename_i x hx;rw[zKC (λt tm ds h n hl=>zVq hacc hl) hx]
   . cases h2
 . cases h1
theorem stateY_good{g:Nat->TS}{m:Nat}{tree:LTree}{tss:List (List Nat × List Nat)}(h:∀s A,stateY P code nat fuel G ws L ks g m nx p cc rs T tree tss s A=true):StateGoodM P code nat fuel G ws L (mkTs g m m) nx p cc rs ks T:=
 zLu (tree:=tree) (tss:=tss) λs A=>zSV (h s A)
end
def zFN(f:Lf->List Nat × List Nat->Bool)(ls:List Lf)(tss:List (List Nat × List Nat)):Nat->Nat->Bool
 |_,0=>true|a,n+1=>(match nth ls a,nth tss a with
  |some e,some t=>wF e (λe=>f e t)|_,_=>false)&&zFN f ls tss (Nat.succ a) n
theorem zFb{f:Lf->List Nat × List Nat->Bool}{ls:List Lf}{tss:List (List Nat × List Nat)}:∀{n a:Nat},zFN f ls tss a n=true->∀i,a<=i->i<a+n->∃e t,nth ls i=some e/\f e t=true
 | 0,a,_,i,h1,h2=>by omega|n+1,a,h,i,h1,h2=>by
  unfold zFN at h;rw[Bool.and_eq_true]at h;rcases Nat.eq_or_lt_of_le h1 with rfl |h1
  . have h3:=h.1;split at h3
    . rename_i e t he ht;rw[qL]at h3;exact⟨e,t,he,h3⟩
    . cases h3
  . exact zFb h.2 i h1 (by omega)
section
variable{code:FuncId->CFn}{nat:Nats}{fuel:Nat}{p:List Stp}{rs:List CRes}{G:Nat}{ws L:List (Key × Nat)}{ks:List (Key × Kd)}{nx:Option Nx}{cc:CCode}{T:TS}
def stateY0(ks:List (Key × Kd))(L:List (Key × Nat))(T:TS)(tree:LTree)(N:Nat):Bool:=
 zMQ T λT=>(match leaves ks tree ⟨T.b,T.f,T.r,[],1000⟩with
 |some ls=>Nat.beq ls.length N|none=>false)&&(Nat.ble (Nat.succ ks.length) T.b.length&&Nat.ble T.b.length 1000&&zAL T.b.length L)
end
end
end Go.Ev
namespace Go.Ev
open Go.RowKit
noncomputable section
section
variable{P:Program}{code:FuncId->CFn}{nat:Nats}{fuel:Nat}{fn:Func}{c:Code}{G:Nat}{wins:List Win}{ws L:List (Key × Nat)}{A:Key->Option Value}{w0:World}{F N:Nat}
def zVD(P:Program)(code:FuncId->CFn)(nat:Nats)(fuel:Nat)(G:Nat)(ws L:List (Key × Nat))(TsB:List TS)(q2 pre:List Stp)(cc:CCode)(T:TS)(l:List (Key × List CV))(s:Nat->Int)(K:zU)(ts:List Nat):Bool:=
 wu (zAX G ws TsB (λt=>uK t.I&&jo t.I L) K (λ_=>false) (@zEk (linSym s K) P (@ev (linSym s K) P code nat fuel) q2 (zEm pre cc) (wd T.locs) [] (mkH (mkH .nil T.objs) (zEG l)) T.n) ts)
def MidGood(P:Program)(code:FuncId->CFn)(nat:Nats)(fuel:Nat)(G:Nat)(ws L:List (Key × Nat))(TsB:List TS)(q2 pre:List Stp)(cc:CCode)(ks:List (Key × Kd))(T:TS):Prop:=
 ∃(tree:LTree) (ls:List Lf),leaves ks tree ⟨T.b,T.f,T.r,[],1000⟩=some ls/\(Nat.ble (Nat.succ ks.length) T.b.length&&Nat.ble T.b.length 1000&&zAL T.b.length L)=true /\
  AllG (λe=>kH T.objs e.l=true/\∀(s:Nat->Int) (A:Key->Option Value),∃ts,zVD P code nat fuel G ws L TsB q2 pre cc T e.l s (e.known A) ts=true) ls
theorem midOk_of{ks:List (Key × Kd)}{TsM TsB:List TS}{q2 pre:List Stp}{xa xb bl:Code}(hm:P.follows .mixedOrders=true)(hcode:CodeOk P code)(hnat:∀J K,KnownOk J K->@NatsOk (linSym J K) P nat)(hG:P.globals.size<=G)(hn:zt c=true)(hA:ArgsAre A wins)(hws:wsOf wins=ws)(hwin:∀J,LensAre wins L J->WinIs wins w0 J ks)
 (hat:atC pre c=some (.seq xa xb)) (hsub2:subC (pre++.r::q2) c=some bl) (hok:LoopOk P F N G A wins L w0 fn c TsB (pre++.r::q2)) (h:AllS (MidGood P code nat fuel G ws L TsB q2 pre (zS P F N c) ks) TsM):zUS P F N G A wins L w0 fn c TsM pre xb:=by
 intro t T J Y a w hT hi;obtain⟨tree,ls,h1,h2,h3⟩:=zDY h hT;rw[Bool.and_eq_true,Bool.and_eq_true]at h2;have g1:=@zH noSym _ _ h2.1.1;have g2:=@zH noSym _ _ h2.1.2;obtain⟨e,hmem,J',r1,r2⟩:=zh (wins:=wins) (w0:=w0) (i:=J 0) tree _ J h1 ⟨hi.bnd,hi.fct,hi.rul,λq hq=>by cases hq⟩ (hwin J hi.len) rfl (by show ks.length<T.b.length; omega) g2 (Nat.le_refl _);obtain⟨hap,hall⟩:=zBd h3 e hmem;obtain⟨ts,hrun⟩:=hall J' A;have hK:KnownOk J' (e.known A):=r1.known A;have hst:=zNn hi (K':=e.known A) (λj hj=>r2 j (.inl hj)) rfl (λq hq=>r1.w q hq J' _ hA wY) hap;have hm0:∀k o p,zC.fam (mkH (mkH .nil T.objs) (zEG e.l)) k=some o->o.isRo=false->Y k=some p->w0.heap.size<=p.blk:=by
  intro k o p h1 h2 h3;rcases uW h1 with⟨cs,_,rfl⟩ |h1
  . cases h2
  . exact(hi.own k o p h1 h3).2
 have hnab:zt xa=true/\zt xb=true:=by
  have:=uY hat hn
  simpa [zt]using this
 obtain⟨_,hr⟩:=ky (P:=P) (F:=F) (N:=N) hat;unfold zVD at hrun;rw[hr]at hrun;obtain⟨hs,q1⟩:=qg hrun;obtain⟨o,q2'⟩:=jR q1
 letI S:Sym:=linSym J' (e.known A)
 haveI hS:SymFact P:=yn hK
 have hcall:yk P (ev P code nat fuel):=kZ (λcall hcall F N=>ym hm hcall) hcode (hnat _ _ hK) fuel;have hdraw:qc P F N (ev P code nat fuel):=ym hm hcall;have hok2:=λt T J Y a w=>hok t T J Y a w bl hsub2;rw[zGX hat]at hok2;refine zBC hcall hdraw q2 xb (Q:=QH P pre c (zDS P fn w0)) (zDh hat hsub2) hnab.2 hst (qH (λ_ h=>by cases h) q2') λe'' a'' w'' ho=>?_;rcases kR q2' ho with⟨rfl,tm,h,n,Y',t',T',k1,k2,k3,k4,k5⟩ |⟨_,r',_,k2⟩
 . rw[Bool.and_eq_true]at k4;obtain⟨k4,k4L⟩:=k4;obtain⟨q0,Ir,hI⟩:∃q0 Ir,t'.I=q0::Ir:=by
    unfold uK at k4;split at k4
    . rename_i q Ir hq; exact⟨q,Ir,hq⟩
    . cases k4
   rw[<- hws]at k5;obtain⟨J'',YT,hinv,_⟩:=zGF hK (λq hq=>by obtain⟨wn,z1,z2⟩:=hi.len q hq;exact⟨wn,z1,by rw[r2 _ (.inl (zBD h2.2 q hq))]; exact z2⟩) k1 k2 hG hA k5 ⟨q0,by rw[hI]; rfl⟩ k4L hm0 hi.blw
   exact⟨rfl,hok2 _ _ _ _ _ _ k3 hinv⟩
 . cases k2
def stateMP(P:Program)(code:FuncId->CFn)(nat:Nats)(fuel:Nat)(G:Nat)(ws L:List (Key × Nat))(ks:List (Key × Kd))(TsB:List TS)(q2 pre:List Stp)(cc:CCode)(T:TS)(tree:LTree)(tss:List (List Nat × List Nat))(a n:Nat)(s:Nat->Int)(A:Key->Option Value):Bool:=
 zMQ T λT=>match leaves ks tree ⟨T.b,T.f,T.r,[],1000⟩with
 |some ls=>zFN (λe t=>kH T.objs e.l&&zVD P code nat fuel G ws L TsB q2 pre cc T e.l s (e.known A) t.2) ls tss a n|none=>false
theorem stateMP_good{ks:List (Key × Kd)}{TsB:List TS}{q2 pre:List Stp}{cc:CCode}{T:TS}{M:Nat}{tree:LTree}{tss:List (List Nat × List Nat)}(h0:stateY0 ks L T tree M=true)
 (h:∀i,i<M->∃a n,a<=i/\i<a+n/\∀s A,stateMP P code nat fuel G ws L ks TsB q2 pre cc T tree tss a n s A=true):MidGood P code nat fuel G ws L TsB q2 pre cc ks T:=by
 unfold stateY0 at h0;rw[wy,Bool.and_eq_true]at h0;obtain⟨h1,h2⟩:=h0;split at h1
 . rename_i ls hls;have hN:=@ze noSym _ _ h1;have key:∀e∈ls,∀(s:Nat->Int) (A:Key->Option Value),∃t:List Nat × List Nat,kH T.objs e.l=true/\zVD P code nat fuel G ws L TsB q2 pre cc T e.l s (e.known A) t.2=true:=by
    intro e he s A;obtain⟨i,hi,hie⟩:=List.mem_iff_getElem.1 he;obtain⟨a,n,q1,q2,q3⟩:=h i (by omega);have h3:=q3 s A;unfold stateMP at h3;rw[wy]at h3;simp only[hls]at h3;obtain⟨e',t,g1,g2⟩:=zFb h3 i q1 q2
    have:e'=e:=by rw[@nth_eq noSym,List.getElem?_eq_getElem hi]at g1;injection g1 with g1;rw[<- g1,hie]
    subst this;rw[Bool.and_eq_true]at g2;exact⟨t,g2⟩
   refine⟨tree,ls,hls,h2,zKV λe he=>⟨?_,λs A=>?_⟩⟩
   . exact(key e he (λ_=>0) (λ_=>none)).choose_spec.1
   . obtain⟨t,_,hr⟩:=key e he s A;exact⟨t.2,hr⟩
 . cases h1
end
end
end Go.Ev
