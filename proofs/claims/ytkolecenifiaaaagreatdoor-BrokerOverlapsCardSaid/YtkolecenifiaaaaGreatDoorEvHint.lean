/- A verified evaluator for the model's code: EvPick, EvCut, EvHintA, EvCut2, EvHint. -/
import Derived.Test.YtkolecenifiaaaaGreatDoorEvTree
set_option linter.unusedSectionVars false
set_option linter.unusedVariables false
set_option linter.unusedSimpArgs false
namespace Go.Ev
noncomputable section
variable{P:Program}
inductive FT where
 |leaf
 |node (a b:FT)
def FT.paths:FT->List (List Bool)
 |.leaf=>[[]]
 |.node a b=>a.paths.map (false :: ·)++b.paths.map (true :: ·)
theorem FT.some:∀(t:FT),∃p,p∈t.paths
 |.leaf=>⟨[],by simp[FT.paths]⟩
 |.node a b=>by obtain⟨p,hp⟩:=FT.some a;exact⟨false::p,by simp[FT.paths,hp]⟩
section
variable{G:Nat}{ws:List (Key × Nat)}{Ts:List TS}{ok:kn->Bool}{K:zU}
end
theorem jR{o:Option (List kn)}(h:wo o=true):∃x,o=some x:=by
 unfold wo at h;split at h
 . exact⟨_,rfl⟩
 . cases h
end
end Go.Ev
namespace Go.Ev
open Go.RowKit
noncomputable section
variable{P:Program}
section
variable{S S':Sym}(hv:@Sym.val S=@Sym.val S')(ha:@Sym.arg S=@Sym.arg S')
include hv ha
end
inductive CT where
 |leaf
 |cmp (l:LL) (cut:Int) (a b:CT)
def atC:List Stp->Code->Option Code
 | [],c=>some c|.l::p,.seq x _=>atC p x|.r::p,.seq _ y=>atC p y|.b::p,.block _ x=>atC p x|_,_=>none
def zIH:List Stp->CCode->CCode
 | [],.seq a _=>a|.l::p,.seq a _=>zIH p a|.r::p,.seq _ b=>zIH p b|.b::p,.block _ x=>zIH p x|_,_=>.bad 52
def zEm:List Stp->CCode->CCode
 | [],.seq _ b=>b|.l::p,.seq a _=>zEm p a|.r::p,.seq _ b=>zEm p b|.b::p,.block _ x=>zEm p x|_,_=>.bad 53
theorem ky{F N:Nat}:∀{p:List Stp} {c a b:Code},atC p c=some (.seq a b)->zIH p (zS P F N c)=zS P F N a/\zEm p (zS P F N c)=zS P F N b
 | [],c,a,b,h=>by injection h with h; subst h; exact⟨rfl,rfl⟩
 |.l::p,c,a,b,h=>by cases c <;> first |exact ky (p:=p) h |cases h
 |.r::p,c,a,b,h=>by cases c <;> first |exact ky (p:=p) h |cases h
 |.b::p,c,a,b,h=>by cases c <;> first |exact ky (p:=p) h |cases h
theorem zGT{q:List Stp}{bl:Code}:∀{p:List Stp} {c a b:Code},atC p c=some (.seq a b)->subC (p++.l::q) c=some bl->subC q a=some bl
 | [],c,a,b,h,hs=>by injection h with h; subst h; exact hs
 |.l::p,c,a,b,h,hs=>by cases c <;> first |exact zGT (p:=p) h hs |cases h
 |.r::p,c,a,b,h,hs=>by cases c <;> first |exact zGT (p:=p) h hs |cases h
 |.b::p,c,a,b,h,hs=>by cases c <;> first |exact zGT (p:=p) h hs |cases h
theorem uY:∀{p:List Stp} {c x:Code},atC p c=some x->zt c=true->zt x=true
 | [],c,x,h,hn=>by injection h with h; subst h; exact hn
 |.l::p,c,x,h,hn=>by
  cases c <;> try (cases h; done)
  rename_i y z;have hnr:zt y=true/\zt z=true:=by simpa [zt]using hn
  exact uY (p:=p) h hnr.1
 |.r::p,c,x,h,hn=>by
  cases c <;> try (cases h; done)
  rename_i y z;have hnr:zt y=true/\zt z=true:=by simpa [zt]using hn
  exact uY (p:=p) h hnr.2
 |.b::p,c,x,h,hn=>by cases c <;> first |exact uY (p:=p) h hn |cases h
theorem zLE{q:List Stp}:∀{p:List Stp} {c a b:Code} {Q:Exit->Act->World->Prop},atC p c=some (.seq a b)->QH P (p++.l::q) c Q=QH P q a (Exit.then (b.wp P (QH P p c Q)) (QH P p c Q))
 | [],c,a,b,Q,h=>by injection h with h; subst h; rfl
 |.l::p,c,a,b,Q,h=>by
  cases c <;> try (cases h; done)
  rename_i y z;exact zLE (p:=p) (Q:=Exit.then (z.wp P Q) Q) h
 |.r::p,c,a,b,Q,h=>by
  cases c <;> try (cases h; done)
  exact zLE (p:=p) h
 |.b::p,c,a,b,Q,h=>by
  cases c <;> try (cases h; done)
  exact zLE (p:=p) h
section
variable[Sym][SymFact P]{F N:Nat}{call:yw}
end
section
variable{code:FuncId->CFn}{nat:Nats}{fuel:Nat}
section
variable{J:Nat->Int}{K:zU}{fn:Func}{c a b bl:Code}{pre q:List Stp}{j:Nat}{rs:List CRes}{F N:Nat}{w0:World}
end
end
end
end Go.Ev
namespace Go.Ev
open Go.RowKit
noncomputable section
variable{P:Program}
structure HA where
 f:List Key
 b:List Key
 c:Nat
 th:List (Nat × Int × LL)
def zWi(k j:Key)(a:HA):HA:=match Nat.beq k.ix a.c with
 |true=>⟨a.f,j::a.b,Nat.succ a.c,a.th⟩
 |false=>a
def zYq(z:Int):LL->LL
 | []=>[]
 |p::r=>(p.1,p.2 / z)::zYq z r
def zYo(e:SE)(v:CV)(a:HA):HA:=match e.l with
 | [(j,z)]=>match zm z 1 with
  |true=>match zCh v with
   |some (_,c,l)=>⟨a.f,a.b,a.c,(j,c - e.c,l)::a.th⟩
   |none=>a
  |false=>match zCh v with
   |some (_,c,l)=>⟨a.f,a.b,a.c,(j,(c - e.c) / z,zYq z l)::a.th⟩
   |none=>a
 |_=>a
def zYI(s:List Nat):List (List Nat)->Nat->Nat
 | [],n=>n|x::r,n=>match qY x s with
  |true=>n|false=>zYI s r (Nat.succ n)
def zYb(i:Nat)(t:List (List Nat))(d:CV)(a:HA):HA:=match d with
 |.str s=>⟨a.f,a.b,a.c,(i,(.ofNat (zYI s t 0)),[])::a.th⟩
 |.few j _=>⟨a.f,a.b,a.c,(i,0,[(j,1)])::a.th⟩
 |_=>a
def hV(c:CV):CV->HA->HA:=CV.rec (motive_1:=λ_=>CV->HA->HA) (motive_2:=λ_=>List CV->HA->HA)
 (λx0 d a=>a)
 (λx0 d a=>a)
 (λx0 x1 d a=>a)
 (λx0 d a=>a)
 (λx0 d a=>a)
 (λd a=>a)
 (λx0 x1 d a=>(CV.rec (motive_1:=λ_=>HA->HA) (motive_2:=λ_=>Unit) (λ_=>(λa=>a)) (λ_=>(λa=>a)) (λ_ _=>(λa=>a)) (λ_=>(λa=>a)) (λ_=>(λa=>a)) (λa=>a) (λy0 y1=>(λa=>zWi x0 y0 a)) (λa=>a) (λ_ _ _ _ _ _=>(λa=>a)) (λa=>a) (λ_=>(λa=>a)) (λ_ _ _ _ _=>(λa=>a)) (λa=>a) (λ_ _ _=>(λa=>a)) (λa=>a) (λ_ _=>(λa=>a)) (λ_ _=>(λa=>a)) (λ_=>(λa=>a)) (λ_ _ _ _=>(λa=>a)) (λ_ _=>(λa=>a)) (λ_=>(λa=>a)) (λ_ _=>(λa=>a)) (λ_ _ _ _=>(λa=>a)) (λa=>a) () (λ_ _ _ _=>()) d) a)
 (λd a=>a)
 (λx0 x1 x2 x3 x4 x5 d a=>(CV.rec (motive_1:=λ_=>HA->HA) (motive_2:=λ_=>Unit) (λ_=>(λa=>a)) (λ_=>(λa=>a)) (λ_ _=>(λa=>a)) (λ_=>(λa=>a)) (λ_=>(λa=>a)) (λa=>a) (λ_ _=>(λa=>a)) (λa=>a) (λy0 y1 y2 y3 y4 y5=>(λa=>zWi x0 y0 a)) (λa=>a) (λ_=>(λa=>a)) (λ_ _ _ _ _=>(λa=>a)) (λa=>a) (λ_ _ _=>(λa=>a)) (λa=>a) (λ_ _=>(λa=>a)) (λ_ _=>(λa=>a)) (λ_=>(λa=>a)) (λ_ _ _ _=>(λa=>a)) (λ_ _=>(λa=>a)) (λ_=>(λa=>a)) (λ_ _=>(λa=>a)) (λ_ _ _ _=>(λa=>a)) (λa=>a) () (λ_ _ _ _=>()) d) a)
 (λd a=>a)
 (λx0 d a=>(CV.rec (motive_1:=λ_=>HA->HA) (motive_2:=λ_=>Unit) (λ_=>(λa=>a)) (λ_=>(λa=>a)) (λ_ _=>(λa=>a)) (λ_=>(λa=>a)) (λ_=>(λa=>a)) (λa=>a) (λ_ _=>(λa=>a)) (λa=>a) (λ_ _ _ _ _ _=>(λa=>a)) (λa=>a) (λy0=>(λa=>zWi x0 y0 a)) (λ_ _ _ _ _=>(λa=>a)) (λa=>a) (λ_ _ _=>(λa=>a)) (λa=>a) (λ_ _=>(λa=>a)) (λ_ _=>(λa=>a)) (λ_=>(λa=>a)) (λ_ _ _ _=>(λa=>a)) (λ_ _=>(λa=>a)) (λ_=>(λa=>a)) (λ_ _=>(λa=>a)) (λ_ _ _ _=>(λa=>a)) (λa=>a) () (λ_ _ _ _=>()) d) a)
 (λx0 x1 x2 ha hc d a=>(CV.rec (motive_1:=λ_=>HA->HA) (motive_2:=λ_=>Unit) (λ_=>(λa=>a)) (λ_=>(λa=>a)) (λ_ _=>(λa=>a)) (λ_=>(λa=>a)) (λ_=>(λa=>a)) (λa=>a) (λ_ _=>(λa=>a)) (λa=>a) (λ_ _ _ _ _ _=>(λa=>a)) (λa=>a) (λ_=>(λa=>a)) (λy0 y1 y2 _ _=>(λa=>hc y2 (ha y1 a))) (λa=>a) (λ_ _ _=>(λa=>a)) (λa=>a) (λ_ _=>(λa=>a)) (λ_ _=>(λa=>a)) (λ_=>(λa=>a)) (λ_ _ _ _=>(λa=>a)) (λ_ _=>(λa=>a)) (λ_=>(λa=>a)) (λ_ _=>(λa=>a)) (λ_ _ _ _=>(λa=>a)) (λa=>a) () (λ_ _ _ _=>()) d) a)
 (λd a=>a)
 (λx0 x1 hv d a=>(CV.rec (motive_1:=λ_=>HA->HA) (motive_2:=λ_=>Unit) (λ_=>(λa=>a)) (λ_=>(λa=>a)) (λ_ _=>(λa=>a)) (λ_=>(λa=>a)) (λ_=>(λa=>a)) (λa=>a) (λ_ _=>(λa=>a)) (λa=>a) (λ_ _ _ _ _ _=>(λa=>a)) (λa=>a) (λ_=>(λa=>a)) (λ_ _ _ _ _=>(λa=>a)) (λa=>a) (λy0 y1 _=>(λa=>hv y1 a)) (λa=>a) (λ_ _=>(λa=>a)) (λ_ _=>(λa=>a)) (λ_=>(λa=>a)) (λ_ _ _ _=>(λa=>a)) (λ_ _=>(λa=>a)) (λ_=>(λa=>a)) (λ_ _=>(λa=>a)) (λ_ _ _ _=>(λa=>a)) (λa=>a) () (λ_ _ _ _=>()) d) a)
 (λd a=>a)
 (λx0 hl d a=>(CV.rec (motive_1:=λ_=>HA->HA) (motive_2:=λ_=>Unit) (λ_=>(λa=>a)) (λ_=>(λa=>a)) (λ_ _=>(λa=>a)) (λ_=>(λa=>a)) (λ_=>(λa=>a)) (λa=>a) (λ_ _=>(λa=>a)) (λa=>a) (λ_ _ _ _ _ _=>(λa=>a)) (λa=>a) (λ_=>(λa=>a)) (λ_ _ _ _ _=>(λa=>a)) (λa=>a) (λ_ _ _=>(λa=>a)) (λa=>a) (λy0 _=>(λa=>hl y0 a)) (λ_ _=>(λa=>a)) (λ_=>(λa=>a)) (λ_ _ _ _=>(λa=>a)) (λ_ _=>(λa=>a)) (λ_=>(λa=>a)) (λ_ _=>(λa=>a)) (λ_ _ _ _=>(λa=>a)) (λa=>a) () (λ_ _ _ _=>()) d) a)
 (λx0 hl d a=>(CV.rec (motive_1:=λ_=>HA->HA) (motive_2:=λ_=>Unit) (λ_=>(λa=>a)) (λ_=>(λa=>a)) (λ_ _=>(λa=>a)) (λ_=>(λa=>a)) (λ_=>(λa=>a)) (λa=>a) (λ_ _=>(λa=>a)) (λa=>a) (λ_ _ _ _ _ _=>(λa=>a)) (λa=>a) (λ_=>(λa=>a)) (λ_ _ _ _ _=>(λa=>a)) (λa=>a) (λ_ _ _=>(λa=>a)) (λa=>a) (λ_ _=>(λa=>a)) (λy0 _=>(λa=>hl y0 a)) (λ_=>(λa=>a)) (λ_ _ _ _=>(λa=>a)) (λ_ _=>(λa=>a)) (λ_=>(λa=>a)) (λ_ _=>(λa=>a)) (λ_ _ _ _=>(λa=>a)) (λa=>a) () (λ_ _ _ _=>()) d) a)
 (λx0 d a=>zYo x0 d a)
 (λx0 x1 x2 x3 d a=>a)
 (λx0 hl d a=>(CV.rec (motive_1:=λ_=>HA->HA) (motive_2:=λ_=>Unit) (λ_=>(λa=>a)) (λ_=>(λa=>a)) (λ_ _=>(λa=>a)) (λ_=>(λa=>a)) (λy0=>(λa=>hl (qT y0) a)) (λa=>a) (λ_ _=>(λa=>a)) (λa=>a) (λ_ _ _ _ _ _=>(λa=>a)) (λa=>a) (λ_=>(λa=>a)) (λ_ _ _ _ _=>(λa=>a)) (λa=>a) (λ_ _ _=>(λa=>a)) (λa=>a) (λ_ _=>(λa=>a)) (λ_ _=>(λa=>a)) (λ_=>(λa=>a)) (λ_ _ _ _=>(λa=>a)) (λy0 _=>(λa=>hl y0 a)) (λ_=>(λa=>a)) (λ_ _=>(λa=>a)) (λ_ _ _ _=>(λa=>a)) (λa=>a) () (λ_ _ _ _=>()) d) a)
 (λx0 d a=>a)
 (λx0 x1 d a=>zYb x0 x1 d a)
 (λx0 x1 x2 x3 d a=>a)
 (λd a=>a)
 (λ_ a=>a)
 (λ_ _ h g m a=>List.rec (motive:=λ_=>HA) a (λb r _=>g r (h b a)) m) c
def hVs(l m:List CV)(a:HA):HA:=hV (.agg l) (.agg m) a
def hEs:List CE->List CE->HA->HA
 |x::xs,y::ys,a=>hEs xs ys (hV x.val y.val (hV x.key y.key a))|_,_,a=>a
def hZ:List (CV × CV)->List (CV × CV)->HA->HA
 |x::xs,y::ys,a=>hZ xs ys (hV x.2 y.2 a)|x::xs,[],a=>hZ xs [] (hV x.2 (.str []) a)|_,_,a=>a
def hO:CObj->CObj->HA->HA
 |.cells x,.cells y,a=>hVs x y a|.cells x,.full _ y,a=>hVs x y a|.map x _,.map y _,a=>hEs x (uE y) a|.mapz x,.mapz y,a=>hZ x y a|.mapz x,.map _ _,a=>hZ x [] a|.seen x,.seen y,a=>zWi x y a|_,_,a=>a
def hTm(tm:Tm):List (Nat × CV)->HA->HA
 | [],a=>a|p::r,a=>hTm tm r (hV p.2 (qC (Loc.ofNat p.1) tm) a)
def zVS(a:HA):Option (Key × HA):=match a.f with
 |k::r=>some (k,⟨r,a.b,a.c,a.th⟩)| []=>match a.b.reverse with
  |k::r=>some (k,⟨r,[],a.c,a.th⟩)| []=>none
def zWL(h:zC):List (Key × CObj)->HA->List Key->List Key × HA
 | [],a,ks=>(ks.reverse,a)
 |p::r,a,ks=>match zVS a with
  |none=>(ks.reverse,a)
  |some (j,a)=>match zb j h with
   |some o=>zWL h r (hO p.2 o a) (j::ks)|none=>(ks.reverse,a)
def zLB(j:Nat)(l:List (Nat × Int × LL)):Int × LL:=List.rec (motive:=λ_=>Int × LL) (Nat.rec (motive:=λ_=>Int) 1 (λ_ _=>0) j,[(j,1)])
 (λq _ ih=>Prod.rec (motive:=λ_=>Int × LL) (λi v=>Bool.rec (motive:=λ_=>Int × LL) ih v (Nat.beq i j)) q) l
def hTh(th:List (Nat × Int × LL)):List (Int × Int)->Nat->TH
 | [],_=>[]
 |_::r,j=>zLB j th::hTh th r (Nat.succ j)
def zYk(T:TS):Nat:=match T.objs with
 |p::_=>p.1.ix| []=>0
def zEd{α:Type}:List α->(List α->Bool)->Bool
 | [],k=>k []|x::l,k=>zEd l λl'=>k (x::l')
theorem u4{α:Type}:∀{l:List α} {k:List α->Bool},zEd l k=k l
 | [],_=>rfl|x::l,k=>u4 (l:=l)
def zDo(t:Nat)(T:TS)(tm:Tm)(h:zC)(k:kn->Bool):Bool:=match zWL h T.objs (hTm tm T.locs ⟨[],[],zYk T,[]⟩) []with
 |(ks,a)=>zEd ks λks=>zEd (hTh a.th T.b 0) λI=>k ⟨t,ks,I⟩
theorem zIc{t:Nat}{T:TS}{tm:Tm}{h:zC}{k:kn->Bool}(hh:zDo t T tm h k=true):∃x,x.T=t/\k x=true:=by unfold zDo at hh;split at hh;rw[u4,u4]at hh;exact⟨_,rfl,hh⟩
def jn(a b:Bool):Bool:=Bool.rec (motive:=λ_=>Bool) false b a
theorem jN{a b:Bool}:jn a b=(a&&b):=by cases a <;> rfl
def zX0(a b:Bool):Bool:=Bool.rec (motive:=λ_=>Bool) (Bool.rec (motive:=λ_=>Bool) true false b) b a
theorem zVd{a b:Bool}:zX0 a b=(a == b):=by cases a <;> cases b <;> rfl
def zNE(I:TH)(l:LL):Option (Int × LL):=List.rec (motive:=λ_=>Option (Int × LL)) (some (0,[])) (λp _ ih=>match zVQ I p.1,ih with
 |some q,some s=>some (p.2*q.1+s.1,vf (wH p.2 q.2) s.2)|_,_=>none) l
theorem zBm{I:TH}:∀{l:LL},zNE I l=up I l
 | []=>rfl|p::r=>by unfold up;rw[<- zFV,<- zBm (l:=r)];rfl
def zTa(I:TH)(e:SE)(v:CV):Bool:=match zCh v with
 |some (k,c,l)=>match zNE I e.l with
  |some s=>kEq e.k k&&zm (e.c+s.1) c&&j9 s.2 l|none=>false
 |none=>false
theorem zUs{I:TH}{e:SE}{v:CV}:zTa I e v=uk I e v:=by unfold zTa uk;rw[zBm];rfl
def zTw(U:zC)(si:SE->CV->Bool)(fw:Nat->List (List Nat)->CV->Bool)(c:CV):CV->Bool:=CV.rec (motive_1:=λ_=>CV->Bool) (motive_2:=λ_=>List CV->Bool)
 (λx0 d=>(CV.rec (motive_1:=λ_=>Bool) (motive_2:=λ_=>Unit) (λy0=>zX0 x0 y0) (λ_=>false) (λ_ _=>false) (λ_=>false) (λ_=>false) false (λ_ _=>false) false (λ_ _ _ _ _ _=>false) false (λ_=>false) (λ_ _ _ _ _=>false) false (λ_ _ _=>false) false (λ_ _=>false) (λ_ _=>false) (λ_=>false) (λ_ _ _ _=>false) (λ_ _=>false) (λ_=>false) (λ_ _=>false) (λ_ _ _ _=>false) false () (λ_ _ _ _=>()) d))
 (λx0 d=>(CV.rec (motive_1:=λ_=>Bool) (motive_2:=λ_=>Unit) (λ_=>false) (λy0=>Nat.beq x0 y0) (λ_ _=>false) (λ_=>false) (λ_=>false) false (λ_ _=>false) false (λ_ _ _ _ _ _=>false) false (λ_=>false) (λ_ _ _ _ _=>false) false (λ_ _ _=>false) false (λ_ _=>false) (λ_ _=>false) (λ_=>false) (λ_ _ _ _=>false) (λ_ _=>false) (λ_=>false) (λ_ _=>false) (λ_ _ _ _=>false) false () (λ_ _ _ _=>()) d))
 (λx0 x1 d=>(CV.rec (motive_1:=λ_=>Bool) (motive_2:=λ_=>Unit) (λ_=>false) (λ_=>false) (λy0 y1=>(jn (kEq x0 y0) (zm x1 y1))) (λ_=>false) (λ_=>false) false (λ_ _=>false) false (λ_ _ _ _ _ _=>false) false (λ_=>false) (λ_ _ _ _ _=>false) false (λ_ _ _=>false) false (λ_ _=>false) (λ_ _=>false) (λ_=>false) (λ_ _ _ _=>false) (λ_ _=>false) (λ_=>false) (λ_ _=>false) (λ_ _ _ _=>false) false () (λ_ _ _ _=>()) d))
 (λx0 d=>zKb x0 d)
 (λx0 d=>(CV.rec (motive_1:=λ_=>Bool) (motive_2:=λ_=>Unit) (λ_=>false) (λ_=>false) (λ_ _=>false) (λ_=>false) (λy0=>qY x0 y0) false (λ_ _=>false) false (λ_ _ _ _ _ _=>false) false (λ_=>false) (λ_ _ _ _ _=>false) false (λ_ _ _=>false) false (λ_ _=>false) (λ_ _=>false) (λ_=>false) (λ_ _ _ _=>false) (λ_ _=>false) (λ_=>false) (λ_ _=>false) (λ_ _ _ _=>false) false () (λ_ _ _ _=>()) d))
 (λd=>(CV.rec (motive_1:=λ_=>Bool) (motive_2:=λ_=>Unit) (λ_=>false) (λ_=>false) (λ_ _=>false) (λ_=>false) (λ_=>false) true (λ_ _=>false) false (λ_ _ _ _ _ _=>false) false (λ_=>false) (λ_ _ _ _ _=>false) false (λ_ _ _=>false) false (λ_ _=>false) (λ_ _=>false) (λ_=>false) (λ_ _ _ _=>false) (λ_ _=>false) (λ_=>false) (λ_ _=>false) (λ_ _ _ _=>false) false () (λ_ _ _ _=>()) d))
 (λx0 x1 d=>(CV.rec (motive_1:=λ_=>Bool) (motive_2:=λ_=>Unit) (λ_=>false) (λ_=>false) (λ_ _=>false) (λ_=>false) (λ_=>false) false (λy0 y1=>(jn (wS U x0 y0) (Nat.beq x1 y1))) false (λ_ _ _ _ _ _=>false) false (λ_=>false) (λ_ _ _ _ _=>false) false (λ_ _ _=>false) false (λ_ _=>false) (λ_ _=>false) (λ_=>false) (λ_ _ _ _=>false) (λ_ _=>false) (λ_=>false) (λ_ _=>false) (λ_ _ _ _=>false) false () (λ_ _ _ _=>()) d))
 (λd=>(CV.rec (motive_1:=λ_=>Bool) (motive_2:=λ_=>Unit) (λ_=>false) (λ_=>false) (λ_ _=>false) (λ_=>false) (λ_=>false) false (λ_ _=>false) true (λ_ _ _ _ _ _=>false) false (λ_=>false) (λ_ _ _ _ _=>false) false (λ_ _ _=>false) false (λ_ _=>false) (λ_ _=>false) (λ_=>false) (λ_ _ _ _=>false) (λ_ _=>false) (λ_=>false) (λ_ _=>false) (λ_ _ _ _=>false) false () (λ_ _ _ _=>()) d))
 (λx0 x1 x2 x3 x4 x5 d=>(CV.rec (motive_1:=λ_=>Bool) (motive_2:=λ_=>Unit) (λ_=>false) (λ_=>false) (λ_ _=>false) (λ_=>false) (λ_=>false) false (λ_ _=>false) false (λy0 y1 y2 y3 y4 y5=>wS U x0 y0&&Nat.beq x1 y1&&Nat.beq x2 y2&&Nat.beq x4 y4&&x5 == y5&&(Nat.beq x3 y3 || (!x5&&Nat.ble x3 y3))) false (λ_=>false) (λ_ _ _ _ _=>false) false (λ_ _ _=>false) false (λ_ _=>false) (λ_ _=>false) (λ_=>false) (λ_ _ _ _=>false) (λ_ _=>false) (λ_=>false) (λ_ _=>false) (λ_ _ _ _=>false) false () (λ_ _ _ _=>()) d))
 (λd=>(CV.rec (motive_1:=λ_=>Bool) (motive_2:=λ_=>Unit) (λ_=>false) (λ_=>false) (λ_ _=>false) (λ_=>false) (λ_=>false) false (λ_ _=>false) false (λ_ _ _ _ _ _=>false) true (λ_=>false) (λ_ _ _ _ _=>false) false (λ_ _ _=>false) false (λ_ _=>false) (λ_ _=>false) (λ_=>false) (λ_ _ _ _=>false) (λ_ _=>false) (λ_=>false) (λ_ _=>false) (λ_ _ _ _=>false) false () (λ_ _ _ _=>()) d))
 (λx0 d=>(CV.rec (motive_1:=λ_=>Bool) (motive_2:=λ_=>Unit) (λ_=>false) (λ_=>false) (λ_ _=>false) (λ_=>false) (λ_=>false) false (λ_ _=>false) false (λ_ _ _ _ _ _=>false) false (λy0=>wS U x0 y0) (λ_ _ _ _ _=>false) false (λ_ _ _=>false) false (λ_ _=>false) (λ_ _=>false) (λ_=>false) (λ_ _ _ _=>false) (λ_ _=>false) (λ_=>false) (λ_ _=>false) (λ_ _ _ _=>false) false () (λ_ _ _ _=>()) d))
 (λx0 x1 x2 ha hc d=>(CV.rec (motive_1:=λ_=>Bool) (motive_2:=λ_=>Unit) (λ_=>false) (λ_=>false) (λ_ _=>false) (λ_=>false) (λ_=>false) false (λ_ _=>false) false (λ_ _ _ _ _ _=>false) false (λ_=>false) (λy0 y1 y2 _ _=>decide (x0=y0)&&ha y1&&hc y2) false (λ_ _ _=>false) false (λ_ _=>false) (λ_ _=>false) (λ_=>false) (λ_ _ _ _=>false) (λ_ _=>false) (λ_=>false) (λ_ _=>false) (λ_ _ _ _=>false) false () (λ_ _ _ _=>()) d))
 (λd=>(CV.rec (motive_1:=λ_=>Bool) (motive_2:=λ_=>Unit) (λ_=>false) (λ_=>false) (λ_ _=>false) (λ_=>false) (λ_=>false) false (λ_ _=>false) false (λ_ _ _ _ _ _=>false) false (λ_=>false) (λ_ _ _ _ _=>false) true (λ_ _ _=>false) false (λ_ _=>false) (λ_ _=>false) (λ_=>false) (λ_ _ _ _=>false) (λ_ _=>false) (λ_=>false) (λ_ _=>false) (λ_ _ _ _=>false) false () (λ_ _ _ _=>()) d))
 (λx0 x1 hv d=>(CV.rec (motive_1:=λ_=>Bool) (motive_2:=λ_=>Unit) (λ_=>false) (λ_=>false) (λ_ _=>false) (λ_=>false) (λ_=>false) false (λ_ _=>false) false (λ_ _ _ _ _ _=>false) false (λ_=>false) (λ_ _ _ _ _=>false) false (λy0 y1 _=>(jn (Nat.beq x0 y0) (hv y1))) false (λ_ _=>false) (λ_ _=>false) (λ_=>false) (λ_ _ _ _=>false) (λ_ _=>false) (λ_=>false) (λ_ _=>false) (λ_ _ _ _=>false) false () (λ_ _ _ _=>()) d))
 (λd=>(CV.rec (motive_1:=λ_=>Bool) (motive_2:=λ_=>Unit) (λ_=>false) (λ_=>false) (λ_ _=>false) (λ_=>false) (λ_=>false) false (λ_ _=>false) false (λ_ _ _ _ _ _=>false) false (λ_=>false) (λ_ _ _ _ _=>false) false (λ_ _ _=>false) true (λ_ _=>false) (λ_ _=>false) (λ_=>false) (λ_ _ _ _=>false) (λ_ _=>false) (λ_=>false) (λ_ _=>false) (λ_ _ _ _=>false) false () (λ_ _ _ _=>()) d))
 (λx0 hl d=>(CV.rec (motive_1:=λ_=>Bool) (motive_2:=λ_=>Unit) (λ_=>false) (λ_=>false) (λ_ _=>false) (λ_=>false) (λ_=>false) false (λ_ _=>false) false (λ_ _ _ _ _ _=>false) false (λ_=>false) (λ_ _ _ _ _=>false) false (λ_ _ _=>false) false (λy0 _=>hl y0) (λ_ _=>false) (λ_=>false) (λ_ _ _ _=>false) (λ_ _=>false) (λ_=>false) (λ_ _=>false) (λ_ _ _ _=>false) false () (λ_ _ _ _=>()) d))
 (λx0 hl d=>(CV.rec (motive_1:=λ_=>Bool) (motive_2:=λ_=>Unit) (λ_=>false) (λ_=>false) (λ_ _=>false) (λ_=>false) (λ_=>false) false (λ_ _=>false) false (λ_ _ _ _ _ _=>false) false (λ_=>false) (λ_ _ _ _ _=>false) false (λ_ _ _=>false) false (λ_ _=>false) (λy0 _=>hl y0) (λ_=>false) (λ_ _ _ _=>false) (λ_ _=>false) (λ_=>false) (λ_ _=>false) (λ_ _ _ _=>false) false () (λ_ _ _ _=>()) d))
 (λx0 d=>si x0 d)
 (λx0 x1 x2 x3 d=>false)
 (λx0 hl d=>(CV.rec (motive_1:=λ_=>Bool) (motive_2:=λ_=>Unit) (λ_=>false) (λ_=>false) (λ_ _=>false) (λ_=>false) (λy0=>hl (qT y0)) false (λ_ _=>false) false (λ_ _ _ _ _ _=>false) false (λ_=>false) (λ_ _ _ _ _=>false) false (λ_ _ _=>false) false (λ_ _=>false) (λ_ _=>false) (λ_=>false) (λ_ _ _ _=>false) (λy0 _=>hl y0) (λ_=>false) (λ_ _=>false) (λ_ _ _ _=>false) false () (λ_ _ _ _=>()) d))
 (λx0 d=>false)
 (λx0 x1 d=>fw x0 x1 d)
 (λx0 x1 x2 x3 d=>false)
 (λd=>true)
 (λm=>List.rec (motive:=λ_=>Bool) true (λ_ _ _=>false) m)
 (λ_ _ h g m=>List.rec (motive:=λ_=>Bool) false (λb r _=>jn (h b) (g r)) m) c
def zWz(U:zC)(si:SE->CV->Bool)(fw:Nat->List (List Nat)->CV->Bool)(l m:List CV):Bool:=zTw U si fw (.agg l) (.agg m)
section
variable{U:zC}{I:TH}{si:SE->CV->Bool}{fw:Nat->List (List Nat)->CV->Bool}(hs:∀e d,si e d=uk I e d)(hf:∀i t d,fw i t d=yH U I (.few i t) d)
include hs hf
mutual
theorem zCP:∀(c d:CV),zTw U si fw c d=yH U I c d
 |.bool x0,d=>by
  cases d with
  |bool y0=>unfold yH; exact zVd|_=>unfold yH; rfl
 |.nat x0,d=>by cases d <;> (unfold yH; rfl)
 |.int x0 x1,d=>by
  cases d with
  |int y0 y1=>unfold yH; exact jN|_=>unfold yH; rfl
 |.anyi x0,d=>by unfold yH; rfl|.str x0,d=>by cases d <;> (unfold yH; rfl)
 |.nilptr,d=>by cases d <;> (unfold yH; rfl)
 |.ptr x0 x1,d=>by
  cases d with
  |ptr y0 y1=>unfold yH; exact jN|_=>unfold yH; rfl
 |.nilsl,d=>by cases d <;> (unfold yH; rfl)
 |.sl x0 x1 x2 x3 x4 x5,d=>by cases d <;> (unfold yH; rfl)
 |.nilmap,d=>by cases d <;> (unfold yH; rfl)
 |.map x0,d=>by cases d <;> (unfold yH; rfl)
 |.func x0 x1 x2,d=>by
  cases d with
  |func y0 y1 y2=>unfold yH; rw[<- wQ x1 y1,<- wQ x2 y2]; rfl|_=>unfold yH; rfl
 |.nilfunc,d=>by cases d <;> (unfold yH; rfl)
 |.iface x0 x1,d=>by
  cases d with
  |iface y0 y1=>unfold yH; rw[<- zCP x1 y1,<- jN]; rfl|_=>unfold yH; rfl
 |.niliface,d=>by cases d <;> (unfold yH; rfl)
 |.agg x0,d=>by
  cases d with
  |agg y0=>unfold yH; exact wQ x0 y0|_=>unfold yH; rfl
 |.tup x0,d=>by
  cases d with
  |tup y0=>unfold yH; exact wQ x0 y0|_=>unfold yH; rfl
 |.sym x0,d=>by unfold yH; exact hs x0 d|.win x0 x1 x2 x3,d=>by cases d <;> (unfold yH; rfl)
 |.sst x0,d=>by
  cases d with
  |sst y0=>unfold yH; exact wQ x0 y0|str y0=>unfold yH; exact wQ x0 (qT y0)|_=>unfold yH; rfl
 |.big x0,d=>by cases d <;> (unfold yH; rfl)
 |.few x0 x1,d=>hf x0 x1 d|.elt x0 x1 x2 x3,d=>by cases d <;> (unfold yH; rfl)
 |.any,d=>by unfold yH; rfl
theorem wQ:∀(l m:List CV),zWz U si fw l m=vE U I l m
 | [],m=>by cases m <;> (unfold vE; rfl)
 |c::l,m=>by
  cases m with
  |nil=>unfold vE; rfl|cons d m=>unfold vE; rw[<- zCP c d,<- wQ l m,<- jN]; rfl
end
end
def zYd(U:zC)(I:TH)(c:CV):CV->Bool:=zTw U (zTa I) (λi t d=>yH U I (.few i t) d) c
theorem zWm{U:zC}{I:TH}(c d:CV):zYd U I c d=yH U I c d:=zCP (λ_ _=>zUs) (λ_ _ _=>rfl) c d
def zAC(U:zC)(I:TH)(l:List CV):List CV->Bool:=
 List.rec (motive:=λ_=>List CV->Bool) (λ_=>true) (λa _ g m=>List.rec (motive:=λ_=>Bool) false (λb r _=>jn (zYd U I a b) (g r)) m) l
theorem ju{U:zC}{I:TH}:∀{l m:List CV},zAC U I l m=qr U I l m
 | [],m=>by unfold qr; rfl|c::l,[]=>by unfold qr; rfl|c::l,d::m=>by unfold qr; rw[<- zWm c d,<- ju (l:=l) (m:=m),<- jN]; rfl
def zWG(U:zC)(I:TH)(o o':CObj):Bool:=match o,o' with
 |.cells a,.cells b=>zAC U I a b|o,o'=>zCp U I o o'
theorem zSz{U:zC}{I:TH}{o o':CObj}:zWG U I o o'=zCp U I o o':=by cases o <;> cases o' <;> first |rfl |exact ju
def zC5(U inv:zC)(I:TH)(h:zC)(lo hi:Nat):List (Key × CObj)->List Key->Bool
 | [],[]=>true|p::r,j::js=>jn (wS U p.1 j) <| jn (wS inv j p.1) <| jn (Nat.ble lo p.1.ix) <| jn (Nat.ble (Nat.succ p.1.ix) hi) <| jn (match zb j h with
  |some o=>zWG U I p.2 o|none=>false) (zC5 U inv I h lo hi r js)
 |_,_=>false
theorem zFe{U inv:zC}{I:TH}{h:zC}{lo hi:Nat}:∀{l:List (Key × CObj)} {ks:List Key},zC5 U inv I h lo hi l ks=qo U inv I h lo hi l ks
 | [],[]=>rfl| [],_::_=>rfl|_::_,[]=>rfl|p::r,j::js=>by unfold zC5 qo;rw[zFe (l:=r) (ks:=js)];cases zb j h <;> simp only[jN,zSz,Bool.and_assoc]
def zPT(G:Nat)(ws:List (Key × Nat))(T:TS)(ks:List Key)(I:TH)(K:zU)(tm:Tm)(h:zC):Bool:=
 zC5 (kT T.objs ks) (kC T.objs ks) I h G T.n.ix T.objs ks&&zLW (kT T.objs ks) I ws tm T.locs&&zRH K T.b I&&zQ1 K I T.f&&zIi G T.n.ix ws&&Nat.ble G T.n.ix&&ui I K T.r
theorem zUc{G:Nat}{ws:List (Key × Nat)}{T:TS}{ks:List Key}{I:TH}{K:zU}{tm:Tm}{h:zC}:zPT G ws T ks I K tm h=zKN G ws T ks I K tm h:=by unfold zPT zKN;rw[zFe]
def zQ(c:CV):(CV->Bool)->Bool:=CV.rec (motive_1:=λ_=>(CV->Bool)->Bool) (motive_2:=λ_=>(List CV->Bool)->Bool)
 (λx0 k=>k (.bool x0))
 (λx0 k=>zN x0 λx0=>k (.nat x0))
 (λx0 x1 k=>zI x1 λx1=>k (.int x0 x1))
 (λx0 k=>k (.anyi x0))
 (λx0 k=>k (.str x0))
 (λk=>k .nilptr)
 (λx0 x1 k=>zK x0 λx0=>zN x1 λx1=>k (.ptr x0 x1))
 (λk=>k .nilsl)
 (λx0 x1 x2 x3 x4 x5 k=>zK x0 λx0=>zN x1 λx1=>zN x2 λx2=>zN x3 λx3=>zN x4 λx4=>k (.sl x0 x1 x2 x3 x4 x5))
 (λk=>k .nilmap)
 (λx0 k=>zK x0 λx0=>k (.map x0))
 (λx0 x1 x2 ha hc k=>ha λx1=>hc λx2=>k (.func x0 x1 x2))
 (λk=>k .nilfunc)
 (λx0 x1 hv k=>hv λx1=>k (.iface x0 x1))
 (λk=>k .niliface)
 (λx0 hl k=>hl λx0=>k (.agg x0))
 (λx0 hl k=>hl λx0=>k (.tup x0))
 (λx0 k=>zSE x0 λx0=>k (.sym x0))
 (λx0 x1 x2 x3 k=>zSE x2 λx2=>zSE x3 λx3=>k (.win x0 x1 x2 x3))
 (λx0 hl k=>hl λx0=>k (.sst x0))
 (λx0 k=>k (.big x0))
 (λx0 x1 k=>zN x0 λx0=>k (.few x0 x1))
 (λx0 x1 x2 x3 k=>k (.elt x0 x1 x2 x3))
 (λk=>k .any)
 (λk=>k [])
 (λ_ _ h g k=>h λv=>g λl=>k (v::l)) c
def zQs(l:List CV):(List CV->Bool)->Bool:=CV.rec_1 (motive_1:=λ_=>(CV->Bool)->Bool) (motive_2:=λ_=>(List CV->Bool)->Bool)
 (λx0 k=>k (.bool x0))
 (λx0 k=>zN x0 λx0=>k (.nat x0))
 (λx0 x1 k=>zI x1 λx1=>k (.int x0 x1))
 (λx0 k=>k (.anyi x0))
 (λx0 k=>k (.str x0))
 (λk=>k .nilptr)
 (λx0 x1 k=>zK x0 λx0=>zN x1 λx1=>k (.ptr x0 x1))
 (λk=>k .nilsl)
 (λx0 x1 x2 x3 x4 x5 k=>zK x0 λx0=>zN x1 λx1=>zN x2 λx2=>zN x3 λx3=>zN x4 λx4=>k (.sl x0 x1 x2 x3 x4 x5))
 (λk=>k .nilmap)
 (λx0 k=>zK x0 λx0=>k (.map x0))
 (λx0 x1 x2 ha hc k=>ha λx1=>hc λx2=>k (.func x0 x1 x2))
 (λk=>k .nilfunc)
 (λx0 x1 hv k=>hv λx1=>k (.iface x0 x1))
 (λk=>k .niliface)
 (λx0 hl k=>hl λx0=>k (.agg x0))
 (λx0 hl k=>hl λx0=>k (.tup x0))
 (λx0 k=>zSE x0 λx0=>k (.sym x0))
 (λx0 x1 x2 x3 k=>zSE x2 λx2=>zSE x3 λx3=>k (.win x0 x1 x2 x3))
 (λx0 hl k=>hl λx0=>k (.sst x0))
 (λx0 k=>k (.big x0))
 (λx0 x1 k=>zN x0 λx0=>k (.few x0 x1))
 (λx0 x1 x2 x3 k=>k (.elt x0 x1 x2 x3))
 (λk=>k .any)
 (λk=>k [])
 (λ_ _ h g k=>h λv=>g λl=>k (v::l)) l
mutual
theorem zSh:∀(c:CV) (k:CV->Bool),zQ c k=k c
 |.bool x0,k=>rfl|.nat x0,k=>j3 (k:=λx0=>k (.nat x0))|.int x0 x1,k=>zFl (k:=λx1=>k (.int x0 x1))|.anyi x0,k=>rfl|.str x0,k=>rfl|.nilptr,k=>rfl|.ptr x0 x1,k=>by show(zK x0 λx0=>zN x1 λx1=>k (.ptr x0 x1))=_; rw[wj,j3]|.nilsl,k=>rfl|.sl x0 x1 x2 x3 x4 x5,k=>by show(zK x0 λx0=>zN x1 λx1=>zN x2 λx2=>zN x3 λx3=>zN x4 λx4=>k (.sl x0 x1 x2 x3 x4 x5))=_; rw[wj,j3,j3,j3,j3]|.nilmap,k=>rfl|.map x0,k=>wj (k:=λx0=>k (.map x0))|.func x0 x1 x2,k=>by show(zQs x1 λx1=>zQs x2 λx2=>k (.func x0 x1 x2))=_; rw[zCl x1,zCl x2]|.nilfunc,k=>rfl|.iface x0 x1,k=>zSh x1 λx1=>k (.iface x0 x1)
 |.niliface,k=>rfl|.agg x0,k=>zCl x0 λx0=>k (.agg x0)
 |.tup x0,k=>zCl x0 λx0=>k (.tup x0)
 |.sym x0,k=>zET (k:=λx0=>k (.sym x0))|.win x0 x1 x2 x3,k=>by show(zSE x2 λx2=>zSE x3 λx3=>k (.win x0 x1 x2 x3))=_; rw[zET,zET]|.sst x0,k=>zCl x0 λx0=>k (.sst x0)
 |.big x0,k=>rfl|.few x0 x1,k=>j3 (k:=λx0=>k (.few x0 x1))|.elt x0 x1 x2 x3,k=>rfl|.any,k=>rfl
theorem zCl:∀(l:List CV) (k:List CV->Bool),zQs l k=k l
 | [],k=>rfl|c::l,k=>by show(zQ c λv=>zQs l λl=>k (v::l))=_; rw[zSh c,zCl l]
end
def zOQ(o:CObj)(k:CObj->Bool):Bool:=match o with
 |.cells l=>zQs l λl=>k (.cells l)
 |o=>zO o k
theorem zHI{o:CObj}{k:CObj->Bool}:zOQ o k=k o:=by
 cases o with
 |cells l=>exact zCl l λl=>k (.cells l)
 |ro a=>exact zCR (o:=.ro a)|map a b=>exact zCR (o:=.map a b)|striter a b=>exact zCR (o:=.striter a b)|mapiter a b c d=>exact zCR (o:=.mapiter a b c d)|full a b=>exact zCR (o:=.full a b)|mapz a=>exact zCR (o:=.mapz a)|seen a=>exact zCR (o:=.seen a)|hid=>rfl|bag a=>exact zCR (o:=.bag a)
def zUM:List (Key × CObj)->(List (Key × CObj)->Bool)->Bool
 | [],k=>k []|(j,o)::l,k=>zK j λj=>zOQ o λo=>zUM l λl=>k ((j,o)::l)
theorem zQr:∀{l:List (Key × CObj)} {k:List (Key × CObj)->Bool},zUM l k=k l
 | [],_=>rfl|(j,o)::l,k=>by unfold zUM; rw[wj,zHI,zQr]
def zMQ(T:TS)(k:TS->Bool):Bool:=match T with
 |⟨l,o,n,b,f,r,s⟩=>zLc l λl=>zUM o λo=>zK n λn=>zB b λb=>zF f λf=>k ⟨l,o,n,b,f,r,s⟩
theorem wy{T:TS}{k:TS->Bool}:zMQ T k=k T:=by obtain⟨l,o,n,b,f,r,s⟩:=T;show(zLc l λl=>zUM o λo=>zK n λn=>zB b λb=>zF f λf=>k ⟨l,o,n,b,f,r,s⟩)=_;rw[zOC,zQr,wj,zPg,zUa]
section
variable{G:Nat}{ws:List (Key × Nat)}{Ts:List TS}{ok:kn->Bool}{K:zU}{fin:R->Bool}
def uw(G:Nat)(ws:List (Key × Nat))(Ts:List TS)(ok:kn->Bool)(K:zU)(t:Nat)(tm:Tm)(ds:xz)(h:zC)(n:Key):Bool:=match ds with
 | []=>match nth Ts t with
  |some T=>zMQ T λT=>Nat.ble (Nat.succ n.ix) 65535&&zB6 T.sl tm h n λtm h n=>zDo t T tm h λx=>ok x&&zPT G ws T x.ks x.I K tm h
  |none=>false
 |_=>false
theorem zIf{G:Nat}{ws:List (Key × Nat)}{Ts:List TS}{ok:kn->Bool}{K:zU}{t:Nat}{tm:Tm}{ds:xz}{h:zC}{n:Key}(hl:uw G ws Ts ok K t tm ds h n=true):∃x,zDE G ws Ts ok K x tm ds h n=true:=by
 unfold uw at hl;split at hl
 . split at hl
   . rename_i T hT;rw[wy,Bool.and_eq_true]at hl;simp only[zUc]at hl;obtain⟨⟨x,hx⟩,hk⟩:=zOb (α:={ x:kn // x.T=t }) (k':=λx tm h n=>ok x.1&&zKN G ws T x.1.ks x.1.I K tm h) hl.2 λtm h n hk=>
      let ⟨x,hx,hk⟩:=zIc hk
      ⟨⟨x,hx⟩,hk⟩
     refine⟨x,?_⟩;unfold zDE;rw[hx,hT];show zTS T _=true;rw[zOr,Bool.and_eq_true];exact⟨hl.1,hk⟩
   . cases hl
 . cases hl
def zAX(G:Nat)(ws:List (Key × Nat))(Ts:List TS)(ok:kn->Bool)(K:zU)(fin:R->Bool):R->List Nat->Option (List Nat)
 |.ok .normal tm ds h n,t::r=>match uw G ws Ts ok K t tm ds h n with
  |true=>some r|false=>none
 |.ok (.exit i) tm ds h n,r=>match fin (.ok (.exit i) tm ds h n)with
  |true=>some r|false=>none
 |.ok .ret tm ds h n,r=>match fin (.ok .ret tm ds h n)with
  |true=>some r|false=>none
 |.fork a b,r=>match zAX G ws Ts ok K fin a r with
  |some r=>zAX G ws Ts ok K fin b r|none=>none
 |_,_=>none
def wu(o:Option (List Nat)):Bool:=match o with
 |some _=>true|none=>false
theorem zEc:∀{r:R} {l l':List Nat},zAX G ws Ts ok K fin r l=some l'->∃hs:List kn,∀rest,km G ws Ts ok K fin r (hs++rest)=some rest
 |.ok .normal tm ds h n,[],_,hc=>by cases hc|.ok .normal tm ds h n,t::l,l',hc=>by
  unfold zAX at hc;split at hc
  . rename_i hl;obtain⟨x,hx⟩:=zIf hl;exact⟨[x],λrest=>by show km G ws Ts ok K fin (.ok .normal tm ds h n) (x::rest)=_; unfold km; rw[hx]⟩
  . cases hc
 |.ok (.exit i) tm ds h n,l,l',hc=>by
  unfold zAX at hc;split at hc
  . rename_i h1;exact⟨[],λrest=>by show km G ws Ts ok K fin (.ok (.exit i) tm ds h n) rest=_; unfold km; rw[h1]⟩
  . cases hc
 |.ok .ret tm ds h n,l,l',hc=>by
  unfold zAX at hc;split at hc
  . rename_i h1;exact⟨[],λrest=>by show km G ws Ts ok K fin (.ok .ret tm ds h n) rest=_; unfold km; rw[h1]⟩
  . cases hc
 |.ret ..,l,l',hc=>by unfold zAX at hc; cases hc|.err _,l,l',hc=>by unfold zAX at hc; cases hc|.fork a b,l,l',hc=>by
  unfold zAX at hc;split at hc
  . rename_i r hr;obtain⟨h1,e1⟩:=zEc hr;obtain⟨h2,e2⟩:=zEc hc;exact⟨h1++h2,λrest=>by rw[List.append_assoc]; unfold km; rw[e1 (h2++rest)]; exact e2 rest⟩
  . cases hc
theorem qg{r:R}{l:List Nat}(h:wu (zAX G ws Ts ok K fin r l)=true):∃hs,wo (km G ws Ts ok K fin r hs)=true:=by
 unfold wu at h;split at h
 . rename_i x hx;obtain⟨hs,e⟩:=zEc hx;refine⟨hs++[],?_⟩;rw[e []]; rfl
 . cases h
end
end
end Go.Ev
namespace Go.Ev
open Go.RowKit
noncomputable section
variable{P:Program}
inductive Cut where
 |plain
 |cut (ft:FT) (ct:List Bool->CT)
 |cover (ts:List Nat)
section
variable{code:FuncId->CFn}{nat:Nats}{fuel:Nat}{fn:Func}{c b xa xb:Code}{p pre q:List Stp}{j:Nat}{rs:List CRes}{G:Nat}{wins:List Win}{L:List (Key × Nat)}{A:Key->Option Value}{Ts:List TS}{bound:Int}{w0:World}
def TS.known(T:TS)(A:Key->Option Value):zU:=⟨T.b,T.f,T.r,A⟩
end
end
end Go.Ev
namespace Go.Ev
open Go.RowKit
noncomputable section
variable{P:Program}
section
variable{code:FuncId->CFn}{nat:Nats}{fuel G:Nat}{ws L:List (Key × Nat)}{Ts:List TS}{p pre q:List Stp}{j:Nat}{cc:CCode}{rs:List CRes}{T:TS}{l:List (Key × List CV)}
def sp:List Nat->CT
 | []=>.leaf|v::l=>.cmp [(v,1)] 1 (sp l) (sp l)
def fI(z:Int)(k:Int->Bool):Bool:=match z with
 |.ofNat n=>k (.ofNat n)|.negSucc n=>k (.negSucc n)
theorem zJy{z:Int}{k:Int->Bool}:fI z k=k z:=by cases z <;> rfl
def fB:List (Int × Int)->(List (Int × Int)->Bool)->Bool
 | [],k=>k []|(a,b)::l,k=>fI a λa=>fI b λb=>fB l λl'=>k ((a,b)::l')
theorem zWD:∀{l:List (Int × Int)} {k:List (Int × Int)->Bool},fB l k=k l
 | [],_=>rfl|(a,b)::l,k=>by unfold fB; rw[zJy,zJy,zWD]
def fLL:LL->(LL->Bool)->Bool
 | [],k=>k []|(i,a)::l,k=>fI a λa=>fLL l λl'=>k ((i,a)::l')
theorem zOW:∀{l:LL} {k:LL->Bool},fLL l k=k l
 | [],_=>rfl|(i,a)::l,k=>by unfold fLL; rw[zJy,zOW]
def fF:List (LL × Int × Int)->(List (LL × Int × Int)->Bool)->Bool
 | [],k=>k []|(m,a,b)::l,k=>fLL m λm=>fI a λa=>fI b λb=>fF l λl'=>k ((m,a,b)::l')
theorem zWW:∀{l:List (LL × Int × Int)} {k:List (LL × Int × Int)->Bool},fF l k=k l
 | [],_=>rfl|(m,a,b)::l,k=>by unfold fF; rw[zOW,zJy,zJy,zWW]
def fR:List SRule->(List SRule->Bool)->Bool
 | [],k=>k []|⟨o,⟨i,c,m⟩,n,v⟩::l,k=>fI c λc=>fLL m λm=>fR l λl'=>k (⟨o,⟨i,c,m⟩,n,v⟩::l')
theorem zWH:∀{l:List SRule} {k:List SRule->Bool},fR l k=k l
 | [],_=>rfl|⟨o,⟨i,c,m⟩,n,v⟩::l,k=>by unfold fR; rw[zJy,zOW,zWH]
def fW:List (Key × List CV)->(List (Key × List CV)->Bool)->Bool
 | [],k=>k []|(i,m)::l,k=>zEd m λm=>fW l λl'=>k ((i,m)::l')
theorem zWF:∀{l:List (Key × List CV)} {k:List (Key × List CV)->Bool},fW l k=k l
 | [],_=>rfl|(i,m)::l,k=>by unfold fW; rw[u4,zWF]
def wF(e:Lf)(k:Lf->Bool):Bool:=match e with
 |⟨b,f,r,l,u⟩=>fB b λb=>fF f λf=>fR r λr=>fW l λl=>k ⟨b,f,r,l,u⟩
theorem qL{e:Lf}{k:Lf->Bool}:wF e k=k e:=by cases e;unfold wF;simp only[zWD,zWW,zWH,zWF]
def startN(P:Program)(code:FuncId->CFn)(nat:Nats)(fuel:Nat)(G:Nat)(ws L:List (Key × Nat))(Ts:List TS)(p:List Stp)(cc:CCode)(args:List CV)(n:Key)(s:Nat->Int)(K:zU)(ts:List Nat):Bool:=
 wu (zAX G ws Ts (λt=>uK t.I&&jo t.I L) K (λ_=>false) (@zEk (linSym s K) P (@ev (linSym s K) P code nat fuel) p cc (qz args 0 .nil) [] .nil n) ts)
theorem startN_ok{args:List CV}{n:Key}{s:Nat->Int}{K:zU}{ts:List Nat}(h:startN P code nat fuel G ws L Ts p cc args n s K ts=true):∃hs,startOf P code nat fuel G ws L Ts p cc args n (linSym s K) K hs=true:=qg h
end
end
end Go.Ev
