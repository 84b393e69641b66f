/- A verified evaluator for the model's code: EvPick, EvCut, EvHintA, EvCut2, EvHint. -/
import Derived.Test.YtkolecenifiaaaaGreatDoorEvTree
set_option linter.unusedSectionVars false
set_option linter.unusedVariables false
set_option linter.unusedSimpArgs false
namespace Go.Ev
noncomputable section
variable {P:Program}
inductive FT where
 | leaf
 | node (a b:FT)
def FT.paths:FT→List (List Bool)
 | .leaf=>[[]]
 | .node a b=>a.paths.map (false :: ·)++b.paths.map (true :: ·)
theorem FT.some:∀ (t:FT),∃ p,p∈t.paths
 | .leaf=>⟨[],by simp [FT.paths]⟩
 | .node a b=>by
  obtain ⟨p,hp⟩:=FT.some a
  exact ⟨false::p,by simp [FT.paths,hp]⟩
section
variable {G:Nat} {ws:List (Key × Nat)} {Ts:List TS} {ok:kJ→Bool} {K:zY}
end
theorem zCs {o:Option (List kJ)} (h:w6 o=true):∃ x,o=some x:=by
 unfold w6 at h
 split at h
 · exact ⟨_,rfl⟩
 · cases h
end
end Go.Ev
namespace Go.Ev
open Go.RowKit
noncomputable section
variable {P:Program}
section
variable {S S':Sym} (hv:@Sym.val S=@Sym.val S') (ha:@Sym.arg S=@Sym.arg S')
include hv ha
end
inductive CT where
 | leaf
 | cmp (l:LL) (cut:Int) (a b:CT)
def atC:List Stp→Code→Option Code
 | [],c=>some c
 | .l::p,.seq x _=>atC p x
 | .r::p,.seq _ y=>atC p y
 | .b::p,.block _ x=>atC p x
 | _,_=>none
def zJ1:List Stp→CCode→CCode
 | [],.seq a _=>a
 | .l::p,.seq a _=>zJ1 p a
 | .r::p,.seq _ b=>zJ1 p b
 | .b::p,.block _ x=>zJ1 p x
 | _,_=>.bad 52
def zFg:List Stp→CCode→CCode
 | [],.seq _ b=>b
 | .l::p,.seq a _=>zFg p a
 | .r::p,.seq _ b=>zFg p b
 | .b::p,.block _ x=>zFg p x
 | _,_=>.bad 53
theorem uo {F N:Nat}:∀ {p:List Stp} {c a b:Code},atC p c=some (.seq a b)→zJ1 p (zU P F N c)=zU P F N a∧zFg p (zU P F N c)=zU P F N b
 | [],c,a,b,h=>by
  injection h with h; subst h; exact ⟨rfl,rfl⟩
 | .l::p,c,a,b,h=>by
  cases c <;> first | exact uo (p:=p) h | cases h
 | .r::p,c,a,b,h=>by
  cases c <;> first | exact uo (p:=p) h | cases h
 | .b::p,c,a,b,h=>by
  cases c <;> first | exact uo (p:=p) h | cases h
theorem zIU {q:List Stp} {bl:Code}:∀ {p:List Stp} {c a b:Code},atC p c=some (.seq a b)→um (p++.l::q) c=some bl→um q a=some bl
 | [],c,a,b,h,hs=>by
  injection h with h; subst h; exact hs
 | .l::p,c,a,b,h,hs=>by
  cases c <;> first | exact zIU (p:=p) h hs | cases h
 | .r::p,c,a,b,h,hs=>by
  cases c <;> first | exact zIU (p:=p) h hs | cases h
 | .b::p,c,a,b,h,hs=>by
  cases c <;> first | exact zIU (p:=p) h hs | cases h
theorem zB3:∀ {p:List Stp} {c x:Code},atC p c=some x→yY c=true→yY x=true
 | [],c,x,h,hn=>by
  injection h with h; subst h; exact hn
 | .l::p,c,x,h,hn=>by
  cases c <;> try (cases h; done)
  rename_i y z
  have hnr:yY y=true∧yY z=true:=by simpa [yY] using hn
  exact zB3 (p:=p) h hnr.1
 | .r::p,c,x,h,hn=>by
  cases c <;> try (cases h; done)
  rename_i y z
  have hnr:yY y=true∧yY z=true:=by simpa [yY] using hn
  exact zB3 (p:=p) h hnr.2
 | .b::p,c,x,h,hn=>by
  cases c <;> first | exact zB3 (p:=p) h hn | cases h
theorem zNg {q:List Stp}:∀ {p:List Stp} {c a b:Code} {Q:Exit→Act→World→Prop},atC p c=some (.seq a b)→QH P (p++.l::q) c Q=QH P q a (Exit.then (b.wp P (QH P p c Q)) (QH P p c Q))
 | [],c,a,b,Q,h=>by
  injection h with h; subst h; rfl
 | .l::p,c,a,b,Q,h=>by
  cases c <;> try (cases h; done)
  rename_i y z
  exact zNg (p:=p) (Q:=Exit.then (z.wp P Q) Q) h
 | .r::p,c,a,b,Q,h=>by
  cases c <;> try (cases h; done)
  exact zNg (p:=p) h
 | .b::p,c,a,b,Q,h=>by
  cases c <;> try (cases h; done)
  exact zNg (p:=p) h
section
variable [Sym] [SymFact P] {F N:Nat} {call:ym}
end
section
variable {code:FuncId→CFn} {nat:Nats} {fuel:Nat}
section
variable {σ:Nat→Int} {K:zY} {fn:Func} {c a b bl:Code} {pre q:List Stp} {j:Nat} {rs:List CRes} {F N:Nat} {w0:World}
end
end
end
end Go.Ev
namespace Go.Ev
open Go.RowKit
noncomputable section
variable {P:Program}
structure HA where
 f:List Key
 b:List Key
 c:Nat
 th:List (Nat × Int × LL)
def zTV (k j:Key) (a:HA):HA:=match Nat.beq k.ix a.c with
 | true=>⟨a.f,j::a.b,Nat.succ a.c,a.th⟩
 | false=>a
def zVZ (z:Int):LL→LL
 | []=>[]
 | p::r=>(p.1,p.2 / z)::zVZ z r
def zVX (e:SE) (v:CV) (a:HA):HA:=match e.l with
 | [(j,z)]=>match zj z 1 with
  | true=>match zBn v with
   | some (_,c,l)=>⟨a.f,a.b,a.c,(j,c - e.c,l)::a.th⟩
   | none=>a
  | false=>match zBn v with
   | some (_,c,l)=>⟨a.f,a.b,a.c,(j,(c - e.c) / z,zVZ z l)::a.th⟩
   | none=>a
 | _=>a
def zWg (s:List Nat):List (List Nat)→Nat→Nat
 | [],n=>n
 | x::r,n=>match qC x s with
  | true=>n
  | false=>zWg s r (Nat.succ n)
def zVJ (i:Nat) (t:List (List Nat)) (d:CV) (a:HA):HA:=match d with
 | .str s=>⟨a.f,a.b,a.c,(i,(.ofNat (zWg s t 0)),[])::a.th⟩
 | .few j _=>⟨a.f,a.b,a.c,(i,0,[(j,1)])::a.th⟩
 | _=>a
def hV (c:CV):CV→HA→HA:=CV.rec (motive_1:=fun _=>CV→HA→HA) (motive_2:=fun _=>List CV→HA→HA)
 (fun x0 d a=>a)
 (fun x0 d a=>a)
 (fun x0 x1 d a=>a)
 (fun x0 d a=>a)
 (fun x0 d a=>a)
 (fun d a=>a)
 (fun x0 x1 d a=>(CV.rec (motive_1:=fun _=>HA→HA) (motive_2:=fun _=>Unit) (fun _=>(fun a=>a)) (fun _=>(fun a=>a)) (fun _ _=>(fun a=>a)) (fun _=>(fun a=>a)) (fun _=>(fun a=>a)) (fun a=>a) (fun y0 y1=>(fun a=>zTV x0 y0 a)) (fun a=>a) (fun _ _ _ _ _ _=>(fun a=>a)) (fun a=>a) (fun _=>(fun a=>a)) (fun _ _ _ _ _=>(fun a=>a)) (fun a=>a) (fun _ _ _=>(fun a=>a)) (fun a=>a) (fun _ _=>(fun a=>a)) (fun _ _=>(fun a=>a)) (fun _=>(fun a=>a)) (fun _ _ _ _=>(fun a=>a)) (fun _ _=>(fun a=>a)) (fun _=>(fun a=>a)) (fun _ _=>(fun a=>a)) (fun _ _ _ _=>(fun a=>a)) (fun a=>a) () (fun _ _ _ _=>()) d) a)
 (fun d a=>a)
 (fun x0 x1 x2 x3 x4 x5 d a=>(CV.rec (motive_1:=fun _=>HA→HA) (motive_2:=fun _=>Unit) (fun _=>(fun a=>a)) (fun _=>(fun a=>a)) (fun _ _=>(fun a=>a)) (fun _=>(fun a=>a)) (fun _=>(fun a=>a)) (fun a=>a) (fun _ _=>(fun a=>a)) (fun a=>a) (fun y0 y1 y2 y3 y4 y5=>(fun a=>zTV x0 y0 a)) (fun a=>a) (fun _=>(fun a=>a)) (fun _ _ _ _ _=>(fun a=>a)) (fun a=>a) (fun _ _ _=>(fun a=>a)) (fun a=>a) (fun _ _=>(fun a=>a)) (fun _ _=>(fun a=>a)) (fun _=>(fun a=>a)) (fun _ _ _ _=>(fun a=>a)) (fun _ _=>(fun a=>a)) (fun _=>(fun a=>a)) (fun _ _=>(fun a=>a)) (fun _ _ _ _=>(fun a=>a)) (fun a=>a) () (fun _ _ _ _=>()) d) a)
 (fun d a=>a)
 (fun x0 d a=>(CV.rec (motive_1:=fun _=>HA→HA) (motive_2:=fun _=>Unit) (fun _=>(fun a=>a)) (fun _=>(fun a=>a)) (fun _ _=>(fun a=>a)) (fun _=>(fun a=>a)) (fun _=>(fun a=>a)) (fun a=>a) (fun _ _=>(fun a=>a)) (fun a=>a) (fun _ _ _ _ _ _=>(fun a=>a)) (fun a=>a) (fun y0=>(fun a=>zTV x0 y0 a)) (fun _ _ _ _ _=>(fun a=>a)) (fun a=>a) (fun _ _ _=>(fun a=>a)) (fun a=>a) (fun _ _=>(fun a=>a)) (fun _ _=>(fun a=>a)) (fun _=>(fun a=>a)) (fun _ _ _ _=>(fun a=>a)) (fun _ _=>(fun a=>a)) (fun _=>(fun a=>a)) (fun _ _=>(fun a=>a)) (fun _ _ _ _=>(fun a=>a)) (fun a=>a) () (fun _ _ _ _=>()) d) a)
 (fun x0 x1 x2 ha hc d a=>(CV.rec (motive_1:=fun _=>HA→HA) (motive_2:=fun _=>Unit) (fun _=>(fun a=>a)) (fun _=>(fun a=>a)) (fun _ _=>(fun a=>a)) (fun _=>(fun a=>a)) (fun _=>(fun a=>a)) (fun a=>a) (fun _ _=>(fun a=>a)) (fun a=>a) (fun _ _ _ _ _ _=>(fun a=>a)) (fun a=>a) (fun _=>(fun a=>a)) (fun y0 y1 y2 _ _=>(fun a=>hc y2 (ha y1 a))) (fun a=>a) (fun _ _ _=>(fun a=>a)) (fun a=>a) (fun _ _=>(fun a=>a)) (fun _ _=>(fun a=>a)) (fun _=>(fun a=>a)) (fun _ _ _ _=>(fun a=>a)) (fun _ _=>(fun a=>a)) (fun _=>(fun a=>a)) (fun _ _=>(fun a=>a)) (fun _ _ _ _=>(fun a=>a)) (fun a=>a) () (fun _ _ _ _=>()) d) a)
 (fun d a=>a)
 (fun x0 x1 hv d a=>(CV.rec (motive_1:=fun _=>HA→HA) (motive_2:=fun _=>Unit) (fun _=>(fun a=>a)) (fun _=>(fun a=>a)) (fun _ _=>(fun a=>a)) (fun _=>(fun a=>a)) (fun _=>(fun a=>a)) (fun a=>a) (fun _ _=>(fun a=>a)) (fun a=>a) (fun _ _ _ _ _ _=>(fun a=>a)) (fun a=>a) (fun _=>(fun a=>a)) (fun _ _ _ _ _=>(fun a=>a)) (fun a=>a) (fun y0 y1 _=>(fun a=>hv y1 a)) (fun a=>a) (fun _ _=>(fun a=>a)) (fun _ _=>(fun a=>a)) (fun _=>(fun a=>a)) (fun _ _ _ _=>(fun a=>a)) (fun _ _=>(fun a=>a)) (fun _=>(fun a=>a)) (fun _ _=>(fun a=>a)) (fun _ _ _ _=>(fun a=>a)) (fun a=>a) () (fun _ _ _ _=>()) d) a)
 (fun d a=>a)
 (fun x0 hl d a=>(CV.rec (motive_1:=fun _=>HA→HA) (motive_2:=fun _=>Unit) (fun _=>(fun a=>a)) (fun _=>(fun a=>a)) (fun _ _=>(fun a=>a)) (fun _=>(fun a=>a)) (fun _=>(fun a=>a)) (fun a=>a) (fun _ _=>(fun a=>a)) (fun a=>a) (fun _ _ _ _ _ _=>(fun a=>a)) (fun a=>a) (fun _=>(fun a=>a)) (fun _ _ _ _ _=>(fun a=>a)) (fun a=>a) (fun _ _ _=>(fun a=>a)) (fun a=>a) (fun y0 _=>(fun a=>hl y0 a)) (fun _ _=>(fun a=>a)) (fun _=>(fun a=>a)) (fun _ _ _ _=>(fun a=>a)) (fun _ _=>(fun a=>a)) (fun _=>(fun a=>a)) (fun _ _=>(fun a=>a)) (fun _ _ _ _=>(fun a=>a)) (fun a=>a) () (fun _ _ _ _=>()) d) a)
 (fun x0 hl d a=>(CV.rec (motive_1:=fun _=>HA→HA) (motive_2:=fun _=>Unit) (fun _=>(fun a=>a)) (fun _=>(fun a=>a)) (fun _ _=>(fun a=>a)) (fun _=>(fun a=>a)) (fun _=>(fun a=>a)) (fun a=>a) (fun _ _=>(fun a=>a)) (fun a=>a) (fun _ _ _ _ _ _=>(fun a=>a)) (fun a=>a) (fun _=>(fun a=>a)) (fun _ _ _ _ _=>(fun a=>a)) (fun a=>a) (fun _ _ _=>(fun a=>a)) (fun a=>a) (fun _ _=>(fun a=>a)) (fun y0 _=>(fun a=>hl y0 a)) (fun _=>(fun a=>a)) (fun _ _ _ _=>(fun a=>a)) (fun _ _=>(fun a=>a)) (fun _=>(fun a=>a)) (fun _ _=>(fun a=>a)) (fun _ _ _ _=>(fun a=>a)) (fun a=>a) () (fun _ _ _ _=>()) d) a)
 (fun x0 d a=>zVX x0 d a)
 (fun x0 x1 x2 x3 d a=>a)
 (fun x0 hl d a=>(CV.rec (motive_1:=fun _=>HA→HA) (motive_2:=fun _=>Unit) (fun _=>(fun a=>a)) (fun _=>(fun a=>a)) (fun _ _=>(fun a=>a)) (fun _=>(fun a=>a)) (fun y0=>(fun a=>hl (x8 y0) a)) (fun a=>a) (fun _ _=>(fun a=>a)) (fun a=>a) (fun _ _ _ _ _ _=>(fun a=>a)) (fun a=>a) (fun _=>(fun a=>a)) (fun _ _ _ _ _=>(fun a=>a)) (fun a=>a) (fun _ _ _=>(fun a=>a)) (fun a=>a) (fun _ _=>(fun a=>a)) (fun _ _=>(fun a=>a)) (fun _=>(fun a=>a)) (fun _ _ _ _=>(fun a=>a)) (fun y0 _=>(fun a=>hl y0 a)) (fun _=>(fun a=>a)) (fun _ _=>(fun a=>a)) (fun _ _ _ _=>(fun a=>a)) (fun a=>a) () (fun _ _ _ _=>()) d) a)
 (fun x0 d a=>a)
 (fun x0 x1 d a=>zVJ x0 x1 d a)
 (fun x0 x1 x2 x3 d a=>a)
 (fun d a=>a)
 (fun _ a=>a)
 (fun _ _ h g m a=>List.rec (motive:=fun _=>HA) a (fun b r _=>g r (h b a)) m) c
def hVs (l m:List CV) (a:HA):HA:=hV (.agg l) (.agg m) a
def hEs:List CE→List CE→HA→HA
 | x::xs,y::ys,a=>hEs xs ys (hV x.val y.val (hV x.key y.key a))
 | _,_,a=>a
def hZ:List (CV × CV)→List (CV × CV)→HA→HA
 | x::xs,y::ys,a=>hZ xs ys (hV x.2 y.2 a)
 | x::xs,[],a=>hZ xs [] (hV x.2 (.str []) a)
 | _,_,a=>a
def hO:CObj→CObj→HA→HA
 | .cells x,.cells y,a=>hVs x y a
 | .cells x,.full _ y,a=>hVs x y a
 | .map x _,.map y _,a=>hEs x (vT y) a
 | .mapz x,.mapz y,a=>hZ x y a
 | .mapz x,.map _ _,a=>hZ x [] a
 | .seen x,.seen y,a=>zTV x y a
 | _,_,a=>a
def hTm (tm:Tm):List (Nat × CV)→HA→HA
 | [],a=>a
 | p::r,a=>hTm tm r (hV p.2 (qZ (Loc.ofNat p.1) tm) a)
def zTz (a:HA):Option (Key × HA):=match a.f with
 | k::r=>some (k,⟨r,a.b,a.c,a.th⟩)
 | []=>match a.b.reverse with
  | k::r=>some (k,⟨r,[],a.c,a.th⟩)
  | []=>none
def zUm (h:zC):List (Key × CObj)→HA→List Key→List Key × HA
 | [],a,ks=>(ks.reverse,a)
 | p::r,a,ks=>match zTz a with
  | none=>(ks.reverse,a)
  | some (j,a)=>match zn j h with
   | some o=>zUm h r (hO p.2 o a) (j::ks)
   | none=>(ks.reverse,a)
def zJG (j:Nat) (l:List (Nat × Int × LL)):Int × LL:=List.rec (motive:=fun _=>Int × LL) (Nat.rec (motive:=fun _=>Int) 1 (fun _ _=>0) j,[(j,1)])
 (fun q _ ih=>Prod.rec (motive:=fun _=>Int × LL) (fun i v=>Bool.rec (motive:=fun _=>Int × LL) ih v (Nat.beq i j)) q) l
def hTh (th:List (Nat × Int × LL)):List (Int × Int)→Nat→TH
 | [],_=>[]
 | _::r,j=>zJG j th::hTh th r (Nat.succ j)
def zVS (T:TS):Nat:=match T.objs with
 | p::_=>p.1.ix
 | []=>0
def zC6 {α:Type}:List α→(List α→Bool)→Bool
 | [],k=>k []
 | x::l,k=>zC6 l fun l'=>k (x::l')
theorem uA {α:Type}:∀ {l:List α} {k:List α→Bool},zC6 l k=k l
 | [],_=>rfl
 | x::l,k=>uA (l:=l)
def zCp (t:Nat) (T:TS) (tm:Tm) (h:zC) (k:kJ→Bool):Bool:=match zUm h T.objs (hTm tm T.locs ⟨[],[],zVS T,[]⟩) [] with
 | (ks,a)=>zC6 ks fun ks=>zC6 (hTh a.th T.b 0) fun θ=>k ⟨t,ks,θ⟩
theorem zGF {t:Nat} {T:TS} {tm:Tm} {h:zC} {k:kJ→Bool} (hh:zCp t T tm h k=true):∃ x,x.T=t∧k x=true:=by
 unfold zCp at hh
 split at hh
 rw [uA,uA] at hh
 exact ⟨_,rfl,hh⟩
def jT (a b:Bool):Bool:=Bool.rec (motive:=fun _=>Bool) false b a
theorem qv {a b:Bool}:jT a b=(a&&b):=by cases a <;> rfl
def zVz (a b:Bool):Bool:=Bool.rec (motive:=fun _=>Bool) (Bool.rec (motive:=fun _=>Bool) true false b) b a
theorem zSY {a b:Bool}:zVz a b=(a == b):=by cases a <;> cases b <;> rfl
def zLx (θ:TH) (l:LL):Option (Int × LL):=List.rec (motive:=fun _=>Option (Int × LL)) (some (0,[])) (fun p _ ih=>match zTy θ p.1,ih with
 | some q,some s=>some (p.2*q.1+s.1,wy (kg p.2 q.2) s.2)
 | _,_=>none) l
theorem zAv {θ:TH}:∀ {l:LL},zLx θ l=vz θ l
 | []=>rfl
 | p::r=>by
  unfold vz
  rw [← zEA,← zAv (l:=r)]
  rfl
def zQ2 (θ:TH) (e:SE) (v:CV):Bool:=match zBn v with
 | some (k,c,l)=>match zLx θ e.l with
  | some s=>kEq e.k k&&zj (e.c+s.1) c&&j6 s.2 l
  | none=>false
 | none=>false
theorem zSi {θ:TH} {e:SE} {v:CV}:zQ2 θ e v=zAr θ e v:=by
 unfold zQ2 zAr
 rw [zAv]
 rfl
def zRr (ρ:zC) (si:SE→CV→Bool) (fw:Nat→List (List Nat)→CV→Bool) (c:CV):CV→Bool:=CV.rec (motive_1:=fun _=>CV→Bool) (motive_2:=fun _=>List CV→Bool)
 (fun x0 d=>(CV.rec (motive_1:=fun _=>Bool) (motive_2:=fun _=>Unit) (fun y0=>zVz x0 y0) (fun _=>false) (fun _ _=>false) (fun _=>false) (fun _=>false) false (fun _ _=>false) false (fun _ _ _ _ _ _=>false) false (fun _=>false) (fun _ _ _ _ _=>false) false (fun _ _ _=>false) false (fun _ _=>false) (fun _ _=>false) (fun _=>false) (fun _ _ _ _=>false) (fun _ _=>false) (fun _=>false) (fun _ _=>false) (fun _ _ _ _=>false) false () (fun _ _ _ _=>()) d))
 (fun x0 d=>(CV.rec (motive_1:=fun _=>Bool) (motive_2:=fun _=>Unit) (fun _=>false) (fun y0=>Nat.beq x0 y0) (fun _ _=>false) (fun _=>false) (fun _=>false) false (fun _ _=>false) false (fun _ _ _ _ _ _=>false) false (fun _=>false) (fun _ _ _ _ _=>false) false (fun _ _ _=>false) false (fun _ _=>false) (fun _ _=>false) (fun _=>false) (fun _ _ _ _=>false) (fun _ _=>false) (fun _=>false) (fun _ _=>false) (fun _ _ _ _=>false) false () (fun _ _ _ _=>()) d))
 (fun x0 x1 d=>(CV.rec (motive_1:=fun _=>Bool) (motive_2:=fun _=>Unit) (fun _=>false) (fun _=>false) (fun y0 y1=>(jT (kEq x0 y0) (zj x1 y1))) (fun _=>false) (fun _=>false) false (fun _ _=>false) false (fun _ _ _ _ _ _=>false) false (fun _=>false) (fun _ _ _ _ _=>false) false (fun _ _ _=>false) false (fun _ _=>false) (fun _ _=>false) (fun _=>false) (fun _ _ _ _=>false) (fun _ _=>false) (fun _=>false) (fun _ _=>false) (fun _ _ _ _=>false) false () (fun _ _ _ _=>()) d))
 (fun x0 d=>zIv x0 d)
 (fun x0 d=>(CV.rec (motive_1:=fun _=>Bool) (motive_2:=fun _=>Unit) (fun _=>false) (fun _=>false) (fun _ _=>false) (fun _=>false) (fun y0=>qC x0 y0) false (fun _ _=>false) false (fun _ _ _ _ _ _=>false) false (fun _=>false) (fun _ _ _ _ _=>false) false (fun _ _ _=>false) false (fun _ _=>false) (fun _ _=>false) (fun _=>false) (fun _ _ _ _=>false) (fun _ _=>false) (fun _=>false) (fun _ _=>false) (fun _ _ _ _=>false) false () (fun _ _ _ _=>()) d))
 (fun d=>(CV.rec (motive_1:=fun _=>Bool) (motive_2:=fun _=>Unit) (fun _=>false) (fun _=>false) (fun _ _=>false) (fun _=>false) (fun _=>false) true (fun _ _=>false) false (fun _ _ _ _ _ _=>false) false (fun _=>false) (fun _ _ _ _ _=>false) false (fun _ _ _=>false) false (fun _ _=>false) (fun _ _=>false) (fun _=>false) (fun _ _ _ _=>false) (fun _ _=>false) (fun _=>false) (fun _ _=>false) (fun _ _ _ _=>false) false () (fun _ _ _ _=>()) d))
 (fun x0 x1 d=>(CV.rec (motive_1:=fun _=>Bool) (motive_2:=fun _=>Unit) (fun _=>false) (fun _=>false) (fun _ _=>false) (fun _=>false) (fun _=>false) false (fun y0 y1=>(jT (wD ρ x0 y0) (Nat.beq x1 y1))) false (fun _ _ _ _ _ _=>false) false (fun _=>false) (fun _ _ _ _ _=>false) false (fun _ _ _=>false) false (fun _ _=>false) (fun _ _=>false) (fun _=>false) (fun _ _ _ _=>false) (fun _ _=>false) (fun _=>false) (fun _ _=>false) (fun _ _ _ _=>false) false () (fun _ _ _ _=>()) d))
 (fun d=>(CV.rec (motive_1:=fun _=>Bool) (motive_2:=fun _=>Unit) (fun _=>false) (fun _=>false) (fun _ _=>false) (fun _=>false) (fun _=>false) false (fun _ _=>false) true (fun _ _ _ _ _ _=>false) false (fun _=>false) (fun _ _ _ _ _=>false) false (fun _ _ _=>false) false (fun _ _=>false) (fun _ _=>false) (fun _=>false) (fun _ _ _ _=>false) (fun _ _=>false) (fun _=>false) (fun _ _=>false) (fun _ _ _ _=>false) false () (fun _ _ _ _=>()) d))
 (fun x0 x1 x2 x3 x4 x5 d=>(CV.rec (motive_1:=fun _=>Bool) (motive_2:=fun _=>Unit) (fun _=>false) (fun _=>false) (fun _ _=>false) (fun _=>false) (fun _=>false) false (fun _ _=>false) false (fun y0 y1 y2 y3 y4 y5=>wD ρ x0 y0&&Nat.beq x1 y1&&Nat.beq x2 y2&&Nat.beq x4 y4&&x5 == y5&&(Nat.beq x3 y3 || (!x5&&Nat.ble x3 y3))) false (fun _=>false) (fun _ _ _ _ _=>false) false (fun _ _ _=>false) false (fun _ _=>false) (fun _ _=>false) (fun _=>false) (fun _ _ _ _=>false) (fun _ _=>false) (fun _=>false) (fun _ _=>false) (fun _ _ _ _=>false) false () (fun _ _ _ _=>()) d))
 (fun d=>(CV.rec (motive_1:=fun _=>Bool) (motive_2:=fun _=>Unit) (fun _=>false) (fun _=>false) (fun _ _=>false) (fun _=>false) (fun _=>false) false (fun _ _=>false) false (fun _ _ _ _ _ _=>false) true (fun _=>false) (fun _ _ _ _ _=>false) false (fun _ _ _=>false) false (fun _ _=>false) (fun _ _=>false) (fun _=>false) (fun _ _ _ _=>false) (fun _ _=>false) (fun _=>false) (fun _ _=>false) (fun _ _ _ _=>false) false () (fun _ _ _ _=>()) d))
 (fun x0 d=>(CV.rec (motive_1:=fun _=>Bool) (motive_2:=fun _=>Unit) (fun _=>false) (fun _=>false) (fun _ _=>false) (fun _=>false) (fun _=>false) false (fun _ _=>false) false (fun _ _ _ _ _ _=>false) false (fun y0=>wD ρ x0 y0) (fun _ _ _ _ _=>false) false (fun _ _ _=>false) false (fun _ _=>false) (fun _ _=>false) (fun _=>false) (fun _ _ _ _=>false) (fun _ _=>false) (fun _=>false) (fun _ _=>false) (fun _ _ _ _=>false) false () (fun _ _ _ _=>()) d))
 (fun x0 x1 x2 ha hc d=>(CV.rec (motive_1:=fun _=>Bool) (motive_2:=fun _=>Unit) (fun _=>false) (fun _=>false) (fun _ _=>false) (fun _=>false) (fun _=>false) false (fun _ _=>false) false (fun _ _ _ _ _ _=>false) false (fun _=>false) (fun y0 y1 y2 _ _=>decide (x0=y0)&&ha y1&&hc y2) false (fun _ _ _=>false) false (fun _ _=>false) (fun _ _=>false) (fun _=>false) (fun _ _ _ _=>false) (fun _ _=>false) (fun _=>false) (fun _ _=>false) (fun _ _ _ _=>false) false () (fun _ _ _ _=>()) d))
 (fun d=>(CV.rec (motive_1:=fun _=>Bool) (motive_2:=fun _=>Unit) (fun _=>false) (fun _=>false) (fun _ _=>false) (fun _=>false) (fun _=>false) false (fun _ _=>false) false (fun _ _ _ _ _ _=>false) false (fun _=>false) (fun _ _ _ _ _=>false) true (fun _ _ _=>false) false (fun _ _=>false) (fun _ _=>false) (fun _=>false) (fun _ _ _ _=>false) (fun _ _=>false) (fun _=>false) (fun _ _=>false) (fun _ _ _ _=>false) false () (fun _ _ _ _=>()) d))
 (fun x0 x1 hv d=>(CV.rec (motive_1:=fun _=>Bool) (motive_2:=fun _=>Unit) (fun _=>false) (fun _=>false) (fun _ _=>false) (fun _=>false) (fun _=>false) false (fun _ _=>false) false (fun _ _ _ _ _ _=>false) false (fun _=>false) (fun _ _ _ _ _=>false) false (fun y0 y1 _=>(jT (Nat.beq x0 y0) (hv y1))) false (fun _ _=>false) (fun _ _=>false) (fun _=>false) (fun _ _ _ _=>false) (fun _ _=>false) (fun _=>false) (fun _ _=>false) (fun _ _ _ _=>false) false () (fun _ _ _ _=>()) d))
 (fun d=>(CV.rec (motive_1:=fun _=>Bool) (motive_2:=fun _=>Unit) (fun _=>false) (fun _=>false) (fun _ _=>false) (fun _=>false) (fun _=>false) false (fun _ _=>false) false (fun _ _ _ _ _ _=>false) false (fun _=>false) (fun _ _ _ _ _=>false) false (fun _ _ _=>false) true (fun _ _=>false) (fun _ _=>false) (fun _=>false) (fun _ _ _ _=>false) (fun _ _=>false) (fun _=>false) (fun _ _=>false) (fun _ _ _ _=>false) false () (fun _ _ _ _=>()) d))
 (fun x0 hl d=>(CV.rec (motive_1:=fun _=>Bool) (motive_2:=fun _=>Unit) (fun _=>false) (fun _=>false) (fun _ _=>false) (fun _=>false) (fun _=>false) false (fun _ _=>false) false (fun _ _ _ _ _ _=>false) false (fun _=>false) (fun _ _ _ _ _=>false) false (fun _ _ _=>false) false (fun y0 _=>hl y0) (fun _ _=>false) (fun _=>false) (fun _ _ _ _=>false) (fun _ _=>false) (fun _=>false) (fun _ _=>false) (fun _ _ _ _=>false) false () (fun _ _ _ _=>()) d))
 (fun x0 hl d=>(CV.rec (motive_1:=fun _=>Bool) (motive_2:=fun _=>Unit) (fun _=>false) (fun _=>false) (fun _ _=>false) (fun _=>false) (fun _=>false) false (fun _ _=>false) false (fun _ _ _ _ _ _=>false) false (fun _=>false) (fun _ _ _ _ _=>false) false (fun _ _ _=>false) false (fun _ _=>false) (fun y0 _=>hl y0) (fun _=>false) (fun _ _ _ _=>false) (fun _ _=>false) (fun _=>false) (fun _ _=>false) (fun _ _ _ _=>false) false () (fun _ _ _ _=>()) d))
 (fun x0 d=>si x0 d)
 (fun x0 x1 x2 x3 d=>false)
 (fun x0 hl d=>(CV.rec (motive_1:=fun _=>Bool) (motive_2:=fun _=>Unit) (fun _=>false) (fun _=>false) (fun _ _=>false) (fun _=>false) (fun y0=>hl (x8 y0)) false (fun _ _=>false) false (fun _ _ _ _ _ _=>false) false (fun _=>false) (fun _ _ _ _ _=>false) false (fun _ _ _=>false) false (fun _ _=>false) (fun _ _=>false) (fun _=>false) (fun _ _ _ _=>false) (fun y0 _=>hl y0) (fun _=>false) (fun _ _=>false) (fun _ _ _ _=>false) false () (fun _ _ _ _=>()) d))
 (fun x0 d=>false)
 (fun x0 x1 d=>fw x0 x1 d)
 (fun x0 x1 x2 x3 d=>false)
 (fun d=>true)
 (fun m=>List.rec (motive:=fun _=>Bool) true (fun _ _ _=>false) m)
 (fun _ _ h g m=>List.rec (motive:=fun _=>Bool) false (fun b r _=>jT (h b) (g r)) m) c
def zUa (ρ:zC) (si:SE→CV→Bool) (fw:Nat→List (List Nat)→CV→Bool) (l m:List CV):Bool:=zRr ρ si fw (.agg l) (.agg m)
section
variable {ρ:zC} {θ:TH} {si:SE→CV→Bool} {fw:Nat→List (List Nat)→CV→Bool} (hs:∀ e d,si e d=zAr θ e d) (hf:∀ i t d,fw i t d=yK ρ θ (.few i t) d)
include hs hf
mutual
theorem zBU:∀ (c d:CV),zRr ρ si fw c d=yK ρ θ c d
 | .bool x0,d=>by
  cases d with
  | bool y0=>unfold yK; exact zSY
  | _=>unfold yK; rfl
 | .nat x0,d=>by cases d <;> (unfold yK; rfl)
 | .int x0 x1,d=>by
  cases d with
  | int y0 y1=>unfold yK; exact qv
  | _=>unfold yK; rfl
 | .anyi x0,d=>by unfold yK; rfl
 | .str x0,d=>by cases d <;> (unfold yK; rfl)
 | .nilptr,d=>by cases d <;> (unfold yK; rfl)
 | .ptr x0 x1,d=>by
  cases d with
  | ptr y0 y1=>unfold yK; exact qv
  | _=>unfold yK; rfl
 | .nilsl,d=>by cases d <;> (unfold yK; rfl)
 | .sl x0 x1 x2 x3 x4 x5,d=>by cases d <;> (unfold yK; rfl)
 | .nilmap,d=>by cases d <;> (unfold yK; rfl)
 | .map x0,d=>by cases d <;> (unfold yK; rfl)
 | .func x0 x1 x2,d=>by
  cases d with
  | func y0 y1 y2=>unfold yK; rw [← kr x1 y1,← kr x2 y2]; rfl
  | _=>unfold yK; rfl
 | .nilfunc,d=>by cases d <;> (unfold yK; rfl)
 | .iface x0 x1,d=>by
  cases d with
  | iface y0 y1=>unfold yK; rw [← zBU x1 y1,← qv]; rfl
  | _=>unfold yK; rfl
 | .niliface,d=>by cases d <;> (unfold yK; rfl)
 | .agg x0,d=>by
  cases d with
  | agg y0=>unfold yK; exact kr x0 y0
  | _=>unfold yK; rfl
 | .tup x0,d=>by
  cases d with
  | tup y0=>unfold yK; exact kr x0 y0
  | _=>unfold yK; rfl
 | .sym x0,d=>by unfold yK; exact hs x0 d
 | .win x0 x1 x2 x3,d=>by cases d <;> (unfold yK; rfl)
 | .sst x0,d=>by
  cases d with
  | sst y0=>unfold yK; exact kr x0 y0
  | str y0=>unfold yK; exact kr x0 (x8 y0)
  | _=>unfold yK; rfl
 | .big x0,d=>by cases d <;> (unfold yK; rfl)
 | .few x0 x1,d=>hf x0 x1 d
 | .elt x0 x1 x2 x3,d=>by cases d <;> (unfold yK; rfl)
 | .any,d=>by unfold yK; rfl
theorem kr:∀ (l m:List CV),zUa ρ si fw l m=wZ ρ θ l m
 | [],m=>by cases m <;> (unfold wZ; rfl)
 | c::l,m=>by
  cases m with
  | nil=>unfold wZ; rfl
  | cons d m=>unfold wZ; rw [← zBU c d,← kr l m,← qv]; rfl
end
end
def zVL (ρ:zC) (θ:TH) (c:CV):CV→Bool:=zRr ρ (zQ2 θ) (fun i t d=>yK ρ θ (.few i t) d) c
theorem zT0 {ρ:zC} {θ:TH} (c d:CV):zVL ρ θ c d=yK ρ θ c d:=zBU (fun _ _=>zSi) (fun _ _ _=>rfl) c d
def uf (ρ:zC) (θ:TH) (l:List CV):List CV→Bool:=
 List.rec (motive:=fun _=>List CV→Bool) (fun _=>true) (fun a _ g m=>List.rec (motive:=fun _=>Bool) false (fun b r _=>jT (zVL ρ θ a b) (g r)) m) l
theorem jX {ρ:zC} {θ:TH}:∀ {l m:List CV},uf ρ θ l m=qY ρ θ l m
 | [],m=>by unfold qY; rfl
 | c::l,[]=>by unfold qY; rfl
 | c::l,d::m=>by unfold qY; rw [← zT0 c d,← jX (l:=l) (m:=m),← qv]; rfl
def zUh (ρ:zC) (θ:TH) (o o':CObj):Bool:=match o,o' with
 | .cells a,.cells b=>uf ρ θ a b
 | o,o'=>zBv ρ θ o o'
theorem zQu {ρ:zC} {θ:TH} {o o':CObj}:zUh ρ θ o o'=zBv ρ θ o o':=by
 cases o <;> cases o' <;> first | rfl | exact jX
def zB7 (ρ inv:zC) (θ:TH) (h:zC) (lo hi:Nat):List (Key × CObj)→List Key→Bool
 | [],[]=>true
 | p::r,j::js=>jT (wD ρ p.1 j) <| jT (wD inv j p.1) <| jT (Nat.ble lo p.1.ix) <| jT (Nat.ble (Nat.succ p.1.ix) hi) <| jT (match zn j h with
  | some o=>zUh ρ θ p.2 o
  | none=>false) (zB7 ρ inv θ h lo hi r js)
 | _,_=>false
theorem zDU {ρ inv:zC} {θ:TH} {h:zC} {lo hi:Nat}:∀ {l:List (Key × CObj)} {ks:List Key},zB7 ρ inv θ h lo hi l ks=qU ρ inv θ h lo hi l ks
 | [],[]=>rfl
 | [],_::_=>rfl
 | _::_,[]=>rfl
 | p::r,j::js=>by
  unfold zB7 qU
  rw [zDU (l:=r) (ks:=js)]
  cases zn j h <;> simp only [qv,zQu,Bool.and_assoc]
def zNQ (G:Nat) (ws:List (Key × Nat)) (T:TS) (ks:List Key) (θ:TH) (K:zY) (tm:Tm) (h:zC):Bool:=
 zB7 (j3 T.objs ks) (jo T.objs ks) θ h G T.n.ix T.objs ks&&zJW (j3 T.objs ks) θ ws tm T.locs&&zRS K T.b θ&&zQz K θ T.f&&zGM G T.n.ix ws&&Nat.ble G T.n.ix&&zAp θ K T.r
theorem zR6 {G:Nat} {ws:List (Key × Nat)} {T:TS} {ks:List Key} {θ:TH} {K:zY} {tm:Tm} {h:zC}:zNQ G ws T ks θ K tm h=zI3 G ws T ks θ K tm h:=by
 unfold zNQ zI3
 rw [zDU]
def zQ (c:CV):(CV→Bool)→Bool:=CV.rec (motive_1:=fun _=>(CV→Bool)→Bool) (motive_2:=fun _=>(List CV→Bool)→Bool)
 (fun x0 k=>k (.bool x0))
 (fun x0 k=>zN x0 fun x0=>k (.nat x0))
 (fun x0 x1 k=>zI x1 fun x1=>k (.int x0 x1))
 (fun x0 k=>k (.anyi x0))
 (fun x0 k=>k (.str x0))
 (fun k=>k .nilptr)
 (fun x0 x1 k=>zK x0 fun x0=>zN x1 fun x1=>k (.ptr x0 x1))
 (fun k=>k .nilsl)
 (fun x0 x1 x2 x3 x4 x5 k=>zK x0 fun x0=>zN x1 fun x1=>zN x2 fun x2=>zN x3 fun x3=>zN x4 fun x4=>k (.sl x0 x1 x2 x3 x4 x5))
 (fun k=>k .nilmap)
 (fun x0 k=>zK x0 fun x0=>k (.map x0))
 (fun x0 x1 x2 ha hc k=>ha fun x1=>hc fun x2=>k (.func x0 x1 x2))
 (fun k=>k .nilfunc)
 (fun x0 x1 hv k=>hv fun x1=>k (.iface x0 x1))
 (fun k=>k .niliface)
 (fun x0 hl k=>hl fun x0=>k (.agg x0))
 (fun x0 hl k=>hl fun x0=>k (.tup x0))
 (fun x0 k=>zSE x0 fun x0=>k (.sym x0))
 (fun x0 x1 x2 x3 k=>zSE x2 fun x2=>zSE x3 fun x3=>k (.win x0 x1 x2 x3))
 (fun x0 hl k=>hl fun x0=>k (.sst x0))
 (fun x0 k=>k (.big x0))
 (fun x0 x1 k=>zN x0 fun x0=>k (.few x0 x1))
 (fun x0 x1 x2 x3 k=>k (.elt x0 x1 x2 x3))
 (fun k=>k .any)
 (fun k=>k [])
 (fun _ _ h g k=>h fun v=>g fun l=>k (v::l)) c
def zQs (l:List CV):(List CV→Bool)→Bool:=CV.rec_1 (motive_1:=fun _=>(CV→Bool)→Bool) (motive_2:=fun _=>(List CV→Bool)→Bool)
 (fun x0 k=>k (.bool x0))
 (fun x0 k=>zN x0 fun x0=>k (.nat x0))
 (fun x0 x1 k=>zI x1 fun x1=>k (.int x0 x1))
 (fun x0 k=>k (.anyi x0))
 (fun x0 k=>k (.str x0))
 (fun k=>k .nilptr)
 (fun x0 x1 k=>zK x0 fun x0=>zN x1 fun x1=>k (.ptr x0 x1))
 (fun k=>k .nilsl)
 (fun x0 x1 x2 x3 x4 x5 k=>zK x0 fun x0=>zN x1 fun x1=>zN x2 fun x2=>zN x3 fun x3=>zN x4 fun x4=>k (.sl x0 x1 x2 x3 x4 x5))
 (fun k=>k .nilmap)
 (fun x0 k=>zK x0 fun x0=>k (.map x0))
 (fun x0 x1 x2 ha hc k=>ha fun x1=>hc fun x2=>k (.func x0 x1 x2))
 (fun k=>k .nilfunc)
 (fun x0 x1 hv k=>hv fun x1=>k (.iface x0 x1))
 (fun k=>k .niliface)
 (fun x0 hl k=>hl fun x0=>k (.agg x0))
 (fun x0 hl k=>hl fun x0=>k (.tup x0))
 (fun x0 k=>zSE x0 fun x0=>k (.sym x0))
 (fun x0 x1 x2 x3 k=>zSE x2 fun x2=>zSE x3 fun x3=>k (.win x0 x1 x2 x3))
 (fun x0 hl k=>hl fun x0=>k (.sst x0))
 (fun x0 k=>k (.big x0))
 (fun x0 x1 k=>zN x0 fun x0=>k (.few x0 x1))
 (fun x0 x1 x2 x3 k=>k (.elt x0 x1 x2 x3))
 (fun k=>k .any)
 (fun k=>k [])
 (fun _ _ h g k=>h fun v=>g fun l=>k (v::l)) l
mutual
theorem zT8:∀ (c:CV) (k:CV→Bool),zQ c k=k c
 | .bool x0,k=>rfl
 | .nat x0,k=>je (k:=fun x0=>k (.nat x0))
 | .int x0 x1,k=>zD1 (k:=fun x1=>k (.int x0 x1))
 | .anyi x0,k=>rfl
 | .str x0,k=>rfl
 | .nilptr,k=>rfl
 | .ptr x0 x1,k=>by show (zK x0 fun x0=>zN x1 fun x1=>k (.ptr x0 x1))=_; rw [zAk,je]
 | .nilsl,k=>rfl
 | .sl x0 x1 x2 x3 x4 x5,k=>by show (zK x0 fun x0=>zN x1 fun x1=>zN x2 fun x2=>zN x3 fun x3=>zN x4 fun x4=>k (.sl x0 x1 x2 x3 x4 x5))=_; rw [zAk,je,je,je,je]
 | .nilmap,k=>rfl
 | .map x0,k=>zAk (k:=fun x0=>k (.map x0))
 | .func x0 x1 x2,k=>by show (zQs x1 fun x1=>zQs x2 fun x2=>k (.func x0 x1 x2))=_; rw [zBq x1,zBq x2]
 | .nilfunc,k=>rfl
 | .iface x0 x1,k=>zT8 x1 fun x1=>k (.iface x0 x1)
 | .niliface,k=>rfl
 | .agg x0,k=>zBq x0 fun x0=>k (.agg x0)
 | .tup x0,k=>zBq x0 fun x0=>k (.tup x0)
 | .sym x0,k=>zDA (k:=fun x0=>k (.sym x0))
 | .win x0 x1 x2 x3,k=>by show (zSE x2 fun x2=>zSE x3 fun x3=>k (.win x0 x1 x2 x3))=_; rw [zDA,zDA]
 | .sst x0,k=>zBq x0 fun x0=>k (.sst x0)
 | .big x0,k=>rfl
 | .few x0 x1,k=>je (k:=fun x0=>k (.few x0 x1))
 | .elt x0 x1 x2 x3,k=>rfl
 | .any,k=>rfl
theorem zBq:∀ (l:List CV) (k:List CV→Bool),zQs l k=k l
 | [],k=>rfl
 | c::l,k=>by show (zQ c fun v=>zQs l fun l=>k (v::l))=_; rw [zT8 c,zBq l]
end
def zOQ (o:CObj) (k:CObj→Bool):Bool:=match o with
 | .cells l=>zQs l fun l=>k (.cells l)
 | o=>zO o k
theorem zVw {o:CObj} {k:CObj→Bool}:zOQ o k=k o:=by
 cases o with
 | cells l=>exact zBq l fun l=>k (.cells l)
 | ro a=>exact zBX (o:=.ro a)
 | map a b=>exact zBX (o:=.map a b)
 | striter a b=>exact zBX (o:=.striter a b)
 | mapiter a b c d=>exact zBX (o:=.mapiter a b c d)
 | full a b=>exact zBX (o:=.full a b)
 | mapz a=>exact zBX (o:=.mapz a)
 | seen a=>exact zBX (o:=.seen a)
 | hid=>rfl
 | bag a=>exact zBX (o:=.bag a)
def zSB:List (Key × CObj)→(List (Key × CObj)→Bool)→Bool
 | [],k=>k []
 | (j,o)::l,k=>zK j fun j=>zOQ o fun o=>zSB l fun l=>k ((j,o)::l)
theorem zOu:∀ {l:List (Key × CObj)} {k:List (Key × CObj)→Bool},zSB l k=k l
 | [],_=>rfl
 | (j,o)::l,k=>by unfold zSB; rw [zAk,zVw,zOu]
def zTM (T:TS) (k:TS→Bool):Bool:=match T with
 | ⟨l,o,n,b,f,r,s⟩=>zLc l fun l=>zSB o fun o=>zK n fun n=>zB b fun b=>zF f fun f=>k ⟨l,o,n,b,f,r,s⟩
theorem zED {T:TS} {k:TS→Bool}:zTM T k=k T:=by
 obtain ⟨l,o,n,b,f,r,s⟩:=T
 show (zLc l fun l=>zSB o fun o=>zK n fun n=>zB b fun b=>zF f fun f=>k ⟨l,o,n,b,f,r,s⟩)=_
 rw [zMD,zOu,zAk,zNi,zR4]
section
variable {G:Nat} {ws:List (Key × Nat)} {Ts:List TS} {ok:kJ→Bool} {K:zY} {fin:R→Bool}
def v2 (G:Nat) (ws:List (Key × Nat)) (Ts:List TS) (ok:kJ→Bool) (K:zY) (t:Nat) (tm:Tm) (ds:xe) (h:zC) (n:Key):Bool:=match ds with
 | []=>match nth Ts t with
  | some T=>zTM T fun T=>Nat.ble (Nat.succ n.ix) 65535&&zBd T.sl tm h n fun tm h n=>zCp t T tm h fun x=>ok x&&zNQ G ws T x.ks x.θ K tm h
  | none=>false
 | _=>false
theorem zGJ {G:Nat} {ws:List (Key × Nat)} {Ts:List TS} {ok:kJ→Bool} {K:zY} {t:Nat} {tm:Tm} {ds:xe} {h:zC} {n:Key} (hl:v2 G ws Ts ok K t tm ds h n=true):∃ x,zCB G ws Ts ok K x tm ds h n=true:=by
 unfold v2 at hl
 split at hl
 · split at hl
   · rename_i T hT
     rw [zED,Bool.and_eq_true] at hl
     simp only [zR6] at hl
     obtain ⟨⟨x,hx⟩,hk⟩:=zL9 (α:={ x:kJ // x.T=t }) (k':=fun x tm h n=>ok x.1&&zI3 G ws T x.1.ks x.1.θ K tm h) hl.2 fun tm h n hk=>
      let ⟨x,hx,hk⟩:=zGF hk
      ⟨⟨x,hx⟩,hk⟩
     refine ⟨x,?_⟩
     unfold zCB
     rw [hx,hT]
     show zTS T _=true
     rw [zMr,Bool.and_eq_true]
     exact ⟨hl.1,hk⟩
   · cases hl
 · cases hl
def zA8 (G:Nat) (ws:List (Key × Nat)) (Ts:List TS) (ok:kJ→Bool) (K:zY) (fin:R→Bool):R→List Nat→Option (List Nat)
 | .ok .normal tm ds h n,t::r=>match v2 G ws Ts ok K t tm ds h n with
  | true=>some r
  | false=>none
 | .ok (.exit i) tm ds h n,r=>match fin (.ok (.exit i) tm ds h n) with
  | true=>some r
  | false=>none
 | .ok .ret tm ds h n,r=>match fin (.ok .ret tm ds h n) with
  | true=>some r
  | false=>none
 | .fork a b,r=>match zA8 G ws Ts ok K fin a r with
  | some r=>zA8 G ws Ts ok K fin b r
  | none=>none
 | _,_=>none
def uL (o:Option (List Nat)):Bool:=match o with
 | some _=>true
 | none=>false
theorem zC4:∀ {r:R} {l l':List Nat},zA8 G ws Ts ok K fin r l=some l'→∃ hs:List kJ,∀ rest,ku G ws Ts ok K fin r (hs++rest)=some rest
 | .ok .normal tm ds h n,[],_,hc=>by cases hc
 | .ok .normal tm ds h n,t::l,l',hc=>by
  unfold zA8 at hc
  split at hc
  · rename_i hl
    obtain ⟨x,hx⟩:=zGJ hl
    exact ⟨[x],fun rest=>by show ku G ws Ts ok K fin (.ok .normal tm ds h n) (x::rest)=_; unfold ku; rw [hx]⟩
  · cases hc
 | .ok (.exit i) tm ds h n,l,l',hc=>by
  unfold zA8 at hc
  split at hc
  · rename_i h1
    exact ⟨[],fun rest=>by show ku G ws Ts ok K fin (.ok (.exit i) tm ds h n) rest=_; unfold ku; rw [h1]⟩
  · cases hc
 | .ok .ret tm ds h n,l,l',hc=>by
  unfold zA8 at hc
  split at hc
  · rename_i h1
    exact ⟨[],fun rest=>by show ku G ws Ts ok K fin (.ok .ret tm ds h n) rest=_; unfold ku; rw [h1]⟩
  · cases hc
 | .ret ..,l,l',hc=>by unfold zA8 at hc; cases hc
 | .err _,l,l',hc=>by unfold zA8 at hc; cases hc
 | .fork a b,l,l',hc=>by
  unfold zA8 at hc
  split at hc
  · rename_i r hr
    obtain ⟨h1,e1⟩:=zC4 hr
    obtain ⟨h2,e2⟩:=zC4 hc
    exact ⟨h1++h2,fun rest=>by rw [List.append_assoc]; unfold ku; rw [e1 (h2++rest)]; exact e2 rest⟩
  · cases hc
theorem wQ {r:R} {l:List Nat} (h:uL (zA8 G ws Ts ok K fin r l)=true):∃ hs,w6 (ku G ws Ts ok K fin r hs)=true:=by
 unfold uL at h
 split at h
 · rename_i x hx
   obtain ⟨hs,e⟩:=zC4 hx
   refine ⟨hs++[],?_⟩
   rw [e []]; rfl
 · cases h
end
end
end Go.Ev
namespace Go.Ev
open Go.RowKit
noncomputable section
variable {P:Program}
inductive Cut where
 | plain
 | cut (ft:FT) (ct:List Bool→CT)
 | cover (ts:List Nat)
section
variable {code:FuncId→CFn} {nat:Nats} {fuel:Nat} {fn:Func} {c b xa xb:Code} {p pre q:List Stp} {j:Nat} {rs:List CRes} {G:Nat} {wins:List Win} {L:List (Key × Nat)} {A:Key→Option Value} {Ts:List TS} {bound:Int} {w0:World}
def TS.known (T:TS) (A:Key→Option Value):zY:=⟨T.b,T.f,T.r,A⟩
end
end
end Go.Ev
namespace Go.Ev
open Go.RowKit
noncomputable section
variable {P:Program}
section
variable {code:FuncId→CFn} {nat:Nats} {fuel G:Nat} {ws L:List (Key × Nat)} {Ts:List TS} {p pre q:List Stp} {j:Nat} {cc:CCode} {rs:List CRes} {T:TS} {l:List (Key × List CV)}
def sp:List Nat→CT
 | []=>.leaf
 | v::l=>.cmp [(v,1)] 1 (sp l) (sp l)
def fI (z:Int) (k:Int→Bool):Bool:=match z with
 | .ofNat n=>k (.ofNat n)
 | .negSucc n=>k (.negSucc n)
theorem zHW {z:Int} {k:Int→Bool}:fI z k=k z:=by cases z <;> rfl
def fB:List (Int × Int)→(List (Int × Int)→Bool)→Bool
 | [],k=>k []
 | (a,b)::l,k=>fI a fun a=>fI b fun b=>fB l fun l'=>k ((a,b)::l')
theorem zUe:∀ {l:List (Int × Int)} {k:List (Int × Int)→Bool},fB l k=k l
 | [],_=>rfl
 | (a,b)::l,k=>by unfold fB; rw [zHW,zHW,zUe]
def fLL:LL→(LL→Bool)→Bool
 | [],k=>k []
 | (i,a)::l,k=>fI a fun a=>fLL l fun l'=>k ((i,a)::l')
theorem zMX:∀ {l:LL} {k:LL→Bool},fLL l k=k l
 | [],_=>rfl
 | (i,a)::l,k=>by unfold fLL; rw [zHW,zMX]
def fF:List (LL × Int × Int)→(List (LL × Int × Int)→Bool)→Bool
 | [],k=>k []
 | (m,a,b)::l,k=>fLL m fun m=>fI a fun a=>fI b fun b=>fF l fun l'=>k ((m,a,b)::l')
theorem zUw:∀ {l:List (LL × Int × Int)} {k:List (LL × Int × Int)→Bool},fF l k=k l
 | [],_=>rfl
 | (m,a,b)::l,k=>by unfold fF; rw [zMX,zHW,zHW,zUw]
def fR:List SRule→(List SRule→Bool)→Bool
 | [],k=>k []
 | ⟨o,⟨i,c,m⟩,n,v⟩::l,k=>fI c fun c=>fLL m fun m=>fR l fun l'=>k (⟨o,⟨i,c,m⟩,n,v⟩::l')
theorem zUi:∀ {l:List SRule} {k:List SRule→Bool},fR l k=k l
 | [],_=>rfl
 | ⟨o,⟨i,c,m⟩,n,v⟩::l,k=>by unfold fR; rw [zHW,zMX,zUi]
def fW:List (Key × List CV)→(List (Key × List CV)→Bool)→Bool
 | [],k=>k []
 | (i,m)::l,k=>zC6 m fun m=>fW l fun l'=>k ((i,m)::l')
theorem zUg:∀ {l:List (Key × List CV)} {k:List (Key × List CV)→Bool},fW l k=k l
 | [],_=>rfl
 | (i,m)::l,k=>by unfold fW; rw [uA,zUg]
def zEG (e:Lf) (k:Lf→Bool):Bool:=match e with
 | ⟨b,f,r,l,u⟩=>fB b fun b=>fF f fun f=>fR r fun r=>fW l fun l=>k ⟨b,f,r,l,u⟩
theorem uv {e:Lf} {k:Lf→Bool}:zEG e k=k e:=by
 cases e
 unfold zEG
 simp only [zUe,zUw,zUi,zUg]
def startN (P:Program) (code:FuncId→CFn) (nat:Nats) (fuel:Nat) (G:Nat) (ws L:List (Key × Nat)) (Ts:List TS) (p:List Stp) (cc:CCode) (args:List CV) (n:Key) (s:Nat→Int) (K:zY) (ts:List Nat):Bool:=
 uL (zA8 G ws Ts (fun t=>zC5 t.θ&&kI t.θ L) K (fun _=>false) (@zEi (linSym s K) P (@ev (linSym s K) P code nat fuel) p cc (qg args 0 .nil) [] .nil n) ts)
theorem startN_ok {args:List CV} {n:Key} {s:Nat→Int} {K:zY} {ts:List Nat} (h:startN P code nat fuel G ws L Ts p cc args n s K ts=true):∃ hs,startOf P code nat fuel G ws L Ts p cc args n (linSym s K) K hs=true:=wQ h
end
end
end Go.Ev
