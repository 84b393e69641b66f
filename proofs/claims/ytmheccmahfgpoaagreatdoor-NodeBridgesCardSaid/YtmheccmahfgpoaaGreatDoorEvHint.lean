/- A verified evaluator for the model's code: EvPick, EvCut, EvHintA, EvCut2, EvHint. -/
import Derived.Test.YtmheccmahfgpoaaGreatDoorEvTree
set_option linter.unusedSectionVars false
set_option linter.unusedVariables false
set_option linter.unusedSimpArgs false
namespace Go.Ev
noncomputable section
variable {P:Program}
inductive FT where
 | leaf
 | node (a b:FT)
def FT.paths:FT→List (List Bool)
 | .leaf=>[[]]
 | .node a b=>a.paths.map (false :: ·)++b.paths.map (true :: ·)
theorem FT.some:∀ (t:FT),∃ p,p∈t.paths
 | .leaf=>⟨[],by simp [FT.paths]⟩
 | .node a b=>by
  obtain ⟨p,hp⟩:=FT.some a
  exact ⟨false::p,by simp [FT.paths,hp]⟩
section
variable {G:Nat} {ws:List (Key × Nat)} {Ts:List TS} {ok:kM→Bool} {K:zc}
end
theorem zBF {o:Option (List kM)} (h:wV o=true):∃ x,o=some x:=by
 unfold wV at h
 split at h
 · exact ⟨_,rfl⟩
 · cases h
end
end Go.Ev
namespace Go.Ev
open Go.RowKit
noncomputable section
variable {P:Program}
section
variable {S S':Sym} (hv:@Sym.val S=@Sym.val S') (ha:@Sym.arg S=@Sym.arg S')
include hv ha
end
inductive CT where
 | leaf
 | cmp (l:LL) (cut:Int) (a b:CT)
def atC:List Stp→Code→Option Code
 | [],c=>some c
 | .l::p,.seq x _=>atC p x
 | .r::p,.seq _ y=>atC p y
 | .b::p,.block _ x=>atC p x
 | _,_=>none
def zIJ:List Stp→CCode→CCode
 | [],.seq a _=>a
 | .l::p,.seq a _=>zIJ p a
 | .r::p,.seq _ b=>zIJ p b
 | .b::p,.block _ x=>zIJ p x
 | _,_=>.bad 52
def zEl:List Stp→CCode→CCode
 | [],.seq _ b=>b
 | .l::p,.seq a _=>zEl p a
 | .r::p,.seq _ b=>zEl p b
 | .b::p,.block _ x=>zEl p x
 | _,_=>.bad 53
theorem uG {F N:Nat}:∀ {p:List Stp} {c a b:Code},atC p c=some (.seq a b)→zIJ p (zR P F N c)=zR P F N a∧zEl p (zR P F N c)=zR P F N b
 | [],c,a,b,h=>by
  injection h with h; subst h; exact ⟨rfl,rfl⟩
 | .l::p,c,a,b,h=>by
  cases c <;> first | exact uG (p:=p) h | cases h
 | .r::p,c,a,b,h=>by
  cases c <;> first | exact uG (p:=p) h | cases h
 | .b::p,c,a,b,h=>by
  cases c <;> first | exact uG (p:=p) h | cases h
theorem zHL {q:List Stp} {bl:Code}:∀ {p:List Stp} {c a b:Code},atC p c=some (.seq a b)→uF (p++.l::q) c=some bl→uF q a=some bl
 | [],c,a,b,h,hs=>by
  injection h with h; subst h; exact hs
 | .l::p,c,a,b,h,hs=>by
  cases c <;> first | exact zHL (p:=p) h hs | cases h
 | .r::p,c,a,b,h,hs=>by
  cases c <;> first | exact zHL (p:=p) h hs | cases h
 | .b::p,c,a,b,h,hs=>by
  cases c <;> first | exact zHL (p:=p) h hs | cases h
theorem zBd:∀ {p:List Stp} {c x:Code},atC p c=some x→yH c=true→yH x=true
 | [],c,x,h,hn=>by
  injection h with h; subst h; exact hn
 | .l::p,c,x,h,hn=>by
  cases c <;> try (cases h; done)
  rename_i y z
  have hnr:yH y=true∧yH z=true:=by simpa [yH] using hn
  exact zBd (p:=p) h hnr.1
 | .r::p,c,x,h,hn=>by
  cases c <;> try (cases h; done)
  rename_i y z
  have hnr:yH y=true∧yH z=true:=by simpa [yH] using hn
  exact zBd (p:=p) h hnr.2
 | .b::p,c,x,h,hn=>by
  cases c <;> first | exact zBd (p:=p) h hn | cases h
theorem zLt {q:List Stp}:∀ {p:List Stp} {c a b:Code} {Q:Exit→Act→World→Prop},atC p c=some (.seq a b)→QH P (p++.l::q) c Q=QH P q a (Exit.then (b.wp P (QH P p c Q)) (QH P p c Q))
 | [],c,a,b,Q,h=>by
  injection h with h; subst h; rfl
 | .l::p,c,a,b,Q,h=>by
  cases c <;> try (cases h; done)
  rename_i y z
  exact zLt (p:=p) (Q:=Exit.then (z.wp P Q) Q) h
 | .r::p,c,a,b,Q,h=>by
  cases c <;> try (cases h; done)
  exact zLt (p:=p) h
 | .b::p,c,a,b,Q,h=>by
  cases c <;> try (cases h; done)
  exact zLt (p:=p) h
section
variable [Sym] [SymFact P] {F N:Nat} {call:yT}
end
section
variable {code:FuncId→CFn} {nat:Nats} {fuel:Nat}
section
variable {σ:Nat→Int} {K:zc} {fn:Func} {c a b bl:Code} {pre q:List Stp} {j:Nat} {rs:List CRes} {F N:Nat} {w0:World}
end
end
end
end Go.Ev
namespace Go.Ev
open Go.RowKit
noncomputable section
variable {P:Program}
structure HA where
 f:List Key
 b:List Key
 c:Nat
 th:List (Nat × Int × LL)
def zSz (k j:Key) (a:HA):HA:=match Nat.beq k.ix a.c with
 | true=>⟨a.f,j::a.b,Nat.succ a.c,a.th⟩
 | false=>a
def zS1 (z:Int):LL→LL
 | []=>[]
 | p::r=>(p.1,p.2 / z)::zS1 z r
def zSZ (e:SE) (v:CV) (a:HA):HA:=match e.l with
 | [(j,z)]=>match zx z 1 with
  | true=>match zA9 v with
   | some (_,c,l)=>⟨a.f,a.b,a.c,(j,c - e.c,l)::a.th⟩
   | none=>a
  | false=>match zA9 v with
   | some (_,c,l)=>⟨a.f,a.b,a.c,(j,(c - e.c) / z,zS1 z l)::a.th⟩
   | none=>a
 | _=>a
def zTh (s:List Nat):List (List Nat)→Nat→Nat
 | [],n=>n
 | x::r,n=>match xq x s with
  | true=>n
  | false=>zTh s r (Nat.succ n)
def zSM (i:Nat) (t:List (List Nat)) (d:CV) (a:HA):HA:=match d with
 | .str s=>⟨a.f,a.b,a.c,(i,(.ofNat (zTh s t 0)),[])::a.th⟩
 | .few j _=>⟨a.f,a.b,a.c,(i,0,[(j,1)])::a.th⟩
 | _=>a
def hV (c:CV):CV→HA→HA:=CV.rec (motive_1:=fun _=>CV→HA→HA) (motive_2:=fun _=>List CV→HA→HA)
 (fun x0 d a=>a)
 (fun x0 d a=>a)
 (fun x0 x1 d a=>a)
 (fun x0 d a=>a)
 (fun x0 d a=>a)
 (fun d a=>a)
 (fun x0 x1 d a=>(CV.rec (motive_1:=fun _=>HA→HA) (motive_2:=fun _=>Unit) (fun _=>(fun a=>a)) (fun _=>(fun a=>a)) (fun _ _=>(fun a=>a)) (fun _=>(fun a=>a)) (fun _=>(fun a=>a)) (fun a=>a) (fun y0 y1=>(fun a=>zSz x0 y0 a)) (fun a=>a) (fun _ _ _ _ _ _=>(fun a=>a)) (fun a=>a) (fun _=>(fun a=>a)) (fun _ _ _ _ _=>(fun a=>a)) (fun a=>a) (fun _ _ _=>(fun a=>a)) (fun a=>a) (fun _ _=>(fun a=>a)) (fun _ _=>(fun a=>a)) (fun _=>(fun a=>a)) (fun _ _ _ _=>(fun a=>a)) (fun _ _=>(fun a=>a)) (fun _=>(fun a=>a)) (fun _ _=>(fun a=>a)) (fun _ _ _ _=>(fun a=>a)) (fun a=>a) () (fun _ _ _ _=>()) d) a)
 (fun d a=>a)
 (fun x0 x1 x2 x3 x4 x5 d a=>(CV.rec (motive_1:=fun _=>HA→HA) (motive_2:=fun _=>Unit) (fun _=>(fun a=>a)) (fun _=>(fun a=>a)) (fun _ _=>(fun a=>a)) (fun _=>(fun a=>a)) (fun _=>(fun a=>a)) (fun a=>a) (fun _ _=>(fun a=>a)) (fun a=>a) (fun y0 y1 y2 y3 y4 y5=>(fun a=>zSz x0 y0 a)) (fun a=>a) (fun _=>(fun a=>a)) (fun _ _ _ _ _=>(fun a=>a)) (fun a=>a) (fun _ _ _=>(fun a=>a)) (fun a=>a) (fun _ _=>(fun a=>a)) (fun _ _=>(fun a=>a)) (fun _=>(fun a=>a)) (fun _ _ _ _=>(fun a=>a)) (fun _ _=>(fun a=>a)) (fun _=>(fun a=>a)) (fun _ _=>(fun a=>a)) (fun _ _ _ _=>(fun a=>a)) (fun a=>a) () (fun _ _ _ _=>()) d) a)
 (fun d a=>a)
 (fun x0 d a=>(CV.rec (motive_1:=fun _=>HA→HA) (motive_2:=fun _=>Unit) (fun _=>(fun a=>a)) (fun _=>(fun a=>a)) (fun _ _=>(fun a=>a)) (fun _=>(fun a=>a)) (fun _=>(fun a=>a)) (fun a=>a) (fun _ _=>(fun a=>a)) (fun a=>a) (fun _ _ _ _ _ _=>(fun a=>a)) (fun a=>a) (fun y0=>(fun a=>zSz x0 y0 a)) (fun _ _ _ _ _=>(fun a=>a)) (fun a=>a) (fun _ _ _=>(fun a=>a)) (fun a=>a) (fun _ _=>(fun a=>a)) (fun _ _=>(fun a=>a)) (fun _=>(fun a=>a)) (fun _ _ _ _=>(fun a=>a)) (fun _ _=>(fun a=>a)) (fun _=>(fun a=>a)) (fun _ _=>(fun a=>a)) (fun _ _ _ _=>(fun a=>a)) (fun a=>a) () (fun _ _ _ _=>()) d) a)
 (fun x0 x1 x2 ha hc d a=>(CV.rec (motive_1:=fun _=>HA→HA) (motive_2:=fun _=>Unit) (fun _=>(fun a=>a)) (fun _=>(fun a=>a)) (fun _ _=>(fun a=>a)) (fun _=>(fun a=>a)) (fun _=>(fun a=>a)) (fun a=>a) (fun _ _=>(fun a=>a)) (fun a=>a) (fun _ _ _ _ _ _=>(fun a=>a)) (fun a=>a) (fun _=>(fun a=>a)) (fun y0 y1 y2 _ _=>(fun a=>hc y2 (ha y1 a))) (fun a=>a) (fun _ _ _=>(fun a=>a)) (fun a=>a) (fun _ _=>(fun a=>a)) (fun _ _=>(fun a=>a)) (fun _=>(fun a=>a)) (fun _ _ _ _=>(fun a=>a)) (fun _ _=>(fun a=>a)) (fun _=>(fun a=>a)) (fun _ _=>(fun a=>a)) (fun _ _ _ _=>(fun a=>a)) (fun a=>a) () (fun _ _ _ _=>()) d) a)
 (fun d a=>a)
 (fun x0 x1 hv d a=>(CV.rec (motive_1:=fun _=>HA→HA) (motive_2:=fun _=>Unit) (fun _=>(fun a=>a)) (fun _=>(fun a=>a)) (fun _ _=>(fun a=>a)) (fun _=>(fun a=>a)) (fun _=>(fun a=>a)) (fun a=>a) (fun _ _=>(fun a=>a)) (fun a=>a) (fun _ _ _ _ _ _=>(fun a=>a)) (fun a=>a) (fun _=>(fun a=>a)) (fun _ _ _ _ _=>(fun a=>a)) (fun a=>a) (fun y0 y1 _=>(fun a=>hv y1 a)) (fun a=>a) (fun _ _=>(fun a=>a)) (fun _ _=>(fun a=>a)) (fun _=>(fun a=>a)) (fun _ _ _ _=>(fun a=>a)) (fun _ _=>(fun a=>a)) (fun _=>(fun a=>a)) (fun _ _=>(fun a=>a)) (fun _ _ _ _=>(fun a=>a)) (fun a=>a) () (fun _ _ _ _=>()) d) a)
 (fun d a=>a)
 (fun x0 hl d a=>(CV.rec (motive_1:=fun _=>HA→HA) (motive_2:=fun _=>Unit) (fun _=>(fun a=>a)) (fun _=>(fun a=>a)) (fun _ _=>(fun a=>a)) (fun _=>(fun a=>a)) (fun _=>(fun a=>a)) (fun a=>a) (fun _ _=>(fun a=>a)) (fun a=>a) (fun _ _ _ _ _ _=>(fun a=>a)) (fun a=>a) (fun _=>(fun a=>a)) (fun _ _ _ _ _=>(fun a=>a)) (fun a=>a) (fun _ _ _=>(fun a=>a)) (fun a=>a) (fun y0 _=>(fun a=>hl y0 a)) (fun _ _=>(fun a=>a)) (fun _=>(fun a=>a)) (fun _ _ _ _=>(fun a=>a)) (fun _ _=>(fun a=>a)) (fun _=>(fun a=>a)) (fun _ _=>(fun a=>a)) (fun _ _ _ _=>(fun a=>a)) (fun a=>a) () (fun _ _ _ _=>()) d) a)
 (fun x0 hl d a=>(CV.rec (motive_1:=fun _=>HA→HA) (motive_2:=fun _=>Unit) (fun _=>(fun a=>a)) (fun _=>(fun a=>a)) (fun _ _=>(fun a=>a)) (fun _=>(fun a=>a)) (fun _=>(fun a=>a)) (fun a=>a) (fun _ _=>(fun a=>a)) (fun a=>a) (fun _ _ _ _ _ _=>(fun a=>a)) (fun a=>a) (fun _=>(fun a=>a)) (fun _ _ _ _ _=>(fun a=>a)) (fun a=>a) (fun _ _ _=>(fun a=>a)) (fun a=>a) (fun _ _=>(fun a=>a)) (fun y0 _=>(fun a=>hl y0 a)) (fun _=>(fun a=>a)) (fun _ _ _ _=>(fun a=>a)) (fun _ _=>(fun a=>a)) (fun _=>(fun a=>a)) (fun _ _=>(fun a=>a)) (fun _ _ _ _=>(fun a=>a)) (fun a=>a) () (fun _ _ _ _=>()) d) a)
 (fun x0 d a=>zSZ x0 d a)
 (fun x0 x1 x2 x3 d a=>a)
 (fun x0 hl d a=>(CV.rec (motive_1:=fun _=>HA→HA) (motive_2:=fun _=>Unit) (fun _=>(fun a=>a)) (fun _=>(fun a=>a)) (fun _ _=>(fun a=>a)) (fun _=>(fun a=>a)) (fun y0=>(fun a=>hl (xk y0) a)) (fun a=>a) (fun _ _=>(fun a=>a)) (fun a=>a) (fun _ _ _ _ _ _=>(fun a=>a)) (fun a=>a) (fun _=>(fun a=>a)) (fun _ _ _ _ _=>(fun a=>a)) (fun a=>a) (fun _ _ _=>(fun a=>a)) (fun a=>a) (fun _ _=>(fun a=>a)) (fun _ _=>(fun a=>a)) (fun _=>(fun a=>a)) (fun _ _ _ _=>(fun a=>a)) (fun y0 _=>(fun a=>hl y0 a)) (fun _=>(fun a=>a)) (fun _ _=>(fun a=>a)) (fun _ _ _ _=>(fun a=>a)) (fun a=>a) () (fun _ _ _ _=>()) d) a)
 (fun x0 d a=>a)
 (fun x0 x1 d a=>zSM x0 x1 d a)
 (fun x0 x1 x2 x3 d a=>a)
 (fun d a=>a)
 (fun _ a=>a)
 (fun _ _ h g m a=>List.rec (motive:=fun _=>HA) a (fun b r _=>g r (h b a)) m) c
def hVs (l m:List CV) (a:HA):HA:=hV (.agg l) (.agg m) a
def hEs:List CE→List CE→HA→HA
 | x::xs,y::ys,a=>hEs xs ys (hV x.val y.val (hV x.key y.key a))
 | _,_,a=>a
def hZ:List (CV × CV)→List (CV × CV)→HA→HA
 | x::xs,y::ys,a=>hZ xs ys (hV x.2 y.2 a)
 | x::xs,[],a=>hZ xs [] (hV x.2 (.str []) a)
 | _,_,a=>a
def hO:CObj→CObj→HA→HA
 | .cells x,.cells y,a=>hVs x y a
 | .cells x,.full _ y,a=>hVs x y a
 | .map x _,.map y _,a=>hEs x (wu y) a
 | .mapz x,.mapz y,a=>hZ x y a
 | .mapz x,.map _ _,a=>hZ x [] a
 | _,_,a=>a
def hTm (tm:Tm):List (Nat × CV)→HA→HA
 | [],a=>a
 | p::r,a=>hTm tm r (hV p.2 (qf (Loc.ofNat p.1) tm) a)
def zQX (a:HA):Option (Key × HA):=match a.f with
 | k::r=>some (k,⟨r,a.b,a.c,a.th⟩)
 | []=>match a.b.reverse with
  | k::r=>some (k,⟨r,[],a.c,a.th⟩)
  | []=>none
def zRG (h:Heap):List (Key × CObj)→HA→List Key→List Key × HA
 | [],a,ks=>(ks.reverse,a)
 | p::r,a,ks=>match zQX a with
  | none=>(ks.reverse,a)
  | some (j,a)=>match getH j h with
   | some o=>zRG h r (hO p.2 o a) (j::ks)
   | none=>(ks.reverse,a)
def zF1 (j:Nat):List (Nat × Int × LL)→Int × LL
 | []=>(0,[(j,1)])
 | q::r=>match Nat.beq q.1 j with
  | true=>q.2
  | false=>zF1 j r
def hTh (th:List (Nat × Int × LL)):List (Int × Int)→Nat→TH
 | [],_=>[]
 | _::r,j=>zF1 j th::hTh th r (Nat.succ j)
def zST (T:TS):Nat:=match T.objs with
 | p::_=>p.1.ix
 | []=>0
def zCp {α:Type}:List α→(List α→Bool)→Bool
 | [],k=>k []
 | x::l,k=>zCp l fun l'=>k (x::l')
theorem vT {α:Type}:∀ {l:List α} {k:List α→Bool},zCp l k=k l
 | [],_=>rfl
 | x::l,k=>vT (l:=l)
def zBB (t:Nat) (T:TS) (tm:Tm) (h:Heap) (k:kM→Bool):Bool:=match zRG h T.objs (hTm tm T.locs ⟨[],[],zST T,[]⟩) [] with
 | (ks,a)=>zCp ks fun ks=>zCp (hTh a.th T.b 0) fun θ=>k ⟨t,ks,θ⟩
theorem zFK {t:Nat} {T:TS} {tm:Tm} {h:Heap} {k:kM→Bool} (hh:zBB t T tm h k=true):∃ x,x.T=t∧k x=true:=by
 unfold zBB at hh
 split at hh
 rw [vT,vT] at hh
 exact ⟨_,rfl,hh⟩
def qv (a b:Bool):Bool:=Bool.rec (motive:=fun _=>Bool) false b a
theorem qX {a b:Bool}:qv a b=(a&&b):=by cases a <;> rfl
def zSF (a b:Bool):Bool:=Bool.rec (motive:=fun _=>Bool) (Bool.rec (motive:=fun _=>Bool) true false b) b a
theorem zQx {a b:Bool}:zSF a b=(a == b):=by cases a <;> cases b <;> rfl
def zJ1 (θ:TH) (l:LL):Option (Int × LL):=List.rec (motive:=fun _=>Option (Int × LL)) (some (0,[])) (fun p _ ih=>match zQW θ p.1,ih with
 | some q,some s=>some (p.2*q.1+s.1,zBu (uT p.2 q.2) s.2)
 | _,_=>none) l
theorem ul {θ:TH}:∀ {l:LL},zJ1 θ l=uR θ l
 | []=>rfl
 | p::r=>by
  unfold uR
  rw [← zDM,← ul (l:=r)]
  rfl
def zOO (θ:TH) (e:SE) (v:CV):Bool:=match zA9 v with
 | some (k,c,l)=>match zJ1 θ e.l with
  | some s=>kEq e.k k&&zx (e.c+s.1) c&&vA s.2 l
  | none=>false
 | none=>false
theorem zPY {θ:TH} {e:SE} {v:CV}:zOO θ e v=ui θ e v:=by
 unfold zOO ui
 rw [ul]
 rfl
def zPb (ρ:Heap) (si:SE→CV→Bool) (fw:Nat→List (List Nat)→CV→Bool) (c:CV):CV→Bool:=CV.rec (motive_1:=fun _=>CV→Bool) (motive_2:=fun _=>List CV→Bool)
 (fun x0 d=>(CV.rec (motive_1:=fun _=>Bool) (motive_2:=fun _=>Unit) (fun y0=>zSF x0 y0) (fun _=>false) (fun _ _=>false) (fun _=>false) (fun _=>false) false (fun _ _=>false) false (fun _ _ _ _ _ _=>false) false (fun _=>false) (fun _ _ _ _ _=>false) false (fun _ _ _=>false) false (fun _ _=>false) (fun _ _=>false) (fun _=>false) (fun _ _ _ _=>false) (fun _ _=>false) (fun _=>false) (fun _ _=>false) (fun _ _ _ _=>false) false () (fun _ _ _ _=>()) d))
 (fun x0 d=>(CV.rec (motive_1:=fun _=>Bool) (motive_2:=fun _=>Unit) (fun _=>false) (fun y0=>Nat.beq x0 y0) (fun _ _=>false) (fun _=>false) (fun _=>false) false (fun _ _=>false) false (fun _ _ _ _ _ _=>false) false (fun _=>false) (fun _ _ _ _ _=>false) false (fun _ _ _=>false) false (fun _ _=>false) (fun _ _=>false) (fun _=>false) (fun _ _ _ _=>false) (fun _ _=>false) (fun _=>false) (fun _ _=>false) (fun _ _ _ _=>false) false () (fun _ _ _ _=>()) d))
 (fun x0 x1 d=>(CV.rec (motive_1:=fun _=>Bool) (motive_2:=fun _=>Unit) (fun _=>false) (fun _=>false) (fun y0 y1=>(qv (kEq x0 y0) (zx x1 y1))) (fun _=>false) (fun _=>false) false (fun _ _=>false) false (fun _ _ _ _ _ _=>false) false (fun _=>false) (fun _ _ _ _ _=>false) false (fun _ _ _=>false) false (fun _ _=>false) (fun _ _=>false) (fun _=>false) (fun _ _ _ _=>false) (fun _ _=>false) (fun _=>false) (fun _ _=>false) (fun _ _ _ _=>false) false () (fun _ _ _ _=>()) d))
 (fun x0 d=>zHp x0 d)
 (fun x0 d=>(CV.rec (motive_1:=fun _=>Bool) (motive_2:=fun _=>Unit) (fun _=>false) (fun _=>false) (fun _ _=>false) (fun _=>false) (fun y0=>xq x0 y0) false (fun _ _=>false) false (fun _ _ _ _ _ _=>false) false (fun _=>false) (fun _ _ _ _ _=>false) false (fun _ _ _=>false) false (fun _ _=>false) (fun _ _=>false) (fun _=>false) (fun _ _ _ _=>false) (fun _ _=>false) (fun _=>false) (fun _ _=>false) (fun _ _ _ _=>false) false () (fun _ _ _ _=>()) d))
 (fun d=>(CV.rec (motive_1:=fun _=>Bool) (motive_2:=fun _=>Unit) (fun _=>false) (fun _=>false) (fun _ _=>false) (fun _=>false) (fun _=>false) true (fun _ _=>false) false (fun _ _ _ _ _ _=>false) false (fun _=>false) (fun _ _ _ _ _=>false) false (fun _ _ _=>false) false (fun _ _=>false) (fun _ _=>false) (fun _=>false) (fun _ _ _ _=>false) (fun _ _=>false) (fun _=>false) (fun _ _=>false) (fun _ _ _ _=>false) false () (fun _ _ _ _=>()) d))
 (fun x0 x1 d=>(CV.rec (motive_1:=fun _=>Bool) (motive_2:=fun _=>Unit) (fun _=>false) (fun _=>false) (fun _ _=>false) (fun _=>false) (fun _=>false) false (fun y0 y1=>(qv (kg ρ x0 y0) (Nat.beq x1 y1))) false (fun _ _ _ _ _ _=>false) false (fun _=>false) (fun _ _ _ _ _=>false) false (fun _ _ _=>false) false (fun _ _=>false) (fun _ _=>false) (fun _=>false) (fun _ _ _ _=>false) (fun _ _=>false) (fun _=>false) (fun _ _=>false) (fun _ _ _ _=>false) false () (fun _ _ _ _=>()) d))
 (fun d=>(CV.rec (motive_1:=fun _=>Bool) (motive_2:=fun _=>Unit) (fun _=>false) (fun _=>false) (fun _ _=>false) (fun _=>false) (fun _=>false) false (fun _ _=>false) true (fun _ _ _ _ _ _=>false) false (fun _=>false) (fun _ _ _ _ _=>false) false (fun _ _ _=>false) false (fun _ _=>false) (fun _ _=>false) (fun _=>false) (fun _ _ _ _=>false) (fun _ _=>false) (fun _=>false) (fun _ _=>false) (fun _ _ _ _=>false) false () (fun _ _ _ _=>()) d))
 (fun x0 x1 x2 x3 x4 x5 d=>(CV.rec (motive_1:=fun _=>Bool) (motive_2:=fun _=>Unit) (fun _=>false) (fun _=>false) (fun _ _=>false) (fun _=>false) (fun _=>false) false (fun _ _=>false) false (fun y0 y1 y2 y3 y4 y5=>kg ρ x0 y0&&Nat.beq x1 y1&&Nat.beq x2 y2&&Nat.beq x4 y4&&x5 == y5&&(Nat.beq x3 y3 || (!x5&&Nat.ble x3 y3))) false (fun _=>false) (fun _ _ _ _ _=>false) false (fun _ _ _=>false) false (fun _ _=>false) (fun _ _=>false) (fun _=>false) (fun _ _ _ _=>false) (fun _ _=>false) (fun _=>false) (fun _ _=>false) (fun _ _ _ _=>false) false () (fun _ _ _ _=>()) d))
 (fun d=>(CV.rec (motive_1:=fun _=>Bool) (motive_2:=fun _=>Unit) (fun _=>false) (fun _=>false) (fun _ _=>false) (fun _=>false) (fun _=>false) false (fun _ _=>false) false (fun _ _ _ _ _ _=>false) true (fun _=>false) (fun _ _ _ _ _=>false) false (fun _ _ _=>false) false (fun _ _=>false) (fun _ _=>false) (fun _=>false) (fun _ _ _ _=>false) (fun _ _=>false) (fun _=>false) (fun _ _=>false) (fun _ _ _ _=>false) false () (fun _ _ _ _=>()) d))
 (fun x0 d=>(CV.rec (motive_1:=fun _=>Bool) (motive_2:=fun _=>Unit) (fun _=>false) (fun _=>false) (fun _ _=>false) (fun _=>false) (fun _=>false) false (fun _ _=>false) false (fun _ _ _ _ _ _=>false) false (fun y0=>kg ρ x0 y0) (fun _ _ _ _ _=>false) false (fun _ _ _=>false) false (fun _ _=>false) (fun _ _=>false) (fun _=>false) (fun _ _ _ _=>false) (fun _ _=>false) (fun _=>false) (fun _ _=>false) (fun _ _ _ _=>false) false () (fun _ _ _ _=>()) d))
 (fun x0 x1 x2 ha hc d=>(CV.rec (motive_1:=fun _=>Bool) (motive_2:=fun _=>Unit) (fun _=>false) (fun _=>false) (fun _ _=>false) (fun _=>false) (fun _=>false) false (fun _ _=>false) false (fun _ _ _ _ _ _=>false) false (fun _=>false) (fun y0 y1 y2 _ _=>decide (x0=y0)&&ha y1&&hc y2) false (fun _ _ _=>false) false (fun _ _=>false) (fun _ _=>false) (fun _=>false) (fun _ _ _ _=>false) (fun _ _=>false) (fun _=>false) (fun _ _=>false) (fun _ _ _ _=>false) false () (fun _ _ _ _=>()) d))
 (fun d=>(CV.rec (motive_1:=fun _=>Bool) (motive_2:=fun _=>Unit) (fun _=>false) (fun _=>false) (fun _ _=>false) (fun _=>false) (fun _=>false) false (fun _ _=>false) false (fun _ _ _ _ _ _=>false) false (fun _=>false) (fun _ _ _ _ _=>false) true (fun _ _ _=>false) false (fun _ _=>false) (fun _ _=>false) (fun _=>false) (fun _ _ _ _=>false) (fun _ _=>false) (fun _=>false) (fun _ _=>false) (fun _ _ _ _=>false) false () (fun _ _ _ _=>()) d))
 (fun x0 x1 hv d=>(CV.rec (motive_1:=fun _=>Bool) (motive_2:=fun _=>Unit) (fun _=>false) (fun _=>false) (fun _ _=>false) (fun _=>false) (fun _=>false) false (fun _ _=>false) false (fun _ _ _ _ _ _=>false) false (fun _=>false) (fun _ _ _ _ _=>false) false (fun y0 y1 _=>(qv (Nat.beq x0 y0) (hv y1))) false (fun _ _=>false) (fun _ _=>false) (fun _=>false) (fun _ _ _ _=>false) (fun _ _=>false) (fun _=>false) (fun _ _=>false) (fun _ _ _ _=>false) false () (fun _ _ _ _=>()) d))
 (fun d=>(CV.rec (motive_1:=fun _=>Bool) (motive_2:=fun _=>Unit) (fun _=>false) (fun _=>false) (fun _ _=>false) (fun _=>false) (fun _=>false) false (fun _ _=>false) false (fun _ _ _ _ _ _=>false) false (fun _=>false) (fun _ _ _ _ _=>false) false (fun _ _ _=>false) true (fun _ _=>false) (fun _ _=>false) (fun _=>false) (fun _ _ _ _=>false) (fun _ _=>false) (fun _=>false) (fun _ _=>false) (fun _ _ _ _=>false) false () (fun _ _ _ _=>()) d))
 (fun x0 hl d=>(CV.rec (motive_1:=fun _=>Bool) (motive_2:=fun _=>Unit) (fun _=>false) (fun _=>false) (fun _ _=>false) (fun _=>false) (fun _=>false) false (fun _ _=>false) false (fun _ _ _ _ _ _=>false) false (fun _=>false) (fun _ _ _ _ _=>false) false (fun _ _ _=>false) false (fun y0 _=>hl y0) (fun _ _=>false) (fun _=>false) (fun _ _ _ _=>false) (fun _ _=>false) (fun _=>false) (fun _ _=>false) (fun _ _ _ _=>false) false () (fun _ _ _ _=>()) d))
 (fun x0 hl d=>(CV.rec (motive_1:=fun _=>Bool) (motive_2:=fun _=>Unit) (fun _=>false) (fun _=>false) (fun _ _=>false) (fun _=>false) (fun _=>false) false (fun _ _=>false) false (fun _ _ _ _ _ _=>false) false (fun _=>false) (fun _ _ _ _ _=>false) false (fun _ _ _=>false) false (fun _ _=>false) (fun y0 _=>hl y0) (fun _=>false) (fun _ _ _ _=>false) (fun _ _=>false) (fun _=>false) (fun _ _=>false) (fun _ _ _ _=>false) false () (fun _ _ _ _=>()) d))
 (fun x0 d=>si x0 d)
 (fun x0 x1 x2 x3 d=>false)
 (fun x0 hl d=>(CV.rec (motive_1:=fun _=>Bool) (motive_2:=fun _=>Unit) (fun _=>false) (fun _=>false) (fun _ _=>false) (fun _=>false) (fun y0=>hl (xk y0)) false (fun _ _=>false) false (fun _ _ _ _ _ _=>false) false (fun _=>false) (fun _ _ _ _ _=>false) false (fun _ _ _=>false) false (fun _ _=>false) (fun _ _=>false) (fun _=>false) (fun _ _ _ _=>false) (fun y0 _=>hl y0) (fun _=>false) (fun _ _=>false) (fun _ _ _ _=>false) false () (fun _ _ _ _=>()) d))
 (fun x0 d=>false)
 (fun x0 x1 d=>fw x0 x1 d)
 (fun x0 x1 x2 x3 d=>false)
 (fun d=>true)
 (fun m=>List.rec (motive:=fun _=>Bool) true (fun _ _ _=>false) m)
 (fun _ _ h g m=>List.rec (motive:=fun _=>Bool) false (fun b r _=>qv (h b) (g r)) m) c
def zRx (ρ:Heap) (si:SE→CV→Bool) (fw:Nat→List (List Nat)→CV→Bool) (l m:List CV):Bool:=zPb ρ si fw (.agg l) (.agg m)
section
variable {ρ:Heap} {θ:TH} {si:SE→CV→Bool} {fw:Nat→List (List Nat)→CV→Bool} (hs:∀ e d,si e d=ui θ e d) (hf:∀ i t d,fw i t d=zw ρ θ (.few i t) d)
include hs hf
mutual
theorem zA5:∀ (c d:CV),zPb ρ si fw c d=zw ρ θ c d
 | .bool x0,d=>by
  cases d with
  | bool y0=>unfold zw; exact zQx
  | _=>unfold zw; rfl
 | .nat x0,d=>by cases d <;> (unfold zw; rfl)
 | .int x0 x1,d=>by
  cases d with
  | int y0 y1=>unfold zw; exact qX
  | _=>unfold zw; rfl
 | .anyi x0,d=>by unfold zw; rfl
 | .str x0,d=>by cases d <;> (unfold zw; rfl)
 | .nilptr,d=>by cases d <;> (unfold zw; rfl)
 | .ptr x0 x1,d=>by
  cases d with
  | ptr y0 y1=>unfold zw; exact qX
  | _=>unfold zw; rfl
 | .nilsl,d=>by cases d <;> (unfold zw; rfl)
 | .sl x0 x1 x2 x3 x4 x5,d=>by cases d <;> (unfold zw; rfl)
 | .nilmap,d=>by cases d <;> (unfold zw; rfl)
 | .map x0,d=>by cases d <;> (unfold zw; rfl)
 | .func x0 x1 x2,d=>by
  cases d with
  | func y0 y1 y2=>unfold zw; rw [← kJ x1 y1,← kJ x2 y2]; rfl
  | _=>unfold zw; rfl
 | .nilfunc,d=>by cases d <;> (unfold zw; rfl)
 | .iface x0 x1,d=>by
  cases d with
  | iface y0 y1=>unfold zw; rw [← zA5 x1 y1,← qX]; rfl
  | _=>unfold zw; rfl
 | .niliface,d=>by cases d <;> (unfold zw; rfl)
 | .agg x0,d=>by
  cases d with
  | agg y0=>unfold zw; exact kJ x0 y0
  | _=>unfold zw; rfl
 | .tup x0,d=>by
  cases d with
  | tup y0=>unfold zw; exact kJ x0 y0
  | _=>unfold zw; rfl
 | .sym x0,d=>by unfold zw; exact hs x0 d
 | .win x0 x1 x2 x3,d=>by cases d <;> (unfold zw; rfl)
 | .sst x0,d=>by
  cases d with
  | sst y0=>unfold zw; exact kJ x0 y0
  | str y0=>unfold zw; exact kJ x0 (xk y0)
  | _=>unfold zw; rfl
 | .big x0,d=>by cases d <;> (unfold zw; rfl)
 | .few x0 x1,d=>hf x0 x1 d
 | .elt x0 x1 x2 x3,d=>by cases d <;> (unfold zw; rfl)
 | .any,d=>by unfold zw; rfl
theorem kJ:∀ (l m:List CV),zRx ρ si fw l m=k7 ρ θ l m
 | [],m=>by cases m <;> (unfold k7; rfl)
 | c::l,m=>by
  cases m with
  | nil=>unfold k7; rfl
  | cons d m=>unfold k7; rw [← zA5 c d,← kJ l m,← qX]; rfl
end
end
def zSO (ρ:Heap) (θ:TH) (c:CV):CV→Bool:=zPb ρ (zOO θ) (fun i t d=>zw ρ θ (.few i t) d) c
theorem zRl {ρ:Heap} {θ:TH} (c d:CV):zSO ρ θ c d=zw ρ θ c d:=zA5 (fun _ _=>zPY) (fun _ _ _=>rfl) c d
def uA (ρ:Heap) (θ:TH) (l:List CV):List CV→Bool:=
 List.rec (motive:=fun _=>List CV→Bool) (fun _=>true) (fun a _ g m=>List.rec (motive:=fun _=>Bool) false (fun b r _=>qv (zSO ρ θ a b) (g r)) m) l
theorem qy {ρ:Heap} {θ:TH}:∀ {l m:List CV},uA ρ θ l m=qE ρ θ l m
 | [],m=>by unfold qE; rfl
 | c::l,[]=>by unfold qE; rfl
 | c::l,d::m=>by unfold qE; rw [← zRl c d,← qy (l:=l) (m:=m),← qX]; rfl
def zRC (ρ:Heap) (θ:TH) (o o':CObj):Bool:=match o,o' with
 | .cells a,.cells b=>uA ρ θ a b
 | o,o'=>zAM ρ θ o o'
theorem zOh {ρ:Heap} {θ:TH} {o o':CObj}:zRC ρ θ o o'=zAM ρ θ o o':=by
 cases o <;> cases o' <;> first | rfl | exact qy
def zBj (ρ inv:Heap) (θ:TH) (h:Heap) (lo hi:Nat):List (Key × CObj)→List Key→Bool
 | [],[]=>true
 | p::r,j::js=>qv (kg ρ p.1 j) <| qv (kg inv j p.1) <| qv (Nat.ble lo p.1.ix) <| qv (Nat.ble (Nat.succ p.1.ix) hi) <| qv (match getH j h with
  | some o=>zRC ρ θ p.2 o
  | none=>false) (zBj ρ inv θ h lo hi r js)
 | _,_=>false
theorem zC8 {ρ inv:Heap} {θ:TH} {h:Heap} {lo hi:Nat}:∀ {l:List (Key × CObj)} {ks:List Key},zBj ρ inv θ h lo hi l ks=qB ρ inv θ h lo hi l ks
 | [],[]=>rfl
 | [],_::_=>rfl
 | _::_,[]=>rfl
 | p::r,j::js=>by
  unfold zBj qB
  rw [zC8 (l:=r) (ks:=js)]
  cases getH j h <;> simp only [qX,zOh,Bool.and_assoc]
def zLY (G:Nat) (ws:List (Key × Nat)) (T:TS) (ks:List Key) (θ:TH) (K:zc) (tm:Tm) (h:Heap):Bool:=
 zBj (jZ T.objs ks) (jK T.objs ks) θ h G T.n.ix T.objs ks&&zIE (jZ T.objs ks) θ ws tm T.locs&&zPB K T.b θ&&zOm K θ T.f&&zFR G T.n.ix ws&&Nat.ble G T.n.ix&&ug θ K.rules T.r
theorem zPN {G:Nat} {ws:List (Key × Nat)} {T:TS} {ks:List Key} {θ:TH} {K:zc} {tm:Tm} {h:Heap}:zLY G ws T ks θ K tm h=zJo G ws T ks θ K tm h:=by
 unfold zLY zJo
 rw [zC8]
def zQ (c:CV):(CV→Bool)→Bool:=CV.rec (motive_1:=fun _=>(CV→Bool)→Bool) (motive_2:=fun _=>(List CV→Bool)→Bool)
 (fun x0 k=>k (.bool x0))
 (fun x0 k=>zN x0 fun x0=>k (.nat x0))
 (fun x0 x1 k=>zI x1 fun x1=>k (.int x0 x1))
 (fun x0 k=>k (.anyi x0))
 (fun x0 k=>k (.str x0))
 (fun k=>k .nilptr)
 (fun x0 x1 k=>zK x0 fun x0=>zN x1 fun x1=>k (.ptr x0 x1))
 (fun k=>k .nilsl)
 (fun x0 x1 x2 x3 x4 x5 k=>zK x0 fun x0=>zN x1 fun x1=>zN x2 fun x2=>zN x3 fun x3=>zN x4 fun x4=>k (.sl x0 x1 x2 x3 x4 x5))
 (fun k=>k .nilmap)
 (fun x0 k=>zK x0 fun x0=>k (.map x0))
 (fun x0 x1 x2 ha hc k=>ha fun x1=>hc fun x2=>k (.func x0 x1 x2))
 (fun k=>k .nilfunc)
 (fun x0 x1 hv k=>hv fun x1=>k (.iface x0 x1))
 (fun k=>k .niliface)
 (fun x0 hl k=>hl fun x0=>k (.agg x0))
 (fun x0 hl k=>hl fun x0=>k (.tup x0))
 (fun x0 k=>zSE x0 fun x0=>k (.sym x0))
 (fun x0 x1 x2 x3 k=>zSE x2 fun x2=>zSE x3 fun x3=>k (.win x0 x1 x2 x3))
 (fun x0 hl k=>hl fun x0=>k (.sst x0))
 (fun x0 k=>k (.big x0))
 (fun x0 x1 k=>zN x0 fun x0=>k (.few x0 x1))
 (fun x0 x1 x2 x3 k=>k (.elt x0 x1 x2 x3))
 (fun k=>k .any)
 (fun k=>k [])
 (fun _ _ h g k=>h fun v=>g fun l=>k (v::l)) c
def zQs (l:List CV):(List CV→Bool)→Bool:=CV.rec_1 (motive_1:=fun _=>(CV→Bool)→Bool) (motive_2:=fun _=>(List CV→Bool)→Bool)
 (fun x0 k=>k (.bool x0))
 (fun x0 k=>zN x0 fun x0=>k (.nat x0))
 (fun x0 x1 k=>zI x1 fun x1=>k (.int x0 x1))
 (fun x0 k=>k (.anyi x0))
 (fun x0 k=>k (.str x0))
 (fun k=>k .nilptr)
 (fun x0 x1 k=>zK x0 fun x0=>zN x1 fun x1=>k (.ptr x0 x1))
 (fun k=>k .nilsl)
 (fun x0 x1 x2 x3 x4 x5 k=>zK x0 fun x0=>zN x1 fun x1=>zN x2 fun x2=>zN x3 fun x3=>zN x4 fun x4=>k (.sl x0 x1 x2 x3 x4 x5))
 (fun k=>k .nilmap)
 (fun x0 k=>zK x0 fun x0=>k (.map x0))
 (fun x0 x1 x2 ha hc k=>ha fun x1=>hc fun x2=>k (.func x0 x1 x2))
 (fun k=>k .nilfunc)
 (fun x0 x1 hv k=>hv fun x1=>k (.iface x0 x1))
 (fun k=>k .niliface)
 (fun x0 hl k=>hl fun x0=>k (.agg x0))
 (fun x0 hl k=>hl fun x0=>k (.tup x0))
 (fun x0 k=>zSE x0 fun x0=>k (.sym x0))
 (fun x0 x1 x2 x3 k=>zSE x2 fun x2=>zSE x3 fun x3=>k (.win x0 x1 x2 x3))
 (fun x0 hl k=>hl fun x0=>k (.sst x0))
 (fun x0 k=>k (.big x0))
 (fun x0 x1 k=>zN x0 fun x0=>k (.few x0 x1))
 (fun x0 x1 x2 x3 k=>k (.elt x0 x1 x2 x3))
 (fun k=>k .any)
 (fun k=>k [])
 (fun _ _ h g k=>h fun v=>g fun l=>k (v::l)) l
mutual
theorem zRv:∀ (c:CV) (k:CV→Bool),zQ c k=k c
 | .bool x0,k=>rfl
 | .nat x0,k=>jE (k:=fun x0=>k (.nat x0))
 | .int x0 x1,k=>zDd (k:=fun x1=>k (.int x0 x1))
 | .anyi x0,k=>rfl
 | .str x0,k=>rfl
 | .nilptr,k=>rfl
 | .ptr x0 x1,k=>by show (zK x0 fun x0=>zN x1 fun x1=>k (.ptr x0 x1))=_; rw [zAv,jE]
 | .nilsl,k=>rfl
 | .sl x0 x1 x2 x3 x4 x5,k=>by show (zK x0 fun x0=>zN x1 fun x1=>zN x2 fun x2=>zN x3 fun x3=>zN x4 fun x4=>k (.sl x0 x1 x2 x3 x4 x5))=_; rw [zAv,jE,jE,jE,jE]
 | .nilmap,k=>rfl
 | .map x0,k=>zAv (k:=fun x0=>k (.map x0))
 | .func x0 x1 x2,k=>by show (zQs x1 fun x1=>zQs x2 fun x2=>k (.func x0 x1 x2))=_; rw [zAI x1,zAI x2]
 | .nilfunc,k=>rfl
 | .iface x0 x1,k=>zRv x1 fun x1=>k (.iface x0 x1)
 | .niliface,k=>rfl
 | .agg x0,k=>zAI x0 fun x0=>k (.agg x0)
 | .tup x0,k=>zAI x0 fun x0=>k (.tup x0)
 | .sym x0,k=>zCO (k:=fun x0=>k (.sym x0))
 | .win x0 x1 x2 x3,k=>by show (zSE x2 fun x2=>zSE x3 fun x3=>k (.win x0 x1 x2 x3))=_; rw [zCO,zCO]
 | .sst x0,k=>zAI x0 fun x0=>k (.sst x0)
 | .big x0,k=>rfl
 | .few x0 x1,k=>jE (k:=fun x0=>k (.few x0 x1))
 | .elt x0 x1 x2 x3,k=>rfl
 | .any,k=>rfl
theorem zAI:∀ (l:List CV) (k:List CV→Bool),zQs l k=k l
 | [],k=>rfl
 | c::l,k=>by show (zQ c fun v=>zQs l fun l=>k (v::l))=_; rw [zRv c,zAI l]
end
def zOQ (o:CObj) (k:CObj→Bool):Bool:=match o with
 | .cells l=>zQs l fun l=>k (.cells l)
 | o=>zO o k
theorem zSC {o:CObj} {k:CObj→Bool}:zOQ o k=k o:=by
 cases o with
 | cells l=>exact zAI l fun l=>k (.cells l)
 | ro a=>exact zDX (o:=.ro a)
 | map a b=>exact zDX (o:=.map a b)
 | striter a b=>exact zDX (o:=.striter a b)
 | mapiter a b c d=>exact zDX (o:=.mapiter a b c d)
 | full a b=>exact zDX (o:=.full a b)
 | mapz a=>exact zDX (o:=.mapz a)
def zQf:List (Key × CObj)→(List (Key × CObj)→Bool)→Bool
 | [],k=>k []
 | (j,o)::l,k=>zK j fun j=>zOQ o fun o=>zQf l fun l=>k ((j,o)::l)
theorem zMv:∀ {l:List (Key × CObj)} {k:List (Key × CObj)→Bool},zQf l k=k l
 | [],_=>rfl
 | (j,o)::l,k=>by unfold zQf; rw [zAv,zSC,zMv]
def zPA (T:TS) (k:TS→Bool):Bool:=match T with
 | ⟨l,o,n,b,f,r⟩=>zLc l fun l=>zQf o fun o=>zK n fun n=>zB b fun b=>zF f fun f=>k ⟨l,o,n,b,f,r⟩
theorem zBY {T:TS} {k:TS→Bool}:zPA T k=k T:=by
 obtain ⟨l,o,n,b,f,r⟩:=T
 show (zLc l fun l=>zQf o fun o=>zK n fun n=>zB b fun b=>zF f fun f=>k ⟨l,o,n,b,f,r⟩)=_
 rw [zKR,zMv,zAv,zLv,zPL]
section
variable {G:Nat} {ws:List (Key × Nat)} {Ts:List TS} {ok:kM→Bool} {K:zc} {fin:R→Bool}
def vP (G:Nat) (ws:List (Key × Nat)) (Ts:List TS) (ok:kM→Bool) (K:zc) (t:Nat) (tm:Tm) (ds:xP) (h:Heap) (n:Key):Bool:=match ds with
 | []=>match nth Ts t with
  | some T=>zPA T fun T=>zBB t T tm h fun x=>ok x&&zLY G ws T x.ks x.θ K tm h&&Nat.ble (Nat.succ n.ix) 65535
  | none=>false
 | _=>false
theorem zFO {G:Nat} {ws:List (Key × Nat)} {Ts:List TS} {ok:kM→Bool} {K:zc} {t:Nat} {tm:Tm} {ds:xP} {h:Heap} {n:Key} (hl:vP G ws Ts ok K t tm ds h n=true):∃ x,zBR G ws Ts ok K x tm ds h n=true:=by
 unfold vP at hl
 split at hl
 · split at hl
   · rename_i T hT
     rw [zBY] at hl
     simp only [zPN] at hl
     obtain ⟨x,hx,hk⟩:=zFK hl
     refine ⟨x,?_⟩
     unfold zBR
     rw [hx,hT]
     show zTS T _=true
     rw [zKF]
     exact hk
   · cases hl
 · cases hl
def zAs (G:Nat) (ws:List (Key × Nat)) (Ts:List TS) (ok:kM→Bool) (K:zc) (fin:R→Bool):R→List Nat→Option (List Nat)
 | .ok .normal tm ds h n,t::r=>match vP G ws Ts ok K t tm ds h n with
  | true=>some r
  | false=>none
 | .ok (.exit i) tm ds h n,r=>match fin (.ok (.exit i) tm ds h n) with
  | true=>some r
  | false=>none
 | .ok .ret tm ds h n,r=>match fin (.ok .ret tm ds h n) with
  | true=>some r
  | false=>none
 | .fork a b,r=>match zAs G ws Ts ok K fin a r with
  | some r=>zAs G ws Ts ok K fin b r
  | none=>none
 | _,_=>none
def wW (o:Option (List Nat)):Bool:=match o with
 | some _=>true
 | none=>false
theorem zCn:∀ {r:R} {l l':List Nat},zAs G ws Ts ok K fin r l=some l'→∃ hs:List kM,∀ rest,kK G ws Ts ok K fin r (hs++rest)=some rest
 | .ok .normal tm ds h n,[],_,hc=>by cases hc
 | .ok .normal tm ds h n,t::l,l',hc=>by
  unfold zAs at hc
  split at hc
  · rename_i hl
    obtain ⟨x,hx⟩:=zFO hl
    exact ⟨[x],fun rest=>by show kK G ws Ts ok K fin (.ok .normal tm ds h n) (x::rest)=_; unfold kK; rw [hx]⟩
  · cases hc
 | .ok (.exit i) tm ds h n,l,l',hc=>by
  unfold zAs at hc
  split at hc
  · rename_i h1
    exact ⟨[],fun rest=>by show kK G ws Ts ok K fin (.ok (.exit i) tm ds h n) rest=_; unfold kK; rw [h1]⟩
  · cases hc
 | .ok .ret tm ds h n,l,l',hc=>by
  unfold zAs at hc
  split at hc
  · rename_i h1
    exact ⟨[],fun rest=>by show kK G ws Ts ok K fin (.ok .ret tm ds h n) rest=_; unfold kK; rw [h1]⟩
  · cases hc
 | .ret ..,l,l',hc=>by unfold zAs at hc; cases hc
 | .err _,l,l',hc=>by unfold zAs at hc; cases hc
 | .fork a b,l,l',hc=>by
  unfold zAs at hc
  split at hc
  · rename_i r hr
    obtain ⟨h1,e1⟩:=zCn hr
    obtain ⟨h2,e2⟩:=zCn hc
    exact ⟨h1++h2,fun rest=>by rw [List.append_assoc]; unfold kK; rw [e1 (h2++rest)]; exact e2 rest⟩
  · cases hc
theorem kn {r:R} {l:List Nat} (h:wW (zAs G ws Ts ok K fin r l)=true):∃ hs,wV (kK G ws Ts ok K fin r hs)=true:=by
 unfold wW at h
 split at h
 · rename_i x hx
   obtain ⟨hs,e⟩:=zCn hx
   refine ⟨hs++[],?_⟩
   rw [e []]; rfl
 · cases h
end
end
end Go.Ev
namespace Go.Ev
open Go.RowKit
noncomputable section
variable {P:Program}
inductive Cut where
 | plain
 | cut (ft:FT) (ct:List Bool→CT)
 | cover (ts:List Nat)
section
variable {code:FuncId→CFn} {nat:Nats} {fuel:Nat} {fn:Func} {c b xa xb:Code} {p pre q:List Stp} {j:Nat} {rs:List CRes} {G:Nat} {wins:List Win} {L:List (Key × Nat)} {A:Key→Option Value} {Ts:List TS} {bound:Int} {w0:World}
def TS.known (T:TS) (A:Key→Option Value):zc:=⟨T.b,T.f,T.r,A⟩
end
end
end Go.Ev
namespace Go.Ev
open Go.RowKit
noncomputable section
variable {P:Program}
section
variable {code:FuncId→CFn} {nat:Nats} {fuel G:Nat} {ws L:List (Key × Nat)} {Ts:List TS} {p pre q:List Stp} {j:Nat} {cc:CCode} {rs:List CRes} {T:TS} {l:List (Key × List CV)}
def sp:List Nat→CT
 | []=>.leaf
 | v::l=>.cmp [(v,1)] 1 (sp l) (sp l)
def fI (z:Int) (k:Int→Bool):Bool:=match z with
 | .ofNat n=>k (.ofNat n)
 | .negSucc n=>k (.negSucc n)
theorem zGW {z:Int} {k:Int→Bool}:fI z k=k z:=by cases z <;> rfl
def fB:List (Int × Int)→(List (Int × Int)→Bool)→Bool
 | [],k=>k []
 | (a,b)::l,k=>fI a fun a=>fI b fun b=>fB l fun l'=>k ((a,b)::l')
theorem zRz:∀ {l:List (Int × Int)} {k:List (Int × Int)→Bool},fB l k=k l
 | [],_=>rfl
 | (a,b)::l,k=>by unfold fB; rw [zGW,zGW,zRz]
def fLL:LL→(LL→Bool)→Bool
 | [],k=>k []
 | (i,a)::l,k=>fI a fun a=>fLL l fun l'=>k ((i,a)::l')
theorem zK9:∀ {l:LL} {k:LL→Bool},fLL l k=k l
 | [],_=>rfl
 | (i,a)::l,k=>by unfold fLL; rw [zGW,zK9]
def fF:List (LL × Int × Int)→(List (LL × Int × Int)→Bool)→Bool
 | [],k=>k []
 | (m,a,b)::l,k=>fLL m fun m=>fI a fun a=>fI b fun b=>fF l fun l'=>k ((m,a,b)::l')
theorem zRP:∀ {l:List (LL × Int × Int)} {k:List (LL × Int × Int)→Bool},fF l k=k l
 | [],_=>rfl
 | (m,a,b)::l,k=>by unfold fF; rw [zK9,zGW,zGW,zRP]
def fR:List xD→(List xD→Bool)→Bool
 | [],k=>k []
 | ⟨o,⟨i,c,m⟩,n,v⟩::l,k=>fI c fun c=>fLL m fun m=>fR l fun l'=>k (⟨o,⟨i,c,m⟩,n,v⟩::l')
theorem zRD:∀ {l:List xD} {k:List xD→Bool},fR l k=k l
 | [],_=>rfl
 | ⟨o,⟨i,c,m⟩,n,v⟩::l,k=>by unfold fR; rw [zGW,zK9,zRD]
def fW:List (Key × List CV)→(List (Key × List CV)→Bool)→Bool
 | [],k=>k []
 | (i,m)::l,k=>zCp m fun m=>fW l fun l'=>k ((i,m)::l')
theorem zRB:∀ {l:List (Key × List CV)} {k:List (Key × List CV)→Bool},fW l k=k l
 | [],_=>rfl
 | (i,m)::l,k=>by unfold fW; rw [vT,zRB]
def zIc (e:Lf) (k:Lf→Bool):Bool:=match e with
 | ⟨b,f,r,l,u⟩=>fB b fun b=>fF f fun f=>fR r fun r=>fW l fun l=>k ⟨b,f,r,l,u⟩
theorem zLh {e:Lf} {k:Lf→Bool}:zIc e k=k e:=by
 cases e
 unfold zIc
 simp only [zRz,zRP,zRD,zRB]
def startN (P:Program) (code:FuncId→CFn) (nat:Nats) (fuel:Nat) (G:Nat) (ws L:List (Key × Nat)) (Ts:List TS) (p:List Stp) (cc:CCode) (args:List CV) (n:Key) (s:Nat→Int) (K:zc) (ts:List Nat):Bool:=
 wW (zAs G ws Ts (fun t=>zCo t.θ&&jN t.θ L) K (fun _=>false) (@zDv (linSym s K) P (@ev (linSym s K) P code nat fuel) p cc (qJ args 0 .nil) [] .nil n) ts)
theorem startN_ok {args:List CV} {n:Key} {s:Nat→Int} {K:zc} {ts:List Nat} (h:startN P code nat fuel G ws L Ts p cc args n s K ts=true):∃ hs,startOf P code nat fuel G ws L Ts p cc args n (linSym s K) K hs=true:=kn h
end
end
end Go.Ev
