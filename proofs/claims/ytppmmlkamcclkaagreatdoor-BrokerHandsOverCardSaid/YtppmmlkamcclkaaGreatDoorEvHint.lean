/- A verified evaluator for the model's code: EvPick, EvCut, EvHintA, EvCut2, EvHint. -/
import Derived.Test.YtppmmlkamcclkaaGreatDoorEvTree
set_option linter.unusedSectionVars false
set_option linter.unusedVariables false
set_option linter.unusedSimpArgs false
namespace Go.Ev
noncomputable section
variable {P:Program}
inductive FT where
 | leaf
 | node (a b:FT)
def FT.paths:FT→List (List Bool)
 | .leaf=>[[]]
 | .node a b=>a.paths.map (false :: ·)++b.paths.map (true :: ·)
theorem FT.some:∀ (t:FT),∃ p,p∈t.paths
 | .leaf=>⟨[],by simp [FT.paths]⟩
 | .node a b=>by
  obtain ⟨p,hp⟩:=FT.some a
  exact ⟨false::p,by simp [FT.paths,hp]⟩
section
variable {G:Nat} {ws:List (Key × Nat)} {Ts:List TS} {ok:kP→Bool} {K:za}
end
theorem uU {o:Option (List kP)} (h:ko o=true):∃ x,o=some x:=by
 unfold ko at h
 split at h
 · exact ⟨_,rfl⟩
 · cases h
end
end Go.Ev
namespace Go.Ev
open Go.RowKit
noncomputable section
variable {P:Program}
section
variable {S S':Sym} (hv:@Sym.val S=@Sym.val S') (ha:@Sym.arg S=@Sym.arg S')
include hv ha
end
inductive CT where
 | leaf
 | cmp (l:LL) (cut:Int) (a b:CT)
def atC:List Stp→Code→Option Code
 | [],c=>some c
 | .l::p,.seq x _=>atC p x
 | .r::p,.seq _ y=>atC p y
 | .b::p,.block _ x=>atC p x
 | _,_=>none
def zJn:List Stp→CCode→CCode
 | [],.seq a _=>a
 | .l::p,.seq a _=>zJn p a
 | .r::p,.seq _ b=>zJn p b
 | .b::p,.block _ x=>zJn p x
 | _,_=>.bad 52
def zER:List Stp→CCode→CCode
 | [],.seq _ b=>b
 | .l::p,.seq a _=>zER p a
 | .r::p,.seq _ b=>zER p b
 | .b::p,.block _ x=>zER p x
 | _,_=>.bad 53
theorem ua {F N:Nat}:∀ {p:List Stp} {c a b:Code},atC p c=some (.seq a b)→zJn p (zR P F N c)=zR P F N a∧zER p (zR P F N c)=zR P F N b
 | [],c,a,b,h=>by
  injection h with h; subst h; exact ⟨rfl,rfl⟩
 | .l::p,c,a,b,h=>by
  cases c <;> first | exact ua (p:=p) h | cases h
 | .r::p,c,a,b,h=>by
  cases c <;> first | exact ua (p:=p) h | cases h
 | .b::p,c,a,b,h=>by
  cases c <;> first | exact ua (p:=p) h | cases h
theorem zIo {q:List Stp} {bl:Code}:∀ {p:List Stp} {c a b:Code},atC p c=some (.seq a b)→subC (p++.l::q) c=some bl→subC q a=some bl
 | [],c,a,b,h,hs=>by
  injection h with h; subst h; exact hs
 | .l::p,c,a,b,h,hs=>by
  cases c <;> first | exact zIo (p:=p) h hs | cases h
 | .r::p,c,a,b,h,hs=>by
  cases c <;> first | exact zIo (p:=p) h hs | cases h
 | .b::p,c,a,b,h,hs=>by
  cases c <;> first | exact zIo (p:=p) h hs | cases h
theorem zBG:∀ {p:List Stp} {c x:Code},atC p c=some x→zu c=true→zu x=true
 | [],c,x,h,hn=>by
  injection h with h; subst h; exact hn
 | .l::p,c,x,h,hn=>by
  cases c <;> try (cases h; done)
  rename_i y z
  have hnr:zu y=true∧zu z=true:=by simpa [zu] using hn
  exact zBG (p:=p) h hnr.1
 | .r::p,c,x,h,hn=>by
  cases c <;> try (cases h; done)
  rename_i y z
  have hnr:zu y=true∧zu z=true:=by simpa [zu] using hn
  exact zBG (p:=p) h hnr.2
 | .b::p,c,x,h,hn=>by
  cases c <;> first | exact zBG (p:=p) h hn | cases h
theorem zMf {q:List Stp}:∀ {p:List Stp} {c a b:Code} {Q:Exit→Act→World→Prop},atC p c=some (.seq a b)→QH P (p++.l::q) c Q=QH P q a (Exit.then (b.wp P (QH P p c Q)) (QH P p c Q))
 | [],c,a,b,Q,h=>by
  injection h with h; subst h; rfl
 | .l::p,c,a,b,Q,h=>by
  cases c <;> try (cases h; done)
  rename_i y z
  exact zMf (p:=p) (Q:=Exit.then (z.wp P Q) Q) h
 | .r::p,c,a,b,Q,h=>by
  cases c <;> try (cases h; done)
  exact zMf (p:=p) h
 | .b::p,c,a,b,Q,h=>by
  cases c <;> try (cases h; done)
  exact zMf (p:=p) h
section
variable [Sym] [SymFact P] {F N:Nat} {call:yX}
end
section
variable {code:FuncId→CFn} {nat:Nats} {fuel:Nat}
section
variable {σ:Nat→Int} {K:za} {fn:Func} {c a b bl:Code} {pre q:List Stp} {j:Nat} {rs:List CRes} {F N:Nat} {w0:World}
end
end
end
end Go.Ev
namespace Go.Ev
open Go.RowKit
noncomputable section
variable {P:Program}
structure HA where
 f:List Key
 b:List Key
 c:Nat
 th:List (Nat × Int × LL)
def zTK (k j:Key) (a:HA):HA:=match Nat.beq k.ix a.c with
 | true=>⟨a.f,j::a.b,Nat.succ a.c,a.th⟩
 | false=>a
def zUd (z:Int):LL→LL
 | []=>[]
 | p::r=>(p.1,p.2 / z)::zUd z r
def zUb (e:SE) (v:CV) (a:HA):HA:=match e.l with
 | [(j,z)]=>match yA z 1 with
  | true=>match zBC v with
   | some (_,c,l)=>⟨a.f,a.b,a.c,(j,c - e.c,l)::a.th⟩
   | none=>a
  | false=>match zBC v with
   | some (_,c,l)=>⟨a.f,a.b,a.c,(j,(c - e.c) / z,zUd z l)::a.th⟩
   | none=>a
 | _=>a
def zUw (s:List Nat):List (List Nat)→Nat→Nat
 | [],n=>n
 | x::r,n=>match xu x s with
  | true=>n
  | false=>zUw s r (Nat.succ n)
def zTX (i:Nat) (t:List (List Nat)) (d:CV) (a:HA):HA:=match d with
 | .str s=>⟨a.f,a.b,a.c,(i,(.ofNat (zUw s t 0)),[])::a.th⟩
 | .few j _=>⟨a.f,a.b,a.c,(i,0,[(j,1)])::a.th⟩
 | _=>a
def hV (c:CV):CV→HA→HA:=CV.rec (motive_1:=fun _=>CV→HA→HA) (motive_2:=fun _=>List CV→HA→HA)
 (fun x0 d a=>a)
 (fun x0 d a=>a)
 (fun x0 x1 d a=>a)
 (fun x0 d a=>a)
 (fun x0 d a=>a)
 (fun d a=>a)
 (fun x0 x1 d a=>(CV.rec (motive_1:=fun _=>HA→HA) (motive_2:=fun _=>Unit) (fun _=>(fun a=>a)) (fun _=>(fun a=>a)) (fun _ _=>(fun a=>a)) (fun _=>(fun a=>a)) (fun _=>(fun a=>a)) (fun a=>a) (fun y0 y1=>(fun a=>zTK x0 y0 a)) (fun a=>a) (fun _ _ _ _ _ _=>(fun a=>a)) (fun a=>a) (fun _=>(fun a=>a)) (fun _ _ _ _ _=>(fun a=>a)) (fun a=>a) (fun _ _ _=>(fun a=>a)) (fun a=>a) (fun _ _=>(fun a=>a)) (fun _ _=>(fun a=>a)) (fun _=>(fun a=>a)) (fun _ _ _ _=>(fun a=>a)) (fun _ _=>(fun a=>a)) (fun _=>(fun a=>a)) (fun _ _=>(fun a=>a)) (fun _ _ _ _=>(fun a=>a)) (fun a=>a) () (fun _ _ _ _=>()) d) a)
 (fun d a=>a)
 (fun x0 x1 x2 x3 x4 x5 d a=>(CV.rec (motive_1:=fun _=>HA→HA) (motive_2:=fun _=>Unit) (fun _=>(fun a=>a)) (fun _=>(fun a=>a)) (fun _ _=>(fun a=>a)) (fun _=>(fun a=>a)) (fun _=>(fun a=>a)) (fun a=>a) (fun _ _=>(fun a=>a)) (fun a=>a) (fun y0 y1 y2 y3 y4 y5=>(fun a=>zTK x0 y0 a)) (fun a=>a) (fun _=>(fun a=>a)) (fun _ _ _ _ _=>(fun a=>a)) (fun a=>a) (fun _ _ _=>(fun a=>a)) (fun a=>a) (fun _ _=>(fun a=>a)) (fun _ _=>(fun a=>a)) (fun _=>(fun a=>a)) (fun _ _ _ _=>(fun a=>a)) (fun _ _=>(fun a=>a)) (fun _=>(fun a=>a)) (fun _ _=>(fun a=>a)) (fun _ _ _ _=>(fun a=>a)) (fun a=>a) () (fun _ _ _ _=>()) d) a)
 (fun d a=>a)
 (fun x0 d a=>(CV.rec (motive_1:=fun _=>HA→HA) (motive_2:=fun _=>Unit) (fun _=>(fun a=>a)) (fun _=>(fun a=>a)) (fun _ _=>(fun a=>a)) (fun _=>(fun a=>a)) (fun _=>(fun a=>a)) (fun a=>a) (fun _ _=>(fun a=>a)) (fun a=>a) (fun _ _ _ _ _ _=>(fun a=>a)) (fun a=>a) (fun y0=>(fun a=>zTK x0 y0 a)) (fun _ _ _ _ _=>(fun a=>a)) (fun a=>a) (fun _ _ _=>(fun a=>a)) (fun a=>a) (fun _ _=>(fun a=>a)) (fun _ _=>(fun a=>a)) (fun _=>(fun a=>a)) (fun _ _ _ _=>(fun a=>a)) (fun _ _=>(fun a=>a)) (fun _=>(fun a=>a)) (fun _ _=>(fun a=>a)) (fun _ _ _ _=>(fun a=>a)) (fun a=>a) () (fun _ _ _ _=>()) d) a)
 (fun x0 x1 x2 ha hc d a=>(CV.rec (motive_1:=fun _=>HA→HA) (motive_2:=fun _=>Unit) (fun _=>(fun a=>a)) (fun _=>(fun a=>a)) (fun _ _=>(fun a=>a)) (fun _=>(fun a=>a)) (fun _=>(fun a=>a)) (fun a=>a) (fun _ _=>(fun a=>a)) (fun a=>a) (fun _ _ _ _ _ _=>(fun a=>a)) (fun a=>a) (fun _=>(fun a=>a)) (fun y0 y1 y2 _ _=>(fun a=>hc y2 (ha y1 a))) (fun a=>a) (fun _ _ _=>(fun a=>a)) (fun a=>a) (fun _ _=>(fun a=>a)) (fun _ _=>(fun a=>a)) (fun _=>(fun a=>a)) (fun _ _ _ _=>(fun a=>a)) (fun _ _=>(fun a=>a)) (fun _=>(fun a=>a)) (fun _ _=>(fun a=>a)) (fun _ _ _ _=>(fun a=>a)) (fun a=>a) () (fun _ _ _ _=>()) d) a)
 (fun d a=>a)
 (fun x0 x1 hv d a=>(CV.rec (motive_1:=fun _=>HA→HA) (motive_2:=fun _=>Unit) (fun _=>(fun a=>a)) (fun _=>(fun a=>a)) (fun _ _=>(fun a=>a)) (fun _=>(fun a=>a)) (fun _=>(fun a=>a)) (fun a=>a) (fun _ _=>(fun a=>a)) (fun a=>a) (fun _ _ _ _ _ _=>(fun a=>a)) (fun a=>a) (fun _=>(fun a=>a)) (fun _ _ _ _ _=>(fun a=>a)) (fun a=>a) (fun y0 y1 _=>(fun a=>hv y1 a)) (fun a=>a) (fun _ _=>(fun a=>a)) (fun _ _=>(fun a=>a)) (fun _=>(fun a=>a)) (fun _ _ _ _=>(fun a=>a)) (fun _ _=>(fun a=>a)) (fun _=>(fun a=>a)) (fun _ _=>(fun a=>a)) (fun _ _ _ _=>(fun a=>a)) (fun a=>a) () (fun _ _ _ _=>()) d) a)
 (fun d a=>a)
 (fun x0 hl d a=>(CV.rec (motive_1:=fun _=>HA→HA) (motive_2:=fun _=>Unit) (fun _=>(fun a=>a)) (fun _=>(fun a=>a)) (fun _ _=>(fun a=>a)) (fun _=>(fun a=>a)) (fun _=>(fun a=>a)) (fun a=>a) (fun _ _=>(fun a=>a)) (fun a=>a) (fun _ _ _ _ _ _=>(fun a=>a)) (fun a=>a) (fun _=>(fun a=>a)) (fun _ _ _ _ _=>(fun a=>a)) (fun a=>a) (fun _ _ _=>(fun a=>a)) (fun a=>a) (fun y0 _=>(fun a=>hl y0 a)) (fun _ _=>(fun a=>a)) (fun _=>(fun a=>a)) (fun _ _ _ _=>(fun a=>a)) (fun _ _=>(fun a=>a)) (fun _=>(fun a=>a)) (fun _ _=>(fun a=>a)) (fun _ _ _ _=>(fun a=>a)) (fun a=>a) () (fun _ _ _ _=>()) d) a)
 (fun x0 hl d a=>(CV.rec (motive_1:=fun _=>HA→HA) (motive_2:=fun _=>Unit) (fun _=>(fun a=>a)) (fun _=>(fun a=>a)) (fun _ _=>(fun a=>a)) (fun _=>(fun a=>a)) (fun _=>(fun a=>a)) (fun a=>a) (fun _ _=>(fun a=>a)) (fun a=>a) (fun _ _ _ _ _ _=>(fun a=>a)) (fun a=>a) (fun _=>(fun a=>a)) (fun _ _ _ _ _=>(fun a=>a)) (fun a=>a) (fun _ _ _=>(fun a=>a)) (fun a=>a) (fun _ _=>(fun a=>a)) (fun y0 _=>(fun a=>hl y0 a)) (fun _=>(fun a=>a)) (fun _ _ _ _=>(fun a=>a)) (fun _ _=>(fun a=>a)) (fun _=>(fun a=>a)) (fun _ _=>(fun a=>a)) (fun _ _ _ _=>(fun a=>a)) (fun a=>a) () (fun _ _ _ _=>()) d) a)
 (fun x0 d a=>zUb x0 d a)
 (fun x0 x1 x2 x3 d a=>a)
 (fun x0 hl d a=>(CV.rec (motive_1:=fun _=>HA→HA) (motive_2:=fun _=>Unit) (fun _=>(fun a=>a)) (fun _=>(fun a=>a)) (fun _ _=>(fun a=>a)) (fun _=>(fun a=>a)) (fun y0=>(fun a=>hl (xo y0) a)) (fun a=>a) (fun _ _=>(fun a=>a)) (fun a=>a) (fun _ _ _ _ _ _=>(fun a=>a)) (fun a=>a) (fun _=>(fun a=>a)) (fun _ _ _ _ _=>(fun a=>a)) (fun a=>a) (fun _ _ _=>(fun a=>a)) (fun a=>a) (fun _ _=>(fun a=>a)) (fun _ _=>(fun a=>a)) (fun _=>(fun a=>a)) (fun _ _ _ _=>(fun a=>a)) (fun y0 _=>(fun a=>hl y0 a)) (fun _=>(fun a=>a)) (fun _ _=>(fun a=>a)) (fun _ _ _ _=>(fun a=>a)) (fun a=>a) () (fun _ _ _ _=>()) d) a)
 (fun x0 d a=>a)
 (fun x0 x1 d a=>zTX x0 x1 d a)
 (fun x0 x1 x2 x3 d a=>a)
 (fun d a=>a)
 (fun _ a=>a)
 (fun _ _ h g m a=>List.rec (motive:=fun _=>HA) a (fun b r _=>g r (h b a)) m) c
def hVs (l m:List CV) (a:HA):HA:=hV (.agg l) (.agg m) a
def hEs:List CE→List CE→HA→HA
 | x::xs,y::ys,a=>hEs xs ys (hV x.val y.val (hV x.key y.key a))
 | _,_,a=>a
def hZ:List (CV × CV)→List (CV × CV)→HA→HA
 | x::xs,y::ys,a=>hZ xs ys (hV x.2 y.2 a)
 | x::xs,[],a=>hZ xs [] (hV x.2 (.str []) a)
 | _,_,a=>a
def hO:CObj→CObj→HA→HA
 | .cells x,.cells y,a=>hVs x y a
 | .cells x,.full _ y,a=>hVs x y a
 | .map x _,.map y _,a=>hEs x (vB y) a
 | .mapz x,.mapz y,a=>hZ x y a
 | .mapz x,.map _ _,a=>hZ x [] a
 | _,_,a=>a
def hTm (tm:Tm):List (Nat × CV)→HA→HA
 | [],a=>a
 | p::r,a=>hTm tm r (hV p.2 (x7 (Loc.ofNat p.1) tm) a)
def zR3 (a:HA):Option (Key × HA):=match a.f with
 | k::r=>some (k,⟨r,a.b,a.c,a.th⟩)
 | []=>match a.b.reverse with
  | k::r=>some (k,⟨r,[],a.c,a.th⟩)
  | []=>none
def zSN (h:zC):List (Key × CObj)→HA→List Key→List Key × HA
 | [],a,ks=>(ks.reverse,a)
 | p::r,a,ks=>match zR3 a with
  | none=>(ks.reverse,a)
  | some (j,a)=>match ze j h with
   | some o=>zSN h r (hO p.2 o a) (j::ks)
   | none=>(ks.reverse,a)
def zI7 (j:Nat) (l:List (Nat × Int × LL)):Int × LL:=List.rec (motive:=fun _=>Int × LL) (Nat.rec (motive:=fun _=>Int) 1 (fun _ _=>0) j,[(j,1)])
 (fun q _ ih=>Prod.rec (motive:=fun _=>Int × LL) (fun i v=>Bool.rec (motive:=fun _=>Int × LL) ih v (Nat.beq i j)) q) l
def hTh (th:List (Nat × Int × LL)):List (Int × Int)→Nat→TH
 | [],_=>[]
 | _::r,j=>zI7 j th::hTh th r (Nat.succ j)
def zT4 (T:TS):Nat:=match T.objs with
 | p::_=>p.1.ix
 | []=>0
def zCS {α:Type}:List α→(List α→Bool)→Bool
 | [],k=>k []
 | x::l,k=>zCS l fun l'=>k (x::l')
theorem vn {α:Type}:∀ {l:List α} {k:List α→Bool},zCS l k=k l
 | [],_=>rfl
 | x::l,k=>vn (l:=l)
def zB4 (t:Nat) (T:TS) (tm:Tm) (h:zC) (k:kP→Bool):Bool:=match zSN h T.objs (hTm tm T.locs ⟨[],[],zT4 T,[]⟩) [] with
 | (ks,a)=>zCS ks fun ks=>zCS (hTh a.th T.b 0) fun θ=>k ⟨t,ks,θ⟩
theorem zGl {t:Nat} {T:TS} {tm:Tm} {h:zC} {k:kP→Bool} (hh:zB4 t T tm h k=true):∃ x,x.T=t∧k x=true:=by
 unfold zB4 at hh
 split at hh
 rw [vn,vn] at hh
 exact ⟨_,rfl,hh⟩
def jB (a b:Bool):Bool:=Bool.rec (motive:=fun _=>Bool) false b a
theorem qb {a b:Bool}:jB a b=(a&&b):=by cases a <;> rfl
def zTO (a b:Bool):Bool:=Bool.rec (motive:=fun _=>Bool) (Bool.rec (motive:=fun _=>Bool) true false b) b a
theorem zRF {a b:Bool}:zTO a b=(a == b):=by cases a <;> cases b <;> rfl
def zKK (θ:TH) (l:LL):Option (Int × LL):=List.rec (motive:=fun _=>Option (Int × LL)) (some (0,[])) (fun p _ ih=>match zR2 θ p.1,ih with
 | some q,some s=>some (p.2*q.1+s.1,zBX (uq p.2 q.2) s.2)
 | _,_=>none) l
theorem zAe {θ:TH}:∀ {l:LL},zKK θ l=uo θ l
 | []=>rfl
 | p::r=>by
  unfold uo
  rw [← zEi,← zAe (l:=r)]
  rfl
def zPQ (θ:TH) (e:SE) (v:CV):Bool:=match zBC v with
 | some (k,c,l)=>match zKK θ e.l with
  | some s=>kEq e.k k&&yA (e.c+s.1) c&&vQ s.2 l
  | none=>false
 | none=>false
theorem zQ4 {θ:TH} {e:SE} {v:CV}:zPQ θ e v=zAb θ e v:=by
 unfold zPQ zAb
 rw [zAe]
 rfl
def zQb (ρ:zC) (si:SE→CV→Bool) (fw:Nat→List (List Nat)→CV→Bool) (c:CV):CV→Bool:=CV.rec (motive_1:=fun _=>CV→Bool) (motive_2:=fun _=>List CV→Bool)
 (fun x0 d=>(CV.rec (motive_1:=fun _=>Bool) (motive_2:=fun _=>Unit) (fun y0=>zTO x0 y0) (fun _=>false) (fun _ _=>false) (fun _=>false) (fun _=>false) false (fun _ _=>false) false (fun _ _ _ _ _ _=>false) false (fun _=>false) (fun _ _ _ _ _=>false) false (fun _ _ _=>false) false (fun _ _=>false) (fun _ _=>false) (fun _=>false) (fun _ _ _ _=>false) (fun _ _=>false) (fun _=>false) (fun _ _=>false) (fun _ _ _ _=>false) false () (fun _ _ _ _=>()) d))
 (fun x0 d=>(CV.rec (motive_1:=fun _=>Bool) (motive_2:=fun _=>Unit) (fun _=>false) (fun y0=>Nat.beq x0 y0) (fun _ _=>false) (fun _=>false) (fun _=>false) false (fun _ _=>false) false (fun _ _ _ _ _ _=>false) false (fun _=>false) (fun _ _ _ _ _=>false) false (fun _ _ _=>false) false (fun _ _=>false) (fun _ _=>false) (fun _=>false) (fun _ _ _ _=>false) (fun _ _=>false) (fun _=>false) (fun _ _=>false) (fun _ _ _ _=>false) false () (fun _ _ _ _=>()) d))
 (fun x0 x1 d=>(CV.rec (motive_1:=fun _=>Bool) (motive_2:=fun _=>Unit) (fun _=>false) (fun _=>false) (fun y0 y1=>(jB (kEq x0 y0) (yA x1 y1))) (fun _=>false) (fun _=>false) false (fun _ _=>false) false (fun _ _ _ _ _ _=>false) false (fun _=>false) (fun _ _ _ _ _=>false) false (fun _ _ _=>false) false (fun _ _=>false) (fun _ _=>false) (fun _=>false) (fun _ _ _ _=>false) (fun _ _=>false) (fun _=>false) (fun _ _=>false) (fun _ _ _ _=>false) false () (fun _ _ _ _=>()) d))
 (fun x0 d=>zH2 x0 d)
 (fun x0 d=>(CV.rec (motive_1:=fun _=>Bool) (motive_2:=fun _=>Unit) (fun _=>false) (fun _=>false) (fun _ _=>false) (fun _=>false) (fun y0=>xu x0 y0) false (fun _ _=>false) false (fun _ _ _ _ _ _=>false) false (fun _=>false) (fun _ _ _ _ _=>false) false (fun _ _ _=>false) false (fun _ _=>false) (fun _ _=>false) (fun _=>false) (fun _ _ _ _=>false) (fun _ _=>false) (fun _=>false) (fun _ _=>false) (fun _ _ _ _=>false) false () (fun _ _ _ _=>()) d))
 (fun d=>(CV.rec (motive_1:=fun _=>Bool) (motive_2:=fun _=>Unit) (fun _=>false) (fun _=>false) (fun _ _=>false) (fun _=>false) (fun _=>false) true (fun _ _=>false) false (fun _ _ _ _ _ _=>false) false (fun _=>false) (fun _ _ _ _ _=>false) false (fun _ _ _=>false) false (fun _ _=>false) (fun _ _=>false) (fun _=>false) (fun _ _ _ _=>false) (fun _ _=>false) (fun _=>false) (fun _ _=>false) (fun _ _ _ _=>false) false () (fun _ _ _ _=>()) d))
 (fun x0 x1 d=>(CV.rec (motive_1:=fun _=>Bool) (motive_2:=fun _=>Unit) (fun _=>false) (fun _=>false) (fun _ _=>false) (fun _=>false) (fun _=>false) false (fun y0 y1=>(jB (kr ρ x0 y0) (Nat.beq x1 y1))) false (fun _ _ _ _ _ _=>false) false (fun _=>false) (fun _ _ _ _ _=>false) false (fun _ _ _=>false) false (fun _ _=>false) (fun _ _=>false) (fun _=>false) (fun _ _ _ _=>false) (fun _ _=>false) (fun _=>false) (fun _ _=>false) (fun _ _ _ _=>false) false () (fun _ _ _ _=>()) d))
 (fun d=>(CV.rec (motive_1:=fun _=>Bool) (motive_2:=fun _=>Unit) (fun _=>false) (fun _=>false) (fun _ _=>false) (fun _=>false) (fun _=>false) false (fun _ _=>false) true (fun _ _ _ _ _ _=>false) false (fun _=>false) (fun _ _ _ _ _=>false) false (fun _ _ _=>false) false (fun _ _=>false) (fun _ _=>false) (fun _=>false) (fun _ _ _ _=>false) (fun _ _=>false) (fun _=>false) (fun _ _=>false) (fun _ _ _ _=>false) false () (fun _ _ _ _=>()) d))
 (fun x0 x1 x2 x3 x4 x5 d=>(CV.rec (motive_1:=fun _=>Bool) (motive_2:=fun _=>Unit) (fun _=>false) (fun _=>false) (fun _ _=>false) (fun _=>false) (fun _=>false) false (fun _ _=>false) false (fun y0 y1 y2 y3 y4 y5=>kr ρ x0 y0&&Nat.beq x1 y1&&Nat.beq x2 y2&&Nat.beq x4 y4&&x5 == y5&&(Nat.beq x3 y3 || (!x5&&Nat.ble x3 y3))) false (fun _=>false) (fun _ _ _ _ _=>false) false (fun _ _ _=>false) false (fun _ _=>false) (fun _ _=>false) (fun _=>false) (fun _ _ _ _=>false) (fun _ _=>false) (fun _=>false) (fun _ _=>false) (fun _ _ _ _=>false) false () (fun _ _ _ _=>()) d))
 (fun d=>(CV.rec (motive_1:=fun _=>Bool) (motive_2:=fun _=>Unit) (fun _=>false) (fun _=>false) (fun _ _=>false) (fun _=>false) (fun _=>false) false (fun _ _=>false) false (fun _ _ _ _ _ _=>false) true (fun _=>false) (fun _ _ _ _ _=>false) false (fun _ _ _=>false) false (fun _ _=>false) (fun _ _=>false) (fun _=>false) (fun _ _ _ _=>false) (fun _ _=>false) (fun _=>false) (fun _ _=>false) (fun _ _ _ _=>false) false () (fun _ _ _ _=>()) d))
 (fun x0 d=>(CV.rec (motive_1:=fun _=>Bool) (motive_2:=fun _=>Unit) (fun _=>false) (fun _=>false) (fun _ _=>false) (fun _=>false) (fun _=>false) false (fun _ _=>false) false (fun _ _ _ _ _ _=>false) false (fun y0=>kr ρ x0 y0) (fun _ _ _ _ _=>false) false (fun _ _ _=>false) false (fun _ _=>false) (fun _ _=>false) (fun _=>false) (fun _ _ _ _=>false) (fun _ _=>false) (fun _=>false) (fun _ _=>false) (fun _ _ _ _=>false) false () (fun _ _ _ _=>()) d))
 (fun x0 x1 x2 ha hc d=>(CV.rec (motive_1:=fun _=>Bool) (motive_2:=fun _=>Unit) (fun _=>false) (fun _=>false) (fun _ _=>false) (fun _=>false) (fun _=>false) false (fun _ _=>false) false (fun _ _ _ _ _ _=>false) false (fun _=>false) (fun y0 y1 y2 _ _=>decide (x0=y0)&&ha y1&&hc y2) false (fun _ _ _=>false) false (fun _ _=>false) (fun _ _=>false) (fun _=>false) (fun _ _ _ _=>false) (fun _ _=>false) (fun _=>false) (fun _ _=>false) (fun _ _ _ _=>false) false () (fun _ _ _ _=>()) d))
 (fun d=>(CV.rec (motive_1:=fun _=>Bool) (motive_2:=fun _=>Unit) (fun _=>false) (fun _=>false) (fun _ _=>false) (fun _=>false) (fun _=>false) false (fun _ _=>false) false (fun _ _ _ _ _ _=>false) false (fun _=>false) (fun _ _ _ _ _=>false) true (fun _ _ _=>false) false (fun _ _=>false) (fun _ _=>false) (fun _=>false) (fun _ _ _ _=>false) (fun _ _=>false) (fun _=>false) (fun _ _=>false) (fun _ _ _ _=>false) false () (fun _ _ _ _=>()) d))
 (fun x0 x1 hv d=>(CV.rec (motive_1:=fun _=>Bool) (motive_2:=fun _=>Unit) (fun _=>false) (fun _=>false) (fun _ _=>false) (fun _=>false) (fun _=>false) false (fun _ _=>false) false (fun _ _ _ _ _ _=>false) false (fun _=>false) (fun _ _ _ _ _=>false) false (fun y0 y1 _=>(jB (Nat.beq x0 y0) (hv y1))) false (fun _ _=>false) (fun _ _=>false) (fun _=>false) (fun _ _ _ _=>false) (fun _ _=>false) (fun _=>false) (fun _ _=>false) (fun _ _ _ _=>false) false () (fun _ _ _ _=>()) d))
 (fun d=>(CV.rec (motive_1:=fun _=>Bool) (motive_2:=fun _=>Unit) (fun _=>false) (fun _=>false) (fun _ _=>false) (fun _=>false) (fun _=>false) false (fun _ _=>false) false (fun _ _ _ _ _ _=>false) false (fun _=>false) (fun _ _ _ _ _=>false) false (fun _ _ _=>false) true (fun _ _=>false) (fun _ _=>false) (fun _=>false) (fun _ _ _ _=>false) (fun _ _=>false) (fun _=>false) (fun _ _=>false) (fun _ _ _ _=>false) false () (fun _ _ _ _=>()) d))
 (fun x0 hl d=>(CV.rec (motive_1:=fun _=>Bool) (motive_2:=fun _=>Unit) (fun _=>false) (fun _=>false) (fun _ _=>false) (fun _=>false) (fun _=>false) false (fun _ _=>false) false (fun _ _ _ _ _ _=>false) false (fun _=>false) (fun _ _ _ _ _=>false) false (fun _ _ _=>false) false (fun y0 _=>hl y0) (fun _ _=>false) (fun _=>false) (fun _ _ _ _=>false) (fun _ _=>false) (fun _=>false) (fun _ _=>false) (fun _ _ _ _=>false) false () (fun _ _ _ _=>()) d))
 (fun x0 hl d=>(CV.rec (motive_1:=fun _=>Bool) (motive_2:=fun _=>Unit) (fun _=>false) (fun _=>false) (fun _ _=>false) (fun _=>false) (fun _=>false) false (fun _ _=>false) false (fun _ _ _ _ _ _=>false) false (fun _=>false) (fun _ _ _ _ _=>false) false (fun _ _ _=>false) false (fun _ _=>false) (fun y0 _=>hl y0) (fun _=>false) (fun _ _ _ _=>false) (fun _ _=>false) (fun _=>false) (fun _ _=>false) (fun _ _ _ _=>false) false () (fun _ _ _ _=>()) d))
 (fun x0 d=>si x0 d)
 (fun x0 x1 x2 x3 d=>false)
 (fun x0 hl d=>(CV.rec (motive_1:=fun _=>Bool) (motive_2:=fun _=>Unit) (fun _=>false) (fun _=>false) (fun _ _=>false) (fun _=>false) (fun y0=>hl (xo y0)) false (fun _ _=>false) false (fun _ _ _ _ _ _=>false) false (fun _=>false) (fun _ _ _ _ _=>false) false (fun _ _ _=>false) false (fun _ _=>false) (fun _ _=>false) (fun _=>false) (fun _ _ _ _=>false) (fun y0 _=>hl y0) (fun _=>false) (fun _ _=>false) (fun _ _ _ _=>false) false () (fun _ _ _ _=>()) d))
 (fun x0 d=>false)
 (fun x0 x1 d=>fw x0 x1 d)
 (fun x0 x1 x2 x3 d=>false)
 (fun d=>true)
 (fun m=>List.rec (motive:=fun _=>Bool) true (fun _ _ _=>false) m)
 (fun _ _ h g m=>List.rec (motive:=fun _=>Bool) false (fun b r _=>jB (h b) (g r)) m) c
def zSD (ρ:zC) (si:SE→CV→Bool) (fw:Nat→List (List Nat)→CV→Bool) (l m:List CV):Bool:=zQb ρ si fw (.agg l) (.agg m)
section
variable {ρ:zC} {θ:TH} {si:SE→CV→Bool} {fw:Nat→List (List Nat)→CV→Bool} (hs:∀ e d,si e d=zAb θ e d) (hf:∀ i t d,fw i t d=z8 ρ θ (.few i t) d)
include hs hf
mutual
theorem zBx:∀ (c d:CV),zQb ρ si fw c d=z8 ρ θ c d
 | .bool x0,d=>by
  cases d with
  | bool y0=>unfold z8; exact zRF
  | _=>unfold z8; rfl
 | .nat x0,d=>by cases d <;> (unfold z8; rfl)
 | .int x0 x1,d=>by
  cases d with
  | int y0 y1=>unfold z8; exact qb
  | _=>unfold z8; rfl
 | .anyi x0,d=>by unfold z8; rfl
 | .str x0,d=>by cases d <;> (unfold z8; rfl)
 | .nilptr,d=>by cases d <;> (unfold z8; rfl)
 | .ptr x0 x1,d=>by
  cases d with
  | ptr y0 y1=>unfold z8; exact qb
  | _=>unfold z8; rfl
 | .nilsl,d=>by cases d <;> (unfold z8; rfl)
 | .sl x0 x1 x2 x3 x4 x5,d=>by cases d <;> (unfold z8; rfl)
 | .nilmap,d=>by cases d <;> (unfold z8; rfl)
 | .map x0,d=>by cases d <;> (unfold z8; rfl)
 | .func x0 x1 x2,d=>by
  cases d with
  | func y0 y1 y2=>unfold z8; rw [← kN x1 y1,← kN x2 y2]; rfl
  | _=>unfold z8; rfl
 | .nilfunc,d=>by cases d <;> (unfold z8; rfl)
 | .iface x0 x1,d=>by
  cases d with
  | iface y0 y1=>unfold z8; rw [← zBx x1 y1,← qb]; rfl
  | _=>unfold z8; rfl
 | .niliface,d=>by cases d <;> (unfold z8; rfl)
 | .agg x0,d=>by
  cases d with
  | agg y0=>unfold z8; exact kN x0 y0
  | _=>unfold z8; rfl
 | .tup x0,d=>by
  cases d with
  | tup y0=>unfold z8; exact kN x0 y0
  | _=>unfold z8; rfl
 | .sym x0,d=>by unfold z8; exact hs x0 d
 | .win x0 x1 x2 x3,d=>by cases d <;> (unfold z8; rfl)
 | .sst x0,d=>by
  cases d with
  | sst y0=>unfold z8; exact kN x0 y0
  | str y0=>unfold z8; exact kN x0 (xo y0)
  | _=>unfold z8; rfl
 | .big x0,d=>by cases d <;> (unfold z8; rfl)
 | .few x0 x1,d=>hf x0 x1 d
 | .elt x0 x1 x2 x3,d=>by cases d <;> (unfold z8; rfl)
 | .any,d=>by unfold z8; rfl
theorem kN:∀ (l m:List CV),zSD ρ si fw l m=wE ρ θ l m
 | [],m=>by cases m <;> (unfold wE; rfl)
 | c::l,m=>by
  cases m with
  | nil=>unfold wE; rfl
  | cons d m=>unfold wE; rw [← zBx c d,← kN l m,← qb]; rfl
end
end
def zTZ (ρ:zC) (θ:TH) (c:CV):CV→Bool:=zQb ρ (zPQ θ) (fun i t d=>z8 ρ θ (.few i t) d) c
theorem zSv {ρ:zC} {θ:TH} (c d:CV):zTZ ρ θ c d=z8 ρ θ c d:=zBx (fun _ _=>zQ4) (fun _ _ _=>rfl) c d
def uR (ρ:zC) (θ:TH) (l:List CV):List CV→Bool:=
 List.rec (motive:=fun _=>List CV→Bool) (fun _=>true) (fun a _ g m=>List.rec (motive:=fun _=>Bool) false (fun b r _=>jB (zTZ ρ θ a b) (g r)) m) l
theorem jF {ρ:zC} {θ:TH}:∀ {l m:List CV},uR ρ θ l m=qL ρ θ l m
 | [],m=>by unfold qL; rfl
 | c::l,[]=>by unfold qL; rfl
 | c::l,d::m=>by unfold qL; rw [← zSv c d,← jF (l:=l) (m:=m),← qb]; rfl
def zSJ (ρ:zC) (θ:TH) (o o':CObj):Bool:=match o,o' with
 | .cells a,.cells b=>uR ρ θ a b
 | o,o'=>zBa ρ θ o o'
theorem zPi {ρ:zC} {θ:TH} {o o':CObj}:zSJ ρ θ o o'=zBa ρ θ o o':=by
 cases o <;> cases o' <;> first | rfl | exact jF
def zBM (ρ inv:zC) (θ:TH) (h:zC) (lo hi:Nat):List (Key × CObj)→List Key→Bool
 | [],[]=>true
 | p::r,j::js=>jB (kr ρ p.1 j) <| jB (kr inv j p.1) <| jB (Nat.ble lo p.1.ix) <| jB (Nat.ble (Nat.succ p.1.ix) hi) <| jB (match ze j h with
  | some o=>zSJ ρ θ p.2 o
  | none=>false) (zBM ρ inv θ h lo hi r js)
 | _,_=>false
theorem zDE {ρ inv:zC} {θ:TH} {h:zC} {lo hi:Nat}:∀ {l:List (Key × CObj)} {ks:List Key},zBM ρ inv θ h lo hi l ks=qI ρ inv θ h lo hi l ks
 | [],[]=>rfl
 | [],_::_=>rfl
 | _::_,[]=>rfl
 | p::r,j::js=>by
  unfold zBM qI
  rw [zDE (l:=r) (ks:=js)]
  cases ze j h <;> simp only [qb,zPi,Bool.and_assoc]
def zMN (G:Nat) (ws:List (Key × Nat)) (T:TS) (ks:List Key) (θ:TH) (K:za) (tm:Tm) (h:zC):Bool:=
 zBM (je T.objs ks) (jR T.objs ks) θ h G T.n.ix T.objs ks&&zJi (je T.objs ks) θ ws tm T.locs&&zQC K T.b θ&&zPo K θ T.f&&zGs G T.n.ix ws&&Nat.ble G T.n.ix&&u7 θ K.rules T.r
theorem zQR {G:Nat} {ws:List (Key × Nat)} {T:TS} {ks:List Key} {θ:TH} {K:za} {tm:Tm} {h:zC}:zMN G ws T ks θ K tm h=zJ3 G ws T ks θ K tm h:=by
 unfold zMN zJ3
 rw [zDE]
def zQ (c:CV):(CV→Bool)→Bool:=CV.rec (motive_1:=fun _=>(CV→Bool)→Bool) (motive_2:=fun _=>(List CV→Bool)→Bool)
 (fun x0 k=>k (.bool x0))
 (fun x0 k=>zN x0 fun x0=>k (.nat x0))
 (fun x0 x1 k=>zI x1 fun x1=>k (.int x0 x1))
 (fun x0 k=>k (.anyi x0))
 (fun x0 k=>k (.str x0))
 (fun k=>k .nilptr)
 (fun x0 x1 k=>zK x0 fun x0=>zN x1 fun x1=>k (.ptr x0 x1))
 (fun k=>k .nilsl)
 (fun x0 x1 x2 x3 x4 x5 k=>zK x0 fun x0=>zN x1 fun x1=>zN x2 fun x2=>zN x3 fun x3=>zN x4 fun x4=>k (.sl x0 x1 x2 x3 x4 x5))
 (fun k=>k .nilmap)
 (fun x0 k=>zK x0 fun x0=>k (.map x0))
 (fun x0 x1 x2 ha hc k=>ha fun x1=>hc fun x2=>k (.func x0 x1 x2))
 (fun k=>k .nilfunc)
 (fun x0 x1 hv k=>hv fun x1=>k (.iface x0 x1))
 (fun k=>k .niliface)
 (fun x0 hl k=>hl fun x0=>k (.agg x0))
 (fun x0 hl k=>hl fun x0=>k (.tup x0))
 (fun x0 k=>zSE x0 fun x0=>k (.sym x0))
 (fun x0 x1 x2 x3 k=>zSE x2 fun x2=>zSE x3 fun x3=>k (.win x0 x1 x2 x3))
 (fun x0 hl k=>hl fun x0=>k (.sst x0))
 (fun x0 k=>k (.big x0))
 (fun x0 x1 k=>zN x0 fun x0=>k (.few x0 x1))
 (fun x0 x1 x2 x3 k=>k (.elt x0 x1 x2 x3))
 (fun k=>k .any)
 (fun k=>k [])
 (fun _ _ h g k=>h fun v=>g fun l=>k (v::l)) c
def zQs (l:List CV):(List CV→Bool)→Bool:=CV.rec_1 (motive_1:=fun _=>(CV→Bool)→Bool) (motive_2:=fun _=>(List CV→Bool)→Bool)
 (fun x0 k=>k (.bool x0))
 (fun x0 k=>zN x0 fun x0=>k (.nat x0))
 (fun x0 x1 k=>zI x1 fun x1=>k (.int x0 x1))
 (fun x0 k=>k (.anyi x0))
 (fun x0 k=>k (.str x0))
 (fun k=>k .nilptr)
 (fun x0 x1 k=>zK x0 fun x0=>zN x1 fun x1=>k (.ptr x0 x1))
 (fun k=>k .nilsl)
 (fun x0 x1 x2 x3 x4 x5 k=>zK x0 fun x0=>zN x1 fun x1=>zN x2 fun x2=>zN x3 fun x3=>zN x4 fun x4=>k (.sl x0 x1 x2 x3 x4 x5))
 (fun k=>k .nilmap)
 (fun x0 k=>zK x0 fun x0=>k (.map x0))
 (fun x0 x1 x2 ha hc k=>ha fun x1=>hc fun x2=>k (.func x0 x1 x2))
 (fun k=>k .nilfunc)
 (fun x0 x1 hv k=>hv fun x1=>k (.iface x0 x1))
 (fun k=>k .niliface)
 (fun x0 hl k=>hl fun x0=>k (.agg x0))
 (fun x0 hl k=>hl fun x0=>k (.tup x0))
 (fun x0 k=>zSE x0 fun x0=>k (.sym x0))
 (fun x0 x1 x2 x3 k=>zSE x2 fun x2=>zSE x3 fun x3=>k (.win x0 x1 x2 x3))
 (fun x0 hl k=>hl fun x0=>k (.sst x0))
 (fun x0 k=>k (.big x0))
 (fun x0 x1 k=>zN x0 fun x0=>k (.few x0 x1))
 (fun x0 x1 x2 x3 k=>k (.elt x0 x1 x2 x3))
 (fun k=>k .any)
 (fun k=>k [])
 (fun _ _ h g k=>h fun v=>g fun l=>k (v::l)) l
mutual
theorem zO2:∀ (c:CV) (k:CV→Bool),zQ c k=k c
 | .bool x0,k=>rfl
 | .nat x0,k=>jM (k:=fun x0=>k (.nat x0))
 | .int x0 x1,k=>zDK (k:=fun x1=>k (.int x0 x1))
 | .anyi x0,k=>rfl
 | .str x0,k=>rfl
 | .nilptr,k=>rfl
 | .ptr x0 x1,k=>by show (zK x0 fun x0=>zN x1 fun x1=>k (.ptr x0 x1))=_; rw [uh,jM]
 | .nilsl,k=>rfl
 | .sl x0 x1 x2 x3 x4 x5,k=>by show (zK x0 fun x0=>zN x1 fun x1=>zN x2 fun x2=>zN x3 fun x3=>zN x4 fun x4=>k (.sl x0 x1 x2 x3 x4 x5))=_; rw [uh,jM,jM,jM,jM]
 | .nilmap,k=>rfl
 | .map x0,k=>uh (k:=fun x0=>k (.map x0))
 | .func x0 x1 x2,k=>by show (zQs x1 fun x1=>zQs x2 fun x2=>k (.func x0 x1 x2))=_; rw [zA5 x1,zA5 x2]
 | .nilfunc,k=>rfl
 | .iface x0 x1,k=>zO2 x1 fun x1=>k (.iface x0 x1)
 | .niliface,k=>rfl
 | .agg x0,k=>zA5 x0 fun x0=>k (.agg x0)
 | .tup x0,k=>zA5 x0 fun x0=>k (.tup x0)
 | .sym x0,k=>zDk (k:=fun x0=>k (.sym x0))
 | .win x0 x1 x2 x3,k=>by show (zSE x2 fun x2=>zSE x3 fun x3=>k (.win x0 x1 x2 x3))=_; rw [zDk,zDk]
 | .sst x0,k=>zA5 x0 fun x0=>k (.sst x0)
 | .big x0,k=>rfl
 | .few x0 x1,k=>jM (k:=fun x0=>k (.few x0 x1))
 | .elt x0 x1 x2 x3,k=>rfl
 | .any,k=>rfl
theorem zA5:∀ (l:List CV) (k:List CV→Bool),zQs l k=k l
 | [],k=>rfl
 | c::l,k=>by show (zQ c fun v=>zQs l fun l=>k (v::l))=_; rw [zO2 c,zA5 l]
end
def zOQ (o:CObj) (k:CObj→Bool):Bool:=match o with
 | .cells l=>zQs l fun l=>k (.cells l)
 | o=>zO o k
theorem zLX {o:CObj} {k:CObj→Bool}:zOQ o k=k o:=by
 cases o with
 | cells l=>exact zA5 l fun l=>k (.cells l)
 | ro a=>exact zEu (o:=.ro a)
 | map a b=>exact zEu (o:=.map a b)
 | striter a b=>exact zEu (o:=.striter a b)
 | mapiter a b c d=>exact zEu (o:=.mapiter a b c d)
 | full a b=>exact zEu (o:=.full a b)
 | mapz a=>exact zEu (o:=.mapz a)
def zRl:List (Key × CObj)→(List (Key × CObj)→Bool)→Bool
 | [],k=>k []
 | (j,o)::l,k=>zK j fun j=>zOQ o fun o=>zRl l fun l=>k ((j,o)::l)
theorem zNk:∀ {l:List (Key × CObj)} {k:List (Key × CObj)→Bool},zRl l k=k l
 | [],_=>rfl
 | (j,o)::l,k=>by unfold zRl; rw [uh,zLX,zNk]
def zQB (T:TS) (k:TS→Bool):Bool:=match T with
 | ⟨l,o,n,b,f,r⟩=>zLc l fun l=>zRl o fun o=>zK n fun n=>zB b fun b=>zF f fun f=>k ⟨l,o,n,b,f,r⟩
theorem zCp {T:TS} {k:TS→Bool}:zQB T k=k T:=by
 obtain ⟨l,o,n,b,f,r⟩:=T
 show (zLc l fun l=>zRl o fun o=>zK n fun n=>zB b fun b=>zF f fun f=>k ⟨l,o,n,b,f,r⟩)=_
 rw [zLE,zNk,uh,zMh,zQO]
section
variable {G:Nat} {ws:List (Key × Nat)} {Ts:List TS} {ok:kP→Bool} {K:za} {fin:R→Bool}
def vk (G:Nat) (ws:List (Key × Nat)) (Ts:List TS) (ok:kP→Bool) (K:za) (t:Nat) (tm:Tm) (ds:xP) (h:zC) (n:Key):Bool:=match ds with
 | []=>match nth Ts t with
  | some T=>zQB T fun T=>zB4 t T tm h fun x=>ok x&&zMN G ws T x.ks x.θ K tm h&&Nat.ble (Nat.succ n.ix) 65535
  | none=>false
 | _=>false
theorem zGp {G:Nat} {ws:List (Key × Nat)} {Ts:List TS} {ok:kP→Bool} {K:za} {t:Nat} {tm:Tm} {ds:xP} {h:zC} {n:Key} (hl:vk G ws Ts ok K t tm ds h n=true):∃ x,zCi G ws Ts ok K x tm ds h n=true:=by
 unfold vk at hl
 split at hl
 · split at hl
   · rename_i T hT
     rw [zCp] at hl
     simp only [zQR] at hl
     obtain ⟨x,hx,hk⟩:=zGl hl
     refine ⟨x,?_⟩
     unfold zCi
     rw [hx,hT]
     show zTS T _=true
     rw [zLt]
     exact hk
   · cases hl
 · cases hl
def zAR (G:Nat) (ws:List (Key × Nat)) (Ts:List TS) (ok:kP→Bool) (K:za) (fin:R→Bool):R→List Nat→Option (List Nat)
 | .ok .normal tm ds h n,t::r=>match vk G ws Ts ok K t tm ds h n with
  | true=>some r
  | false=>none
 | .ok (.exit i) tm ds h n,r=>match fin (.ok (.exit i) tm ds h n) with
  | true=>some r
  | false=>none
 | .ok .ret tm ds h n,r=>match fin (.ok .ret tm ds h n) with
  | true=>some r
  | false=>none
 | .fork a b,r=>match zAR G ws Ts ok K fin a r with
  | some r=>zAR G ws Ts ok K fin b r
  | none=>none
 | _,_=>none
def v6 (o:Option (List Nat)):Bool:=match o with
 | some _=>true
 | none=>false
theorem zCQ:∀ {r:R} {l l':List Nat},zAR G ws Ts ok K fin r l=some l'→∃ hs:List kP,∀ rest,jx G ws Ts ok K fin r (hs++rest)=some rest
 | .ok .normal tm ds h n,[],_,hc=>by cases hc
 | .ok .normal tm ds h n,t::l,l',hc=>by
  unfold zAR at hc
  split at hc
  · rename_i hl
    obtain ⟨x,hx⟩:=zGp hl
    exact ⟨[x],fun rest=>by show jx G ws Ts ok K fin (.ok .normal tm ds h n) (x::rest)=_; unfold jx; rw [hx]⟩
  · cases hc
 | .ok (.exit i) tm ds h n,l,l',hc=>by
  unfold zAR at hc
  split at hc
  · rename_i h1
    exact ⟨[],fun rest=>by show jx G ws Ts ok K fin (.ok (.exit i) tm ds h n) rest=_; unfold jx; rw [h1]⟩
  · cases hc
 | .ok .ret tm ds h n,l,l',hc=>by
  unfold zAR at hc
  split at hc
  · rename_i h1
    exact ⟨[],fun rest=>by show jx G ws Ts ok K fin (.ok .ret tm ds h n) rest=_; unfold jx; rw [h1]⟩
  · cases hc
 | .ret ..,l,l',hc=>by unfold zAR at hc; cases hc
 | .err _,l,l',hc=>by unfold zAR at hc; cases hc
 | .fork a b,l,l',hc=>by
  unfold zAR at hc
  split at hc
  · rename_i r hr
    obtain ⟨h1,e1⟩:=zCQ hr
    obtain ⟨h2,e2⟩:=zCQ hc
    exact ⟨h1++h2,fun rest=>by rw [List.append_assoc]; unfold jx; rw [e1 (h2++rest)]; exact e2 rest⟩
  · cases hc
theorem kw {r:R} {l:List Nat} (h:v6 (zAR G ws Ts ok K fin r l)=true):∃ hs,ko (jx G ws Ts ok K fin r hs)=true:=by
 unfold v6 at h
 split at h
 · rename_i x hx
   obtain ⟨hs,e⟩:=zCQ hx
   refine ⟨hs++[],?_⟩
   rw [e []]; rfl
 · cases h
end
end
end Go.Ev
namespace Go.Ev
open Go.RowKit
noncomputable section
variable {P:Program}
inductive Cut where
 | plain
 | cut (ft:FT) (ct:List Bool→CT)
 | cover (ts:List Nat)
section
variable {code:FuncId→CFn} {nat:Nats} {fuel:Nat} {fn:Func} {c b xa xb:Code} {p pre q:List Stp} {j:Nat} {rs:List CRes} {G:Nat} {wins:List Win} {L:List (Key × Nat)} {A:Key→Option Value} {Ts:List TS} {bound:Int} {w0:World}
def TS.known (T:TS) (A:Key→Option Value):za:=⟨T.b,T.f,T.r,A⟩
end
end
end Go.Ev
namespace Go.Ev
open Go.RowKit
noncomputable section
variable {P:Program}
section
variable {code:FuncId→CFn} {nat:Nats} {fuel G:Nat} {ws L:List (Key × Nat)} {Ts:List TS} {p pre q:List Stp} {j:Nat} {cc:CCode} {rs:List CRes} {T:TS} {l:List (Key × List CV)}
def sp:List Nat→CT
 | []=>.leaf
 | v::l=>.cmp [(v,1)] 1 (sp l) (sp l)
def fI (z:Int) (k:Int→Bool):Bool:=match z with
 | .ofNat n=>k (.ofNat n)
 | .negSucc n=>k (.negSucc n)
theorem zHz {z:Int} {k:Int→Bool}:fI z k=k z:=by cases z <;> rfl
def fB:List (Int × Int)→(List (Int × Int)→Bool)→Bool
 | [],k=>k []
 | (a,b)::l,k=>fI a fun a=>fI b fun b=>fB l fun l'=>k ((a,b)::l')
theorem zSG:∀ {l:List (Int × Int)} {k:List (Int × Int)→Bool},fB l k=k l
 | [],_=>rfl
 | (a,b)::l,k=>by unfold fB; rw [zHz,zHz,zSG]
def fLL:LL→(LL→Bool)→Bool
 | [],k=>k []
 | (i,a)::l,k=>fI a fun a=>fLL l fun l'=>k ((i,a)::l')
theorem zLY:∀ {l:LL} {k:LL→Bool},fLL l k=k l
 | [],_=>rfl
 | (i,a)::l,k=>by unfold fLL; rw [zHz,zLY]
def fF:List (LL × Int × Int)→(List (LL × Int × Int)→Bool)→Bool
 | [],k=>k []
 | (m,a,b)::l,k=>fLL m fun m=>fI a fun a=>fI b fun b=>fF l fun l'=>k ((m,a,b)::l')
theorem zSW:∀ {l:List (LL × Int × Int)} {k:List (LL × Int × Int)→Bool},fF l k=k l
 | [],_=>rfl
 | (m,a,b)::l,k=>by unfold fF; rw [zLY,zHz,zHz,zSW]
def fR:List yr→(List yr→Bool)→Bool
 | [],k=>k []
 | ⟨o,⟨i,c,m⟩,n,v⟩::l,k=>fI c fun c=>fLL m fun m=>fR l fun l'=>k (⟨o,⟨i,c,m⟩,n,v⟩::l')
theorem zSK:∀ {l:List yr} {k:List yr→Bool},fR l k=k l
 | [],_=>rfl
 | ⟨o,⟨i,c,m⟩,n,v⟩::l,k=>by unfold fR; rw [zHz,zLY,zSK]
def fW:List (Key × List CV)→(List (Key × List CV)→Bool)→Bool
 | [],k=>k []
 | (i,m)::l,k=>zCS m fun m=>fW l fun l'=>k ((i,m)::l')
theorem zSI:∀ {l:List (Key × List CV)} {k:List (Key × List CV)→Bool},fW l k=k l
 | [],_=>rfl
 | (i,m)::l,k=>by unfold fW; rw [vn,zSI]
def y8 (e:Lf) (k:Lf→Bool):Bool:=match e with
 | ⟨b,f,r,l,u⟩=>fB b fun b=>fF f fun f=>fR r fun r=>fW l fun l=>k ⟨b,f,r,l,u⟩
theorem yZ {e:Lf} {k:Lf→Bool}:y8 e k=k e:=by
 cases e
 unfold y8
 simp only [zSG,zSW,zSK,zSI]
def startN (P:Program) (code:FuncId→CFn) (nat:Nats) (fuel:Nat) (G:Nat) (ws L:List (Key × Nat)) (Ts:List TS) (p:List Stp) (cc:CCode) (args:List CV) (n:Key) (s:Nat→Int) (K:za) (ts:List Nat):Bool:=
 v6 (zAR G ws Ts (fun t=>zCR t.θ&&jv t.θ L) K (fun _=>false) (@zD3 (linSym s K) P (@ev (linSym s K) P code nat fuel) p cc (qQ args 0 .nil) [] .nil n) ts)
theorem startN_ok {args:List CV} {n:Key} {s:Nat→Int} {K:za} {ts:List Nat} (h:startN P code nat fuel G ws L Ts p cc args n s K ts=true):∃ hs,startOf P code nat fuel G ws L Ts p cc args n (linSym s K) K hs=true:=kw h
end
end
end Go.Ev
