/- A verified evaluator for the model's code: EvPick, EvCut, EvHintA, EvCut2, EvHint. -/
import Derived.Test.YteejciioplkoeaaGreatDoorEvTree
set_option linter.unusedSectionVars false
set_option linter.unusedVariables false
set_option linter.unusedSimpArgs false
namespace Go.Ev
noncomputable section
variable {P:Program}
inductive FT where
 | leaf
 | node (a b:FT)
def FT.paths:FT→List (List Bool)
 | .leaf=>[[]]
 | .node a b=>a.paths.map (false :: ·)++b.paths.map (true :: ·)
theorem FT.some:∀ (t:FT),∃ p,p∈t.paths
 | .leaf=>⟨[],by simp [FT.paths]⟩
 | .node a b=>by
  obtain ⟨p,hp⟩:=FT.some a
  exact ⟨false::p,by simp [FT.paths,hp]⟩
section
variable {G:Nat} {ws:List (Key × Nat)} {Ts:List TS} {ok:kC→Bool} {K:zc}
end
theorem zCg {o:Option (List kC)} (h:ww o=true):∃ x,o=some x:=by
 unfold ww at h
 split at h
 · exact ⟨_,rfl⟩
 · cases h
end
end Go.Ev
namespace Go.Ev
open Go.RowKit
noncomputable section
variable {P:Program}
section
variable {S S':Sym} (hv:@Sym.val S=@Sym.val S') (ha:@Sym.arg S=@Sym.arg S')
include hv ha
end
inductive CT where
 | leaf
 | cmp (l:LL) (cut:Int) (a b:CT)
def atC:List Stp→Code→Option Code
 | [],c=>some c
 | .l::p,.seq x _=>atC p x
 | .r::p,.seq _ y=>atC p y
 | .b::p,.block _ x=>atC p x
 | _,_=>none
def zJv:List Stp→CCode→CCode
 | [],.seq a _=>a
 | .l::p,.seq a _=>zJv p a
 | .r::p,.seq _ b=>zJv p b
 | .b::p,.block _ x=>zJv p x
 | _,_=>.bad 52
def zEY:List Stp→CCode→CCode
 | [],.seq _ b=>b
 | .l::p,.seq a _=>zEY p a
 | .r::p,.seq _ b=>zEY p b
 | .b::p,.block _ x=>zEY p x
 | _,_=>.bad 53
theorem uf {F N:Nat}:∀ {p:List Stp} {c a b:Code},atC p c=some (.seq a b)→zJv p (zU P F N c)=zU P F N a∧zEY p (zU P F N c)=zU P F N b
 | [],c,a,b,h=>by
  injection h with h; subst h; exact ⟨rfl,rfl⟩
 | .l::p,c,a,b,h=>by
  cases c <;> first | exact uf (p:=p) h | cases h
 | .r::p,c,a,b,h=>by
  cases c <;> first | exact uf (p:=p) h | cases h
 | .b::p,c,a,b,h=>by
  cases c <;> first | exact uf (p:=p) h | cases h
theorem zIt {q:List Stp} {bl:Code}:∀ {p:List Stp} {c a b:Code},atC p c=some (.seq a b)→ue (p++.l::q) c=some bl→ue q a=some bl
 | [],c,a,b,h,hs=>by
  injection h with h; subst h; exact hs
 | .l::p,c,a,b,h,hs=>by
  cases c <;> first | exact zIt (p:=p) h hs | cases h
 | .r::p,c,a,b,h,hs=>by
  cases c <;> first | exact zIt (p:=p) h hs | cases h
 | .b::p,c,a,b,h,hs=>by
  cases c <;> first | exact zIt (p:=p) h hs | cases h
theorem zBQ:∀ {p:List Stp} {c x:Code},atC p c=some x→yS c=true→yS x=true
 | [],c,x,h,hn=>by
  injection h with h; subst h; exact hn
 | .l::p,c,x,h,hn=>by
  cases c <;> try (cases h; done)
  rename_i y z
  have hnr:yS y=true∧yS z=true:=by simpa [yS] using hn
  exact zBQ (p:=p) h hnr.1
 | .r::p,c,x,h,hn=>by
  cases c <;> try (cases h; done)
  rename_i y z
  have hnr:yS y=true∧yS z=true:=by simpa [yS] using hn
  exact zBQ (p:=p) h hnr.2
 | .b::p,c,x,h,hn=>by
  cases c <;> first | exact zBQ (p:=p) h hn | cases h
theorem zMt {q:List Stp}:∀ {p:List Stp} {c a b:Code} {Q:Exit→Act→World→Prop},atC p c=some (.seq a b)→QH P (p++.l::q) c Q=QH P q a (Exit.then (b.wp P (QH P p c Q)) (QH P p c Q))
 | [],c,a,b,Q,h=>by
  injection h with h; subst h; rfl
 | .l::p,c,a,b,Q,h=>by
  cases c <;> try (cases h; done)
  rename_i y z
  exact zMt (p:=p) (Q:=Exit.then (z.wp P Q) Q) h
 | .r::p,c,a,b,Q,h=>by
  cases c <;> try (cases h; done)
  exact zMt (p:=p) h
 | .b::p,c,a,b,Q,h=>by
  cases c <;> try (cases h; done)
  exact zMt (p:=p) h
section
variable [Sym] [SymFact P] {F N:Nat} {call:yh}
end
section
variable {code:FuncId→CFn} {nat:Nats} {fuel:Nat}
section
variable {σ:Nat→Int} {K:zc} {fn:Func} {c a b bl:Code} {pre q:List Stp} {j:Nat} {rs:List CRes} {F N:Nat} {w0:World}
end
end
end
end Go.Ev
namespace Go.Ev
open Go.RowKit
noncomputable section
variable {P:Program}
structure HA where
 f:List Key
 b:List Key
 c:Nat
 th:List (Nat × Int × LL)
def zSK (k j:Key) (a:HA):HA:=match Nat.beq k.ix a.c with
 | true=>⟨a.f,j::a.b,Nat.succ a.c,a.th⟩
 | false=>a
def zUA (z:Int):LL→LL
 | []=>[]
 | p::r=>(p.1,p.2 / z)::zUA z r
def zUx (e:SE) (v:CV) (a:HA):HA:=match e.l with
 | [(j,z)]=>match z7 z 1 with
  | true=>match zBM v with
   | some (_,c,l)=>⟨a.f,a.b,a.c,(j,c - e.c,l)::a.th⟩
   | none=>a
  | false=>match zBM v with
   | some (_,c,l)=>⟨a.f,a.b,a.c,(j,(c - e.c) / z,zUA z l)::a.th⟩
   | none=>a
 | _=>a
def zUR (s:List Nat):List (List Nat)→Nat→Nat
 | [],n=>n
 | x::r,n=>match qB x s with
  | true=>n
  | false=>zUR s r (Nat.succ n)
def zUk (i:Nat) (t:List (List Nat)) (d:CV) (a:HA):HA:=match d with
 | .str s=>⟨a.f,a.b,a.c,(i,(.ofNat (zUR s t 0)),[])::a.th⟩
 | .few j _=>⟨a.f,a.b,a.c,(i,0,[(j,1)])::a.th⟩
 | _=>a
def hV (c:CV):CV→HA→HA:=CV.rec (motive_1:=fun _=>CV→HA→HA) (motive_2:=fun _=>List CV→HA→HA)
 (fun x0 d a=>a)
 (fun x0 d a=>a)
 (fun x0 x1 d a=>a)
 (fun x0 d a=>a)
 (fun x0 d a=>a)
 (fun d a=>a)
 (fun x0 x1 d a=>(CV.rec (motive_1:=fun _=>HA→HA) (motive_2:=fun _=>Unit) (fun _=>(fun a=>a)) (fun _=>(fun a=>a)) (fun _ _=>(fun a=>a)) (fun _=>(fun a=>a)) (fun _=>(fun a=>a)) (fun a=>a) (fun y0 y1=>(fun a=>zSK x0 y0 a)) (fun a=>a) (fun _ _ _ _ _ _=>(fun a=>a)) (fun a=>a) (fun _=>(fun a=>a)) (fun _ _ _ _ _=>(fun a=>a)) (fun a=>a) (fun _ _ _=>(fun a=>a)) (fun a=>a) (fun _ _=>(fun a=>a)) (fun _ _=>(fun a=>a)) (fun _=>(fun a=>a)) (fun _ _ _ _=>(fun a=>a)) (fun _ _=>(fun a=>a)) (fun _=>(fun a=>a)) (fun _ _=>(fun a=>a)) (fun _ _ _ _=>(fun a=>a)) (fun a=>a) () (fun _ _ _ _=>()) d) a)
 (fun d a=>a)
 (fun x0 x1 x2 x3 x4 x5 d a=>(CV.rec (motive_1:=fun _=>HA→HA) (motive_2:=fun _=>Unit) (fun _=>(fun a=>a)) (fun _=>(fun a=>a)) (fun _ _=>(fun a=>a)) (fun _=>(fun a=>a)) (fun _=>(fun a=>a)) (fun a=>a) (fun _ _=>(fun a=>a)) (fun a=>a) (fun y0 y1 y2 y3 y4 y5=>(fun a=>zSK x0 y0 a)) (fun a=>a) (fun _=>(fun a=>a)) (fun _ _ _ _ _=>(fun a=>a)) (fun a=>a) (fun _ _ _=>(fun a=>a)) (fun a=>a) (fun _ _=>(fun a=>a)) (fun _ _=>(fun a=>a)) (fun _=>(fun a=>a)) (fun _ _ _ _=>(fun a=>a)) (fun _ _=>(fun a=>a)) (fun _=>(fun a=>a)) (fun _ _=>(fun a=>a)) (fun _ _ _ _=>(fun a=>a)) (fun a=>a) () (fun _ _ _ _=>()) d) a)
 (fun d a=>a)
 (fun x0 d a=>(CV.rec (motive_1:=fun _=>HA→HA) (motive_2:=fun _=>Unit) (fun _=>(fun a=>a)) (fun _=>(fun a=>a)) (fun _ _=>(fun a=>a)) (fun _=>(fun a=>a)) (fun _=>(fun a=>a)) (fun a=>a) (fun _ _=>(fun a=>a)) (fun a=>a) (fun _ _ _ _ _ _=>(fun a=>a)) (fun a=>a) (fun y0=>(fun a=>zSK x0 y0 a)) (fun _ _ _ _ _=>(fun a=>a)) (fun a=>a) (fun _ _ _=>(fun a=>a)) (fun a=>a) (fun _ _=>(fun a=>a)) (fun _ _=>(fun a=>a)) (fun _=>(fun a=>a)) (fun _ _ _ _=>(fun a=>a)) (fun _ _=>(fun a=>a)) (fun _=>(fun a=>a)) (fun _ _=>(fun a=>a)) (fun _ _ _ _=>(fun a=>a)) (fun a=>a) () (fun _ _ _ _=>()) d) a)
 (fun x0 x1 x2 ha hc d a=>(CV.rec (motive_1:=fun _=>HA→HA) (motive_2:=fun _=>Unit) (fun _=>(fun a=>a)) (fun _=>(fun a=>a)) (fun _ _=>(fun a=>a)) (fun _=>(fun a=>a)) (fun _=>(fun a=>a)) (fun a=>a) (fun _ _=>(fun a=>a)) (fun a=>a) (fun _ _ _ _ _ _=>(fun a=>a)) (fun a=>a) (fun _=>(fun a=>a)) (fun y0 y1 y2 _ _=>(fun a=>hc y2 (ha y1 a))) (fun a=>a) (fun _ _ _=>(fun a=>a)) (fun a=>a) (fun _ _=>(fun a=>a)) (fun _ _=>(fun a=>a)) (fun _=>(fun a=>a)) (fun _ _ _ _=>(fun a=>a)) (fun _ _=>(fun a=>a)) (fun _=>(fun a=>a)) (fun _ _=>(fun a=>a)) (fun _ _ _ _=>(fun a=>a)) (fun a=>a) () (fun _ _ _ _=>()) d) a)
 (fun d a=>a)
 (fun x0 x1 hv d a=>(CV.rec (motive_1:=fun _=>HA→HA) (motive_2:=fun _=>Unit) (fun _=>(fun a=>a)) (fun _=>(fun a=>a)) (fun _ _=>(fun a=>a)) (fun _=>(fun a=>a)) (fun _=>(fun a=>a)) (fun a=>a) (fun _ _=>(fun a=>a)) (fun a=>a) (fun _ _ _ _ _ _=>(fun a=>a)) (fun a=>a) (fun _=>(fun a=>a)) (fun _ _ _ _ _=>(fun a=>a)) (fun a=>a) (fun y0 y1 _=>(fun a=>hv y1 a)) (fun a=>a) (fun _ _=>(fun a=>a)) (fun _ _=>(fun a=>a)) (fun _=>(fun a=>a)) (fun _ _ _ _=>(fun a=>a)) (fun _ _=>(fun a=>a)) (fun _=>(fun a=>a)) (fun _ _=>(fun a=>a)) (fun _ _ _ _=>(fun a=>a)) (fun a=>a) () (fun _ _ _ _=>()) d) a)
 (fun d a=>a)
 (fun x0 hl d a=>(CV.rec (motive_1:=fun _=>HA→HA) (motive_2:=fun _=>Unit) (fun _=>(fun a=>a)) (fun _=>(fun a=>a)) (fun _ _=>(fun a=>a)) (fun _=>(fun a=>a)) (fun _=>(fun a=>a)) (fun a=>a) (fun _ _=>(fun a=>a)) (fun a=>a) (fun _ _ _ _ _ _=>(fun a=>a)) (fun a=>a) (fun _=>(fun a=>a)) (fun _ _ _ _ _=>(fun a=>a)) (fun a=>a) (fun _ _ _=>(fun a=>a)) (fun a=>a) (fun y0 _=>(fun a=>hl y0 a)) (fun _ _=>(fun a=>a)) (fun _=>(fun a=>a)) (fun _ _ _ _=>(fun a=>a)) (fun _ _=>(fun a=>a)) (fun _=>(fun a=>a)) (fun _ _=>(fun a=>a)) (fun _ _ _ _=>(fun a=>a)) (fun a=>a) () (fun _ _ _ _=>()) d) a)
 (fun x0 hl d a=>(CV.rec (motive_1:=fun _=>HA→HA) (motive_2:=fun _=>Unit) (fun _=>(fun a=>a)) (fun _=>(fun a=>a)) (fun _ _=>(fun a=>a)) (fun _=>(fun a=>a)) (fun _=>(fun a=>a)) (fun a=>a) (fun _ _=>(fun a=>a)) (fun a=>a) (fun _ _ _ _ _ _=>(fun a=>a)) (fun a=>a) (fun _=>(fun a=>a)) (fun _ _ _ _ _=>(fun a=>a)) (fun a=>a) (fun _ _ _=>(fun a=>a)) (fun a=>a) (fun _ _=>(fun a=>a)) (fun y0 _=>(fun a=>hl y0 a)) (fun _=>(fun a=>a)) (fun _ _ _ _=>(fun a=>a)) (fun _ _=>(fun a=>a)) (fun _=>(fun a=>a)) (fun _ _=>(fun a=>a)) (fun _ _ _ _=>(fun a=>a)) (fun a=>a) () (fun _ _ _ _=>()) d) a)
 (fun x0 d a=>zUx x0 d a)
 (fun x0 x1 x2 x3 d a=>a)
 (fun x0 hl d a=>(CV.rec (motive_1:=fun _=>HA→HA) (motive_2:=fun _=>Unit) (fun _=>(fun a=>a)) (fun _=>(fun a=>a)) (fun _ _=>(fun a=>a)) (fun _=>(fun a=>a)) (fun y0=>(fun a=>hl (x8 y0) a)) (fun a=>a) (fun _ _=>(fun a=>a)) (fun a=>a) (fun _ _ _ _ _ _=>(fun a=>a)) (fun a=>a) (fun _=>(fun a=>a)) (fun _ _ _ _ _=>(fun a=>a)) (fun a=>a) (fun _ _ _=>(fun a=>a)) (fun a=>a) (fun _ _=>(fun a=>a)) (fun _ _=>(fun a=>a)) (fun _=>(fun a=>a)) (fun _ _ _ _=>(fun a=>a)) (fun y0 _=>(fun a=>hl y0 a)) (fun _=>(fun a=>a)) (fun _ _=>(fun a=>a)) (fun _ _ _ _=>(fun a=>a)) (fun a=>a) () (fun _ _ _ _=>()) d) a)
 (fun x0 d a=>a)
 (fun x0 x1 d a=>zUk x0 x1 d a)
 (fun x0 x1 x2 x3 d a=>a)
 (fun d a=>a)
 (fun _ a=>a)
 (fun _ _ h g m a=>List.rec (motive:=fun _=>HA) a (fun b r _=>g r (h b a)) m) c
def hVs (l m:List CV) (a:HA):HA:=hV (.agg l) (.agg m) a
def hEs:List CE→List CE→HA→HA
 | x::xs,y::ys,a=>hEs xs ys (hV x.val y.val (hV x.key y.key a))
 | _,_,a=>a
def hZ:List (CV × CV)→List (CV × CV)→HA→HA
 | x::xs,y::ys,a=>hZ xs ys (hV x.2 y.2 a)
 | x::xs,[],a=>hZ xs [] (hV x.2 (.str []) a)
 | _,_,a=>a
def hO:CObj→CObj→HA→HA
 | .cells x,.cells y,a=>hVs x y a
 | .cells x,.full _ y,a=>hVs x y a
 | .map x _,.map y _,a=>hEs x (vL y) a
 | .mapz x,.mapz y,a=>hZ x y a
 | .mapz x,.map _ _,a=>hZ x [] a
 | .seen x,.seen y,a=>zSK x y a
 | _,_,a=>a
def hTm (tm:Tm):List (Nat × CV)→HA→HA
 | [],a=>a
 | p::r,a=>hTm tm r (hV p.2 (qT (Loc.ofNat p.1) tm) a)
def zSo (a:HA):Option (Key × HA):=match a.f with
 | k::r=>some (k,⟨r,a.b,a.c,a.th⟩)
 | []=>match a.b.reverse with
  | k::r=>some (k,⟨r,[],a.c,a.th⟩)
  | []=>none
def zS9 (h:zC):List (Key × CObj)→HA→List Key→List Key × HA
 | [],a,ks=>(ks.reverse,a)
 | p::r,a,ks=>match zSo a with
  | none=>(ks.reverse,a)
  | some (j,a)=>match zj j h with
   | some o=>zS9 h r (hO p.2 o a) (j::ks)
   | none=>(ks.reverse,a)
def zJd (j:Nat) (l:List (Nat × Int × LL)):Int × LL:=List.rec (motive:=fun _=>Int × LL) (Nat.rec (motive:=fun _=>Int) 1 (fun _ _=>0) j,[(j,1)])
 (fun q _ ih=>Prod.rec (motive:=fun _=>Int × LL) (fun i v=>Bool.rec (motive:=fun _=>Int × LL) ih v (Nat.beq i j)) q) l
def hTh (th:List (Nat × Int × LL)):List (Int × Int)→Nat→TH
 | [],_=>[]
 | _::r,j=>zJd j th::hTh th r (Nat.succ j)
def zUs (T:TS):Nat:=match T.objs with
 | p::_=>p.1.ix
 | []=>0
def zC0 {α:Type}:List α→(List α→Bool)→Bool
 | [],k=>k []
 | x::l,k=>zC0 l fun l'=>k (x::l')
theorem vx {α:Type}:∀ {l:List α} {k:List α→Bool},zC0 l k=k l
 | [],_=>rfl
 | x::l,k=>vx (l:=l)
def zCd (t:Nat) (T:TS) (tm:Tm) (h:zC) (k:kC→Bool):Bool:=match zS9 h T.objs (hTm tm T.locs ⟨[],[],zUs T,[]⟩) [] with
 | (ks,a)=>zC0 ks fun ks=>zC0 (hTh a.th T.b 0) fun θ=>k ⟨t,ks,θ⟩
theorem zGm {t:Nat} {T:TS} {tm:Tm} {h:zC} {k:kC→Bool} (hh:zCd t T tm h k=true):∃ x,x.T=t∧k x=true:=by
 unfold zCd at hh
 split at hh
 rw [vx,vx] at hh
 exact ⟨_,rfl,hh⟩
def jM (a b:Bool):Bool:=Bool.rec (motive:=fun _=>Bool) false b a
theorem qm {a b:Bool}:jM a b=(a&&b):=by cases a <;> rfl
def zUb (a b:Bool):Bool:=Bool.rec (motive:=fun _=>Bool) (Bool.rec (motive:=fun _=>Bool) true false b) b a
theorem zRW {a b:Bool}:zUb a b=(a == b):=by cases a <;> cases b <;> rfl
def zKS (θ:TH) (l:LL):Option (Int × LL):=List.rec (motive:=fun _=>Option (Int × LL)) (some (0,[])) (fun p _ ih=>match zSn θ p.1,ih with
 | some q,some s=>some (p.2*q.1+s.1,zB5 (uy p.2 q.2) s.2)
 | _,_=>none) l
theorem zAk {θ:TH}:∀ {l:LL},zKS θ l=uw θ l
 | []=>rfl
 | p::r=>by
  unfold uw
  rw [← zEo,← zAk (l:=r)]
  rfl
def zP3 (θ:TH) (e:SE) (v:CV):Bool:=match zBM v with
 | some (k,c,l)=>match zKS θ e.l with
  | some s=>kEq e.k k&&z7 (e.c+s.1) c&&vY s.2 l
  | none=>false
 | none=>false
theorem zRk {θ:TH} {e:SE} {v:CV}:zP3 θ e v=zAh θ e v:=by
 unfold zP3 zAh
 rw [zAk]
 rfl
def zQr (ρ:zC) (si:SE→CV→Bool) (fw:Nat→List (List Nat)→CV→Bool) (c:CV):CV→Bool:=CV.rec (motive_1:=fun _=>CV→Bool) (motive_2:=fun _=>List CV→Bool)
 (fun x0 d=>(CV.rec (motive_1:=fun _=>Bool) (motive_2:=fun _=>Unit) (fun y0=>zUb x0 y0) (fun _=>false) (fun _ _=>false) (fun _=>false) (fun _=>false) false (fun _ _=>false) false (fun _ _ _ _ _ _=>false) false (fun _=>false) (fun _ _ _ _ _=>false) false (fun _ _ _=>false) false (fun _ _=>false) (fun _ _=>false) (fun _=>false) (fun _ _ _ _=>false) (fun _ _=>false) (fun _=>false) (fun _ _=>false) (fun _ _ _ _=>false) false () (fun _ _ _ _=>()) d))
 (fun x0 d=>(CV.rec (motive_1:=fun _=>Bool) (motive_2:=fun _=>Unit) (fun _=>false) (fun y0=>Nat.beq x0 y0) (fun _ _=>false) (fun _=>false) (fun _=>false) false (fun _ _=>false) false (fun _ _ _ _ _ _=>false) false (fun _=>false) (fun _ _ _ _ _=>false) false (fun _ _ _=>false) false (fun _ _=>false) (fun _ _=>false) (fun _=>false) (fun _ _ _ _=>false) (fun _ _=>false) (fun _=>false) (fun _ _=>false) (fun _ _ _ _=>false) false () (fun _ _ _ _=>()) d))
 (fun x0 x1 d=>(CV.rec (motive_1:=fun _=>Bool) (motive_2:=fun _=>Unit) (fun _=>false) (fun _=>false) (fun y0 y1=>(jM (kEq x0 y0) (z7 x1 y1))) (fun _=>false) (fun _=>false) false (fun _ _=>false) false (fun _ _ _ _ _ _=>false) false (fun _=>false) (fun _ _ _ _ _=>false) false (fun _ _ _=>false) false (fun _ _=>false) (fun _ _=>false) (fun _=>false) (fun _ _ _ _=>false) (fun _ _=>false) (fun _=>false) (fun _ _=>false) (fun _ _ _ _=>false) false () (fun _ _ _ _=>()) d))
 (fun x0 d=>zCS x0 d)
 (fun x0 d=>(CV.rec (motive_1:=fun _=>Bool) (motive_2:=fun _=>Unit) (fun _=>false) (fun _=>false) (fun _ _=>false) (fun _=>false) (fun y0=>qB x0 y0) false (fun _ _=>false) false (fun _ _ _ _ _ _=>false) false (fun _=>false) (fun _ _ _ _ _=>false) false (fun _ _ _=>false) false (fun _ _=>false) (fun _ _=>false) (fun _=>false) (fun _ _ _ _=>false) (fun _ _=>false) (fun _=>false) (fun _ _=>false) (fun _ _ _ _=>false) false () (fun _ _ _ _=>()) d))
 (fun d=>(CV.rec (motive_1:=fun _=>Bool) (motive_2:=fun _=>Unit) (fun _=>false) (fun _=>false) (fun _ _=>false) (fun _=>false) (fun _=>false) true (fun _ _=>false) false (fun _ _ _ _ _ _=>false) false (fun _=>false) (fun _ _ _ _ _=>false) false (fun _ _ _=>false) false (fun _ _=>false) (fun _ _=>false) (fun _=>false) (fun _ _ _ _=>false) (fun _ _=>false) (fun _=>false) (fun _ _=>false) (fun _ _ _ _=>false) false () (fun _ _ _ _=>()) d))
 (fun x0 x1 d=>(CV.rec (motive_1:=fun _=>Bool) (motive_2:=fun _=>Unit) (fun _=>false) (fun _=>false) (fun _ _=>false) (fun _=>false) (fun _=>false) false (fun y0 y1=>(jM (k7 ρ x0 y0) (Nat.beq x1 y1))) false (fun _ _ _ _ _ _=>false) false (fun _=>false) (fun _ _ _ _ _=>false) false (fun _ _ _=>false) false (fun _ _=>false) (fun _ _=>false) (fun _=>false) (fun _ _ _ _=>false) (fun _ _=>false) (fun _=>false) (fun _ _=>false) (fun _ _ _ _=>false) false () (fun _ _ _ _=>()) d))
 (fun d=>(CV.rec (motive_1:=fun _=>Bool) (motive_2:=fun _=>Unit) (fun _=>false) (fun _=>false) (fun _ _=>false) (fun _=>false) (fun _=>false) false (fun _ _=>false) true (fun _ _ _ _ _ _=>false) false (fun _=>false) (fun _ _ _ _ _=>false) false (fun _ _ _=>false) false (fun _ _=>false) (fun _ _=>false) (fun _=>false) (fun _ _ _ _=>false) (fun _ _=>false) (fun _=>false) (fun _ _=>false) (fun _ _ _ _=>false) false () (fun _ _ _ _=>()) d))
 (fun x0 x1 x2 x3 x4 x5 d=>(CV.rec (motive_1:=fun _=>Bool) (motive_2:=fun _=>Unit) (fun _=>false) (fun _=>false) (fun _ _=>false) (fun _=>false) (fun _=>false) false (fun _ _=>false) false (fun y0 y1 y2 y3 y4 y5=>k7 ρ x0 y0&&Nat.beq x1 y1&&Nat.beq x2 y2&&Nat.beq x4 y4&&x5 == y5&&(Nat.beq x3 y3 || (!x5&&Nat.ble x3 y3))) false (fun _=>false) (fun _ _ _ _ _=>false) false (fun _ _ _=>false) false (fun _ _=>false) (fun _ _=>false) (fun _=>false) (fun _ _ _ _=>false) (fun _ _=>false) (fun _=>false) (fun _ _=>false) (fun _ _ _ _=>false) false () (fun _ _ _ _=>()) d))
 (fun d=>(CV.rec (motive_1:=fun _=>Bool) (motive_2:=fun _=>Unit) (fun _=>false) (fun _=>false) (fun _ _=>false) (fun _=>false) (fun _=>false) false (fun _ _=>false) false (fun _ _ _ _ _ _=>false) true (fun _=>false) (fun _ _ _ _ _=>false) false (fun _ _ _=>false) false (fun _ _=>false) (fun _ _=>false) (fun _=>false) (fun _ _ _ _=>false) (fun _ _=>false) (fun _=>false) (fun _ _=>false) (fun _ _ _ _=>false) false () (fun _ _ _ _=>()) d))
 (fun x0 d=>(CV.rec (motive_1:=fun _=>Bool) (motive_2:=fun _=>Unit) (fun _=>false) (fun _=>false) (fun _ _=>false) (fun _=>false) (fun _=>false) false (fun _ _=>false) false (fun _ _ _ _ _ _=>false) false (fun y0=>k7 ρ x0 y0) (fun _ _ _ _ _=>false) false (fun _ _ _=>false) false (fun _ _=>false) (fun _ _=>false) (fun _=>false) (fun _ _ _ _=>false) (fun _ _=>false) (fun _=>false) (fun _ _=>false) (fun _ _ _ _=>false) false () (fun _ _ _ _=>()) d))
 (fun x0 x1 x2 ha hc d=>(CV.rec (motive_1:=fun _=>Bool) (motive_2:=fun _=>Unit) (fun _=>false) (fun _=>false) (fun _ _=>false) (fun _=>false) (fun _=>false) false (fun _ _=>false) false (fun _ _ _ _ _ _=>false) false (fun _=>false) (fun y0 y1 y2 _ _=>decide (x0=y0)&&ha y1&&hc y2) false (fun _ _ _=>false) false (fun _ _=>false) (fun _ _=>false) (fun _=>false) (fun _ _ _ _=>false) (fun _ _=>false) (fun _=>false) (fun _ _=>false) (fun _ _ _ _=>false) false () (fun _ _ _ _=>()) d))
 (fun d=>(CV.rec (motive_1:=fun _=>Bool) (motive_2:=fun _=>Unit) (fun _=>false) (fun _=>false) (fun _ _=>false) (fun _=>false) (fun _=>false) false (fun _ _=>false) false (fun _ _ _ _ _ _=>false) false (fun _=>false) (fun _ _ _ _ _=>false) true (fun _ _ _=>false) false (fun _ _=>false) (fun _ _=>false) (fun _=>false) (fun _ _ _ _=>false) (fun _ _=>false) (fun _=>false) (fun _ _=>false) (fun _ _ _ _=>false) false () (fun _ _ _ _=>()) d))
 (fun x0 x1 hv d=>(CV.rec (motive_1:=fun _=>Bool) (motive_2:=fun _=>Unit) (fun _=>false) (fun _=>false) (fun _ _=>false) (fun _=>false) (fun _=>false) false (fun _ _=>false) false (fun _ _ _ _ _ _=>false) false (fun _=>false) (fun _ _ _ _ _=>false) false (fun y0 y1 _=>(jM (Nat.beq x0 y0) (hv y1))) false (fun _ _=>false) (fun _ _=>false) (fun _=>false) (fun _ _ _ _=>false) (fun _ _=>false) (fun _=>false) (fun _ _=>false) (fun _ _ _ _=>false) false () (fun _ _ _ _=>()) d))
 (fun d=>(CV.rec (motive_1:=fun _=>Bool) (motive_2:=fun _=>Unit) (fun _=>false) (fun _=>false) (fun _ _=>false) (fun _=>false) (fun _=>false) false (fun _ _=>false) false (fun _ _ _ _ _ _=>false) false (fun _=>false) (fun _ _ _ _ _=>false) false (fun _ _ _=>false) true (fun _ _=>false) (fun _ _=>false) (fun _=>false) (fun _ _ _ _=>false) (fun _ _=>false) (fun _=>false) (fun _ _=>false) (fun _ _ _ _=>false) false () (fun _ _ _ _=>()) d))
 (fun x0 hl d=>(CV.rec (motive_1:=fun _=>Bool) (motive_2:=fun _=>Unit) (fun _=>false) (fun _=>false) (fun _ _=>false) (fun _=>false) (fun _=>false) false (fun _ _=>false) false (fun _ _ _ _ _ _=>false) false (fun _=>false) (fun _ _ _ _ _=>false) false (fun _ _ _=>false) false (fun y0 _=>hl y0) (fun _ _=>false) (fun _=>false) (fun _ _ _ _=>false) (fun _ _=>false) (fun _=>false) (fun _ _=>false) (fun _ _ _ _=>false) false () (fun _ _ _ _=>()) d))
 (fun x0 hl d=>(CV.rec (motive_1:=fun _=>Bool) (motive_2:=fun _=>Unit) (fun _=>false) (fun _=>false) (fun _ _=>false) (fun _=>false) (fun _=>false) false (fun _ _=>false) false (fun _ _ _ _ _ _=>false) false (fun _=>false) (fun _ _ _ _ _=>false) false (fun _ _ _=>false) false (fun _ _=>false) (fun y0 _=>hl y0) (fun _=>false) (fun _ _ _ _=>false) (fun _ _=>false) (fun _=>false) (fun _ _=>false) (fun _ _ _ _=>false) false () (fun _ _ _ _=>()) d))
 (fun x0 d=>si x0 d)
 (fun x0 x1 x2 x3 d=>false)
 (fun x0 hl d=>(CV.rec (motive_1:=fun _=>Bool) (motive_2:=fun _=>Unit) (fun _=>false) (fun _=>false) (fun _ _=>false) (fun _=>false) (fun y0=>hl (x8 y0)) false (fun _ _=>false) false (fun _ _ _ _ _ _=>false) false (fun _=>false) (fun _ _ _ _ _=>false) false (fun _ _ _=>false) false (fun _ _=>false) (fun _ _=>false) (fun _=>false) (fun _ _ _ _=>false) (fun y0 _=>hl y0) (fun _=>false) (fun _ _=>false) (fun _ _ _ _=>false) false () (fun _ _ _ _=>()) d))
 (fun x0 d=>false)
 (fun x0 x1 d=>fw x0 x1 d)
 (fun x0 x1 x2 x3 d=>false)
 (fun d=>true)
 (fun m=>List.rec (motive:=fun _=>Bool) true (fun _ _ _=>false) m)
 (fun _ _ h g m=>List.rec (motive:=fun _=>Bool) false (fun b r _=>jM (h b) (g r)) m) c
def zS0 (ρ:zC) (si:SE→CV→Bool) (fw:Nat→List (List Nat)→CV→Bool) (l m:List CV):Bool:=zQr ρ si fw (.agg l) (.agg m)
section
variable {ρ:zC} {θ:TH} {si:SE→CV→Bool} {fw:Nat→List (List Nat)→CV→Bool} (hs:∀ e d,si e d=zAh θ e d) (hf:∀ i t d,fw i t d=yG ρ θ (.few i t) d)
include hs hf
mutual
theorem zBI:∀ (c d:CV),zQr ρ si fw c d=yG ρ θ c d
 | .bool x0,d=>by
  cases d with
  | bool y0=>unfold yG; exact zRW
  | _=>unfold yG; rfl
 | .nat x0,d=>by cases d <;> (unfold yG; rfl)
 | .int x0 x1,d=>by
  cases d with
  | int y0 y1=>unfold yG; exact qm
  | _=>unfold yG; rfl
 | .anyi x0,d=>by unfold yG; rfl
 | .str x0,d=>by cases d <;> (unfold yG; rfl)
 | .nilptr,d=>by cases d <;> (unfold yG; rfl)
 | .ptr x0 x1,d=>by
  cases d with
  | ptr y0 y1=>unfold yG; exact qm
  | _=>unfold yG; rfl
 | .nilsl,d=>by cases d <;> (unfold yG; rfl)
 | .sl x0 x1 x2 x3 x4 x5,d=>by cases d <;> (unfold yG; rfl)
 | .nilmap,d=>by cases d <;> (unfold yG; rfl)
 | .map x0,d=>by cases d <;> (unfold yG; rfl)
 | .func x0 x1 x2,d=>by
  cases d with
  | func y0 y1 y2=>unfold yG; rw [← kh x1 y1,← kh x2 y2]; rfl
  | _=>unfold yG; rfl
 | .nilfunc,d=>by cases d <;> (unfold yG; rfl)
 | .iface x0 x1,d=>by
  cases d with
  | iface y0 y1=>unfold yG; rw [← zBI x1 y1,← qm]; rfl
  | _=>unfold yG; rfl
 | .niliface,d=>by cases d <;> (unfold yG; rfl)
 | .agg x0,d=>by
  cases d with
  | agg y0=>unfold yG; exact kh x0 y0
  | _=>unfold yG; rfl
 | .tup x0,d=>by
  cases d with
  | tup y0=>unfold yG; exact kh x0 y0
  | _=>unfold yG; rfl
 | .sym x0,d=>by unfold yG; exact hs x0 d
 | .win x0 x1 x2 x3,d=>by cases d <;> (unfold yG; rfl)
 | .sst x0,d=>by
  cases d with
  | sst y0=>unfold yG; exact kh x0 y0
  | str y0=>unfold yG; exact kh x0 (x8 y0)
  | _=>unfold yG; rfl
 | .big x0,d=>by cases d <;> (unfold yG; rfl)
 | .few x0 x1,d=>hf x0 x1 d
 | .elt x0 x1 x2 x3,d=>by cases d <;> (unfold yG; rfl)
 | .any,d=>by unfold yG; rfl
theorem kh:∀ (l m:List CV),zS0 ρ si fw l m=wR ρ θ l m
 | [],m=>by cases m <;> (unfold wR; rfl)
 | c::l,m=>by
  cases m with
  | nil=>unfold wR; rfl
  | cons d m=>unfold wR; rw [← zBI c d,← kh l m,← qm]; rfl
end
end
def zUm (ρ:zC) (θ:TH) (c:CV):CV→Bool:=zQr ρ (zP3 θ) (fun i t d=>yG ρ θ (.few i t) d) c
theorem zSP {ρ:zC} {θ:TH} (c d:CV):zUm ρ θ c d=yG ρ θ c d:=zBI (fun _ _=>zRk) (fun _ _ _=>rfl) c d
def uW (ρ:zC) (θ:TH) (l:List CV):List CV→Bool:=
 List.rec (motive:=fun _=>List CV→Bool) (fun _=>true) (fun a _ g m=>List.rec (motive:=fun _=>Bool) false (fun b r _=>jM (zUm ρ θ a b) (g r)) m) l
theorem jQ {ρ:zC} {θ:TH}:∀ {l m:List CV},uW ρ θ l m=qS ρ θ l m
 | [],m=>by unfold qS; rfl
 | c::l,[]=>by unfold qS; rfl
 | c::l,d::m=>by unfold qS; rw [← zSP c d,← jQ (l:=l) (m:=m),← qm]; rfl
def zS5 (ρ:zC) (θ:TH) (o o':CObj):Bool:=match o,o' with
 | .cells a,.cells b=>uW ρ θ a b
 | o,o'=>zBl ρ θ o o'
theorem zPv {ρ:zC} {θ:TH} {o o':CObj}:zS5 ρ θ o o'=zBl ρ θ o o':=by
 cases o <;> cases o' <;> first | rfl | exact jQ
def zBU (ρ inv:zC) (θ:TH) (h:zC) (lo hi:Nat):List (Key × CObj)→List Key→Bool
 | [],[]=>true
 | p::r,j::js=>jM (k7 ρ p.1 j) <| jM (k7 inv j p.1) <| jM (Nat.ble lo p.1.ix) <| jM (Nat.ble (Nat.succ p.1.ix) hi) <| jM (match zj j h with
  | some o=>zS5 ρ θ p.2 o
  | none=>false) (zBU ρ inv θ h lo hi r js)
 | _,_=>false
theorem zDN {ρ inv:zC} {θ:TH} {h:zC} {lo hi:Nat}:∀ {l:List (Key × CObj)} {ks:List Key},zBU ρ inv θ h lo hi l ks=qP ρ inv θ h lo hi l ks
 | [],[]=>rfl
 | [],_::_=>rfl
 | _::_,[]=>rfl
 | p::r,j::js=>by
  unfold zBU qP
  rw [zDN (l:=r) (ks:=js)]
  cases zj j h <;> simp only [qm,zPv,Bool.and_assoc]
def zM0 (G:Nat) (ws:List (Key × Nat)) (T:TS) (ks:List Key) (θ:TH) (K:zc) (tm:Tm) (h:zC):Bool:=
 zBU (ju T.objs ks) (jc T.objs ks) θ h G T.n.ix T.objs ks&&zJq (ju T.objs ks) θ ws tm T.locs&&zQT K T.b θ&&zPA K θ T.f&&zGv G T.n.ix ws&&Nat.ble G T.n.ix&&zAf θ K.rules T.r
theorem zQ7 {G:Nat} {ws:List (Key × Nat)} {T:TS} {ks:List Key} {θ:TH} {K:zc} {tm:Tm} {h:zC}:zM0 G ws T ks θ K tm h=zIB G ws T ks θ K tm h:=by
 unfold zM0 zIB
 rw [zDN]
def zQ (c:CV):(CV→Bool)→Bool:=CV.rec (motive_1:=fun _=>(CV→Bool)→Bool) (motive_2:=fun _=>(List CV→Bool)→Bool)
 (fun x0 k=>k (.bool x0))
 (fun x0 k=>zN x0 fun x0=>k (.nat x0))
 (fun x0 x1 k=>zI x1 fun x1=>k (.int x0 x1))
 (fun x0 k=>k (.anyi x0))
 (fun x0 k=>k (.str x0))
 (fun k=>k .nilptr)
 (fun x0 x1 k=>zK x0 fun x0=>zN x1 fun x1=>k (.ptr x0 x1))
 (fun k=>k .nilsl)
 (fun x0 x1 x2 x3 x4 x5 k=>zK x0 fun x0=>zN x1 fun x1=>zN x2 fun x2=>zN x3 fun x3=>zN x4 fun x4=>k (.sl x0 x1 x2 x3 x4 x5))
 (fun k=>k .nilmap)
 (fun x0 k=>zK x0 fun x0=>k (.map x0))
 (fun x0 x1 x2 ha hc k=>ha fun x1=>hc fun x2=>k (.func x0 x1 x2))
 (fun k=>k .nilfunc)
 (fun x0 x1 hv k=>hv fun x1=>k (.iface x0 x1))
 (fun k=>k .niliface)
 (fun x0 hl k=>hl fun x0=>k (.agg x0))
 (fun x0 hl k=>hl fun x0=>k (.tup x0))
 (fun x0 k=>zSE x0 fun x0=>k (.sym x0))
 (fun x0 x1 x2 x3 k=>zSE x2 fun x2=>zSE x3 fun x3=>k (.win x0 x1 x2 x3))
 (fun x0 hl k=>hl fun x0=>k (.sst x0))
 (fun x0 k=>k (.big x0))
 (fun x0 x1 k=>zN x0 fun x0=>k (.few x0 x1))
 (fun x0 x1 x2 x3 k=>k (.elt x0 x1 x2 x3))
 (fun k=>k .any)
 (fun k=>k [])
 (fun _ _ h g k=>h fun v=>g fun l=>k (v::l)) c
def zQs (l:List CV):(List CV→Bool)→Bool:=CV.rec_1 (motive_1:=fun _=>(CV→Bool)→Bool) (motive_2:=fun _=>(List CV→Bool)→Bool)
 (fun x0 k=>k (.bool x0))
 (fun x0 k=>zN x0 fun x0=>k (.nat x0))
 (fun x0 x1 k=>zI x1 fun x1=>k (.int x0 x1))
 (fun x0 k=>k (.anyi x0))
 (fun x0 k=>k (.str x0))
 (fun k=>k .nilptr)
 (fun x0 x1 k=>zK x0 fun x0=>zN x1 fun x1=>k (.ptr x0 x1))
 (fun k=>k .nilsl)
 (fun x0 x1 x2 x3 x4 x5 k=>zK x0 fun x0=>zN x1 fun x1=>zN x2 fun x2=>zN x3 fun x3=>zN x4 fun x4=>k (.sl x0 x1 x2 x3 x4 x5))
 (fun k=>k .nilmap)
 (fun x0 k=>zK x0 fun x0=>k (.map x0))
 (fun x0 x1 x2 ha hc k=>ha fun x1=>hc fun x2=>k (.func x0 x1 x2))
 (fun k=>k .nilfunc)
 (fun x0 x1 hv k=>hv fun x1=>k (.iface x0 x1))
 (fun k=>k .niliface)
 (fun x0 hl k=>hl fun x0=>k (.agg x0))
 (fun x0 hl k=>hl fun x0=>k (.tup x0))
 (fun x0 k=>zSE x0 fun x0=>k (.sym x0))
 (fun x0 x1 x2 x3 k=>zSE x2 fun x2=>zSE x3 fun x3=>k (.win x0 x1 x2 x3))
 (fun x0 hl k=>hl fun x0=>k (.sst x0))
 (fun x0 k=>k (.big x0))
 (fun x0 x1 k=>zN x0 fun x0=>k (.few x0 x1))
 (fun x0 x1 x2 x3 k=>k (.elt x0 x1 x2 x3))
 (fun k=>k .any)
 (fun k=>k [])
 (fun _ _ h g k=>h fun v=>g fun l=>k (v::l)) l
mutual
theorem zSY:∀ (c:CV) (k:CV→Bool),zQ c k=k c
 | .bool x0,k=>rfl
 | .nat x0,k=>jW (k:=fun x0=>k (.nat x0))
 | .int x0 x1,k=>zDT (k:=fun x1=>k (.int x0 x1))
 | .anyi x0,k=>rfl
 | .str x0,k=>rfl
 | .nilptr,k=>rfl
 | .ptr x0 x1,k=>by show (zK x0 fun x0=>zN x1 fun x1=>k (.ptr x0 x1))=_; rw [zAa,jW]
 | .nilsl,k=>rfl
 | .sl x0 x1 x2 x3 x4 x5,k=>by show (zK x0 fun x0=>zN x1 fun x1=>zN x2 fun x2=>zN x3 fun x3=>zN x4 fun x4=>k (.sl x0 x1 x2 x3 x4 x5))=_; rw [zAa,jW,jW,jW,jW]
 | .nilmap,k=>rfl
 | .map x0,k=>zAa (k:=fun x0=>k (.map x0))
 | .func x0 x1 x2,k=>by show (zQs x1 fun x1=>zQs x2 fun x2=>k (.func x0 x1 x2))=_; rw [zBg x1,zBg x2]
 | .nilfunc,k=>rfl
 | .iface x0 x1,k=>zSY x1 fun x1=>k (.iface x0 x1)
 | .niliface,k=>rfl
 | .agg x0,k=>zBg x0 fun x0=>k (.agg x0)
 | .tup x0,k=>zBg x0 fun x0=>k (.tup x0)
 | .sym x0,k=>zDr (k:=fun x0=>k (.sym x0))
 | .win x0 x1 x2 x3,k=>by show (zSE x2 fun x2=>zSE x3 fun x3=>k (.win x0 x1 x2 x3))=_; rw [zDr,zDr]
 | .sst x0,k=>zBg x0 fun x0=>k (.sst x0)
 | .big x0,k=>rfl
 | .few x0 x1,k=>jW (k:=fun x0=>k (.few x0 x1))
 | .elt x0 x1 x2 x3,k=>rfl
 | .any,k=>rfl
theorem zBg:∀ (l:List CV) (k:List CV→Bool),zQs l k=k l
 | [],k=>rfl
 | c::l,k=>by show (zQ c fun v=>zQs l fun l=>k (v::l))=_; rw [zSY c,zBg l]
end
def zOQ (o:CObj) (k:CObj→Bool):Bool:=match o with
 | .cells l=>zQs l fun l=>k (.cells l)
 | o=>zO o k
theorem zT8 {o:CObj} {k:CObj→Bool}:zOQ o k=k o:=by
 cases o with
 | cells l=>exact zBg l fun l=>k (.cells l)
 | ro a=>exact zDB (o:=.ro a)
 | map a b=>exact zDB (o:=.map a b)
 | striter a b=>exact zDB (o:=.striter a b)
 | mapiter a b c d=>exact zDB (o:=.mapiter a b c d)
 | full a b=>exact zDB (o:=.full a b)
 | mapz a=>exact zDB (o:=.mapz a)
 | seen a=>exact zDB (o:=.seen a)
 | hid=>rfl
def zRE:List (Key × CObj)→(List (Key × CObj)→Bool)→Bool
 | [],k=>k []
 | (j,o)::l,k=>zK j fun j=>zOQ o fun o=>zRE l fun l=>k ((j,o)::l)
theorem zND:∀ {l:List (Key × CObj)} {k:List (Key × CObj)→Bool},zRE l k=k l
 | [],_=>rfl
 | (j,o)::l,k=>by unfold zRE; rw [zAa,zT8,zND]
def zSA (T:TS) (k:TS→Bool):Bool:=match T with
 | ⟨l,o,n,b,f,r,s⟩=>zLc l fun l=>zRE o fun o=>zK n fun n=>zB b fun b=>zF f fun f=>k ⟨l,o,n,b,f,r,s⟩
theorem zEt {T:TS} {k:TS→Bool}:zSA T k=k T:=by
 obtain ⟨l,o,n,b,f,r,s⟩:=T
 show (zLc l fun l=>zRE o fun o=>zK n fun n=>zB b fun b=>zF f fun f=>k ⟨l,o,n,b,f,r,s⟩)=_
 rw [zLS,zND,zAa,zMv,zQ4]
section
variable {G:Nat} {ws:List (Key × Nat)} {Ts:List TS} {ok:kC→Bool} {K:zc} {fin:R→Bool}
def vt (G:Nat) (ws:List (Key × Nat)) (Ts:List TS) (ok:kC→Bool) (K:zc) (t:Nat) (tm:Tm) (ds:xd) (h:zC) (n:Key):Bool:=match ds with
 | []=>match nth Ts t with
  | some T=>zSA T fun T=>Nat.ble (Nat.succ n.ix) 65535&&zA6 T.sl tm h n fun tm h n=>zCd t T tm h fun x=>ok x&&zM0 G ws T x.ks x.θ K tm h
  | none=>false
 | _=>false
theorem zGs {G:Nat} {ws:List (Key × Nat)} {Ts:List TS} {ok:kC→Bool} {K:zc} {t:Nat} {tm:Tm} {ds:xd} {h:zC} {n:Key} (hl:vt G ws Ts ok K t tm ds h n=true):∃ x,zCr G ws Ts ok K x tm ds h n=true:=by
 unfold vt at hl
 split at hl
 · split at hl
   · rename_i T hT
     rw [zEt,Bool.and_eq_true] at hl
     simp only [zQ7] at hl
     obtain ⟨⟨x,hx⟩,hk⟩:=zLp (α:={ x:kC // x.T=t }) (k':=fun x tm h n=>ok x.1&&zIB G ws T x.1.ks x.1.θ K tm h) hl.2 fun tm h n hk=>
      let ⟨x,hx,hk⟩:=zGm hk
      ⟨⟨x,hx⟩,hk⟩
     refine ⟨x,?_⟩
     unfold zCr
     rw [hx,hT]
     show zTS T _=true
     rw [zLF,Bool.and_eq_true]
     exact ⟨hl.1,hk⟩
   · cases hl
 · cases hl
def zA1 (G:Nat) (ws:List (Key × Nat)) (Ts:List TS) (ok:kC→Bool) (K:zc) (fin:R→Bool):R→List Nat→Option (List Nat)
 | .ok .normal tm ds h n,t::r=>match vt G ws Ts ok K t tm ds h n with
  | true=>some r
  | false=>none
 | .ok (.exit i) tm ds h n,r=>match fin (.ok (.exit i) tm ds h n) with
  | true=>some r
  | false=>none
 | .ok .ret tm ds h n,r=>match fin (.ok .ret tm ds h n) with
  | true=>some r
  | false=>none
 | .fork a b,r=>match zA1 G ws Ts ok K fin a r with
  | some r=>zA1 G ws Ts ok K fin b r
  | none=>none
 | _,_=>none
def uE (o:Option (List Nat)):Bool:=match o with
 | some _=>true
 | none=>false
theorem zCX:∀ {r:R} {l l':List Nat},zA1 G ws Ts ok K fin r l=some l'→∃ hs:List kC,∀ rest,kj G ws Ts ok K fin r (hs++rest)=some rest
 | .ok .normal tm ds h n,[],_,hc=>by cases hc
 | .ok .normal tm ds h n,t::l,l',hc=>by
  unfold zA1 at hc
  split at hc
  · rename_i hl
    obtain ⟨x,hx⟩:=zGs hl
    exact ⟨[x],fun rest=>by show kj G ws Ts ok K fin (.ok .normal tm ds h n) (x::rest)=_; unfold kj; rw [hx]⟩
  · cases hc
 | .ok (.exit i) tm ds h n,l,l',hc=>by
  unfold zA1 at hc
  split at hc
  · rename_i h1
    exact ⟨[],fun rest=>by show kj G ws Ts ok K fin (.ok (.exit i) tm ds h n) rest=_; unfold kj; rw [h1]⟩
  · cases hc
 | .ok .ret tm ds h n,l,l',hc=>by
  unfold zA1 at hc
  split at hc
  · rename_i h1
    exact ⟨[],fun rest=>by show kj G ws Ts ok K fin (.ok .ret tm ds h n) rest=_; unfold kj; rw [h1]⟩
  · cases hc
 | .ret ..,l,l',hc=>by unfold zA1 at hc; cases hc
 | .err _,l,l',hc=>by unfold zA1 at hc; cases hc
 | .fork a b,l,l',hc=>by
  unfold zA1 at hc
  split at hc
  · rename_i r hr
    obtain ⟨h1,e1⟩:=zCX hr
    obtain ⟨h2,e2⟩:=zCX hc
    exact ⟨h1++h2,fun rest=>by rw [List.append_assoc]; unfold kj; rw [e1 (h2++rest)]; exact e2 rest⟩
  · cases hc
theorem wG {r:R} {l:List Nat} (h:uE (zA1 G ws Ts ok K fin r l)=true):∃ hs,ww (kj G ws Ts ok K fin r hs)=true:=by
 unfold uE at h
 split at h
 · rename_i x hx
   obtain ⟨hs,e⟩:=zCX hx
   refine ⟨hs++[],?_⟩
   rw [e []]; rfl
 · cases h
end
end
end Go.Ev
namespace Go.Ev
open Go.RowKit
noncomputable section
variable {P:Program}
inductive Cut where
 | plain
 | cut (ft:FT) (ct:List Bool→CT)
 | cover (ts:List Nat)
section
variable {code:FuncId→CFn} {nat:Nats} {fuel:Nat} {fn:Func} {c b xa xb:Code} {p pre q:List Stp} {j:Nat} {rs:List CRes} {G:Nat} {wins:List Win} {L:List (Key × Nat)} {A:Key→Option Value} {Ts:List TS} {bound:Int} {w0:World}
def TS.known (T:TS) (A:Key→Option Value):zc:=⟨T.b,T.f,T.r,A⟩
end
end
end Go.Ev
namespace Go.Ev
open Go.RowKit
noncomputable section
variable {P:Program}
section
variable {code:FuncId→CFn} {nat:Nats} {fuel G:Nat} {ws L:List (Key × Nat)} {Ts:List TS} {p pre q:List Stp} {j:Nat} {cc:CCode} {rs:List CRes} {T:TS} {l:List (Key × List CV)}
def sp:List Nat→CT
 | []=>.leaf
 | v::l=>.cmp [(v,1)] 1 (sp l) (sp l)
def fI (z:Int) (k:Int→Bool):Bool:=match z with
 | .ofNat n=>k (.ofNat n)
 | .negSucc n=>k (.negSucc n)
theorem zHC {z:Int} {k:Int→Bool}:fI z k=k z:=by cases z <;> rfl
def fB:List (Int × Int)→(List (Int × Int)→Bool)→Bool
 | [],k=>k []
 | (a,b)::l,k=>fI a fun a=>fI b fun b=>fB l fun l'=>k ((a,b)::l')
theorem zS2:∀ {l:List (Int × Int)} {k:List (Int × Int)→Bool},fB l k=k l
 | [],_=>rfl
 | (a,b)::l,k=>by unfold fB; rw [zHC,zHC,zS2]
def fLL:LL→(LL→Bool)→Bool
 | [],k=>k []
 | (i,a)::l,k=>fI a fun a=>fLL l fun l'=>k ((i,a)::l')
theorem zMa:∀ {l:LL} {k:LL→Bool},fLL l k=k l
 | [],_=>rfl
 | (i,a)::l,k=>by unfold fLL; rw [zHC,zMa]
def fF:List (LL × Int × Int)→(List (LL × Int × Int)→Bool)→Bool
 | [],k=>k []
 | (m,a,b)::l,k=>fLL m fun m=>fI a fun a=>fI b fun b=>fF l fun l'=>k ((m,a,b)::l')
theorem zTi:∀ {l:List (LL × Int × Int)} {k:List (LL × Int × Int)→Bool},fF l k=k l
 | [],_=>rfl
 | (m,a,b)::l,k=>by unfold fF; rw [zMa,zHC,zHC,zTi]
def fR:List xE→(List xE→Bool)→Bool
 | [],k=>k []
 | ⟨o,⟨i,c,m⟩,n,v⟩::l,k=>fI c fun c=>fLL m fun m=>fR l fun l'=>k (⟨o,⟨i,c,m⟩,n,v⟩::l')
theorem zS6:∀ {l:List xE} {k:List xE→Bool},fR l k=k l
 | [],_=>rfl
 | ⟨o,⟨i,c,m⟩,n,v⟩::l,k=>by unfold fR; rw [zHC,zMa,zS6]
def fW:List (Key × List CV)→(List (Key × List CV)→Bool)→Bool
 | [],k=>k []
 | (i,m)::l,k=>zC0 m fun m=>fW l fun l'=>k ((i,m)::l')
theorem zS4:∀ {l:List (Key × List CV)} {k:List (Key × List CV)→Bool},fW l k=k l
 | [],_=>rfl
 | (i,m)::l,k=>by unfold fW; rw [vx,zS4]
def zIW (e:Lf) (k:Lf→Bool):Bool:=match e with
 | ⟨b,f,r,l,u⟩=>fB b fun b=>fF f fun f=>fR r fun r=>fW l fun l=>k ⟨b,f,r,l,u⟩
theorem zBE {e:Lf} {k:Lf→Bool}:zIW e k=k e:=by
 cases e
 unfold zIW
 simp only [zS2,zTi,zS6,zS4]
def startN (P:Program) (code:FuncId→CFn) (nat:Nats) (fuel:Nat) (G:Nat) (ws L:List (Key × Nat)) (Ts:List TS) (p:List Stp) (cc:CCode) (args:List CV) (n:Key) (s:Nat→Int) (K:zc) (ts:List Nat):Bool:=
 uE (zA1 G ws Ts (fun t=>zCZ t.θ&&j9 t.θ L) K (fun _=>false) (@zEa (linSym s K) P (@ev (linSym s K) P code nat fuel) p cc (qY args 0 .nil) [] .nil n) ts)
theorem startN_ok {args:List CV} {n:Key} {s:Nat→Int} {K:zc} {ts:List Nat} (h:startN P code nat fuel G ws L Ts p cc args n s K ts=true):∃ hs,startOf P code nat fuel G ws L Ts p cc args n (linSym s K) K hs=true:=wG h
end
end
end Go.Ev
