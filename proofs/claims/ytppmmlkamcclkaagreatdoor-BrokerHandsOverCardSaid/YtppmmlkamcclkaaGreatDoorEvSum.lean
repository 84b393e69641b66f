/- A verified evaluator for the model's code: EvSum, EvSumN, EvSumH, EvMemo, EvSeq. -/
import Derived.Test.YtppmmlkamcclkaaGreatDoorEvHint
set_option linter.unusedSectionVars false
set_option linter.unusedVariables false
set_option linter.unusedSimpArgs false
namespace Go.Ev
open Go.RowKit
noncomputable section
variable {P:Program}
structure Po where
 v:CV
 objs:List (Key × CObj)
structure Sm where
 args:List CV
 objs:List (Key × CObj)
 n:Key
 b:List (Int × Int)
 pins:List Key
 posts:List Po
abbrev wT (l:List (Key × CObj)):Fam:=zC.fam (mkH .nil l)
def zGw (ψ:Psi) (l:List (Key × CObj)) (w:World) (B:Nat):Prop:=(∃ k o p,wT l k=some o∧ψ k=some p∧p.blk=B)∨w.heap.size≤B
structure Lft (O:Nat→Prop) (w w':World):Prop where
 os:w'.os=w.os
 tape:w'.tape=w.tape
 output:w'.output=w.output
 size:w.heap.size≤w'.heap.size
 block:∀ B,¬ O B→w'.heap[B]? = w.heap[B]?
theorem Lft.refl (O:Nat→Prop) (w:World):Lft O w w:=⟨rfl,rfl,rfl,Nat.le_refl _,fun _ _=>rfl⟩
theorem zQG {S:Sym} {O:Nat→Prop} {ψ ψ':Psi} {g g':Fam} {n n':Key} {w0 w w':World} (h:Lft O w0 w) (hp:@yF S ψ g n w ψ' g' n' w') (ho:∀ B,w0.heap.size≤B→O B)
 (hm:∀ k o p,g k=some o→o.isRo=false→ψ k=some p→O p.blk):Lft O w0 w':=by
 have h1:=@yF.os S _ _ _ _ _ _ _ _ hp
 have h2:=@yF.tape S _ _ _ _ _ _ _ _ hp
 have h3:=@yF.output S _ _ _ _ _ _ _ _ hp
 have h4:=@yF.size S _ _ _ _ _ _ _ _ hp
 have h5:=@yF.frame S _ _ _ _ _ _ _ _ hp
 refine ⟨h1.trans h.os,h2.trans h.tape,h3.trans h.output,Nat.le_trans h.size h4,fun B hB=>?_⟩
 have hlt:B<w0.heap.size:=by
  rcases Nat.lt_or_ge B w0.heap.size with q | q
  · exact q
  · exact absurd (ho B q) hB
 rw [h5 B (Nat.lt_of_lt_of_le hlt h.size) fun k o p q1 q2 q3 e=>hB (e ▸ hm k o p q1 q2 q3),h.block B hB]
theorem zRm {S:Sym} {O:Nat→Prop} {ψ ψ':Psi} {g g':Fam} {n n':Key} {w0 w w':World} (h:Lft O w0 w) (hp:@yF S ψ g n w ψ' g' n' w') (ho:∀ B,w0.heap.size≤B→O B)
 (hm:∀ k o p,g k=some o→o.isRo=false→ψ k=some p→O p.blk):∀ k o p,g' k=some o→o.isRo=false→ψ' k=some p→O p.blk:=by
 intro k o p q1 q2 q3
 rcases @yF.img S _ _ _ _ _ _ _ _ hp k o p q1 q2 q3 with ⟨k₀,o₀,p₀,a,b,c,d⟩ | hge
 · rw [← d]; exact hm k₀ o₀ p₀ a b c
 · exact ho _ (Nat.le_trans h.size hge)
theorem zJJ {ψ:Psi} {l:List (Key × CObj)} {w:World}:∀ B,w.heap.size≤B→zGw ψ l w B:=fun _ h=>.inr h
def zFb (p q:Pl):Prop:=q.blk=p.blk∧q.off=p.off∧q.sz=p.sz
structure zVf (S:Sym) (ψ:Psi) (s:Sm) (w:World) (po:Po) (v:Value) (ψ':Psi) (w':World):Prop where
 pin:∀ k∈s.pins,∀ p,ψ k=some p→∃ p',ψ' k=some p'∧zFb p p'
 rel:@Rel S ψ' (wT po.objs) w'
 val:@zH S ψ' po.v v
 own:∀ k o p,wT po.objs k=some o→ψ' k=some p→o.isRo=false∧zGw ψ s.objs w p.blk
 lft:Lft (zGw ψ s.objs w) w w'
abbrev noA:Key→Option Value:=fun _=>none
abbrev kno:za:=⟨[],[],[],noA⟩
def thK:List (Int × Int)→Nat→TH
 | [],_=>[]
 | _::r,j=>(0,[(j,1)])::thK r (Nat.succ j)
def thS:List (Int × Int)→TH
 | []=>[]
 | _::r=>(0,[])::thK r 1
theorem zMx:∀ {b:List (Int × Int)} {i j:Nat} {q:Int × LL},nth (thK b i) j=some q→q=(0,[(i+j,1)])∧j<b.length
 | [],i,j,q,h=>by cases j <;> cases h
 | x::r,i,0,q,h=>by
  injection h with h
  exact ⟨h.symm,by simp⟩
 | x::r,i,j+1,q,h=>by
  have h:nth (thK r (i+1)) j=some q:=h
  obtain ⟨h1,h2⟩:=zMx h
  exact ⟨by rw [h1,show i+1+j=i+(j+1) from by omega],by simp; exact h2⟩
theorem zTg {σ σ0:Nat→Int} {b:List (Int × Int)} (h0:∀ x r,b=x::r→σ0 0=0) (hk:∀ j,1≤j→j<b.length→σ j=σ0 j):ji σ σ0 (thS b):=by
 intro j q hj
 cases b with
 | nil=>cases j <;> cases hj
 | cons x r=>
  cases j with
  | zero=>
   injection hj with hj
   subst hj
   rw [h0 x r rfl]; rfl
  | succ j=>
   have hj:nth (thK r 1) j=some q:=hj
   obtain ⟨h1,h2⟩:=zMx hj
   subst h1
   have:=hk (j+1) (by omega) (by simp; exact h2)
   rw [← this,show j+1=1+j from by omega]
   show _=(0:Int)+(1*σ (1+j)+0)
   omega
def zEW (ρ:zC):List Key→Bool
 | []=>true
 | k::r=>kr ρ k k&&zEW ρ r
theorem zGE {ρ:zC}:∀ {l:List Key},zEW ρ l=true→∀ k∈l,kr ρ k k=true
 | [],_,k,h=>by cases h
 | x::r,h,k,hk=>by
  unfold zEW at h
  rw [Bool.and_eq_true] at h
  rcases List.mem_cons.1 hk with rfl | hk
  · exact h.1
  · exact zGE h.2 k hk
def zSR (l:List (Key × CObj)):Nat:=match l with
 | p::_=>p.1.ix
 | []=>0
theorem zBT {f:FuncId} {args:Array Value} {w:World} {K K':Value→World→Prop} (h:ya P f args w K) (hk:∀ v w',K v w'→K' v w'):ya P f args w K':=by
 unfold ya at h ⊢
 split at h
 · exact Calls.mono h fun e w'' ⟨v,e1,h1⟩=>⟨v,e1,hk _ _ h1⟩
 · exact hk _ _ h
 · exact h.elim
def zPI:List (Int × Int)→Bool
 | []=>false
 | q::_=>yA q.1 0&&yA q.2 0
theorem zQJ {b:List (Int × Int)} (h:zPI b=true) {σ:Nat→Int} (hb:zt σ 0 b):1≤b.length∧σ 0=0:=by
 cases b with
 | nil=>cases h
 | cons q r=>
  unfold zPI at h
  rw [Bool.and_eq_true,@zb noSym,@zb noSym,decide_eq_true_eq,decide_eq_true_eq] at h
  have:=hb.1
  rw [h.1,h.2] at this
  exact ⟨by simp,by omega⟩
section
variable {code:FuncId→CFn} {nat:Nats} {fuel:Nat} {f:FuncId} {fn:Func} {G:Nat} {s:Sm}
def okB (b:List (Int × Int)):Bool:=zPI b&&Nat.ble b.length 1000
end
structure zVe (P:Program) (F N:Nat) (s:Sm) (σ0:Nat→Int) (ψ0:Psi) (w0:World) (T:TS) (σ:Nat→Int) (ψ:Psi) (a:Act) (w:World):Prop where
 bnd:zt σ 0 T.b
 fct:qu σ T.f
 rul:xd σ T.r
 keep:∀ j,1≤j→j<s.b.length→σ j=σ0 j
 st:∀ σ' K',(∀ j,j<T.b.length→σ' j=σ j)→K'.arg=noA→@St (linSym σ' K') P F N ψ (uP T.locs) [] (mkH .nil T.objs) T.n a w
 own:∀ k o p,wT T.objs k=some o→ψ k=some p→o.isRo=false∧zGw ψ0 s.objs w0 p.blk
 lft:Lft (zGw ψ0 s.objs w0) w0 w
 pin:∀ k∈s.pins,∀ p0,ψ0 k=some p0→∃ p,ψ k=some p∧zFb p0 p
section
variable {code:FuncId→CFn} {nat:Nats} {fuel:Nat} {fn:Func} {c b:Code} {p:List Stp} {rs:List CRes} {G:Nat} {Ts:List TS} {bound:Int} {s:Sm} {F N:Nat} {σ0:Nat→Int} {ψ0:Psi} {w0:World}
end
end
end Go.Ev
namespace Go.Ev
open Go.RowKit
noncomputable section
variable {P:Program}
mutual
def zy (ρ:zC) (θ:TH):CV→CV
 | .sym e=>match uo θ e.l with
  | some s=>mkS e.k (e.c+s.1) s.2
  | none=>.any
 | .ptr k o=>match zk ρ k with
  | some j=>.ptr j o
  | none=>.any
 | .sl k o l c e x=>match zk ρ k with
  | some j=>.sl j o l c e x
  | none=>.any
 | .map k=>match zk ρ k with
  | some j=>.map j
  | none=>.any
 | .func f a b=>.func f (xf ρ θ a) (xf ρ θ b)
 | .iface t v=>.iface t (zy ρ θ v)
 | .agg l=>.agg (xf ρ θ l)
 | .tup l=>.tup (xf ρ θ l)
 | .sst l=>zNJ (xf ρ θ l)
 | .win ..=>.any
 | .bool b=>.bool b
 | .nat n=>.nat n
 | .int k n=>.int k n
 | .anyi k=>.anyi k
 | .str s=>.str s
 | .nilptr=>.nilptr
 | .nilsl=>.nilsl
 | .nilmap=>.nilmap
 | .nilfunc=>.nilfunc
 | .niliface=>.niliface
 | .big n=>.big n
 | .few _ _=>.any
 | .elt ..=>.any
 | .any=>.any
def xf (ρ:zC) (θ:TH):List CV→List CV
 | []=>[]
 | c::l=>zy ρ θ c::xf ρ θ l
end
def zHQ (ρ:zC) (ψs ψT:Psi):Prop:=∀ k j p,zk ρ k=some j→ψs k=some p→∃ p',ψT j=some p'∧zFb p p'
section
variable {σ σT:Nat→Int} {K KT:za} {θ:TH} {ρ:zC} {ψs ψT:Psi}
mutual
theorem kK (hθ:ji σ σT θ) (hψ:zHQ ρ ψs ψT):∀ (c:CV) {v:Value},@zH (linSym σT KT) ψs c v→@zH (linSym σ K) ψT (zy ρ θ c) v
 | .sym e,v,hv=>by
  rw [@zq (linSym σT KT)] at hv
  have hv:v=.int e.k (evE σT e):=hv
  unfold zy
  split
  · rename_i s hs
    have h2:=zAN hθ hs
    rw [hv]
    unfold evE
    rw [h2,← Int.add_assoc]
    exact zCn _ _ _
  · exact @qA (linSym σ K) _ _
 | .ptr k o,v,hv=>by
  rw [@zn (linSym σT KT)] at hv
  obtain ⟨p,hp,rfl⟩:=hv
  unfold zy
  split
  · rename_i j hj
    obtain ⟨p',h1,h2,h3,h4⟩:=hψ k j p hj hp
    exact (@zn (linSym σ K) _ _ _ _).2 ⟨p',h1,by rw [h2,h3]⟩
  · exact @qA (linSym σ K) _ _
 | .sl k o l c e x,v,hv=>by
  rw [@yC (linSym σT KT)] at hv
  obtain ⟨p,y,cap',hp,rfl,h1,h2,h3,h4⟩:=hv
  unfold zy
  split
  · rename_i j hj
    obtain ⟨p',g1,g2,g3,g4⟩:=hψ k j p hj hp
    exact (@yC (linSym σ K) _ _ _ _ _ _ _ _).2 ⟨p',y,cap',g1,by rw [g2],h1,h2,h3,by rw [g3,g4]; exact h4⟩
  · exact @qA (linSym σ K) _ _
 | .map k,v,hv=>by
  rw [@ye (linSym σT KT)] at hv
  obtain ⟨p,hp,rfl⟩:=hv
  unfold zy
  split
  · rename_i j hj
    obtain ⟨p',g1,g2,g3,g4⟩:=hψ k j p hj hp
    exact (@ye (linSym σ K) _ _ _).2 ⟨p',g1,by rw [g2]⟩
  · exact @qA (linSym σ K) _ _
 | .func f a b,v,hv=>by
  rw [@xC (linSym σT KT)] at hv
  obtain ⟨a',b',rfl,g1,g2⟩:=hv
  unfold zy
  exact (@xC (linSym σ K) _ _ _ _ _).2 ⟨a',b',rfl,k8 hθ hψ a g1,k8 hθ hψ b g2⟩
 | .iface t x,v,hv=>by
  rw [@yU (linSym σT KT)] at hv
  obtain ⟨y,rfl,g⟩:=hv
  unfold zy
  exact (@yU (linSym σ K) _ _ _ _).2 ⟨y,rfl,kK hθ hψ x g⟩
 | .agg a,v,hv=>by
  rw [@yi (linSym σT KT)] at hv
  obtain ⟨a',rfl,g⟩:=hv
  unfold zy
  exact (@yi (linSym σ K) _ _ _).2 ⟨a',rfl,k8 hθ hψ a g⟩
 | .tup a,v,hv=>by
  rw [@yQ (linSym σT KT)] at hv
  obtain ⟨a',rfl,g⟩:=hv
  unfold zy
  exact (@yQ (linSym σ K) _ _ _).2 ⟨a',rfl,k8 hθ hψ a g⟩
 | .sst a,v,hv=>by
  rw [@yz (linSym σT KT)] at hv
  obtain ⟨b,rfl,g⟩:=hv
  unfold zy
  exact @zMg (linSym σ K) _ _ _ (k8 hθ hψ a g)
 | .win ..,v,hv=>by unfold zy; exact @qA (linSym σ K) _ _
 | .few ..,v,hv=>by unfold zy; exact @qA (linSym σ K) _ _
 | .elt ..,v,hv=>by unfold zy; exact @qA (linSym σ K) _ _
 | .bool b,v,hv=>by
  rw [@zJ (linSym σT KT)] at hv
  unfold zy
  exact (@zJ (linSym σ K) _ _ _).2 hv
 | .nat b,v,hv=>by
  rw [@zS (linSym σT KT)] at hv
  unfold zy
  exact (@zS (linSym σ K) _ _ _).2 hv
 | .int k b,v,hv=>by
  rw [@zd (linSym σT KT)] at hv
  unfold zy
  exact (@zd (linSym σ K) _ _ _ _).2 hv
 | .anyi k,v,hv=>by
  rw [@yW (linSym σT KT)] at hv
  unfold zy
  exact (@yW (linSym σ K) _ _ _).2 hv
 | .str b,v,hv=>by
  rw [@zf (linSym σT KT)] at hv
  unfold zy
  exact (@zf (linSym σ K) _ _ _).2 hv
 | .nilptr,v,hv=>by
  rw [@xN (linSym σT KT)] at hv
  unfold zy
  exact (@xN (linSym σ K) _ _).2 hv
 | .nilsl,v,hv=>by
  rw [@zw (linSym σT KT)] at hv
  unfold zy
  exact (@zw (linSym σ K) _ _).2 hv
 | .nilmap,v,hv=>by
  rw [@yN (linSym σT KT)] at hv
  unfold zy
  exact (@yN (linSym σ K) _ _).2 hv
 | .nilfunc,v,hv=>by
  rw [@xE (linSym σT KT)] at hv
  unfold zy
  exact (@xE (linSym σ K) _ _).2 hv
 | .niliface,v,hv=>by
  rw [@yV (linSym σT KT)] at hv
  unfold zy
  exact (@yV (linSym σ K) _ _).2 hv
 | .big n,v,hv=>by
  rw [@kV (linSym σT KT)] at hv
  unfold zy
  exact (@kV (linSym σ K) _ _ _).2 hv
 | .any,v,hv=>by unfold zy; exact @qA (linSym σ K) _ _
theorem k8 (hθ:ji σ σT θ) (hψ:zHQ ρ ψs ψT):∀ (cs:List CV) {l:List Value},@zT (linSym σT KT) ψs cs l→@zT (linSym σ K) ψT (xf ρ θ cs) l
 | [],l,hl=>by
  rw [@zP (linSym σT KT)] at hl
  unfold xf
  exact (@zP (linSym σ K) _ _).2 hl
 | c::cs,l,hl=>by
  rw [@zY (linSym σT KT)] at hl
  obtain ⟨v,r,rfl,h1,h2⟩:=hl
  unfold xf
  exact (@zW (linSym σ K) _ _ _ _ _).2 ⟨kK hθ hψ c h1,k8 hθ hψ cs h2⟩
end
def zIS (ρ:zC) (θ:TH):List CE→List CE
 | []=>[]
 | e::l=>⟨zy ρ θ e.key,zy ρ θ e.val,e.born⟩::zIS ρ θ l
def zQH (ρ:zC) (θ:TH):CObj→CObj
 | .cells l=>.cells (xf ρ θ l)
 | .map es c=>.map (zIS ρ θ es) c
 | o=>o
def okO:CObj→Bool
 | .cells _=>true
 | .map _ _=>true
 | _=>false
theorem zEq:∀ {l:List CV},(xf ρ θ l).length=l.length
 | []=>rfl
 | c::l=>by rw [xf,List.length_cons,List.length_cons,zEq]
theorem zFc:∀ {l:List CV} {i:Nat} {c:CV},(xf ρ θ l)[i]? = some c→∃ d,l[i]? = some d∧c=zy ρ θ d
 | [],i,c,h=>by rw [xf] at h; simp at h
 | d::l,0,c,h=>by
  rw [xf] at h
  simp at h
  exact ⟨d,rfl,h.symm⟩
 | d::l,i+1,c,h=>by
  rw [xf] at h
  exact zFc (l:=l) (i:=i) (by simpa using h)
theorem zGY (hθ:ji σ σT θ) (hψ:zHQ ρ ψs ψT) {ck:Nat→Nat}:∀ {es:List CE} {l:List MapEntry},@yE (linSym σT KT) ψs ck es l→@yE (linSym σ K) ψT ck (zIS ρ θ es) l
 | [],l,h=>h
 | c::es,l,h=>by
  obtain ⟨e,r,rfl,⟨h1,h2,h3⟩,h4⟩:=h
  exact ⟨e,r,rfl,⟨kK hθ hψ _ h1,kK hθ hψ _ h2,h3⟩,zGY hθ hψ h4⟩
theorem zKA (hθ:ji σ σT θ) (hψ:zHQ ρ ψs ψT) {o:CObj} (ho:okO o=true) {w:World} {p p':Pl} (hp:zFb p p') (hck:(∀ es c,o=.map es c→p'=p)) (h:@xB (linSym σT KT) ψs w p o):@xB (linSym σ K) ψT w p' (zQH ρ θ o):=by
 obtain ⟨e1,e2,e3⟩:=hp
 cases o with
 | cells l=>
  obtain ⟨arr,elem,fz,g1,g2,g3,g4,g5⟩:=h
  refine ⟨arr,elem,fz,by rw [e1]; exact g1,by rw [e3]; exact g2,by rw [e2,e3,zEq]; exact g3,by rw [e3]; exact g4,fun i c hi=>?_⟩
  obtain ⟨d,hd,rfl⟩:=zFc hi
  obtain ⟨x,hx,hr⟩:=g5 i d hd
  exact ⟨x,by rw [e2]; exact hx,kK hθ hψ d hr⟩
 | map es c=>
  obtain rfl:=hck es c rfl
  obtain ⟨arr,g1,⟨l0,gp,g2⟩,g3⟩:=h
  exact ⟨arr,g1,⟨l0,gp,zGY hθ hψ g2⟩,g3⟩
 | ro _=>cases ho
 | striter _ _=>cases ho
 | mapiter _ _ _ _=>cases ho
 | full _ _=>cases ho
 | mapz _=>cases ho
end
def fZ (z:Int) (k:Int→R):R:=match z with
 | .ofNat n=>k (.ofNat n)
 | .negSucc n=>k (.negSucc n)
def fL:LL→(LL→R)→R
 | [],k=>k []
 | (i,a)::l,k=>fZ a fun a=>fL l fun l=>k ((i,a)::l)
theorem zSF {z:Int} {k:Int→R}:fZ z k=k z:=by cases z <;> rfl
theorem zSX:∀ {l:LL} {k:LL→R},fL l k=k l
 | [],_=>rfl
 | (i,a)::l,k=>by unfold fL; rw [zSF,zSX]
def fTH:TH→(TH→R)→R
 | [],k=>k []
 | (a,l)::r,k=>fZ a fun a=>fL l fun l=>fTH r fun r=>k ((a,l)::r)
theorem zLA:∀ {l:TH} {k:TH→R},fTH l k=k l
 | [],_=>rfl
 | (a,l)::r,k=>by unfold fTH; rw [zSF,zSX,zLA]
def fKs:List Key→(List Key→R)→R
 | [],k=>k []
 | x::l,k=>fKs l fun l=>k (x::l)
theorem zIC:∀ {l:List Key} {k:List Key→R},fKs l k=k l
 | [],_=>rfl
 | x::l,k=>by unfold fKs; rw [zIC]
theorem zPp {k b:Key}:∀ {objs:List (Key × CObj)} {ks:List Key},zk (jR objs ks) k=some b→∃ j:Nat,(∃ o:CObj,objs[j]? = some (b,o))∧ks[j]? = some k
 | [],_,h=>by
  have h:zk .nil k=some b:=h
  unfold zk at h
  rw [jH] at h; cases h
 | _::_,[],h=>by
  have h:zk .nil k=some b:=h
  unfold zk at h
  rw [jH] at h; cases h
 | p::r,j::js,h=>by
  by_cases e:k=j
  · have h:zk (yj (some (.cells [.ptr p.1 0])) j (jR r js)) k=some b:=h
    unfold zk at h
    rw [kY,if_pos e] at h
    injection h with h
    exact ⟨0,⟨p.2,by subst h; rfl⟩,by subst e; rfl⟩
  · have h':zk (jR r js) k=some b:=by
     have h:zk (yj (some (.cells [.ptr p.1 0])) j (jR r js)) k=some b:=h
     unfold zk at h ⊢
     rw [kY,if_neg e] at h
     exact h
    obtain ⟨i,⟨o,h1⟩,h2⟩:=zPp h'
    exact ⟨i+1,⟨o,by simpa using h1⟩,by simpa using h2⟩
def zGB:List Key→zC→zC
 | [],h=>h
 | k::r,h=>yj none k (zGB r h)
theorem zGZ {h:zC} {k:Key} {o:CObj}:∀ {l:List Key},ze k (zGB l h)=some o→k ∉ l∧ze k h=some o
 | [],hh=>⟨by simp,hh⟩
 | x::r,hh=>by
  have hh:ze k (yj none x (zGB r h))=some o:=hh
  rw [kY] at hh
  split at hh
  · cases hh
  · rename_i e
    obtain ⟨h1,h2⟩:=zGZ hh
    exact ⟨by simp [e,h1],h2⟩
def zTe (kb:List (Int × Int)) (q:Int × Int) (c:Int) (l:LL):Bool:=match l with
 | [(i,a)]=>match zR2 kb i with
  | some x=>jB (yA a 1) (jB (yA c 0) (jB (yA x.1 q.1) (yA x.2 q.2)))
  | none=>false
 | _=>false
def zTv [Sym] (q:Int × Int) (u:Int × LL):Bool:=match u.2 with
 | []=>decide (q.1≤u.1)&&decide (u.1≤q.2)
 | l=>match Sym.bin .geq (.sym ⟨.i64,u.1,l⟩) (mkInt .i64 q.1),Sym.bin .leq (.sym ⟨.i64,u.1,l⟩) (mkInt .i64 q.2) with
  | some [.bool true],some [.bool true]=>true
  | _,_=>false
def zTL [Sym] (q:Int × Int) (u:Int × LL):Bool:=match zTe Sym.kb q u.1 u.2 with
 | true=>true
 | false=>zTv q u
def zRQ [Sym]:List (Int × Int)→TH→Bool
 | [],[]=>true
 | q::r,u::θ=>zTL q u&&zRQ r θ
 | _,_=>false
def zP0 (ρ:zC) (sb:SE→CV) (c:CV):CV:=CV.rec (motive_1:=fun _=>CV) (motive_2:=fun _=>List CV)
 (fun x0=>.bool x0)
 (fun x0=>.nat x0)
 (fun x0 x1=>.int x0 x1)
 (fun x0=>.anyi x0)
 (fun x0=>.str x0)
 .nilptr
 (fun x0 x1=>match zk ρ x0 with | some j=>.ptr j x1 | none=>.any)
 .nilsl
 (fun x0 x1 x2 x3 x4 x5=>match zk ρ x0 with | some j=>.sl j x1 x2 x3 x4 x5 | none=>.any)
 .nilmap
 (fun x0=>match zk ρ x0 with | some j=>.map j | none=>.any)
 (fun x0 x1 x2 ha hc=>.func x0 ha hc)
 .nilfunc
 (fun x0 x1 hv=>.iface x0 hv)
 .niliface
 (fun x0 hl=>.agg hl)
 (fun x0 hl=>.tup hl)
 sb
 (fun x0 x1 x2 x3=>.any)
 (fun x0 hl=>zNJ hl)
 (fun x0=>.big x0)
 (fun x0 x1=>.any)
 (fun x0 x1 x2 x3=>.any)
 .any
 []
 (fun _ _ h g=>h::g) c
def zKM (ρ:zC) (sb:SE→CV) (l:List CV):List CV:=CV.rec_1 (motive_1:=fun _=>CV) (motive_2:=fun _=>List CV)
 (fun x0=>.bool x0)
 (fun x0=>.nat x0)
 (fun x0 x1=>.int x0 x1)
 (fun x0=>.anyi x0)
 (fun x0=>.str x0)
 .nilptr
 (fun x0 x1=>match zk ρ x0 with | some j=>.ptr j x1 | none=>.any)
 .nilsl
 (fun x0 x1 x2 x3 x4 x5=>match zk ρ x0 with | some j=>.sl j x1 x2 x3 x4 x5 | none=>.any)
 .nilmap
 (fun x0=>match zk ρ x0 with | some j=>.map j | none=>.any)
 (fun x0 x1 x2 ha hc=>.func x0 ha hc)
 .nilfunc
 (fun x0 x1 hv=>.iface x0 hv)
 .niliface
 (fun x0 hl=>.agg hl)
 (fun x0 hl=>.tup hl)
 sb
 (fun x0 x1 x2 x3=>.any)
 (fun x0 hl=>zNJ hl)
 (fun x0=>.big x0)
 (fun x0 x1=>.any)
 (fun x0 x1 x2 x3=>.any)
 .any
 []
 (fun _ _ h g=>h::g) l
def sbQ (θ:TH) (e:SE):CV:=match zKK θ e.l with
 | some s=>mkS e.k (e.c+s.1) s.2
 | none=>.any
theorem zP2 {ρ:zC} {θ:TH} (e:SE):sbQ θ e=zy ρ θ (.sym e):=by
 unfold sbQ zy
 rw [zAe]
section
variable {ρ:zC} {θ:TH} {sb:SE→CV} (hs:∀ e,sb e=zy ρ θ (.sym e))
include hs
mutual
theorem zBY:∀ (c:CV),zP0 ρ sb c=zy ρ θ c
 | .bool x0=>by unfold zy; rfl
 | .nat x0=>by unfold zy; rfl
 | .int x0 x1=>by unfold zy; rfl
 | .anyi x0=>by unfold zy; rfl
 | .str x0=>by unfold zy; rfl
 | .nilptr=>by unfold zy; rfl
 | .ptr x0 x1=>by unfold zy; rfl
 | .nilsl=>by unfold zy; rfl
 | .sl x0 x1 x2 x3 x4 x5=>by unfold zy; rfl
 | .nilmap=>by unfold zy; rfl
 | .map x0=>by unfold zy; rfl
 | .func x0 x1 x2=>by unfold zy; rw [← jN x1,← jN x2]; rfl
 | .nilfunc=>by unfold zy; rfl
 | .iface x0 x1=>by unfold zy; rw [← zBY x1]; rfl
 | .niliface=>by unfold zy; rfl
 | .agg x0=>by unfold zy; rw [← jN x0]; rfl
 | .tup x0=>by unfold zy; rw [← jN x0]; rfl
 | .sym x0=>hs x0
 | .win x0 x1 x2 x3=>by unfold zy; rfl
 | .sst x0=>by unfold zy; rw [← jN x0]; rfl
 | .big x0=>by unfold zy; rfl
 | .few x0 x1=>by unfold zy; rfl
 | .elt x0 x1 x2 x3=>by unfold zy; rfl
 | .any=>by unfold zy; rfl
theorem jN:∀ (l:List CV),zKM ρ sb l=xf ρ θ l
 | []=>by unfold xf; rfl
 | c::l=>by unfold xf; rw [← zBY c,← jN l]; rfl
end
end
def zHa (ρ:zC) (θ:TH) (c:CV):CV:=zP0 ρ (sbQ θ) c
def zLl (ρ:zC) (θ:TH) (l:List CV):List CV:=zKM ρ (sbQ θ) l
section
variable {ρ:zC} {θ:TH}
theorem zCB (c:CV):zHa ρ θ c=zy ρ θ c:=zBY (fun e=>zP2 e) c
theorem zGG (l:List CV):zLl ρ θ l=xf ρ θ l:=jN (fun e=>zP2 e) l
end
def fZQ (z:Int) (k:Int→R):R:=Int.rec (motive:=fun _=>R) (fun n=>k (.ofNat n)) (fun n=>k (.negSucc n)) z
theorem zQd {z:Int} {k:Int→R}:fZQ z k=k z:=by cases z <;> rfl
def fLQ (l:LL):(LL→R)→R:=List.rec (motive:=fun _=>(LL→R)→R) (fun k=>k []) (fun p _ g k=>Prod.rec (motive:=fun _=>R) (fun i a=>fZQ a fun a=>g fun l=>k ((i,a)::l)) p) l
theorem zRc:∀ {l:LL} {k:LL→R},fLQ l k=k l
 | [],_=>rfl
 | (i,a)::l,k=>by
  show (fZQ a fun a=>fLQ l fun l=>k ((i,a)::l))=_
  rw [zQd,zRc]
def zTD (e:SE) (k:SE→R):R:=SE.rec (motive:=fun _=>R) (fun j c l=>fZQ c fun c=>fLQ l fun l=>k ⟨j,c,l⟩) e
theorem zRL {e:SE} {k:SE→R}:zTD e k=k e:=by
 obtain ⟨j,c,l⟩:=e
 show (fZQ c fun c=>fLQ l fun l=>k ⟨j,c,l⟩)=k ⟨j,c,l⟩
 rw [zQd,zRc]
def fQ (c:CV):(CV→R)→R:=CV.rec (motive_1:=fun _=>(CV→R)→R) (motive_2:=fun _=>(List CV→R)→R)
 (fun x0 k=>k (.bool x0))
 (fun x0 k=>k (.nat x0))
 (fun x0 x1 k=>k (.int x0 x1))
 (fun x0 k=>k (.anyi x0))
 (fun x0 k=>k (.str x0))
 (fun k=>k (.nilptr))
 (fun x0 x1 k=>k (.ptr x0 x1))
 (fun k=>k (.nilsl))
 (fun x0 x1 x2 x3 x4 x5 k=>k (.sl x0 x1 x2 x3 x4 x5))
 (fun k=>k (.nilmap))
 (fun x0 k=>k (.map x0))
 (fun x0 x1 x2 ha hc k=>ha fun x1=>hc fun x2=>k (.func x0 x1 x2))
 (fun k=>k (.nilfunc))
 (fun x0 x1 hv k=>hv fun x1=>k (.iface x0 x1))
 (fun k=>k (.niliface))
 (fun x0 hl k=>hl fun x0=>k (.agg x0))
 (fun x0 hl k=>hl fun x0=>k (.tup x0))
 (fun x0 k=>zTD x0 fun x0=>k (.sym x0))
 (fun x0 x1 x2 x3 k=>k (.win x0 x1 x2 x3))
 (fun x0 hl k=>hl fun x0=>k (.sst x0))
 (fun x0 k=>k (.big x0))
 (fun x0 x1 k=>k (.few x0 x1))
 (fun x0 x1 x2 x3 k=>k (.elt x0 x1 x2 x3))
 (fun k=>k (.any))
 (fun k=>k [])
 (fun _ _ h g k=>h fun v=>g fun l=>k (v::l)) c
def fQs (l:List CV):(List CV→R)→R:=CV.rec_1 (motive_1:=fun _=>(CV→R)→R) (motive_2:=fun _=>(List CV→R)→R)
 (fun x0 k=>k (.bool x0))
 (fun x0 k=>k (.nat x0))
 (fun x0 x1 k=>k (.int x0 x1))
 (fun x0 k=>k (.anyi x0))
 (fun x0 k=>k (.str x0))
 (fun k=>k (.nilptr))
 (fun x0 x1 k=>k (.ptr x0 x1))
 (fun k=>k (.nilsl))
 (fun x0 x1 x2 x3 x4 x5 k=>k (.sl x0 x1 x2 x3 x4 x5))
 (fun k=>k (.nilmap))
 (fun x0 k=>k (.map x0))
 (fun x0 x1 x2 ha hc k=>ha fun x1=>hc fun x2=>k (.func x0 x1 x2))
 (fun k=>k (.nilfunc))
 (fun x0 x1 hv k=>hv fun x1=>k (.iface x0 x1))
 (fun k=>k (.niliface))
 (fun x0 hl k=>hl fun x0=>k (.agg x0))
 (fun x0 hl k=>hl fun x0=>k (.tup x0))
 (fun x0 k=>zTD x0 fun x0=>k (.sym x0))
 (fun x0 x1 x2 x3 k=>k (.win x0 x1 x2 x3))
 (fun x0 hl k=>hl fun x0=>k (.sst x0))
 (fun x0 k=>k (.big x0))
 (fun x0 x1 k=>k (.few x0 x1))
 (fun x0 x1 x2 x3 k=>k (.elt x0 x1 x2 x3))
 (fun k=>k (.any))
 (fun k=>k [])
 (fun _ _ h g k=>h fun v=>g fun l=>k (v::l)) l
mutual
theorem zGP:∀ (c:CV) (k:CV→R),fQ c k=k c
 | .bool x0,k=>rfl
 | .nat x0,k=>rfl
 | .int x0 x1,k=>rfl
 | .anyi x0,k=>rfl
 | .str x0,k=>rfl
 | .nilptr,k=>rfl
 | .ptr x0 x1,k=>rfl
 | .nilsl,k=>rfl
 | .sl x0 x1 x2 x3 x4 x5,k=>rfl
 | .nilmap,k=>rfl
 | .map x0,k=>rfl
 | .func x0 x1 x2,k=>by show (fQs x1 fun x1=>fQs x2 fun x2=>k (.func x0 x1 x2))=_; rw [zA2 x1,zA2 x2]
 | .nilfunc,k=>rfl
 | .iface x0 x1,k=>zGP x1 fun x1=>k (.iface x0 x1)
 | .niliface,k=>rfl
 | .agg x0,k=>zA2 x0 fun x0=>k (.agg x0)
 | .tup x0,k=>zA2 x0 fun x0=>k (.tup x0)
 | .sym x0,k=>zRL (k:=fun x0=>k (.sym x0))
 | .win x0 x1 x2 x3,k=>rfl
 | .sst x0,k=>zA2 x0 fun x0=>k (.sst x0)
 | .big x0,k=>rfl
 | .few x0 x1,k=>rfl
 | .elt x0 x1 x2 x3,k=>rfl
 | .any,k=>rfl
theorem zA2:∀ (l:List CV) (k:List CV→R),fQs l k=k l
 | [],k=>rfl
 | c::l,k=>by show (fQ c fun v=>fQs l fun l=>k (v::l))=_; rw [zGP c,zA2 l]
end
def zU0 (th:List (Nat × Int × LL)):List (Int × Int)→TH
 | []=>[]
 | _::r=>(0,[])::hTh th r 1
def qkV (c:CV):CV→Bool:=CV.rec (motive_1:=fun _=>CV→Bool) (motive_2:=fun _=>List CV→Bool)
 (fun x0 d=>(CV.rec (motive_1:=fun _=>Bool) (motive_2:=fun _=>Unit) (fun y0=>zTO x0 y0) (fun _=>true) (fun _ _=>true) (fun _=>true) (fun _=>true) true (fun _ _=>true) true (fun _ _ _ _ _ _=>true) true (fun _=>true) (fun _ _ _ _ _=>true) true (fun _ _ _=>true) true (fun _ _=>true) (fun _ _=>true) (fun _=>true) (fun _ _ _ _=>true) (fun _ _=>true) (fun _=>true) (fun _ _=>true) (fun _ _ _ _=>true) true () (fun _ _ _ _=>()) d))
 (fun x0 d=>(CV.rec (motive_1:=fun _=>Bool) (motive_2:=fun _=>Unit) (fun _=>true) (fun y0=>Nat.beq x0 y0) (fun _ _=>true) (fun _=>true) (fun _=>true) true (fun _ _=>true) true (fun _ _ _ _ _ _=>true) true (fun _=>true) (fun _ _ _ _ _=>true) true (fun _ _ _=>true) true (fun _ _=>true) (fun _ _=>true) (fun _=>true) (fun _ _ _ _=>true) (fun _ _=>true) (fun _=>true) (fun _ _=>true) (fun _ _ _ _=>true) true () (fun _ _ _ _=>()) d))
 (fun x0 x1 d=>(CV.rec (motive_1:=fun _=>Bool) (motive_2:=fun _=>Unit) (fun _=>true) (fun _=>true) (fun y0 y1=>yA x1 y1) (fun _=>true) (fun _=>true) true (fun _ _=>true) true (fun _ _ _ _ _ _=>true) true (fun _=>true) (fun _ _ _ _ _=>true) true (fun _ _ _=>true) true (fun _ _=>true) (fun _ _=>true) (fun _=>true) (fun _ _ _ _=>true) (fun _ _=>true) (fun _=>true) (fun _ _=>true) (fun _ _ _ _=>true) true () (fun _ _ _ _=>()) d))
 (fun x0 d=>true)
 (fun x0 d=>(CV.rec (motive_1:=fun _=>Bool) (motive_2:=fun _=>Unit) (fun _=>true) (fun _=>true) (fun _ _=>true) (fun _=>true) (fun y0=>xu x0 y0) true (fun _ _=>true) true (fun _ _ _ _ _ _=>true) true (fun _=>true) (fun _ _ _ _ _=>true) true (fun _ _ _=>true) true (fun _ _=>true) (fun _ _=>true) (fun _=>true) (fun _ _ _ _=>true) (fun _ _=>true) (fun _=>true) (fun _ _=>true) (fun _ _ _ _=>true) true () (fun _ _ _ _=>()) d))
 (fun d=>true)
 (fun x0 x1 d=>true)
 (fun d=>(CV.rec (motive_1:=fun _=>Bool) (motive_2:=fun _=>Unit) (fun _=>true) (fun _=>true) (fun _ _=>true) (fun _=>true) (fun _=>true) true (fun _ _=>true) true (fun y0 y1 y2 y3 y4 y5=>false) true (fun _=>true) (fun _ _ _ _ _=>true) true (fun _ _ _=>true) true (fun _ _=>true) (fun _ _=>true) (fun _=>true) (fun _ _ _ _=>true) (fun _ _=>true) (fun _=>true) (fun _ _=>true) (fun _ _ _ _=>true) true () (fun _ _ _ _=>()) d))
 (fun x0 x1 x2 x3 x4 x5 d=>(CV.rec (motive_1:=fun _=>Bool) (motive_2:=fun _=>Unit) (fun _=>true) (fun _=>true) (fun _ _=>true) (fun _=>true) (fun _=>true) true (fun _ _=>true) false (fun y0 y1 y2 y3 y4 y5=>Nat.beq x2 y2) true (fun _=>true) (fun _ _ _ _ _=>true) true (fun _ _ _=>true) true (fun _ _=>true) (fun _ _=>true) (fun _=>true) (fun _ _ _ _=>true) (fun _ _=>true) (fun _=>true) (fun _ _=>true) (fun _ _ _ _=>true) true () (fun _ _ _ _=>()) d))
 (fun d=>true)
 (fun x0 d=>true)
 (fun x0 x1 x2 ha hc d=>true)
 (fun d=>true)
 (fun x0 x1 hv d=>true)
 (fun d=>true)
 (fun x0 hl d=>(CV.rec (motive_1:=fun _=>Bool) (motive_2:=fun _=>Unit) (fun _=>true) (fun _=>true) (fun _ _=>true) (fun _=>true) (fun _=>true) true (fun _ _=>true) true (fun _ _ _ _ _ _=>true) true (fun _=>true) (fun _ _ _ _ _=>true) true (fun _ _ _=>true) true (fun y0 _=>hl y0) (fun _ _=>true) (fun _=>true) (fun _ _ _ _=>true) (fun _ _=>true) (fun _=>true) (fun _ _=>true) (fun _ _ _ _=>true) true () (fun _ _ _ _=>()) d))
 (fun x0 hl d=>true)
 (fun x0 d=>true)
 (fun x0 x1 x2 x3 d=>true)
 (fun x0 hl d=>true)
 (fun x0 d=>true)
 (fun x0 x1 d=>true)
 (fun x0 x1 x2 x3 d=>true)
 (fun d=>true)
 (fun _=>true)
 (fun _ _ h g m=>List.rec (motive:=fun _=>Bool) true (fun b r _=>jB (h b) (g r)) m) c
def zO3 (l m:List CV):Bool:=qkV (.agg l) (.agg m)
theorem zG5 (P:Program) [Sym] [SymFact P] {ψ:Psi} {op:BinOp} {x y:CV} {b:Bool} {u v:Value} (w:World) (h:Sym.bin op x y=some [.bool b]) (hx:zH ψ x u) (hy:zH ψ y v) :
 (binOp op 0 u v).run P w=.ok (.bool b) w:=by
 obtain ⟨h1,z,h2,c,h3,h4⟩:=(SymFact.ok (P:=P)).1 op x y _ h ψ 0 u v w hx hy
 obtain rfl:c=.bool b:=by simpa using h3
 rw [zJ.1 h4] at h2
 exact h2
theorem zRD {σ:Nat→Int} {K:za} (hK:KnownOk σ K) {q:Int × Int} {u:Int × LL} (h:zTe K.b q u.1 u.2=true):q.1≤evQ σ u∧evQ σ u≤q.2:=by
 obtain ⟨c,l⟩:=u
 unfold zTe at h
 split at h
 · rename_i i a hl
   simp only at hl
   subst hl
   split at h
   · rename_i x hx
     rw [zEi] at hx
     obtain ⟨b1,b2⟩:=hK.b _ _ hx
     simp only [qb,Bool.and_eq_true] at h
     obtain ⟨h1,h2,h3,h4⟩:=h
     rw [@zb noSym,decide_eq_true_eq] at h1
     rw [@zb noSym,decide_eq_true_eq] at h2
     rw [@zb noSym,decide_eq_true_eq] at h3
     rw [@zb noSym,decide_eq_true_eq] at h4
     subst h1 h2
     show q.1≤0+(1*σ i+0)∧0+(1*σ i+0)≤q.2
     omega
   · cases h
 · cases h
theorem zR1 (P:Program) {σ:Nat→Int} {K:za} (hK:KnownOk σ K) {q:Int × Int} {u:Int × LL} (h:@zTv (linSym σ K) q u=true):q.1≤evQ σ u∧evQ σ u≤q.2:=by
 letI S:Sym:=linSym σ K
 haveI hS:SymFact P:=linSym_ok hK
 unfold zTv at h
 split at h
 · rename_i hu
   rw [Bool.and_eq_true,decide_eq_true_eq,decide_eq_true_eq] at h
   unfold evQ
   rw [hu]
   simp [evL]
   exact h
 · split at h
   · rename_i h1 h2
     have hv:@zH (linSym σ K) (fun _=>none) (.sym ⟨.i64,u.1,u.2⟩) (.int .i64 (evQ σ u)):=(@zq (linSym σ K) _ _ _).2 rfl
     have hl:∀ z:Int,@zH (linSym σ K) (fun _=>none) (mkInt .i64 z) (.int .i64 z):=fun z=>@yh (linSym σ K) _ _ _
     have g1:=@zG5 P (linSym σ K) hS _ _ _ _ _ _ _ default h1 hv (hl q.1)
     have g2:=@zG5 P (linSym σ K) hS _ _ _ _ _ _ _ default h2 hv (hl q.2)
     have e1:q.1≤evQ σ u:=by simpa [binOp,Op.intCmp] using g1
     have e2:evQ σ u≤q.2:=by simpa [binOp,Op.intCmp] using g2
     exact ⟨e1,e2⟩
   · cases h
theorem zSb (P:Program) {σ:Nat→Int} {K:za} (hK:KnownOk σ K) {q:Int × Int} {u:Int × LL} (h:@zTL (linSym σ K) q u=true):q.1≤evQ σ u∧evQ σ u≤q.2:=by
 unfold zTL at h
 split at h
 · rename_i h1
   exact zRD hK h1
 · exact zR1 P hK h
theorem zIA {σ:Nat→Int} {K:za} (hK:KnownOk σ K) (P:Program):∀ {b:List (Int × Int)} {θ:TH} {σT:Nat→Int} {j:Nat},@zRQ (linSym σ K) b θ=true→(∀ i q,nth θ i=some q→σT (j+i)=evQ σ q)→b.length=θ.length∧zt σT j b
 | [],[],_,_,_,_=>⟨rfl,trivial⟩
 | [],_::_,_,_,h,_=>by cases h
 | _::_,[],_,_,h,_=>by cases h
 | q::r,u::θ,σT,j,h,hθ=>by
  unfold zRQ at h
  rw [Bool.and_eq_true] at h
  obtain ⟨g1,g2⟩:=zIA hK P (σT:=σT) (j:=j+1) h.2 (fun i x hi=>by
   have:=hθ (i+1) x hi
   rw [show j+1+i=j+(i+1) from by omega]; exact this)
  refine ⟨by simp [g1],?_,g2⟩
  rw [show σT j=evQ σ u from hθ 0 u rfl]
  exact zSb P hK h.1
theorem nats_lin {nat:Nats} (h:∀ [Sym] [SymFact P],NatsOk P nat):∀ σ K,KnownOk σ K→@NatsOk (linSym σ K) P nat:=fun σ K hK=>@h (linSym σ K) (linSym_ok hK)
end
end Go.Ev
namespace Go.Ev
open Go.RowKit
noncomputable section
variable {P:Program}
section
variable {code:FuncId→CFn} {nat:Nats} {fuel:Nat} {p:List Stp} {rs:List CRes} {G:Nat} {Ts:List TS} {s:Sm} {cc:CCode} {T:TS}
theorem allG_of {Q:Lf→Prop}:∀ {l:List Lf},(∀ e∈l,Q e)→AllG Q l
 | [],_=>zJ5
 | e::l,h=>zGD (h e (by simp)) (allG_of fun x hx=>h x (by simp [hx]))
end
end
end Go.Ev
namespace Go.Ev
open Go.RowKit
noncomputable section
variable {P:Program}
end
end Go.Ev
namespace Go.Ev
open Go.RowKit
noncomputable section
variable {P:Program}
theorem zEb {q:List Stp} {bl:Code}:∀ {p:List Stp} {c a b:Code},atC p c=some (.seq a b)→subC (p++.r::q) c=some bl→subC q b=some bl
 | [],c,a,b,h,hs=>by
  injection h with h; subst h; exact hs
 | .l::p,c,a,b,h,hs=>by
  cases c <;> first | exact zEb (p:=p) h hs | cases h
 | .r::p,c,a,b,h,hs=>by
  cases c <;> first | exact zEb (p:=p) h hs | cases h
 | .b::p,c,a,b,h,hs=>by
  cases c <;> first | exact zEb (p:=p) h hs | cases h
theorem zIp {q:List Stp}:∀ {p:List Stp} {c a b:Code} {Q:Exit→Act→World→Prop},atC p c=some (.seq a b)→QH P (p++.r::q) c Q=QH P q b (QH P p c Q)
 | [],c,a,b,Q,h=>by
  injection h with h; subst h; rfl
 | .l::p,c,a,b,Q,h=>by
  cases c <;> try (cases h; done)
  rename_i y z
  exact zIp (p:=p) (Q:=Exit.then (z.wp P Q) Q) h
 | .r::p,c,a,b,Q,h=>by
  cases c <;> try (cases h; done)
  exact zIp (p:=p) h
 | .b::p,c,a,b,Q,h=>by
  cases c <;> try (cases h; done)
  exact zIp (p:=p) h
structure Nx where
 Ts:List TS
 pre:List Stp
 q:List Stp
 q2:List Stp
section
variable {code:FuncId→CFn} {nat:Nats} {fuel:Nat} {fn:Func} {c b:Code} {p:List Stp} {rs:List CRes} {G:Nat} {wins:List Win} {L:List (Key × Nat)} {A:Key→Option Value} {Ts:List TS} {bound:Int} {w0:World} {nx:Option Nx}
def LoopOk (P:Program) (F N G:Nat) (A:Key→Option Value) (wins:List Win) (L:List (Key × Nat)) (w0:World) (fn:Func) (c:Code) (Ts:List TS) (p:List Stp):Prop:=
 ∀ (t:Nat) (T:TS) (σ:Nat→Int) (ψ:Psi) (a:Act) (w:World) (b:Code),subC p c=some b→nth Ts t=some T→zOV P F N G A wins L w0 T σ ψ a w→vN P b (QH P p c (zGv P fn w0)) a w
def zFn (P:Program) (F N G:Nat) (A:Key→Option Value) (wins:List Win) (L:List (Key × Nat)) (w0:World) (fn:Func) (c:Code) (p:List Stp):Option Nx→Prop
 | none=>True
 | some x=>p=x.pre++.l::x.q∧(∃ xa xb bl,atC x.pre c=some (.seq xa xb)∧subC (x.pre++.r::x.q2) c=some bl)∧LoopOk P F N G A wins L w0 fn c x.Ts (x.pre++.r::x.q2)
def zUo (P:Program) (code:FuncId→CFn) (nat:Nats) (fuel:Nat) (G:Nat) (ws L:List (Key × Nat)) (x:Nx) (cc:CCode) (s:Nat→Int) (K:za) (ts:List Nat) (r:R):Bool:=
 v6 (zAR G ws x.Ts (fun t=>zCR t.θ&&jv t.θ L) K (fun _=>false)
  (x8 (@zD3 (linSym s K) P (@ev (linSym s K) P code nat fuel) x.q2 (zER x.pre cc)) (@uk (linSym s K) P (@ev (linSym s K) P code nat fuel) x.q (zJn x.pre cc) r)) ts)
def zJT (P:Program) (code:FuncId→CFn) (nat:Nats) (fuel:Nat) (G:Nat) (ws L:List (Key × Nat)) (nx:Option Nx) (p:List Stp) (cc:CCode) (rs:List CRes) (s:Nat→Int) (K:za) (ts:List Nat) (r:R):Bool:=match nx with
 | none=>zGF P code nat fuel p cc rs (linSym s K) r
 | some x=>match r with
  | .ok (.exit i) tm ds h n=>zUo P code nat fuel G ws L x cc s K ts (.ok (.exit i) tm ds h n)
  | r=>zGF P code nat fuel p cc rs (linSym s K) r
def zO0 (P:Program) (code:FuncId→CFn) (nat:Nats) (fuel:Nat) (G:Nat) (ws L:List (Key × Nat)) (Ts:List TS) (nx:Option Nx) (p:List Stp) (cc:CCode) (rs:List CRes) (T:TS) (l:List (Key × List CV)) (s:Nat→Int) (K:za) (ts:List Nat) (hs:List kP):Bool:=
 ko (jx G ws Ts (fun t=>zAx t.θ&&jv t.θ L) K (zJT P code nat fuel G ws L nx p cc rs s K ts) (@zi (linSym s K) P (@ev (linSym s K) P code nat fuel) (uz p cc) (uP T.locs) [] (mkH (mkH .nil T.objs) (zAS l)) T.n) hs)
def zEe (P:Program) (code:FuncId→CFn) (nat:Nats) (fuel:Nat) (G:Nat) (wins:List Win) (L:List (Key × Nat)) (A:Key→Option Value) (Ts:List TS) (nx:Option Nx) (p:List Stp) (cc:CCode) (rs:List CRes) (w0:World):Prop:=
 ∀ t T,nth Ts t=some T→∀ σ,zt σ 0 T.b→qu σ T.f→xd σ T.r→LensAre wins L σ→∃ σ' K' l hs ts,(∀ j,j<T.b.length→σ' j=σ j)∧(∀ q∈L,σ' q.2=σ q.2)∧K'.arg=A∧KnownOk σ' K'∧(∀ q∈l,zAX (linSym σ' K') wins w0 (σ 0) q)∧jU T.objs l=true ∧
  zO0 P code nat fuel G (wsOf wins) L Ts nx p cc rs T l σ' K' ts hs=true
theorem zG3 [Sym] [SymFact P] {call:yX} (hcall:yt call) (q:List Stp) (y:CCode) {r:R} (h:zX (x8 (zD3 P call q y) r)):zX r:=
 xc (fun tm ds h n=>j7 (P:=P) hcall q y tm ds h n) h
theorem zLQ {σ:Nat→Int} {K:za} (hK:KnownOk σ K) (hm:P.follows .mixedOrders=true) (hcode:CodeOk P code) (hnat:∀ σ K,KnownOk σ K→@NatsOk (linSym σ K) P nat) {ws:List (Key × Nat)} {cc:CCode} {ts:List Nat}:∀ r,zJT P code nat fuel G ws L nx p cc rs σ K ts r=true→zX r:=by
 intro r h
 unfold zJT at h
 split at h
 · exact zCI hK hm hcode hnat r h
 · split at h
   · obtain ⟨hs,h1⟩:=kw h
     obtain ⟨o,h2⟩:=uU h1
     have hc:=jC (fun _ h=>by cases h) h2
     letI S:Sym:=linSym σ K
     haveI hS:SymFact P:=linSym_ok hK
     have hcall:yY P (ev P code nat fuel):=ww (fun call hcall F N=>yy hm hcall) hcode (hnat _ _ hK) fuel
     exact wZ hcall.above _ _ (zG3 hcall.above _ _ hc)
   · exact zCI hK hm hcode hnat _ h
theorem zRP {σ:Nat→Int} {K:za} (hK:KnownOk σ K) (hlen:LensAre wins L σ) (hA:ArgsAre K.arg wins) (hG:P.globals.size≤G) (hm:P.follows .mixedOrders=true) (hcode:CodeOk P code) (hnat:∀ σ K,KnownOk σ K→@NatsOk (linSym σ K) P nat) {F N:Nat} (hsub:subC p c=some b) (hn:zu c=true)
 {x:Nx} (hnx:zFn P F N G K.arg wins L w0 fn c p (some x)) {ts:List Nat} {ψ₀:Psi} {g₀:Fam} {n₀:Key} {w₀:World} {r:R} {e:Exit} {a:Act} {w:World}
 (ho:@xA (linSym σ K) P F N ψ₀ g₀ n₀ w₀ r e a w) (hf:zUo P code nat fuel G (wsOf wins) L x (zR P F N c) σ K ts r=true)
 (hb:Below w0.heap.size w0 w₀) (ho0:∀ k o p,g₀ k=some o→o.isRo=false→ψ₀ k=some p→w0.heap.size≤p.blk):QH P p c (zGv P fn w0) e a w:=by
 obtain ⟨rfl,⟨xa,xb,bl,hat,hsub2⟩,hok⟩:=hnx
 rw [zMf hat]
 obtain ⟨hl,hr⟩:=ua (P:=P) (F:=F) (N:=N) hat
 have hnab:zu xa=true∧zu xb=true:=by
  have:=zBG hat hn
  simpa [zu] using this
 obtain ⟨hs,h1⟩:=kw hf
 obtain ⟨o,h2⟩:=uU h1
 rw [hl,hr] at h2
 have hc:=jC (fun _ h=>by cases h) h2
 letI S:Sym:=linSym σ K
 haveI hS:SymFact P:=linSym_ok hK
 have hcall:yY P (ev P code nat fuel):=ww (fun call hcall F N=>yy hm hcall) hcode (hnat _ _ hK) fuel
 have hdraw:qv P F N (ev P code nat fuel):=yy hm hcall
 have hab:=fun tm ds h n=>j7 (P:=P) hcall.above x.q2 (zR P F N xb) tm ds h n
 have hok2:=fun t T σ ψ a w=>hok t T σ ψ a w bl hsub2
 rw [zIp hat] at hok2
 refine zAm hcall hdraw x.q xa (zIo hat hsub) hnab.1 ho (zG3 hcall.above _ _ hc) fun e a w ho=>?_
 rcases j4 hc ho with ⟨rfl,tm',ds',h',n',ψ',g2,g3,g4,g5⟩ | ⟨g1,g2⟩
 · show xb.wp P (QH P x.pre c (zGv P fn w0)) a w
   refine zBD hcall hdraw x.q2 xb (Q:=QH P x.pre c (zGv P fn w0)) (zEb hat hsub2) hnab.2 g2 g4 fun e'' a'' w'' ho'=>?_
   have ho2:=g5 e'' a'' w'' (xA.trans g3 ho')
   rcases wX h2 ho2 with ⟨rfl,tm,h,n,ψ,t,T,k1,k2,k3,k4,k5⟩ | ⟨_,r',_,k2⟩
   · rw [Bool.and_eq_true] at k4
     obtain ⟨k4,k4L⟩:=k4
     obtain ⟨q0,θr,hθ⟩:∃ q0 θr,t.θ=q0::θr:=by
      unfold zCR at k4
      split at k4
      · rename_i q θr hq; exact ⟨q,θr,hq⟩
      · cases k4
     obtain ⟨σ'',ψT,hi,_⟩:=zLj hK hlen k1 k2 hG hA k5 ⟨q0,by rw [hθ]; rfl⟩ k4L ho0 hb
     exact ⟨rfl,hok2 _ _ _ _ _ _ k3 hi⟩
   · cases k2
 · rcases wX h2 g2 with ⟨rfl,_⟩ | ⟨_,r',_,k2⟩
   · exact absurd rfl g1
   · cases k2
theorem zPO {σ:Nat→Int} {K:za} (hK:KnownOk σ K) (hlen:LensAre wins L σ) (hA:ArgsAre K.arg wins) (hG:P.globals.size≤G) (hm:P.follows .mixedOrders=true) (hcode:CodeOk P code) (hnat:∀ σ K,KnownOk σ K→@NatsOk (linSym σ K) P nat) {F N:Nat} (hsub:subC p c=some b) (hn:zu c=true)
 (hrs:yn (xI P F N) fn.results.toList=some rs) (hnx:zFn P F N G K.arg wins L w0 fn c p nx) {ts:List Nat} {ψ₀:Psi} {g₀:Fam} {n₀:Key} {w₀:World} {r:R} {e:Exit} {a:Act} {w:World}
 (ho:@xA (linSym σ K) P F N ψ₀ g₀ n₀ w₀ r e a w) (hf:zJT P code nat fuel G (wsOf wins) L nx p (zR P F N c) rs σ K ts r=true)
 (hb:Below w0.heap.size w0 w₀) (ho0:∀ k o p,g₀ k=some o→o.isRo=false→ψ₀ k=some p→w0.heap.size≤p.blk):QH P p c (zGv P fn w0) e a w:=by
 unfold zJT at hf
 split at hf
 · exact zIP hK hm hcode hnat hsub hn hrs ho hf hb ho0
 · split at hf
   · exact zRP hK hlen hA hG hm hcode hnat hsub hn hnx ho hf hb ho0
   · exact zIP hK hm hcode hnat hsub hn hrs ho hf hb ho0
theorem zKO (hm:P.follows .mixedOrders=true) (hcode:CodeOk P code) (hnat:∀ σ K,KnownOk σ K→@NatsOk (linSym σ K) P nat) (hG:P.globals.size≤G) {F N:Nat} (hsub:subC p c=some b) (hn:zu c=true)
 (hrs:yn (xI P F N) fn.results.toList=some rs) (hA:ArgsAre A wins) (hbd:boundIs bound Ts=true)
 (hnx:zFn P F N G A wins L w0 fn c p nx) (hgood:zEe P code nat fuel G wins L A Ts nx p (zR P F N c) rs w0):∀ (m:Nat) (t:Nat) (T:TS) (σ:Nat→Int) (ψ:Psi) (a:Act) (w:World),nth Ts t=some T→zOV P F N G A wins L w0 T σ ψ a w→(bound - σ 0).toNat≤m →
 vN P b (QH P p c (zGv P fn w0)) a w:=by
 have hnb:zu b=true:=by
  have:∀ {p:List Stp} {c:Code},subC p c=some b→zu c=true→zu b=true:=by
   intro p
   induction p with
   | nil=>
    intro c hs hn
    cases c <;> try (cases hs; done)
    injection hs with hs; subst hs
    simpa [zu] using hn
   | cons x p ih=>
    intro c hs hn
    cases x <;> cases c <;> try (cases hs; done)
    · rename_i x y
      have hn:zu x=true∧zu y=true:=by simpa [zu] using hn
      exact ih hs hn.1
    · rename_i x y
      have hn:zu x=true∧zu y=true:=by simpa [zu] using hn
      exact ih hs hn.2
    · exact ih hs hn
  exact this hsub hn
 have step:∀ (t:Nat) (T:TS) (σ:Nat→Int) (ψ:Psi) (a:Act) (w:World),nth Ts t=some T→zOV P F N G A wins L w0 T σ ψ a w →
  (∀ (t':Nat) (T':TS) (σ':Nat→Int) (ψ':Psi) (a':Act) (w':World),nth Ts t'=some T'→zOV P F N G A wins L w0 T' σ' ψ' a' w'→(bound - σ' 0).toNat<(bound - σ 0).toNat→vN P b (QH P p c (zGv P fn w0)) a' w') →
  vN P b (QH P p c (zGv P fn w0)) a w:=by
  intro t T σ ψ a w hT hi hrec
  obtain ⟨σ',K',l,hs,ts,hag,hagL,hKA,hK,hl,hap,hpass⟩:=hgood t T hT σ hi.bnd hi.fct hi.rul hi.len
  have hst:=zKw hi hag hKA hl hap
  obtain ⟨q1,r1,hb1,_⟩:=zBl hbd hT
  have hag0:σ' 0=σ 0:=hag 0 (by rw [hb1]; simp)
  have hm0:∀ k o p,zC.fam (mkH (mkH .nil T.objs) (zAS l)) k=some o→o.isRo=false→ψ k=some p→w0.heap.size≤p.blk:=by
   intro k o p h1 h2 h3
   rcases vW h1 with ⟨cs,_,rfl⟩ | h1
   · cases h2
   · exact (hi.own k o p h1 h3).2
  letI S:Sym:=linSym σ' K'
  haveI hS:SymFact P:=linSym_ok hK
  have hcall:yY P (ev P code nat fuel):=ww (fun call hcall F N=>yy hm hcall) hcode (hnat _ _ hK) fuel
  have hdraw:qv P F N (ev P code nat fuel):=yy hm hcall
  unfold zO0 at hpass
  rw [@wA S P F N p c b hsub] at hpass
  generalize hres:zi P (ev P code nat fuel) (zR P F N b) (uP T.locs) [] (mkH (mkH .nil T.objs) (zAS l)) T.n=r at hpass
  obtain ⟨hs',hchk⟩:∃ x,jx G (wsOf wins) Ts (fun t=>zAx t.θ&&jv t.θ L) K' (zJT P code nat fuel G (wsOf wins) L nx p (zR P F N c) rs σ' K' ts) r hs=some x:=by
   unfold ko at hpass
   split at hpass
   · rename_i x hx; exact ⟨x,hx⟩
   · cases hpass
  have hclean:zX r:=jC (zLQ hK hm hcode hnat) hchk
  have hsim:=kO hcall hdraw b hnb hst (by rw [hres]; exact hclean)
  rw [hres] at hsim
  refine zAJ (wp_mono hsim fun e a' w' ho=>?_)
  rcases wX hchk ho with ⟨rfl,tm,h,n,ψ',t',T',h1,h2,h3,h4,h5⟩ | ⟨hne,r',h1,h2⟩
  · rw [Bool.and_eq_true] at h4
    obtain ⟨h4,h4L⟩:=h4
    obtain ⟨q0,θr,hθ,e1,e2⟩:∃ q0 θr,t'.θ=q0::θr∧q0.1=1∧q0.2=[(0,1)]:=by
     unfold zAx at h4
     split at h4
     · rename_i q θr hq
       rw [Bool.and_eq_true,@zb noSym,decide_eq_true_eq] at h4
       exact ⟨q,θr,hq,h4.1,@we noSym _ _ h4.2⟩
     · cases h4
    obtain ⟨σ'',ψT,hinv,h0⟩:=zLj hK (fun q hq=>by
     obtain ⟨wn,g1,g2⟩:=hi.len q hq
     exact ⟨wn,g1,by rw [hagL q hq]; exact g2⟩) h1 h2 hG (by rw [hKA]; exact hA) h5 ⟨q0,by rw [hθ]; rfl⟩ h4L hm0 hi.blw
    rw [hKA] at hinv
    have hσ:σ'' 0=σ 0+1:=by
     rw [h0 q0 (by rw [hθ]; rfl)]
     unfold evQ
     rw [e1,e2]
     show (1:Int)+(1*σ' 0+0)=_
     rw [hag0]; omega
    obtain ⟨q2,r2,hb2,hle⟩:=zBl hbd h3
    have hbb:=hinv.bnd
    rw [hb2] at hbb
    have:=hbb.1.2
    exact hrec t'.T T' σ'' ψT a' w' h3 hinv (by omega)
  · have:=zPO hK (fun q hq=>by
     obtain ⟨wn,g1,g2⟩:=hi.len q hq
     exact ⟨wn,g1,by rw [hagL q hq]; exact g2⟩) (by rw [hKA]; exact hA) hG hm hcode hnat hsub hn hrs (by rw [hKA]; exact hnx) h1 h2 hi.blw hm0
    cases e <;> first | exact absurd rfl hne | exact this
 intro m
 induction m with
 | zero=>
  intro t T σ ψ a w hT hi hm0
  exact step t T σ ψ a w hT hi fun t' T' σ' ψ' a' w' hT' hi' hlt=>by omega
 | succ m ih=>
  intro t T σ ψ a w hT hi hm0
  exact step t T σ ψ a w hT hi fun t' T' σ' ψ' a' w' hT' hi' hlt=>ih t' T' σ' ψ' a' w' hT' hi' (by omega)
theorem zNE (hm:P.follows .mixedOrders=true) (hcode:CodeOk P code) (hnat:∀ σ K,KnownOk σ K→@NatsOk (linSym σ K) P nat) (hG:P.globals.size≤G) {F N:Nat} (hn:zu c=true)
 (hrs:yn (xI P F N) fn.results.toList=some rs) (hA:ArgsAre A wins) (hbd:boundIs bound Ts=true)
 (hnx:zFn P F N G A wins L w0 fn c p nx) (hgood:zEe P code nat fuel G wins L A Ts nx p (zR P F N c) rs w0):LoopOk P F N G A wins L w0 fn c Ts p:=
 fun t T σ ψ a w b hsub hT hi=>zKO hm hcode hnat hG hsub hn hrs hA hbd hnx hgood _ t T σ ψ a w hT hi (Nat.le_refl _)
theorem loopOk_fn {cc:CCode} {f:FuncId} (hm:P.follows .mixedOrders=true) (hcode:CodeOk P code) (hnat:∀ σ K,KnownOk σ K→@NatsOk (linSym σ K) P nat) (hG:P.globals.size≤G) (hf:P.funcs[f]? = some fn) (hb:fn.body=some c) (hcf:compFn P f=.mk cc rs) (hA:ArgsAre A wins) (hbd:boundIs bound Ts=true)
 (hnx:zFn P (frameBits fn c) fn.ntmps G A wins L w0 fn c p nx) (hgood:zEe P code nat fuel G wins L A Ts nx p cc rs w0):LoopOk P (frameBits fn c) fn.ntmps G A wins L w0 fn c Ts p:=by
 obtain ⟨hrs,hnr,rfl⟩:=zBr hf hb hcf
 exact zNE hm hcode hnat hG hnr hrs hA hbd hnx hgood
end
theorem zKu {code:FuncId→CFn} {nat:Nats} {fuel:Nat} {f:FuncId} {fn:Func} {c b:Code} {cc:CCode} {p:List Stp} {rs:List CRes} {G:Nat} {wins:List Win} {L:List (Key × Nat)} {A:Key→Option Value} {Ts:List TS} {w0:World}
 {σ:Nat→Int} {K:za} {args:List CV} {args':Array Value} {n:Key} {hs:List kP} (hK:KnownOk σ K) (hKA:K.arg=A) (hlen:LensAre wins L σ)
 (hm:P.follows .mixedOrders=true) (hcode:CodeOk P code) (hnat:∀ σ K,KnownOk σ K→@NatsOk (linSym σ K) P nat) (hf:P.funcs[f]? = some fn) (hb:fn.body=some c) (hcf:compFn P f=.mk cc rs) (hsub:subC p c=some b)
 (hG:P.globals.size≤G) (hn:G≤n.ix) (hw:zGs G n.ix (wsOf wins)=true) (hA:ArgsAre A wins)
 (hargs:@zT (linSym σ K) (psiW G wins) args args'.toList) (hrun:startOf P code nat fuel G (wsOf wins) L Ts p cc args n (linSym σ K) K hs=true)
 (hgood:LoopOk P (frameBits fn c) fn.ntmps G A wins L w0 fn c Ts p):Calls P f args' w0 fun e w=>e=.returned (.bool true)∧Below w0.heap.size w0 w:=by
 obtain ⟨hrs,hnr,rfl⟩:=zBr hf hb hcf
 letI S:Sym:=linSym σ K
 haveI hS:SymFact P:=linSym_ok hK
 have hcall:yY P (ev P code nat fuel):=ww (fun call hcall F N=>yy hm hcall) hcode (hnat _ _ hK) fuel
 have hdraw:∀ F N,qv P F N (ev P code nat fuel):=fun F N=>yy hm hcall
 have hst:St P (frameBits fn c) fn.ntmps (psiW G wins) (qQ args 0 .nil) [] .nil n { tmps:=args'++Array.replicate (fn.ntmps - args'.size) undef,defers:=[] } w0:=
  zCD hcall hdraw hargs (zNI hG hw) (zIR _ _) (zLw hn hw)
 unfold startOf at hrun
 generalize hres:zD3 P (ev P code nat fuel) p (zR P (frameBits fn c) fn.ntmps c) (qQ args 0 .nil) [] .nil n=r at hrun
 obtain ⟨hs',hchk⟩:∃ x,jx G (wsOf wins) Ts (fun t=>zCR t.θ&&jv t.θ L) K (fun _=>false) r hs=some x:=by
  unfold ko at hrun
  split at hrun
  · rename_i x hx; exact ⟨x,hx⟩
  · cases hrun
 have hclean:zX r:=jC (fun _ h=>by cases h) hchk
 refine calls_of_wp_defers hf hb (zBD hcall (hdraw _ _) p c hsub hnr hst (by rw [hres]; exact hclean) fun e a' w' ho=>?_)
 rw [hres] at ho
 rcases wX hchk ho with ⟨rfl,tm,h,n',ψ',t',T',h1,h2,h3,h4,h5⟩ | ⟨_,r',_,h2⟩
 · rw [Bool.and_eq_true] at h4
   obtain ⟨h4,h4L⟩:=h4
   obtain ⟨q0,θr,hθ⟩:∃ q0 θr,t'.θ=q0::θr:=by
    unfold zCR at h4
    split at h4
    · rename_i q θr hq; exact ⟨q,θr,hq⟩
    · cases h4
   obtain ⟨σ'',ψT,hinv,_⟩:=zLj hK hlen h1 h2 hG (by rw [hKA]; exact hA) h5 ⟨q0,by rw [hθ]; rfl⟩ h4L (w0:=w0) (fun k o p h1 _ _=>by
    have h1:ze k .nil=some o:=h1
    rw [jH] at h1; cases h1) (Below.refl _ _)
   rw [hKA] at hinv
   exact ⟨rfl,hgood _ _ _ _ _ _ _ hsub h3 hinv⟩
 · cases h2
def zOt (P:Program) (code:FuncId→CFn) (nat:Nats) (fuel G:Nat) (ws L:List (Key × Nat)) (Ts:List TS) (nx:Option Nx) (p:List Stp) (cc:CCode) (rs:List CRes) (T:TS) (e:Lf):Prop:=
 jU T.objs e.l=true∧∀ (s:Nat→Int) (A:Key→Option Value),∃ hs ts,zO0 P code nat fuel G ws L Ts nx p cc rs T e.l s (e.known A) ts hs=true
def StateGoodM (P:Program) (code:FuncId→CFn) (nat:Nats) (fuel G:Nat) (ws L:List (Key × Nat)) (Ts:List TS) (nx:Option Nx) (p:List Stp) (cc:CCode) (rs:List CRes) (ks:List (Key × Kd)) (T:TS):Prop:=
 ∃ (tree:LTree) (ls:List Lf),leaves ks tree ⟨T.b,T.f,T.r,[],1000⟩=some ls∧(Nat.ble (Nat.succ ks.length) T.b.length&&Nat.ble T.b.length 1000&&vO T.b.length L)=true ∧
  AllG (zOt P code nat fuel G ws L Ts nx p cc rs T) ls
theorem passes_allM {code:FuncId→CFn} {nat:Nats} {fuel G:Nat} {wins:List Win} {ws L:List (Key × Nat)} {A:Key→Option Value} {Ts:List TS} {p:List Stp} {cc:CCode} {rs:List CRes} {w0:World} {ks:List (Key × Kd)}
 (hws:wsOf wins=ws) (hA:ArgsAre A wins) (hwin:∀ σ,LensAre wins L σ→WinIs wins w0 σ ks) {nx:Option Nx} (h:AllS (StateGoodM P code nat fuel G ws L Ts nx p cc rs ks) Ts):zEe P code nat fuel G wins L A Ts nx p cc rs w0:=by
 intro t T hT σ hb hf hr hlen
 obtain ⟨tree,ls,h1,h2,h3⟩:=zFZ h hT
 rw [Bool.and_eq_true,Bool.and_eq_true] at h2
 have g1:=@zL noSym _ _ h2.1.1
 have g2:=@zL noSym _ _ h2.1.2
 obtain ⟨e,hm,σ',r1,r2⟩:=yR (wins:=wins) (w0:=w0) (i:=σ 0) tree _ σ h1 ⟨hb,hf,hr,fun q hq=>by cases hq⟩ (hwin σ hlen) rfl (by show ks.length<T.b.length; omega) g2 (Nat.le_refl _)
 obtain ⟨hap,hall⟩:=u9 h3 e hm
 obtain ⟨hs,ts,hpass⟩:=hall σ' A
 refine ⟨σ',e.known A,e.l,hs,ts,fun j hj=>r2 j (.inl hj),fun q hq=>r2 _ (.inl (zCN h2.2 q hq)),rfl,r1.known A,fun q hq=>r1.w q hq σ' _ hA kW,hap,?_⟩
 rw [hws]
 exact hpass
theorem calls_treeM {code:FuncId→CFn} {nat:Nats} {fuel:Nat} {f:FuncId} {fn:Func} {c b:Code} {cc:CCode} {p:List Stp} {rs:List CRes} {G:Nat} {wins:List Win} {ws L:List (Key × Nat)} {A:Key→Option Value} {Ts:List TS} {w0:World}
 {ks:List (Key × Kd)} {tree:LTree} {e0:Lf} {ls:List Lf} {σ:Nat→Int} {args:List CV} {args':Array Value} {n:Key} (hws:wsOf wins=ws)
 (hls:leaves ks tree e0=some ls) (hchk:(Nat.ble (Nat.succ ks.length) e0.b.length&&Nat.ble e0.b.length 1000&&Nat.ble 1000 e0.u&&vO e0.b.length L)=true)
 (hall:AllG (fun e=>∀ (s:Nat→Int) (A:Key→Option Value),∃ hs,startOf P code nat fuel G ws L Ts p cc args n (linSym s (e.known A)) (e.known A) hs=true) ls)
 (h0:zCA wins w0 (σ 0) σ e0) (hlen:LensAre wins L σ) (hwin:∀ σ,LensAre wins L σ→WinIs wins w0 σ ks)
 (hm:P.follows .mixedOrders=true) (hcode:CodeOk P code) (hnat:∀ σ K,KnownOk σ K→@NatsOk (linSym σ K) P nat) (hf:P.funcs[f]? = some fn) (hb:fn.body=some c) (hcf:compFn P f=.mk cc rs) (hsub:subC p c=some b)
 (hG:P.globals.size≤G) (hn:G≤n.ix) (hw:zGs G n.ix ws=true) (hA:ArgsAre A wins)
 (hargs:∀ σ' K',K'.arg=A→(∀ j,(j<e0.b.length∨(1000≤j∧j<e0.u))→σ' j=σ j)→@zT (linSym σ' K') (psiW G wins) args args'.toList)
 (hgood:LoopOk P (frameBits fn c) fn.ntmps G A wins L w0 fn c Ts p):Calls P f args' w0 fun e w=>e=.returned (.bool true)∧Below w0.heap.size w0 w:=by
 simp only [Bool.and_eq_true] at hchk
 obtain ⟨⟨⟨g1,g2⟩,g3⟩,g4⟩:=hchk
 have g1:=@zL noSym _ _ g1
 obtain ⟨e,hmem,σ',r1,r2⟩:=yR (wins:=wins) (w0:=w0) (i:=σ 0) tree e0 σ hls h0 (hwin σ hlen) rfl (by omega) (@zL noSym _ _ g2) (@zL noSym _ _ g3)
 obtain ⟨hs,hrun⟩:=u9 hall e hmem σ' A
 subst hws
 exact zKu (K:=e.known A) (r1.known A) rfl (fun q hq=>by
  obtain ⟨wn,h1,h2⟩:=hlen q hq
  exact ⟨wn,h1,by rw [r2 _ (.inl (zCN g4 q hq))]; exact h2⟩) hm hcode hnat hf hb hcf hsub hG hn hw hA (hargs σ' _ rfl r2) hrun hgood
section
variable {code:FuncId→CFn} {nat:Nats} {fuel:Nat} {p:List Stp} {rs:List CRes} {G:Nat} {ws L:List (Key × Nat)} {ks:List (Key × Kd)} {Ts:List TS} {nx:Option Nx} {cc:CCode} {T:TS}
def zPC (P:Program) (code:FuncId→CFn) (nat:Nats) (fuel:Nat) (G:Nat) (ws L:List (Key × Nat)) (Ts:List TS) (nx:Option Nx) (p:List Stp) (cc:CCode) (rs:List CRes) (T:TS) (l:List (Key × List CV)) (s:Nat→Int) (K:za) (t:List Nat × List Nat):Bool:=
 v6 (zAR G ws Ts (fun t=>zAx t.θ&&jv t.θ L) K (zJT P code nat fuel G ws L nx p cc rs s K t.2) (@zi (linSym s K) P (@ev (linSym s K) P code nat fuel) (uz p cc) (uP T.locs) [] (mkH (mkH .nil T.objs) (zAS l)) T.n) t.1)
def uv (f:Lf→List Nat × List Nat→Bool):List Lf→List (List Nat × List Nat)→Bool
 | [],[]=>true
 | e::l,t::r=>y8 e (fun e=>f e t)&&uv f l r
 | _,_=>false
theorem zBb {f:Lf→List Nat × List Nat→Bool}:∀ {l:List Lf} {r:List (List Nat × List Nat)},uv f l r=true→∀ e∈l,∃ t,f e t=true
 | [],_,_,e,he=>by cases he
 | x::l,[],h,_,_=>by cases h
 | x::l,t::r,h,e,he=>by
  unfold uv at h
  rw [Bool.and_eq_true,yZ] at h
  rcases List.mem_cons.1 he with rfl | he
  · exact ⟨t,h.1⟩
  · exact zBb h.2 e he
def zEQ (P:Program) (code:FuncId→CFn) (nat:Nats) (fuel:Nat) (G:Nat) (ws L:List (Key × Nat)) (ks:List (Key × Kd)) (Ts:List TS) (nx:Option Nx) (p:List Stp) (cc:CCode) (rs:List CRes) (T:TS) (tree:LTree) (tss:List (List Nat × List Nat)) (s:Nat→Int) (A:Key→Option Value):Bool:=
 (match leaves ks tree ⟨T.b,T.f,T.r,[],1000⟩ with
 | some ls=>uv (fun e t=>jU T.objs e.l&&zPC P code nat fuel G ws L Ts nx p cc rs T e.l s (e.known A) t) ls tss
 | none=>false)&&(Nat.ble (Nat.succ ks.length) T.b.length&&Nat.ble T.b.length 1000&&vO T.b.length L)
theorem zI0 {tree:LTree} {tss:List (List Nat × List Nat)} (h:∀ s A,zEQ P code nat fuel G ws L ks Ts nx p cc rs T tree tss s A=true):StateGoodM P code nat fuel G ws L Ts nx p cc rs ks T:=by
 have h0:=h (fun _=>0) (fun _=>none)
 unfold zEQ at h0
 rw [Bool.and_eq_true] at h0
 split at h0
 · rename_i ls hls
   refine ⟨tree,ls,hls,h0.2,allG_of fun e he=>⟨?_,fun s A=>?_⟩⟩
   · obtain ⟨t,ht⟩:=zBb h0.1 e he
     rw [Bool.and_eq_true] at ht
     exact ht.1
   · have h1:=h s A
     unfold zEQ at h1
     rw [Bool.and_eq_true,hls] at h1
     obtain ⟨t,ht⟩:=zBb h1.1 e he
     rw [Bool.and_eq_true] at ht
     obtain ⟨hs,hp⟩:=kw ht.2
     exact ⟨hs,t.2,hp⟩
 · cases h0.1
def statesM (f:Nat→Bool):Nat→Nat→Bool
 | _,0=>true
 | a,n+1=>f a&&statesM f (Nat.succ a) n
theorem statesM_all {f:Nat→Bool}:∀ {n a:Nat},statesM f a n=true→∀ i,a≤i→i<a+n→f i=true
 | 0,a,_,i,h1,h2=>by omega
 | n+1,a,h,i,h1,h2=>by
  unfold statesM at h
  rw [Bool.and_eq_true] at h
  rcases Nat.eq_or_lt_of_le h1 with rfl | h1
  · exact h.1
  · exact statesM_all h.2 i h1 (by omega)
def mkTs (g:Nat→TS) (m n:Nat):List TS:=Nat.rec (motive:=fun _=>List TS) [] (fun k ih=>g (Nat.sub m (Nat.succ k))::ih) n
theorem mkTs_all {Q:TS→Prop} {g:Nat→TS} {m:Nat} (h:∀ i,i<m→Q (g i)):∀ {n:Nat},n≤m→AllS Q (mkTs g m n)
 | 0,_=>zQ9
 | n+1,hn=>zOv (h (m - (n+1)) (by omega)) (mkTs_all h (n:=n) (by omega))
end
section
variable {G:Nat} {ws:List (Key × Nat)} {Ts:List TS} {ok:kP→Bool} {K:za} {fin:R→Bool}
def zDL (f:Nat→Tm→xP→zC→Key→Bool) (fin:R→Bool):R→List Nat→Option (List Nat)
 | .ok .normal tm ds h n,t::r=>match f t tm ds h n with
  | true=>some r
  | false=>none
 | .ok (.exit i) tm ds h n,r=>match fin (.ok (.exit i) tm ds h n) with
  | true=>some r
  | false=>none
 | .ok .ret tm ds h n,r=>match fin (.ok .ret tm ds h n) with
  | true=>some r
  | false=>none
 | .fork a b,r=>match zDL f fin a r with
  | some r=>zDL f fin b r
  | none=>none
 | _,_=>none
theorem zIl {f:Nat→Tm→xP→zC→Key→Bool} (hf:∀ t tm ds h n,f t tm ds h n=true→vk G ws Ts ok K t tm ds h n=true):∀ {r:R} {l l':List Nat},zDL f fin r l=some l'→zAR G ws Ts ok K fin r l=some l'
 | .ok .normal tm ds h n,[],_,hc=>by cases hc
 | .ok .normal tm ds h n,t::l,l',hc=>by
  unfold zDL at hc
  split at hc
  · rename_i hl
    unfold zAR
    rw [hf _ _ _ _ _ hl]
    exact hc
  · cases hc
 | .ok (.exit i) tm ds h n,l,l',hc=>hc
 | .ok .ret tm ds h n,l,l',hc=>hc
 | .ret ..,l,l',hc=>by unfold zDL at hc; cases hc
 | .err _,l,l',hc=>by unfold zDL at hc; cases hc
 | .fork a b,l,l',hc=>by
  unfold zDL at hc
  split at hc
  · rename_i r hr
    unfold zAR
    rw [zIl hf hr]
    exact zIl hf hc
  · cases hc
def zDR (t:Nat):List (Nat × TS)→Option TS
 | []=>none
 | q::r=>match Nat.beq q.1 t with
  | true=>some q.2
  | false=>zDR t r
def zPR (G:Nat) (ws:List (Key × Nat)) (acc:List (Nat × TS)) (ok:kP→Bool) (K:za) (t:Nat) (tm:Tm) (ds:xP) (h:zC) (n:Key):Bool:=match ds with
 | []=>match zDR t acc with
  | some T=>zB4 t T tm h fun x=>ok x&&zMN G ws T x.ks x.θ K tm h&&Nat.ble (Nat.succ n.ix) 65535
  | none=>false
 | _=>false
theorem zRN {acc:List (Nat × TS)} (hacc:∀ t T,zDR t acc=some T→nth Ts t=some T) {t:Nat} {tm:Tm} {ds:xP} {h:zC} {n:Key} (hl:zPR G ws acc ok K t tm ds h n=true):vk G ws Ts ok K t tm ds h n=true:=by
 unfold zPR at hl
 split at hl
 · split at hl
   · rename_i T hT
     unfold vk
     simp only [hacc t T hT]
     rw [zCp]
     exact hl
   · cases hl
 · cases hl
def zFp (g:Nat→TS) (m:Nat):List Nat→List (Nat × TS)→(List (Nat × TS)→Bool)→Bool
 | [],acc,k=>k acc
 | t::r,acc,k=>match zDR t acc with
  | some _=>zFp g m r acc k
  | none=>Nat.ble (Nat.succ t) m&&zQB (g t) fun T=>zFp g m r ((t,T)::acc) k
theorem zCK {g:Nat→TS} {m:Nat} {k:List (Nat × TS)→Bool}:∀ {l:List Nat} {acc:List (Nat × TS)},zFp g m l acc k=true→(∀ t T,zDR t acc=some T→T=g t∧t<m) →
 ∃ acc',(∀ t T,zDR t acc'=some T→T=g t∧t<m)∧k acc'=true
 | [],acc,h,ha=>⟨acc,ha,h⟩
 | t::r,acc,h,ha=>by
  unfold zFp at h
  split at h
  · exact zCK h ha
  · rw [Bool.and_eq_true,zCp] at h
    refine zCK h.2 fun t' T hT=>?_
    unfold zDR at hT
    split at hT
    · rename_i e
      injection hT with hT
      have e:=@zh noSym _ _ e
      simp only at e hT
      subst e
      exact ⟨hT.symm,@zL noSym _ _ h.1⟩
    · exact ha t' T hT
end
theorem zI5 {g:Nat→TS} {m:Nat}:∀ {n t:Nat},n≤m→t<n→nth (mkTs g m n) t=some (g (m - n+t))
 | 0,t,_,h=>by omega
 | n+1,0,_,_=>rfl
 | n+1,t+1,h1,h2=>by
  show nth (mkTs g m n) t=_
  rw [zI5 (n:=n) (t:=t) (by omega) (by omega)]
  congr 2
  omega
def zSH:List (List Nat × List Nat)→List Nat
 | []=>[]
 | q::r=>q.1++zSH r
theorem zDD {f f':Lf→List Nat × List Nat→Bool} (hf:∀ e t,f e t=true→f' e t=true):∀ {l:List Lf} {r:List (List Nat × List Nat)},uv f l r=true→uv f' l r=true
 | [],[],_=>rfl
 | [],_::_,h=>by cases h
 | _::_,[],h=>by cases h
 | e::l,t::r,h=>by
  unfold uv at h ⊢
  rw [Bool.and_eq_true,yZ] at h
  rw [Bool.and_eq_true,yZ]
  exact ⟨hf e t h.1,zDD hf h.2⟩
section
variable {code:FuncId→CFn} {nat:Nats} {fuel:Nat} {p:List Stp} {rs:List CRes} {G:Nat} {ws L:List (Key × Nat)} {ks:List (Key × Kd)} {nx:Option Nx} {cc:CCode} {T:TS}
def stateY (P:Program) (code:FuncId→CFn) (nat:Nats) (fuel:Nat) (G:Nat) (ws L:List (Key × Nat)) (ks:List (Key × Kd)) (g:Nat→TS) (m:Nat) (nx:Option Nx) (p:List Stp) (cc:CCode) (rs:List CRes) (T:TS) (tree:LTree) (tss:List (List Nat × List Nat)) (s:Nat→Int) (A:Key→Option Value):Bool:=
 zQB T fun T=>zFp g m (zSH tss) [] fun acc=>(match leaves ks tree ⟨T.b,T.f,T.r,[],1000⟩ with
 | some ls=>uv (fun e t=>jU T.objs e.l&&v6 (zDL (zPR G ws acc (fun t=>zAx t.θ&&jv t.θ L) (e.known A)) (zJT P code nat fuel G ws L nx p cc rs s (e.known A) t.2) (@zi (linSym s (e.known A)) P (@ev (linSym s (e.known A)) P code nat fuel) (uz p cc) (uP T.locs) [] (mkH (mkH .nil T.objs) (zAS e.l)) T.n) t.1)) ls tss
 | none=>false)&&(Nat.ble (Nat.succ ks.length) T.b.length&&Nat.ble T.b.length 1000&&vO T.b.length L)
theorem zPF {g:Nat→TS} {m:Nat} {tree:LTree} {tss:List (List Nat × List Nat)} {s:Nat→Int} {A:Key→Option Value} (h:stateY P code nat fuel G ws L ks g m nx p cc rs T tree tss s A=true):zEQ P code nat fuel G ws L ks (mkTs g m m) nx p cc rs T tree tss s A=true:=by
 unfold stateY at h
 rw [zCp] at h
 obtain ⟨acc,ha,h⟩:=zCK h (fun t T hT=>by cases hT)
 have hacc:∀ t T,zDR t acc=some T→nth (mkTs g m m) t=some T:=fun t T hT=>by
  obtain ⟨e,hlt⟩:=ha t T hT
  rw [zI5 (Nat.le_refl _) hlt,e,Nat.sub_self,Nat.zero_add]
 unfold zEQ
 rw [Bool.and_eq_true] at h ⊢
 refine ⟨?_,h.2⟩
 have h1:=h.1
 split at h1
 · rename_i ls hls
   refine zDD (fun e t ht=>?_) h1
   rw [Bool.and_eq_true] at ht ⊢
   refine ⟨ht.1,?_⟩
   have h2:=ht.2
   unfold zPC
   unfold v6 at h2 ⊢
   split at h2
   · rename_i x hx
     rw [zIl (fun t tm ds h n hl=>zRN hacc hl) hx]
   · cases h2
 · cases h1
theorem stateY_good {g:Nat→TS} {m:Nat} {tree:LTree} {tss:List (List Nat × List Nat)} (h:∀ s A,stateY P code nat fuel G ws L ks g m nx p cc rs T tree tss s A=true):StateGoodM P code nat fuel G ws L (mkTs g m m) nx p cc rs ks T:=
 zI0 (tree:=tree) (tss:=tss) fun s A=>zPF (h s A)
end
section
variable {code:FuncId→CFn} {nat:Nats} {fuel:Nat} {p:List Stp} {rs:List CRes} {G:Nat} {ws L:List (Key × Nat)} {ks:List (Key × Kd)} {nx:Option Nx} {cc:CCode} {T:TS}
end
end
end Go.Ev
