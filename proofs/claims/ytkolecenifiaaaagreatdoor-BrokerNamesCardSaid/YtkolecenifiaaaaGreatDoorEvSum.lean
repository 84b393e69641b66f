/- A verified evaluator for the model's code: EvSum, EvSumN, EvSumH, EvMemo, EvSeq. -/
import Derived.Test.YtkolecenifiaaaaGreatDoorEvHint
set_option linter.unusedSectionVars false
set_option linter.unusedVariables false
set_option linter.unusedSimpArgs false
namespace Go.Ev
open Go.RowKit
noncomputable section
variable {P:Program}
structure Po where
 v:CV
 objs:List (Key × CObj)
structure Sm where
 args:List CV
 objs:List (Key × CObj)
 n:Key
 b:List (Int × Int)
 pins:List Key
 posts:List Po
abbrev wG (l:List (Key × CObj)):Fam:=zC.fam (mkH .nil l)
def zGP (ψ:Psi) (l:List (Key × CObj)) (w:World) (B:Nat):Prop:=(∃ k o p,wG l k=some o∧ψ k=some p∧p.blk=B)∨w.heap.size≤B
structure Lft (O:Nat→Prop) (w w':World):Prop where
 os:w'.os=w.os
 tape:w'.tape=w.tape
 output:w'.output=w.output
 size:w.heap.size≤w'.heap.size
 block:∀ B,¬ O B→w'.heap[B]? = w.heap[B]?
theorem Lft.refl (O:Nat→Prop) (w:World):Lft O w w:=⟨rfl,rfl,rfl,Nat.le_refl _,fun _ _=>rfl⟩
theorem zRW {S:Sym} {O:Nat→Prop} {ψ ψ':Psi} {g g':Fam} {n n':Key} {w0 w w':World} (h:Lft O w0 w) (hp:@yH S ψ g n w ψ' g' n' w') (ho:∀ B,w0.heap.size≤B→O B)
 (hm:∀ k o p,g k=some o→o.isRo=false→ψ k=some p→O p.blk):Lft O w0 w':=by
 have h1:=@yH.os S _ _ _ _ _ _ _ _ hp
 have h2:=@yH.tape S _ _ _ _ _ _ _ _ hp
 have h3:=@yH.output S _ _ _ _ _ _ _ _ hp
 have h4:=@yH.size S _ _ _ _ _ _ _ _ hp
 have h5:=@yH.frame S _ _ _ _ _ _ _ _ hp
 refine ⟨h1.trans h.os,h2.trans h.tape,h3.trans h.output,Nat.le_trans h.size h4,fun B hB=>?_⟩
 have hlt:B<w0.heap.size:=by
  rcases Nat.lt_or_ge B w0.heap.size with q | q
  · exact q
  · exact absurd (ho B q) hB
 rw [h5 B (Nat.lt_of_lt_of_le hlt h.size) fun k o p q1 q2 q3 e=>hB (e ▸ hm k o p q1 q2 q3),h.block B hB]
theorem zSC {S:Sym} {O:Nat→Prop} {ψ ψ':Psi} {g g':Fam} {n n':Key} {w0 w w':World} (h:Lft O w0 w) (hp:@yH S ψ g n w ψ' g' n' w') (ho:∀ B,w0.heap.size≤B→O B)
 (hm:∀ k o p,g k=some o→o.isRo=false→ψ k=some p→O p.blk):∀ k o p,g' k=some o→o.isRo=false→ψ' k=some p→O p.blk:=by
 intro k o p q1 q2 q3
 rcases @yH.img S _ _ _ _ _ _ _ _ hp k o p q1 q2 q3 with ⟨k₀,o₀,p₀,a,b,c,d⟩ | hge
 · rw [← d]; exact hm k₀ o₀ p₀ a b c
 · exact ho _ (Nat.le_trans h.size hge)
theorem zKo {ψ:Psi} {l:List (Key × CObj)} {w:World}:∀ B,w.heap.size≤B→zGP ψ l w B:=fun _ h=>.inr h
def zFy (p q:Pl):Prop:=q.blk=p.blk∧q.off=p.off∧q.sz=p.sz
structure zW6 (S:Sym) (ψ:Psi) (s:Sm) (w:World) (po:Po) (v:Value) (ψ':Psi) (w':World):Prop where
 pin:∀ k∈s.pins,∀ p,ψ k=some p→∃ p',ψ' k=some p'∧zFy p p'
 rel:@Rel S ψ' (wG po.objs) w'
 val:@zH S ψ' po.v v
 own:∀ k o p,wG po.objs k=some o→ψ' k=some p→o.isRo=false∧zGP ψ s.objs w p.blk
 lft:Lft (zGP ψ s.objs w) w w'
abbrev noA:Key→Option Value:=fun _=>none
abbrev kno:zY:=⟨[],[],[],noA⟩
def thK:List (Int × Int)→Nat→TH
 | [],_=>[]
 | _::r,j=>(0,[(j,1)])::thK r (Nat.succ j)
def thS:List (Int × Int)→TH
 | []=>[]
 | _::r=>(0,[])::thK r 1
theorem zNy:∀ {b:List (Int × Int)} {i j:Nat} {q:Int × LL},nth (thK b i) j=some q→q=(0,[(i+j,1)])∧j<b.length
 | [],i,j,q,h=>by cases j <;> cases h
 | x::r,i,0,q,h=>by
  injection h with h
  exact ⟨h.symm,by simp⟩
 | x::r,i,j+1,q,h=>by
  have h:nth (thK r (i+1)) j=some q:=h
  obtain ⟨h1,h2⟩:=zNy h
  exact ⟨by rw [h1,show i+1+j=i+(j+1) from by omega],by simp; exact h2⟩
theorem zUQ {σ σ0:Nat→Int} {b:List (Int × Int)} (h0:∀ x r,b=x::r→σ0 0=0) (hk:∀ j,1≤j→j<b.length→σ j=σ0 j):qX σ σ0 (thS b):=by
 intro j q hj
 cases b with
 | nil=>cases j <;> cases hj
 | cons x r=>
  cases j with
  | zero=>
   injection hj with hj
   subst hj
   rw [h0 x r rfl]; rfl
  | succ j=>
   have hj:nth (thK r 1) j=some q:=hj
   obtain ⟨h1,h2⟩:=zNy hj
   subst h1
   have:=hk (j+1) (by omega) (by simp; exact h2)
   rw [← this,show j+1=1+j from by omega]
   show _=(0:Int)+(1*σ (1+j)+0)
   omega
def zFl (ρ:zC):List Key→Bool
 | []=>true
 | k::r=>wD ρ k k&&zFl ρ r
theorem zGX {ρ:zC}:∀ {l:List Key},zFl ρ l=true→∀ k∈l,wD ρ k k=true
 | [],_,k,h=>by cases h
 | x::r,h,k,hk=>by
  unfold zFl at h
  rw [Bool.and_eq_true] at h
  rcases List.mem_cons.1 hk with rfl | hk
  · exact h.1
  · exact zGX h.2 k hk
def zUq (l:List (Key × CObj)):Nat:=match l with
 | p::_=>p.1.ix
 | []=>0
theorem uZ {f:FuncId} {args:Array Value} {w:World} {K K':Value→World→Prop} (h:yR P f args w K) (hk:∀ v w',K v w'→K' v w'):yR P f args w K':=by
 unfold yR at h ⊢
 split at h
 · exact Calls.mono h fun e w'' ⟨v,e1,h1⟩=>⟨v,e1,hk _ _ h1⟩
 · exact hk _ _ h
 · exact h.elim
def zQT:List (Int × Int)→Bool
 | []=>false
 | q::_=>zj q.1 0&&zj q.2 0
theorem zR0 {b:List (Int × Int)} (h:zQT b=true) {σ:Nat→Int} (hb:yL σ 0 b):1≤b.length∧σ 0=0:=by
 cases b with
 | nil=>cases h
 | cons q r=>
  unfold zQT at h
  rw [Bool.and_eq_true,@za zP,@za zP,decide_eq_true_eq,decide_eq_true_eq] at h
  have:=hb.1
  rw [h.1,h.2] at this
  exact ⟨by simp,by omega⟩
section
variable {code:FuncId→CFn} {nat:Nats} {fuel:Nat} {f:FuncId} {fn:Func} {G:Nat} {s:Sm}
def okB (b:List (Int × Int)):Bool:=zQT b&&Nat.ble b.length 1000
end
structure zW4 (P:Program) (F N:Nat) (s:Sm) (σ0:Nat→Int) (ψ0:Psi) (w0:World) (T:TS) (σ:Nat→Int) (ψ:Psi) (a:Act) (w:World):Prop where
 bnd:yL σ 0 T.b
 fct:jn σ T.f
 rul:xG σ T.r
 keep:∀ j,1≤j→j<s.b.length→σ j=σ0 j
 st:∀ σ' K',(∀ j,j<T.b.length→σ' j=σ j)→K'.arg=noA→@St (linSym σ' K') P F N ψ (zCo T.locs) [] (mkH .nil T.objs) T.n a w
 own:∀ k o p,wG T.objs k=some o→ψ k=some p→o.isRo=false∧zGP ψ0 s.objs w0 p.blk
 lft:Lft (zGP ψ0 s.objs w0) w0 w
 pin:∀ k∈s.pins,∀ p0,ψ0 k=some p0→∃ p,ψ k=some p∧zFy p0 p
section
variable {code:FuncId→CFn} {nat:Nats} {fuel:Nat} {fn:Func} {c b:Code} {p:List Stp} {rs:List CRes} {G:Nat} {Ts:List TS} {bound:Int} {s:Sm} {F N:Nat} {σ0:Nat→Int} {ψ0:Psi} {w0:World}
end
end
end Go.Ev
namespace Go.Ev
open Go.RowKit
noncomputable section
variable {P:Program}
mutual
def yI (ρ:zC) (θ:TH):CV→CV
 | .sym e=>match vz θ e.l with
  | some s=>mkS e.k (e.c+s.1) s.2
  | none=>.any
 | .ptr k o=>match zm ρ k with
  | some j=>.ptr j o
  | none=>.any
 | .sl k o l c e x=>match zm ρ k with
  | some j=>.sl j o l c e x
  | none=>.any
 | .map k=>match zm ρ k with
  | some j=>.map j
  | none=>.any
 | .func f a b=>.func f (xu ρ θ a) (xu ρ θ b)
 | .iface t v=>.iface t (yI ρ θ v)
 | .agg l=>.agg (xu ρ θ l)
 | .tup l=>.tup (xu ρ θ l)
 | .sst l=>zOZ (xu ρ θ l)
 | .win ..=>.any
 | .bool b=>.bool b
 | .nat n=>.nat n
 | .int k n=>.int k n
 | .anyi k=>.anyi k
 | .str s=>.str s
 | .nilptr=>.nilptr
 | .nilsl=>.nilsl
 | .nilmap=>.nilmap
 | .nilfunc=>.nilfunc
 | .niliface=>.niliface
 | .big n=>.big n
 | .few _ _=>.any
 | .elt ..=>.any
 | .any=>.any
def xu (ρ:zC) (θ:TH):List CV→List CV
 | []=>[]
 | c::l=>yI ρ θ c::xu ρ θ l
end
def zIg (ρ:zC) (ψs ψT:Psi):Prop:=∀ k j p,zm ρ k=some j→ψs k=some p→∃ p',ψT j=some p'∧zFy p p'
section
variable {σ σT:Nat→Int} {K KT:zY} {θ:TH} {ρ:zC} {ψs ψT:Psi}
mutual
theorem km (hθ:qX σ σT θ) (hψ:zIg ρ ψs ψT):∀ (c:CV) {v:Value},@zH (linSym σT KT) ψs c v→@zH (linSym σ K) ψT (yI ρ θ c) v
 | .sym e,v,hv=>by
  rw [@zq (linSym σT KT)] at hv
  have hv:v=.int e.k (evE σT e):=hv
  unfold yI
  split
  · rename_i s hs
    have h2:=vQ hθ hs
    rw [hv]
    unfold evE
    rw [h2,← Int.add_assoc]
    exact zCG _ _ _
  · exact @x7 (linSym σ K) _ _
 | .ptr k o,v,hv=>by
  rw [@zu (linSym σT KT)] at hv
  obtain ⟨p,hp,rfl⟩:=hv
  unfold yI
  split
  · rename_i j hj
    obtain ⟨p',h1,h2,h3,h4⟩:=hψ k j p hj hp
    exact (@zu (linSym σ K) _ _ _ _).2 ⟨p',h1,by rw [h2,h3]⟩
  · exact @x7 (linSym σ K) _ _
 | .sl k o l c e x,v,hv=>by
  rw [@yF (linSym σT KT)] at hv
  obtain ⟨p,y,cap',hp,rfl,h1,h2,h3,h4⟩:=hv
  unfold yI
  split
  · rename_i j hj
    obtain ⟨p',g1,g2,g3,g4⟩:=hψ k j p hj hp
    exact (@yF (linSym σ K) _ _ _ _ _ _ _ _).2 ⟨p',y,cap',g1,by rw [g2],h1,h2,h3,by rw [g3,g4]; exact h4⟩
  · exact @x7 (linSym σ K) _ _
 | .map k,v,hv=>by
  rw [@yq (linSym σT KT)] at hv
  obtain ⟨p,hp,rfl⟩:=hv
  unfold yI
  split
  · rename_i j hj
    obtain ⟨p',g1,g2,g3,g4⟩:=hψ k j p hj hp
    exact (@yq (linSym σ K) _ _ _).2 ⟨p',g1,by rw [g2]⟩
  · exact @x7 (linSym σ K) _ _
 | .func f a b,v,hv=>by
  rw [@xH (linSym σT KT)] at hv
  obtain ⟨a',b',rfl,g1,g2⟩:=hv
  unfold yI
  exact (@xH (linSym σ K) _ _ _ _ _).2 ⟨a',b',rfl,wU hθ hψ a g1,wU hθ hψ b g2⟩
 | .iface t x,v,hv=>by
  rw [@yf (linSym σT KT)] at hv
  obtain ⟨y,rfl,g⟩:=hv
  unfold yI
  exact (@yf (linSym σ K) _ _ _ _).2 ⟨y,rfl,km hθ hψ x g⟩
 | .agg a,v,hv=>by
  rw [@yn (linSym σT KT)] at hv
  obtain ⟨a',rfl,g⟩:=hv
  unfold yI
  exact (@yn (linSym σ K) _ _ _).2 ⟨a',rfl,wU hθ hψ a g⟩
 | .tup a,v,hv=>by
  rw [@yW (linSym σT KT)] at hv
  obtain ⟨a',rfl,g⟩:=hv
  unfold yI
  exact (@yW (linSym σ K) _ _ _).2 ⟨a',rfl,wU hθ hψ a g⟩
 | .sst a,v,hv=>by
  rw [@zy (linSym σT KT)] at hv
  obtain ⟨b,rfl,g⟩:=hv
  unfold yI
  exact @zNh (linSym σ K) _ _ _ (wU hθ hψ a g)
 | .win ..,v,hv=>by unfold yI; exact @x7 (linSym σ K) _ _
 | .few ..,v,hv=>by unfold yI; exact @x7 (linSym σ K) _ _
 | .elt ..,v,hv=>by unfold yI; exact @x7 (linSym σ K) _ _
 | .bool b,v,hv=>by
  rw [@zJ (linSym σT KT)] at hv
  unfold yI
  exact (@zJ (linSym σ K) _ _ _).2 hv
 | .nat b,v,hv=>by
  rw [@zX (linSym σT KT)] at hv
  unfold yI
  exact (@zX (linSym σ K) _ _ _).2 hv
 | .int k b,v,hv=>by
  rw [@zg (linSym σT KT)] at hv
  unfold yI
  exact (@zg (linSym σ K) _ _ _ _).2 hv
 | .anyi k,v,hv=>by
  rw [@yk (linSym σT KT)] at hv
  unfold yI
  exact (@yk (linSym σ K) _ _ _).2 hv
 | .str b,v,hv=>by
  rw [@ze (linSym σT KT)] at hv
  unfold yI
  exact (@ze (linSym σ K) _ _ _).2 hv
 | .nilptr,v,hv=>by
  rw [@xW (linSym σT KT)] at hv
  unfold yI
  exact (@xW (linSym σ K) _ _).2 hv
 | .nilsl,v,hv=>by
  rw [@zw (linSym σT KT)] at hv
  unfold yI
  exact (@zw (linSym σ K) _ _).2 hv
 | .nilmap,v,hv=>by
  rw [@yS (linSym σT KT)] at hv
  unfold yI
  exact (@yS (linSym σ K) _ _).2 hv
 | .nilfunc,v,hv=>by
  rw [@xK (linSym σT KT)] at hv
  unfold yI
  exact (@xK (linSym σ K) _ _).2 hv
 | .niliface,v,hv=>by
  rw [@yj (linSym σT KT)] at hv
  unfold yI
  exact (@yj (linSym σ K) _ _).2 hv
 | .big n,v,hv=>by
  rw [@k9 (linSym σT KT)] at hv
  unfold yI
  exact (@k9 (linSym σ K) _ _ _).2 hv
 | .any,v,hv=>by unfold yI; exact @x7 (linSym σ K) _ _
theorem wU (hθ:qX σ σT θ) (hψ:zIg ρ ψs ψT):∀ (cs:List CV) {l:List Value},@zS (linSym σT KT) ψs cs l→@zS (linSym σ K) ψT (xu ρ θ cs) l
 | [],l,hl=>by
  rw [@zM (linSym σT KT)] at hl
  unfold xu
  exact (@zM (linSym σ K) _ _).2 hl
 | c::cs,l,hl=>by
  rw [@zd (linSym σT KT)] at hl
  obtain ⟨v,r,rfl,h1,h2⟩:=hl
  unfold xu
  exact (@zW (linSym σ K) _ _ _ _ _).2 ⟨km hθ hψ c h1,wU hθ hψ cs h2⟩
end
def zJr (ρ:zC) (θ:TH):List CE→List CE
 | []=>[]
 | e::l=>⟨yI ρ θ e.key,yI ρ θ e.val,e.born⟩::zJr ρ θ l
def zRX (ρ:zC) (θ:TH):CObj→CObj
 | .cells l=>.cells (xu ρ θ l)
 | .map es c=>.map (zJr ρ θ es) c
 | o=>o
def okO:CObj→Bool
 | .cells _=>true
 | .map _ _=>true
 | _=>false
theorem zEK:∀ {l:List CV},(xu ρ θ l).length=l.length
 | []=>rfl
 | c::l=>by rw [xu,List.length_cons,List.length_cons,zEK]
theorem zFz:∀ {l:List CV} {i:Nat} {c:CV},(xu ρ θ l)[i]? = some c→∃ d,l[i]? = some d∧c=yI ρ θ d
 | [],i,c,h=>by rw [xu] at h; simp at h
 | d::l,0,c,h=>by
  rw [xu] at h
  simp at h
  exact ⟨d,rfl,h.symm⟩
 | d::l,i+1,c,h=>by
  rw [xu] at h
  exact zFz (l:=l) (i:=i) (by simpa using h)
theorem zHh (hθ:qX σ σT θ) (hψ:zIg ρ ψs ψT) {ck:Nat→Nat}:∀ {es:List CE} {l:List MapEntry},@yM (linSym σT KT) ψs ck es l→@yM (linSym σ K) ψT ck (zJr ρ θ es) l
 | [],l,h=>h
 | c::es,l,h=>by
  obtain ⟨e,r,rfl,⟨h1,h2,h3⟩,h4⟩:=h
  exact ⟨e,r,rfl,⟨km hθ hψ _ h1,km hθ hψ _ h2,h3⟩,zHh hθ hψ h4⟩
theorem zLl (hθ:qX σ σT θ) (hψ:zIg ρ ψs ψT) {o:CObj} (ho:okO o=true) {w:World} {p p':Pl} (hp:zFy p p') (hck:(∀ es c,o=.map es c→p'=p)) (h:@xM (linSym σT KT) ψs w p o):@xM (linSym σ K) ψT w p' (zRX ρ θ o):=by
 obtain ⟨e1,e2,e3⟩:=hp
 cases o with
 | cells l=>
  obtain ⟨arr,elem,fz,g1,g2,g3,g4,g5⟩:=h
  refine ⟨arr,elem,fz,by rw [e1]; exact g1,by rw [e3]; exact g2,by rw [e2,e3,zEK]; exact g3,by rw [e3]; exact g4,fun i c hi=>?_⟩
  obtain ⟨d,hd,rfl⟩:=zFz hi
  obtain ⟨x,hx,hr⟩:=g5 i d hd
  exact ⟨x,by rw [e2]; exact hx,km hθ hψ d hr⟩
 | map es c=>
  obtain rfl:=hck es c rfl
  obtain ⟨arr,g1,⟨l0,gp,g2⟩,g3⟩:=h
  exact ⟨arr,g1,⟨l0,gp,zHh hθ hψ g2⟩,g3⟩
 | ro _=>cases ho
 | striter _ _=>cases ho
 | mapiter _ _ _ _=>cases ho
 | full _ _=>cases ho
 | mapz _=>cases ho
 | seen _=>cases ho
 | hid=>cases ho
 | bag _=>cases ho
end
def fZ (z:Int) (k:Int→R):R:=match z with
 | .ofNat n=>k (.ofNat n)
 | .negSucc n=>k (.negSucc n)
def fL:LL→(LL→R)→R
 | [],k=>k []
 | (i,a)::l,k=>fZ a fun a=>fL l fun l=>k ((i,a)::l)
theorem zUc {z:Int} {k:Int→R}:fZ z k=k z:=by cases z <;> rfl
theorem zUx:∀ {l:LL} {k:LL→R},fL l k=k l
 | [],_=>rfl
 | (i,a)::l,k=>by unfold fL; rw [zUc,zUx]
def fTH:TH→(TH→R)→R
 | [],k=>k []
 | (a,l)::r,k=>fZ a fun a=>fL l fun l=>fTH r fun r=>k ((a,l)::r)
theorem zMz:∀ {l:TH} {k:TH→R},fTH l k=k l
 | [],_=>rfl
 | (a,l)::r,k=>by unfold fTH; rw [zUc,zUx,zMz]
def fKs:List Key→(List Key→R)→R
 | [],k=>k []
 | x::l,k=>fKs l fun l=>k (x::l)
theorem zJb:∀ {l:List Key} {k:List Key→R},fKs l k=k l
 | [],_=>rfl
 | x::l,k=>by unfold fKs; rw [zJb]
theorem zQA {k b:Key}:∀ {objs:List (Key × CObj)} {ks:List Key},zm (jo objs ks) k=some b→∃ j:Nat,(∃ o:CObj,objs[j]? = some (b,o))∧ks[j]? = some k
 | [],_,h=>by
  have h:zm .nil k=some b:=h
  unfold zm at h
  rw [jZ] at h; cases h
 | _::_,[],h=>by
  have h:zm .nil k=some b:=h
  unfold zm at h
  rw [jZ] at h; cases h
 | p::r,j::js,h=>by
  by_cases e:k=j
  · have h:zm (yu (some (.cells [.ptr p.1 0])) j (jo r js)) k=some b:=h
    unfold zm at h
    rw [vU,if_pos e] at h
    injection h with h
    exact ⟨0,⟨p.2,by subst h; rfl⟩,by subst e; rfl⟩
  · have h':zm (jo r js) k=some b:=by
     have h:zm (yu (some (.cells [.ptr p.1 0])) j (jo r js)) k=some b:=h
     unfold zm at h ⊢
     rw [vU,if_neg e] at h
     exact h
    obtain ⟨i,⟨o,h1⟩,h2⟩:=zQA h'
    exact ⟨i+1,⟨o,by simpa using h1⟩,by simpa using h2⟩
def zGU:List Key→zC→zC
 | [],h=>h
 | k::r,h=>yu none k (zGU r h)
theorem zHi {h:zC} {k:Key} {o:CObj}:∀ {l:List Key},zn k (zGU l h)=some o→k ∉ l∧zn k h=some o
 | [],hh=>⟨by simp,hh⟩
 | x::r,hh=>by
  have hh:zn k (yu none x (zGU r h))=some o:=hh
  rw [vU] at hh
  split at hh
  · cases hh
  · rename_i e
    obtain ⟨h1,h2⟩:=zHi hh
    exact ⟨by simp [e,h1],h2⟩
def zUN (kb:List (Int × Int)) (q:Int × Int) (c:Int) (l:LL):Bool:=match l with
 | [(i,a)]=>match zTy kb i with
  | some x=>jT (zj a 1) (jT (zj c 0) (jT (zj x.1 q.1) (zj x.2 q.2)))
  | none=>false
 | _=>false
def zU6 [Sym] (q:Int × Int) (u:Int × LL):Bool:=match u.2 with
 | []=>decide (q.1≤u.1)&&decide (u.1≤q.2)
 | l=>match Sym.bin .geq (.sym ⟨.i64,u.1,l⟩) (zb .i64 q.1),Sym.bin .leq (.sym ⟨.i64,u.1,l⟩) (zb .i64 q.2) with
  | some [.bool true],some [.bool true]=>true
  | _,_=>false
def zVu [Sym] (q:Int × Int) (u:Int × LL):Bool:=match zUN Sym.kb q u.1 u.2 with
 | true=>true
 | false=>zU6 q u
def zTf [Sym]:List (Int × Int)→TH→Bool
 | [],[]=>true
 | q::r,u::θ=>zVu q u&&zTf r θ
 | _,_=>false
def zRc (ρ:zC) (sb:SE→CV) (c:CV):CV:=CV.rec (motive_1:=fun _=>CV) (motive_2:=fun _=>List CV)
 (fun x0=>.bool x0)
 (fun x0=>.nat x0)
 (fun x0 x1=>.int x0 x1)
 (fun x0=>.anyi x0)
 (fun x0=>.str x0)
 .nilptr
 (fun x0 x1=>match zm ρ x0 with | some j=>.ptr j x1 | none=>.any)
 .nilsl
 (fun x0 x1 x2 x3 x4 x5=>match zm ρ x0 with | some j=>.sl j x1 x2 x3 x4 x5 | none=>.any)
 .nilmap
 (fun x0=>match zm ρ x0 with | some j=>.map j | none=>.any)
 (fun x0 x1 x2 ha hc=>.func x0 ha hc)
 .nilfunc
 (fun x0 x1 hv=>.iface x0 hv)
 .niliface
 (fun x0 hl=>.agg hl)
 (fun x0 hl=>.tup hl)
 sb
 (fun x0 x1 x2 x3=>.any)
 (fun x0 hl=>zOZ hl)
 (fun x0=>.big x0)
 (fun x0 x1=>.any)
 (fun x0 x1 x2 x3=>.any)
 .any
 []
 (fun _ _ h g=>h::g) c
def zLz (ρ:zC) (sb:SE→CV) (l:List CV):List CV:=CV.rec_1 (motive_1:=fun _=>CV) (motive_2:=fun _=>List CV)
 (fun x0=>.bool x0)
 (fun x0=>.nat x0)
 (fun x0 x1=>.int x0 x1)
 (fun x0=>.anyi x0)
 (fun x0=>.str x0)
 .nilptr
 (fun x0 x1=>match zm ρ x0 with | some j=>.ptr j x1 | none=>.any)
 .nilsl
 (fun x0 x1 x2 x3 x4 x5=>match zm ρ x0 with | some j=>.sl j x1 x2 x3 x4 x5 | none=>.any)
 .nilmap
 (fun x0=>match zm ρ x0 with | some j=>.map j | none=>.any)
 (fun x0 x1 x2 ha hc=>.func x0 ha hc)
 .nilfunc
 (fun x0 x1 hv=>.iface x0 hv)
 .niliface
 (fun x0 hl=>.agg hl)
 (fun x0 hl=>.tup hl)
 sb
 (fun x0 x1 x2 x3=>.any)
 (fun x0 hl=>zOZ hl)
 (fun x0=>.big x0)
 (fun x0 x1=>.any)
 (fun x0 x1 x2 x3=>.any)
 .any
 []
 (fun _ _ h g=>h::g) l
def sbQ (θ:TH) (e:SE):CV:=match zLx θ e.l with
 | some s=>mkS e.k (e.c+s.1) s.2
 | none=>.any
theorem zRe {ρ:zC} {θ:TH} (e:SE):sbQ θ e=yI ρ θ (.sym e):=by
 unfold sbQ yI
 rw [zAv]
section
variable {ρ:zC} {θ:TH} {sb:SE→CV} (hs:∀ e,sb e=yI ρ θ (.sym e))
include hs
mutual
theorem zCi:∀ (c:CV),zRc ρ sb c=yI ρ θ c
 | .bool x0=>by unfold yI; rfl
 | .nat x0=>by unfold yI; rfl
 | .int x0 x1=>by unfold yI; rfl
 | .anyi x0=>by unfold yI; rfl
 | .str x0=>by unfold yI; rfl
 | .nilptr=>by unfold yI; rfl
 | .ptr x0 x1=>by unfold yI; rfl
 | .nilsl=>by unfold yI; rfl
 | .sl x0 x1 x2 x3 x4 x5=>by unfold yI; rfl
 | .nilmap=>by unfold yI; rfl
 | .map x0=>by unfold yI; rfl
 | .func x0 x1 x2=>by unfold yI; rw [← jf x1,← jf x2]; rfl
 | .nilfunc=>by unfold yI; rfl
 | .iface x0 x1=>by unfold yI; rw [← zCi x1]; rfl
 | .niliface=>by unfold yI; rfl
 | .agg x0=>by unfold yI; rw [← jf x0]; rfl
 | .tup x0=>by unfold yI; rw [← jf x0]; rfl
 | .sym x0=>hs x0
 | .win x0 x1 x2 x3=>by unfold yI; rfl
 | .sst x0=>by unfold yI; rw [← jf x0]; rfl
 | .big x0=>by unfold yI; rfl
 | .few x0 x1=>by unfold yI; rfl
 | .elt x0 x1 x2 x3=>by unfold yI; rfl
 | .any=>by unfold yI; rfl
theorem jf:∀ (l:List CV),zLz ρ sb l=xu ρ θ l
 | []=>by unfold xu; rfl
 | c::l=>by unfold xu; rw [← zCi c,← jf l]; rfl
end
end
def zHt (ρ:zC) (θ:TH) (c:CV):CV:=zRc ρ (sbQ θ) c
def zMj (ρ:zC) (θ:TH) (l:List CV):List CV:=zLz ρ (sbQ θ) l
section
variable {ρ:zC} {θ:TH}
theorem zCR (c:CV):zHt ρ θ c=yI ρ θ c:=zCi (fun e=>zRe e) c
theorem zGY (l:List CV):zMj ρ θ l=xu ρ θ l:=jf (fun e=>zRe e) l
end
def fZQ (z:Int) (k:Int→R):R:=Int.rec (motive:=fun _=>R) (fun n=>k (.ofNat n)) (fun n=>k (.negSucc n)) z
theorem zRt {z:Int} {k:Int→R}:fZQ z k=k z:=by cases z <;> rfl
def fLQ (l:LL):(LL→R)→R:=List.rec (motive:=fun _=>(LL→R)→R) (fun k=>k []) (fun p _ g k=>Prod.rec (motive:=fun _=>R) (fun i a=>fZQ a fun a=>g fun l=>k ((i,a)::l)) p) l
theorem zSs:∀ {l:LL} {k:LL→R},fLQ l k=k l
 | [],_=>rfl
 | (i,a)::l,k=>by
  show (fZQ a fun a=>fLQ l fun l=>k ((i,a)::l))=_
  rw [zRt,zSs]
def zVk (e:SE) (k:SE→R):R:=SE.rec (motive:=fun _=>R) (fun j c l=>fZQ c fun c=>fLQ l fun l=>k ⟨j,c,l⟩) e
theorem zS9 {e:SE} {k:SE→R}:zVk e k=k e:=by
 obtain ⟨j,c,l⟩:=e
 show (fZQ c fun c=>fLQ l fun l=>k ⟨j,c,l⟩)=k ⟨j,c,l⟩
 rw [zRt,zSs]
def fQ (c:CV):(CV→R)→R:=CV.rec (motive_1:=fun _=>(CV→R)→R) (motive_2:=fun _=>(List CV→R)→R)
 (fun x0 k=>k (.bool x0))
 (fun x0 k=>k (.nat x0))
 (fun x0 x1 k=>k (.int x0 x1))
 (fun x0 k=>k (.anyi x0))
 (fun x0 k=>k (.str x0))
 (fun k=>k (.nilptr))
 (fun x0 x1 k=>k (.ptr x0 x1))
 (fun k=>k (.nilsl))
 (fun x0 x1 x2 x3 x4 x5 k=>k (.sl x0 x1 x2 x3 x4 x5))
 (fun k=>k (.nilmap))
 (fun x0 k=>k (.map x0))
 (fun x0 x1 x2 ha hc k=>ha fun x1=>hc fun x2=>k (.func x0 x1 x2))
 (fun k=>k (.nilfunc))
 (fun x0 x1 hv k=>hv fun x1=>k (.iface x0 x1))
 (fun k=>k (.niliface))
 (fun x0 hl k=>hl fun x0=>k (.agg x0))
 (fun x0 hl k=>hl fun x0=>k (.tup x0))
 (fun x0 k=>zVk x0 fun x0=>k (.sym x0))
 (fun x0 x1 x2 x3 k=>k (.win x0 x1 x2 x3))
 (fun x0 hl k=>hl fun x0=>k (.sst x0))
 (fun x0 k=>k (.big x0))
 (fun x0 x1 k=>k (.few x0 x1))
 (fun x0 x1 x2 x3 k=>k (.elt x0 x1 x2 x3))
 (fun k=>k (.any))
 (fun k=>k [])
 (fun _ _ h g k=>h fun v=>g fun l=>k (v::l)) c
def fQs (l:List CV):(List CV→R)→R:=CV.rec_1 (motive_1:=fun _=>(CV→R)→R) (motive_2:=fun _=>(List CV→R)→R)
 (fun x0 k=>k (.bool x0))
 (fun x0 k=>k (.nat x0))
 (fun x0 x1 k=>k (.int x0 x1))
 (fun x0 k=>k (.anyi x0))
 (fun x0 k=>k (.str x0))
 (fun k=>k (.nilptr))
 (fun x0 x1 k=>k (.ptr x0 x1))
 (fun k=>k (.nilsl))
 (fun x0 x1 x2 x3 x4 x5 k=>k (.sl x0 x1 x2 x3 x4 x5))
 (fun k=>k (.nilmap))
 (fun x0 k=>k (.map x0))
 (fun x0 x1 x2 ha hc k=>ha fun x1=>hc fun x2=>k (.func x0 x1 x2))
 (fun k=>k (.nilfunc))
 (fun x0 x1 hv k=>hv fun x1=>k (.iface x0 x1))
 (fun k=>k (.niliface))
 (fun x0 hl k=>hl fun x0=>k (.agg x0))
 (fun x0 hl k=>hl fun x0=>k (.tup x0))
 (fun x0 k=>zVk x0 fun x0=>k (.sym x0))
 (fun x0 x1 x2 x3 k=>k (.win x0 x1 x2 x3))
 (fun x0 hl k=>hl fun x0=>k (.sst x0))
 (fun x0 k=>k (.big x0))
 (fun x0 x1 k=>k (.few x0 x1))
 (fun x0 x1 x2 x3 k=>k (.elt x0 x1 x2 x3))
 (fun k=>k (.any))
 (fun k=>k [])
 (fun _ _ h g k=>h fun v=>g fun l=>k (v::l)) l
mutual
theorem zG8:∀ (c:CV) (k:CV→R),fQ c k=k c
 | .bool x0,k=>rfl
 | .nat x0,k=>rfl
 | .int x0 x1,k=>rfl
 | .anyi x0,k=>rfl
 | .str x0,k=>rfl
 | .nilptr,k=>rfl
 | .ptr x0 x1,k=>rfl
 | .nilsl,k=>rfl
 | .sl x0 x1 x2 x3 x4 x5,k=>rfl
 | .nilmap,k=>rfl
 | .map x0,k=>rfl
 | .func x0 x1 x2,k=>by show (fQs x1 fun x1=>fQs x2 fun x2=>k (.func x0 x1 x2))=_; rw [zBm x1,zBm x2]
 | .nilfunc,k=>rfl
 | .iface x0 x1,k=>zG8 x1 fun x1=>k (.iface x0 x1)
 | .niliface,k=>rfl
 | .agg x0,k=>zBm x0 fun x0=>k (.agg x0)
 | .tup x0,k=>zBm x0 fun x0=>k (.tup x0)
 | .sym x0,k=>zS9 (k:=fun x0=>k (.sym x0))
 | .win x0 x1 x2 x3,k=>rfl
 | .sst x0,k=>zBm x0 fun x0=>k (.sst x0)
 | .big x0,k=>rfl
 | .few x0 x1,k=>rfl
 | .elt x0 x1 x2 x3,k=>rfl
 | .any,k=>rfl
theorem zBm:∀ (l:List CV) (k:List CV→R),fQs l k=k l
 | [],k=>rfl
 | c::l,k=>by show (fQ c fun v=>fQs l fun l=>k (v::l))=_; rw [zG8 c,zBm l]
end
def zWO (th:List (Nat × Int × LL)):List (Int × Int)→TH
 | []=>[]
 | _::r=>(0,[])::hTh th r 1
def qkV (c:CV):CV→Bool:=CV.rec (motive_1:=fun _=>CV→Bool) (motive_2:=fun _=>List CV→Bool)
 (fun x0 d=>(CV.rec (motive_1:=fun _=>Bool) (motive_2:=fun _=>Unit) (fun y0=>zVz x0 y0) (fun _=>true) (fun _ _=>true) (fun _=>true) (fun _=>true) true (fun _ _=>true) true (fun _ _ _ _ _ _=>true) true (fun _=>true) (fun _ _ _ _ _=>true) true (fun _ _ _=>true) true (fun _ _=>true) (fun _ _=>true) (fun _=>true) (fun _ _ _ _=>true) (fun _ _=>true) (fun _=>true) (fun _ _=>true) (fun _ _ _ _=>true) true () (fun _ _ _ _=>()) d))
 (fun x0 d=>(CV.rec (motive_1:=fun _=>Bool) (motive_2:=fun _=>Unit) (fun _=>true) (fun y0=>Nat.beq x0 y0) (fun _ _=>true) (fun _=>true) (fun _=>true) true (fun _ _=>true) true (fun _ _ _ _ _ _=>true) true (fun _=>true) (fun _ _ _ _ _=>true) true (fun _ _ _=>true) true (fun _ _=>true) (fun _ _=>true) (fun _=>true) (fun _ _ _ _=>true) (fun _ _=>true) (fun _=>true) (fun _ _=>true) (fun _ _ _ _=>true) true () (fun _ _ _ _=>()) d))
 (fun x0 x1 d=>(CV.rec (motive_1:=fun _=>Bool) (motive_2:=fun _=>Unit) (fun _=>true) (fun _=>true) (fun y0 y1=>zj x1 y1) (fun _=>true) (fun _=>true) true (fun _ _=>true) true (fun _ _ _ _ _ _=>true) true (fun _=>true) (fun _ _ _ _ _=>true) true (fun _ _ _=>true) true (fun _ _=>true) (fun _ _=>true) (fun _=>true) (fun _ _ _ _=>true) (fun _ _=>true) (fun _=>true) (fun _ _=>true) (fun _ _ _ _=>true) true () (fun _ _ _ _=>()) d))
 (fun x0 d=>true)
 (fun x0 d=>(CV.rec (motive_1:=fun _=>Bool) (motive_2:=fun _=>Unit) (fun _=>true) (fun _=>true) (fun _ _=>true) (fun _=>true) (fun y0=>qC x0 y0) true (fun _ _=>true) true (fun _ _ _ _ _ _=>true) true (fun _=>true) (fun _ _ _ _ _=>true) true (fun _ _ _=>true) true (fun _ _=>true) (fun _ _=>true) (fun _=>true) (fun _ _ _ _=>true) (fun _ _=>true) (fun _=>true) (fun _ _=>true) (fun _ _ _ _=>true) true () (fun _ _ _ _=>()) d))
 (fun d=>true)
 (fun x0 x1 d=>true)
 (fun d=>(CV.rec (motive_1:=fun _=>Bool) (motive_2:=fun _=>Unit) (fun _=>true) (fun _=>true) (fun _ _=>true) (fun _=>true) (fun _=>true) true (fun _ _=>true) true (fun y0 y1 y2 y3 y4 y5=>false) true (fun _=>true) (fun _ _ _ _ _=>true) true (fun _ _ _=>true) true (fun _ _=>true) (fun _ _=>true) (fun _=>true) (fun _ _ _ _=>true) (fun _ _=>true) (fun _=>true) (fun _ _=>true) (fun _ _ _ _=>true) true () (fun _ _ _ _=>()) d))
 (fun x0 x1 x2 x3 x4 x5 d=>(CV.rec (motive_1:=fun _=>Bool) (motive_2:=fun _=>Unit) (fun _=>true) (fun _=>true) (fun _ _=>true) (fun _=>true) (fun _=>true) true (fun _ _=>true) false (fun y0 y1 y2 y3 y4 y5=>Nat.beq x2 y2) true (fun _=>true) (fun _ _ _ _ _=>true) true (fun _ _ _=>true) true (fun _ _=>true) (fun _ _=>true) (fun _=>true) (fun _ _ _ _=>true) (fun _ _=>true) (fun _=>true) (fun _ _=>true) (fun _ _ _ _=>true) true () (fun _ _ _ _=>()) d))
 (fun d=>true)
 (fun x0 d=>true)
 (fun x0 x1 x2 ha hc d=>true)
 (fun d=>true)
 (fun x0 x1 hv d=>true)
 (fun d=>true)
 (fun x0 hl d=>(CV.rec (motive_1:=fun _=>Bool) (motive_2:=fun _=>Unit) (fun _=>true) (fun _=>true) (fun _ _=>true) (fun _=>true) (fun _=>true) true (fun _ _=>true) true (fun _ _ _ _ _ _=>true) true (fun _=>true) (fun _ _ _ _ _=>true) true (fun _ _ _=>true) true (fun y0 _=>hl y0) (fun _ _=>true) (fun _=>true) (fun _ _ _ _=>true) (fun _ _=>true) (fun _=>true) (fun _ _=>true) (fun _ _ _ _=>true) true () (fun _ _ _ _=>()) d))
 (fun x0 hl d=>true)
 (fun x0 d=>true)
 (fun x0 x1 x2 x3 d=>true)
 (fun x0 hl d=>true)
 (fun x0 d=>true)
 (fun x0 x1 d=>true)
 (fun x0 x1 x2 x3 d=>true)
 (fun d=>true)
 (fun _=>true)
 (fun _ _ h g m=>List.rec (motive:=fun _=>Bool) true (fun b r _=>jT (h b) (g r)) m) c
def zQe (l m:List CV):Bool:=qkV (.agg l) (.agg m)
theorem zHo (P:Program) [Sym] [SymFact P] {ψ:Psi} {op:BinOp} {x y:CV} {b:Bool} {u v:Value} (w:World) (h:Sym.bin op x y=some [.bool b]) (hx:zH ψ x u) (hy:zH ψ y v) :
 (binOp op 0 u v).run P w=.ok (.bool b) w:=by
 obtain ⟨h1,z,h2,c,h3,h4⟩:=(SymFact.ok (P:=P)).1 op x y _ h ψ 0 u v w hx hy
 obtain rfl:c=.bool b:=by simpa using h3
 rw [zJ.1 h4] at h2
 exact h2
theorem zSV {σ:Nat→Int} {K:zY} (hK:KnownOk σ K) {q:Int × Int} {u:Int × LL} (h:zUN K.b q u.1 u.2=true):q.1≤evQ σ u∧evQ σ u≤q.2:=by
 obtain ⟨c,l⟩:=u
 unfold zUN at h
 split at h
 · rename_i i a hl
   simp only at hl
   subst hl
   split at h
   · rename_i x hx
     rw [zEA] at hx
     obtain ⟨b1,b2⟩:=hK.b _ _ hx
     simp only [qv,Bool.and_eq_true] at h
     obtain ⟨h1,h2,h3,h4⟩:=h
     rw [@za zP,decide_eq_true_eq] at h1
     rw [@za zP,decide_eq_true_eq] at h2
     rw [@za zP,decide_eq_true_eq] at h3
     rw [@za zP,decide_eq_true_eq] at h4
     subst h1 h2
     show q.1≤0+(1*σ i+0)∧0+(1*σ i+0)≤q.2
     omega
   · cases h
 · cases h
theorem zTx (P:Program) {σ:Nat→Int} {K:zY} (hK:KnownOk σ K) {q:Int × Int} {u:Int × LL} (h:@zU6 (linSym σ K) q u=true):q.1≤evQ σ u∧evQ σ u≤q.2:=by
 letI S:Sym:=linSym σ K
 haveI hS:SymFact P:=yx hK
 unfold zU6 at h
 split at h
 · rename_i hu
   rw [Bool.and_eq_true,decide_eq_true_eq,decide_eq_true_eq] at h
   unfold evQ
   rw [hu]
   simp [evL]
   exact h
 · split at h
   · rename_i h1 h2
     have hv:@zH (linSym σ K) (fun _=>none) (.sym ⟨.i64,u.1,u.2⟩) (.int .i64 (evQ σ u)):=(@zq (linSym σ K) _ _ _).2 rfl
     have hl:∀ z:Int,@zH (linSym σ K) (fun _=>none) (zb .i64 z) (.int .i64 z):=fun z=>@yy (linSym σ K) _ _ _
     have g1:=@zHo P (linSym σ K) hS _ _ _ _ _ _ _ default h1 hv (hl q.1)
     have g2:=@zHo P (linSym σ K) hS _ _ _ _ _ _ _ default h2 hv (hl q.2)
     have e1:q.1≤evQ σ u:=by simpa [binOp,Op.intCmp] using g1
     have e2:evQ σ u≤q.2:=by simpa [binOp,Op.intCmp] using g2
     exact ⟨e1,e2⟩
   · cases h
theorem zTF (P:Program) {σ:Nat→Int} {K:zY} (hK:KnownOk σ K) {q:Int × Int} {u:Int × LL} (h:@zVu (linSym σ K) q u=true):q.1≤evQ σ u∧evQ σ u≤q.2:=by
 unfold zVu at h
 split at h
 · rename_i h1
   exact zSV hK h1
 · exact zTx P hK h
theorem zI8 {σ:Nat→Int} {K:zY} (hK:KnownOk σ K) (P:Program):∀ {b:List (Int × Int)} {θ:TH} {σT:Nat→Int} {j:Nat},@zTf (linSym σ K) b θ=true→(∀ i q,nth θ i=some q→σT (j+i)=evQ σ q)→b.length=θ.length∧yL σT j b
 | [],[],_,_,_,_=>⟨rfl,trivial⟩
 | [],_::_,_,_,h,_=>by cases h
 | _::_,[],_,_,h,_=>by cases h
 | q::r,u::θ,σT,j,h,hθ=>by
  unfold zTf at h
  rw [Bool.and_eq_true] at h
  obtain ⟨g1,g2⟩:=zI8 hK P (σT:=σT) (j:=j+1) h.2 (fun i x hi=>by
   have:=hθ (i+1) x hi
   rw [show j+1+i=j+(i+1) from by omega]; exact this)
  refine ⟨by simp [g1],?_,g2⟩
  rw [show σT j=evQ σ u from hθ 0 u rfl]
  exact zTF P hK h.1
theorem nats_lin {nat:Nats} (h:∀ [Sym] [SymFact P],NatsOk P nat):∀ σ K,KnownOk σ K→@NatsOk (linSym σ K) P nat:=fun σ K hK=>@h (linSym σ K) (yx hK)
end
end Go.Ev
namespace Go.Ev
open Go.RowKit
noncomputable section
variable {P:Program}
section
variable {code:FuncId→CFn} {nat:Nats} {fuel:Nat} {p:List Stp} {rs:List CRes} {G:Nat} {Ts:List TS} {s:Sm} {cc:CCode} {T:TS}
theorem zI9 {Q:Lf→Prop}:∀ {l:List Lf},(∀ e∈l,Q e)→AllG Q l
 | [],_=>allG_nil
 | e::l,h=>allG_cons (h e (by simp)) (zI9 fun x hx=>h x (by simp [hx]))
end
end
end Go.Ev
namespace Go.Ev
open Go.RowKit
noncomputable section
variable {P:Program}
end
end Go.Ev
namespace Go.Ev
open Go.RowKit
noncomputable section
variable {P:Program}
theorem zEt {q:List Stp} {bl:Code}:∀ {p:List Stp} {c a b:Code},atC p c=some (.seq a b)→um (p++.r::q) c=some bl→um q b=some bl
 | [],c,a,b,h,hs=>by
  injection h with h; subst h; exact hs
 | .l::p,c,a,b,h,hs=>by
  cases c <;> first | exact zEt (p:=p) h hs | cases h
 | .r::p,c,a,b,h,hs=>by
  cases c <;> first | exact zEt (p:=p) h hs | cases h
 | .b::p,c,a,b,h,hs=>by
  cases c <;> first | exact zEt (p:=p) h hs | cases h
theorem zIW {q:List Stp}:∀ {p:List Stp} {c a b:Code} {Q:Exit→Act→World→Prop},atC p c=some (.seq a b)→QH P (p++.r::q) c Q=QH P q b (QH P p c Q)
 | [],c,a,b,Q,h=>by
  injection h with h; subst h; rfl
 | .l::p,c,a,b,Q,h=>by
  cases c <;> try (cases h; done)
  rename_i y z
  exact zIW (p:=p) (Q:=Exit.then (z.wp P Q) Q) h
 | .r::p,c,a,b,Q,h=>by
  cases c <;> try (cases h; done)
  exact zIW (p:=p) h
 | .b::p,c,a,b,Q,h=>by
  cases c <;> try (cases h; done)
  exact zIW (p:=p) h
structure Nx where
 Ts:List TS
 pre:List Stp
 q:List Stp
 q2:List Stp
section
variable {code:FuncId→CFn} {nat:Nats} {fuel:Nat} {fn:Func} {c b:Code} {p:List Stp} {rs:List CRes} {G:Nat} {wins:List Win} {L:List (Key × Nat)} {A:Key→Option Value} {Ts:List TS} {bound:Int} {w0:World} {nx:Option Nx}
def uC (K:zY) (θ:TH):Bool:=match θ with
 | q::_=>(zj q.1 1&&j6 q.2 [(0,1)]) || (match q.2,nth K.b 0 with
  | [],some p=>decide (p.1=p.2)&&decide (q.1=p.1+1)
  | _,_=>false)
 | []=>false
theorem zKX {σ:Nat→Int} {K:zY} (hK:KnownOk σ K) {θ:TH} (h:uC K θ=true):∃ q0 θr,θ=q0::θr∧q0.1+evL σ q0.2=σ 0+1:=by
 unfold uC at h
 split at h
 · rename_i q θr
   refine ⟨q,θr,rfl,?_⟩
   rw [Bool.or_eq_true] at h
   rcases h with h | h
   · rw [Bool.and_eq_true,@za zP,decide_eq_true_eq] at h
     rw [h.1,@qq zP _ _ h.2]
     show (1:Int)+(1*σ 0+0)=_
     omega
   · split at h
     · rename_i p h1 h2
       rw [Bool.and_eq_true,decide_eq_true_eq,decide_eq_true_eq] at h
       have:=hK.b 0 p h2
       rw [h1,h.2]
       show p.1+1+0=_
       omega
     · cases h
 · cases h
def LoopOk (P:Program) (F N G:Nat) (A:Key→Option Value) (wins:List Win) (L:List (Key × Nat)) (w0:World) (fn:Func) (c:Code) (Ts:List TS) (p:List Stp):Prop:=
 ∀ (t:Nat) (T:TS) (σ:Nat→Int) (ψ:Psi) (a:Act) (w:World) (b:Code),um p c=some b→nth Ts t=some T→zP7 P F N G A wins L w0 T σ ψ a w→up P b (QH P p c (zJq P fn w0)) a w
def zFI (P:Program) (F N G:Nat) (A:Key→Option Value) (wins:List Win) (L:List (Key × Nat)) (w0:World) (fn:Func) (c:Code) (p:List Stp):Option Nx→Prop
 | none=>True
 | some x=>p=x.pre++.l::x.q∧(∃ xa xb bl,atC x.pre c=some (.seq xa xb)∧um (x.pre++.r::x.q2) c=some bl)∧LoopOk P F N G A wins L w0 fn c x.Ts (x.pre++.r::x.q2)
def zWa (P:Program) (code:FuncId→CFn) (nat:Nats) (fuel:Nat) (G:Nat) (ws L:List (Key × Nat)) (x:Nx) (cc:CCode) (s:Nat→Int) (K:zY) (ts:List Nat) (r:R):Bool:=
 uL (zA8 G ws x.Ts (fun t=>zC5 t.θ&&kI t.θ L) K (fun _=>false)
  (qK (@zEi (linSym s K) P (@ev (linSym s K) P code nat fuel) x.q2 (zFg x.pre cc)) (@u5 (linSym s K) P (@ev (linSym s K) P code nat fuel) x.q (zJ1 x.pre cc) r)) ts)
def zKy (P:Program) (code:FuncId→CFn) (nat:Nats) (fuel:Nat) (G:Nat) (ws L:List (Key × Nat)) (nx:Option Nx) (p:List Stp) (cc:CCode) (rs:List CRes) (s:Nat→Int) (K:zY) (ts:List Nat) (r:R):Bool:=match nx with
 | none=>zJJ P code nat fuel p cc rs (linSym s K) r
 | some x=>match r with
  | .ok (.exit i) tm ds h n=>zWa P code nat fuel G ws L x cc s K ts (.ok (.exit i) tm ds h n)
  | r=>zJJ P code nat fuel p cc rs (linSym s K) r
def zQc (P:Program) (code:FuncId→CFn) (nat:Nats) (fuel:Nat) (G:Nat) (ws L:List (Key × Nat)) (Ts:List TS) (nx:Option Nx) (p:List Stp) (cc:CCode) (rs:List CRes) (T:TS) (l:List (Key × List CV)) (s:Nat→Int) (K:zY) (ts:List Nat) (hs:List kJ):Bool:=
 w6 (ku G ws Ts (fun t=>uC K t.θ&&kI t.θ L) K (zKy P code nat fuel G ws L nx p cc rs s K ts) (@zp (linSym s K) P (@ev (linSym s K) P code nat fuel) (zDO p cc) (zCo T.locs) [] (mkH (mkH .nil T.objs) (zFL l)) T.n) hs)
def zEx (P:Program) (code:FuncId→CFn) (nat:Nats) (fuel:Nat) (G:Nat) (wins:List Win) (L:List (Key × Nat)) (A:Key→Option Value) (Ts:List TS) (nx:Option Nx) (p:List Stp) (cc:CCode) (rs:List CRes) (w0:World):Prop:=
 ∀ t T,nth Ts t=some T→∀ σ,yL σ 0 T.b→jn σ T.f→xG σ T.r→LensAre wins L σ→∃ σ' K' l hs ts,(∀ j,j<T.b.length→σ' j=σ j)∧(∀ q∈L,σ' q.2=σ q.2)∧K'.arg=A∧KnownOk σ' K'∧(∀ q∈l,zBg (linSym σ' K') wins w0 (σ 0) q)∧wh T.objs l=true ∧
  zQc P code nat fuel G (wsOf wins) L Ts nx p cc rs T l σ' K' ts hs=true
theorem zHm [Sym] [SymFact P] {call:ym} (hcall:xA call) (q:List Stp) (y:CCode) {r:R} (h:zf (qK (zEi P call q y) r)):zf r:=
 xq (fun tm ds h n=>kU (P:=P) hcall q y tm ds h n) h
theorem zMQ {σ:Nat→Int} {K:zY} (hK:KnownOk σ K) (hm:P.follows .mixedOrders=true) (hcode:CodeOk P code) (hnat:∀ σ K,KnownOk σ K→@NatsOk (linSym σ K) P nat) {ws:List (Key × Nat)} {cc:CCode} {ts:List Nat}:∀ r,zKy P code nat fuel G ws L nx p cc rs σ K ts r=true→zf r:=by
 intro r h
 unfold zKy at h
 split at h
 · exact zGW hK hm hcode hnat r h
 · split at h
   · obtain ⟨hs,h1⟩:=wQ h
     obtain ⟨o,h2⟩:=zCs h1
     have hc:=kO (fun _ h=>by cases h) h2
     letI S:Sym:=linSym σ K
     haveI hS:SymFact P:=yx hK
     have hcall:yP P (ev P code nat fuel):=vu (fun call hcall F N=>xS hm hcall) hcode (hnat _ _ hK) fuel
     exact wv hcall.above _ _ (zHm hcall.above _ _ hc)
   · exact zGW hK hm hcode hnat _ h
theorem zTe {σ:Nat→Int} {K:zY} (hK:KnownOk σ K) (hlen:LensAre wins L σ) (hA:ArgsAre K.arg wins) (hG:P.globals.size≤G) (hm:P.follows .mixedOrders=true) (hcode:CodeOk P code) (hnat:∀ σ K,KnownOk σ K→@NatsOk (linSym σ K) P nat) {F N:Nat} (hsub:um p c=some b) (hn:yY c=true)
 {x:Nx} (hnx:zFI P F N G K.arg wins L w0 fn c p (some x)) {ts:List Nat} {ψ₀:Psi} {g₀:Fam} {n₀:Key} {w₀:World} {r:R} {e:Exit} {a:Act} {w:World}
 (ho:@xF (linSym σ K) P F N ψ₀ g₀ n₀ w₀ r e a w) (hf:zWa P code nat fuel G (wsOf wins) L x (zU P F N c) σ K ts r=true)
 (hb:Below w0.heap.size w0 w₀) (ho0:∀ k o p,g₀ k=some o→o.isRo=false→ψ₀ k=some p→w0.heap.size≤p.blk):QH P p c (zJq P fn w0) e a w:=by
 obtain ⟨rfl,⟨xa,xb,bl,hat,hsub2⟩,hok⟩:=hnx
 rw [zNg hat]
 obtain ⟨hl,hr⟩:=uo (P:=P) (F:=F) (N:=N) hat
 have hnab:yY xa=true∧yY xb=true:=by
  have:=zB3 hat hn
  simpa [yY] using this
 obtain ⟨hs,h1⟩:=wQ hf
 obtain ⟨o,h2⟩:=zCs h1
 rw [hl,hr] at h2
 have hc:=kO (fun _ h=>by cases h) h2
 letI S:Sym:=linSym σ K
 haveI hS:SymFact P:=yx hK
 have hcall:yP P (ev P code nat fuel):=vu (fun call hcall F N=>xS hm hcall) hcode (hnat _ _ hK) fuel
 have hdraw:kY P F N (ev P code nat fuel):=xS hm hcall
 have hab:=fun tm ds h n=>kU (P:=P) hcall.above x.q2 (zU P F N xb) tm ds h n
 have hok2:=fun t T σ ψ a w=>hok t T σ ψ a w bl hsub2
 rw [zIW hat] at hok2
 refine zAE hcall hdraw x.q xa (zIU hat hsub) hnab.1 ho (zHm hcall.above _ _ hc) fun e a w ho=>?_
 rcases kQ hc ho with ⟨rfl,tm',ds',h',n',ψ',g2,g3,g4,g5⟩ | ⟨g1,g2⟩
 · show xb.wp P (QH P x.pre c (zJq P fn w0)) a w
   refine zB0 hcall hdraw x.q2 xb (Q:=QH P x.pre c (zJq P fn w0)) (zEt hat hsub2) hnab.2 g2 g4 fun e'' a'' w'' ho'=>?_
   have ho2:=g5 e'' a'' w'' (xF.trans g3 ho')
   rcases v8 h2 ho2 with ⟨rfl,tm,h,n,ψ,t,T,k1,k2,k3,k4,k5⟩ | ⟨_,r',_,k2⟩
   · rw [Bool.and_eq_true] at k4
     obtain ⟨k4,k4L⟩:=k4
     obtain ⟨q0,θr,hθ⟩:∃ q0 θr,t.θ=q0::θr:=by
      unfold zC5 at k4
      split at k4
      · rename_i q θr hq; exact ⟨q,θr,hq⟩
      · cases k4
     obtain ⟨σ'',ψT,hi,_⟩:=zMg hK hlen k1 k2 hG hA k5 ⟨q0,by rw [hθ]; rfl⟩ k4L ho0 hb
     exact ⟨rfl,hok2 _ _ _ _ _ _ k3 hi⟩
   · cases k2
 · rcases v8 h2 g2 with ⟨rfl,_⟩ | ⟨_,r',_,k2⟩
   · exact absurd rfl g1
   · cases k2
theorem zQY {σ:Nat→Int} {K:zY} (hK:KnownOk σ K) (hlen:LensAre wins L σ) (hA:ArgsAre K.arg wins) (hG:P.globals.size≤G) (hm:P.follows .mixedOrders=true) (hcode:CodeOk P code) (hnat:∀ σ K,KnownOk σ K→@NatsOk (linSym σ K) P nat) {F N:Nat} (hsub:um p c=some b) (hn:yY c=true)
 (hrs:xD (xd P F N) fn.results.toList=some rs) (hnx:zFI P F N G K.arg wins L w0 fn c p nx) {ts:List Nat} {ψ₀:Psi} {g₀:Fam} {n₀:Key} {w₀:World} {r:R} {e:Exit} {a:Act} {w:World}
 (ho:@xF (linSym σ K) P F N ψ₀ g₀ n₀ w₀ r e a w) (hf:zKy P code nat fuel G (wsOf wins) L nx p (zU P F N c) rs σ K ts r=true)
 (hb:Below w0.heap.size w0 w₀) (ho0:∀ k o p,g₀ k=some o→o.isRo=false→ψ₀ k=some p→w0.heap.size≤p.blk):QH P p c (zJq P fn w0) e a w:=by
 unfold zKy at hf
 split at hf
 · exact zOy hK hm hcode hnat hsub hn hrs ho hf hb ho0
 · split at hf
   · exact zTe hK hlen hA hG hm hcode hnat hsub hn hnx ho hf hb ho0
   · exact zOy hK hm hcode hnat hsub hn hrs ho hf hb ho0
theorem zLB (hm:P.follows .mixedOrders=true) (hcode:CodeOk P code) (hnat:∀ σ K,KnownOk σ K→@NatsOk (linSym σ K) P nat) (hG:P.globals.size≤G) {F N:Nat} (hsub:um p c=some b) (hn:yY c=true)
 (hrs:xD (xd P F N) fn.results.toList=some rs) (hA:ArgsAre A wins) (hbd:boundIs bound Ts=true)
 (hnx:zFI P F N G A wins L w0 fn c p nx) (hgood:zEx P code nat fuel G wins L A Ts nx p (zU P F N c) rs w0):∀ (m:Nat) (t:Nat) (T:TS) (σ:Nat→Int) (ψ:Psi) (a:Act) (w:World),nth Ts t=some T→zP7 P F N G A wins L w0 T σ ψ a w→(bound - σ 0).toNat≤m →
 up P b (QH P p c (zJq P fn w0)) a w:=by
 have hnb:yY b=true:=by
  have:∀ {p:List Stp} {c:Code},um p c=some b→yY c=true→yY b=true:=by
   intro p
   induction p with
   | nil=>
    intro c hs hn
    cases c <;> try (cases hs; done)
    injection hs with hs; subst hs
    simpa [yY] using hn
   | cons x p ih=>
    intro c hs hn
    cases x <;> cases c <;> try (cases hs; done)
    · rename_i x y
      have hn:yY x=true∧yY y=true:=by simpa [yY] using hn
      exact ih hs hn.1
    · rename_i x y
      have hn:yY x=true∧yY y=true:=by simpa [yY] using hn
      exact ih hs hn.2
    · exact ih hs hn
  exact this hsub hn
 have step:∀ (t:Nat) (T:TS) (σ:Nat→Int) (ψ:Psi) (a:Act) (w:World),nth Ts t=some T→zP7 P F N G A wins L w0 T σ ψ a w →
  (∀ (t':Nat) (T':TS) (σ':Nat→Int) (ψ':Psi) (a':Act) (w':World),nth Ts t'=some T'→zP7 P F N G A wins L w0 T' σ' ψ' a' w'→(bound - σ' 0).toNat<(bound - σ 0).toNat→up P b (QH P p c (zJq P fn w0)) a' w') →
  up P b (QH P p c (zJq P fn w0)) a w:=by
  intro t T σ ψ a w hT hi hrec
  obtain ⟨σ',K',l,hs,ts,hag,hagL,hKA,hK,hl,hap,hpass⟩:=hgood t T hT σ hi.bnd hi.fct hi.rul hi.len
  have hst:=zSq hi hag hKA hl hap
  obtain ⟨q1,r1,hb1,_⟩:=zBI hbd hT
  have hag0:σ' 0=σ 0:=hag 0 (by rw [hb1]; simp)
  have hm0:∀ k o p,zC.fam (mkH (mkH .nil T.objs) (zFL l)) k=some o→o.isRo=false→ψ k=some p→w0.heap.size≤p.blk:=by
   intro k o p h1 h2 h3
   rcases zAf h1 with ⟨cs,_,rfl⟩ | h1
   · cases h2
   · exact (hi.own k o p h1 h3).2
  letI S:Sym:=linSym σ' K'
  haveI hS:SymFact P:=yx hK
  have hcall:yP P (ev P code nat fuel):=vu (fun call hcall F N=>xS hm hcall) hcode (hnat _ _ hK) fuel
  have hdraw:kY P F N (ev P code nat fuel):=xS hm hcall
  unfold zQc at hpass
  rw [@zAX S P F N p c b hsub] at hpass
  generalize hres:zp P (ev P code nat fuel) (zU P F N b) (zCo T.locs) [] (mkH (mkH .nil T.objs) (zFL l)) T.n=r at hpass
  obtain ⟨hs',hchk⟩:∃ x,ku G (wsOf wins) Ts (fun t=>uC K' t.θ&&kI t.θ L) K' (zKy P code nat fuel G (wsOf wins) L nx p (zU P F N c) rs σ' K' ts) r hs=some x:=by
   unfold w6 at hpass
   split at hpass
   · rename_i x hx; exact ⟨x,hx⟩
   · cases hpass
  have hclean:zf r:=kO (zMQ hK hm hcode hnat) hchk
  have hsim:=vv hcall hdraw b hnb hst (by rw [hres]; exact hclean)
  rw [hres] at hsim
  refine zH1 (wp_mono hsim fun e a' w' ho=>?_)
  rcases v8 hchk ho with ⟨rfl,tm,h,n,ψ',t',T',h1,h2,h3,h4,h5⟩ | ⟨hne,r',h1,h2⟩
  · rw [Bool.and_eq_true] at h4
    obtain ⟨h4,h4L⟩:=h4
    obtain ⟨q0,θr,hθ,e1⟩:=zKX hK h4
    obtain ⟨σ'',ψT,hinv,h0⟩:=zMg hK (fun q hq=>by
     obtain ⟨wn,g1,g2⟩:=hi.len q hq
     exact ⟨wn,g1,by rw [hagL q hq]; exact g2⟩) h1 h2 hG (by rw [hKA]; exact hA) h5 ⟨q0,by rw [hθ]; rfl⟩ h4L hm0 hi.blw
    rw [hKA] at hinv
    have hσ:σ'' 0=σ 0+1:=by
     rw [h0 q0 (by rw [hθ]; rfl)]
     unfold evQ
     rw [e1,hag0]
    obtain ⟨q2,r2,hb2,hle⟩:=zBI hbd h3
    have hbb:=hinv.bnd
    rw [hb2] at hbb
    have:=hbb.1.2
    exact hrec t'.T T' σ'' ψT a' w' h3 hinv (by omega)
  · have:=zQY hK (fun q hq=>by
     obtain ⟨wn,g1,g2⟩:=hi.len q hq
     exact ⟨wn,g1,by rw [hagL q hq]; exact g2⟩) (by rw [hKA]; exact hA) hG hm hcode hnat hsub hn hrs (by rw [hKA]; exact hnx) h1 h2 hi.blw hm0
    cases e <;> first | exact absurd rfl hne | exact this
 intro m
 induction m with
 | zero=>
  intro t T σ ψ a w hT hi hm0
  exact step t T σ ψ a w hT hi fun t' T' σ' ψ' a' w' hT' hi' hlt=>by omega
 | succ m ih=>
  intro t T σ ψ a w hT hi hm0
  exact step t T σ ψ a w hT hi fun t' T' σ' ψ' a' w' hT' hi' hlt=>ih t' T' σ' ψ' a' w' hT' hi' (by omega)
theorem zOU (hm:P.follows .mixedOrders=true) (hcode:CodeOk P code) (hnat:∀ σ K,KnownOk σ K→@NatsOk (linSym σ K) P nat) (hG:P.globals.size≤G) {F N:Nat} (hn:yY c=true)
 (hrs:xD (xd P F N) fn.results.toList=some rs) (hA:ArgsAre A wins) (hbd:boundIs bound Ts=true)
 (hnx:zFI P F N G A wins L w0 fn c p nx) (hgood:zEx P code nat fuel G wins L A Ts nx p (zU P F N c) rs w0):LoopOk P F N G A wins L w0 fn c Ts p:=
 fun t T σ ψ a w b hsub hT hi=>zLB hm hcode hnat hG hsub hn hrs hA hbd hnx hgood _ t T σ ψ a w hT hi (Nat.le_refl _)
theorem loopOk_fn {cc:CCode} {f:FuncId} (hm:P.follows .mixedOrders=true) (hcode:CodeOk P code) (hnat:∀ σ K,KnownOk σ K→@NatsOk (linSym σ K) P nat) (hG:P.globals.size≤G) (hf:P.funcs[f]? = some fn) (hb:fn.body=some c) (hcf:compFn P f=.mk cc rs) (hA:ArgsAre A wins) (hbd:boundIs bound Ts=true)
 (hnx:zFI P (frameBits fn c) fn.ntmps G A wins L w0 fn c p nx) (hgood:zEx P code nat fuel G wins L A Ts nx p cc rs w0):LoopOk P (frameBits fn c) fn.ntmps G A wins L w0 fn c Ts p:=by
 obtain ⟨hrs,hnr,rfl⟩:=zF1 hf hb hcf
 exact zOU hm hcode hnat hG hnr hrs hA hbd hnx hgood
end
theorem zLf {code:FuncId→CFn} {nat:Nats} {fuel:Nat} {f:FuncId} {fn:Func} {c b:Code} {cc:CCode} {p:List Stp} {rs:List CRes} {G:Nat} {wins:List Win} {L:List (Key × Nat)} {A:Key→Option Value} {Ts:List TS} {w0:World}
 {σ:Nat→Int} {K:zY} {args:List CV} {args':Array Value} {n:Key} {hs:List kJ} (hK:KnownOk σ K) (hKA:K.arg=A) (hlen:LensAre wins L σ)
 (hm:P.follows .mixedOrders=true) (hcode:CodeOk P code) (hnat:∀ σ K,KnownOk σ K→@NatsOk (linSym σ K) P nat) (hf:P.funcs[f]? = some fn) (hb:fn.body=some c) (hcf:compFn P f=.mk cc rs) (hsub:um p c=some b)
 (hG:P.globals.size≤G) (hn:G≤n.ix) (hw:zGM G n.ix (wsOf wins)=true) (hA:ArgsAre A wins)
 (hargs:@zS (linSym σ K) (psiW G wins) args args'.toList) (hrun:startOf P code nat fuel G (wsOf wins) L Ts p cc args n (linSym σ K) K hs=true)
 (hgood:LoopOk P (frameBits fn c) fn.ntmps G A wins L w0 fn c Ts p):Calls P f args' w0 fun e w=>e=.returned (.bool true)∧Below w0.heap.size w0 w:=by
 obtain ⟨hrs,hnr,rfl⟩:=zF1 hf hb hcf
 letI S:Sym:=linSym σ K
 haveI hS:SymFact P:=yx hK
 have hcall:yP P (ev P code nat fuel):=vu (fun call hcall F N=>xS hm hcall) hcode (hnat _ _ hK) fuel
 have hdraw:∀ F N,kY P F N (ev P code nat fuel):=fun F N=>xS hm hcall
 have hst:St P (frameBits fn c) fn.ntmps (psiW G wins) (qg args 0 .nil) [] .nil n { tmps:=args'++Array.replicate (fn.ntmps - args'.size) undef,defers:=[] } w0:=
  zCT hcall hdraw hargs (zOY hG hw) (zOD _ _) (zMu hn hw)
 unfold startOf at hrun
 generalize hres:zEi P (ev P code nat fuel) p (zU P (frameBits fn c) fn.ntmps c) (qg args 0 .nil) [] .nil n=r at hrun
 obtain ⟨hs',hchk⟩:∃ x,ku G (wsOf wins) Ts (fun t=>zC5 t.θ&&kI t.θ L) K (fun _=>false) r hs=some x:=by
  unfold w6 at hrun
  split at hrun
  · rename_i x hx; exact ⟨x,hx⟩
  · cases hrun
 have hclean:zf r:=kO (fun _ h=>by cases h) hchk
 refine calls_of_wp_defers hf hb (zB0 hcall (hdraw _ _) p c hsub hnr hst (by rw [hres]; exact hclean) fun e a' w' ho=>?_)
 rw [hres] at ho
 rcases v8 hchk ho with ⟨rfl,tm,h,n',ψ',t',T',h1,h2,h3,h4,h5⟩ | ⟨_,r',_,h2⟩
 · rw [Bool.and_eq_true] at h4
   obtain ⟨h4,h4L⟩:=h4
   obtain ⟨q0,θr,hθ⟩:∃ q0 θr,t'.θ=q0::θr:=by
    unfold zC5 at h4
    split at h4
    · rename_i q θr hq; exact ⟨q,θr,hq⟩
    · cases h4
   obtain ⟨σ'',ψT,hinv,_⟩:=zMg hK hlen h1 h2 hG (by rw [hKA]; exact hA) h5 ⟨q0,by rw [hθ]; rfl⟩ h4L (w0:=w0) (fun k o p h1 _ _=>by
    have h1:zn k .nil=some o:=h1
    rw [jZ] at h1; cases h1) (Below.refl _ _)
   rw [hKA] at hinv
   exact ⟨rfl,hgood _ _ _ _ _ _ _ hsub h3 hinv⟩
 · cases h2
def zPF (P:Program) (code:FuncId→CFn) (nat:Nats) (fuel G:Nat) (ws L:List (Key × Nat)) (Ts:List TS) (nx:Option Nx) (p:List Stp) (cc:CCode) (rs:List CRes) (T:TS) (e:Lf):Prop:=
 wh T.objs e.l=true∧∀ (s:Nat→Int) (A:Key→Option Value),∃ hs ts,zQc P code nat fuel G ws L Ts nx p cc rs T e.l s (e.known A) ts hs=true
def StateGoodM (P:Program) (code:FuncId→CFn) (nat:Nats) (fuel G:Nat) (ws L:List (Key × Nat)) (Ts:List TS) (nx:Option Nx) (p:List Stp) (cc:CCode) (rs:List CRes) (ks:List (Key × Kd)) (T:TS):Prop:=
 ∃ (tree:LTree) (ls:List Lf),leaves ks tree ⟨T.b,T.f,T.r,[],1000⟩=some ls∧(Nat.ble (Nat.succ ks.length) T.b.length&&Nat.ble T.b.length 1000&&zBQ T.b.length L)=true ∧
  AllG (zPF P code nat fuel G ws L Ts nx p cc rs T) ls
theorem passes_allM {code:FuncId→CFn} {nat:Nats} {fuel G:Nat} {wins:List Win} {ws L:List (Key × Nat)} {A:Key→Option Value} {Ts:List TS} {p:List Stp} {cc:CCode} {rs:List CRes} {w0:World} {ks:List (Key × Kd)}
 (hws:wsOf wins=ws) (hA:ArgsAre A wins) (hwin:∀ σ,LensAre wins L σ→WinIs wins w0 σ ks) {nx:Option Nx} (h:AllS (StateGoodM P code nat fuel G ws L Ts nx p cc rs ks) Ts):zEx P code nat fuel G wins L A Ts nx p cc rs w0:=by
 intro t T hT σ hb hf hr hlen
 obtain ⟨tree,ls,h1,h2,h3⟩:=zLj h hT
 rw [Bool.and_eq_true,Bool.and_eq_true] at h2
 have g1:=@zL zP _ _ h2.1.1
 have g2:=@zL zP _ _ h2.1.2
 obtain ⟨e,hm,σ',r1,r2⟩:=zx (wins:=wins) (w0:=w0) (i:=σ 0) tree _ σ h1 ⟨hb,hf,hr,fun q hq=>by cases hq⟩ (hwin σ hlen) rfl (by show ks.length<T.b.length; omega) g2 (Nat.le_refl _)
 obtain ⟨hap,hall⟩:=zCc h3 e hm
 obtain ⟨hs,ts,hpass⟩:=hall σ' A
 refine ⟨σ',e.known A,e.l,hs,ts,fun j hj=>r2 j (.inl hj),fun q hq=>r2 _ (.inl (zC2 h2.2 q hq)),rfl,r1.known A,fun q hq=>r1.w q hq σ' _ hA vM,hap,?_⟩
 rw [hws]
 exact hpass
theorem calls_treeM {code:FuncId→CFn} {nat:Nats} {fuel:Nat} {f:FuncId} {fn:Func} {c b:Code} {cc:CCode} {p:List Stp} {rs:List CRes} {G:Nat} {wins:List Win} {ws L:List (Key × Nat)} {A:Key→Option Value} {Ts:List TS} {w0:World}
 {ks:List (Key × Kd)} {tree:LTree} {e0:Lf} {ls:List Lf} {σ:Nat→Int} {args:List CV} {args':Array Value} {n:Key} (hws:wsOf wins=ws)
 (hls:leaves ks tree e0=some ls) (hchk:(Nat.ble (Nat.succ ks.length) e0.b.length&&Nat.ble e0.b.length 1000&&Nat.ble 1000 e0.u&&zBQ e0.b.length L)=true)
 (hall:AllG (fun e=>∀ (s:Nat→Int) (A:Key→Option Value),∃ hs,startOf P code nat fuel G ws L Ts p cc args n (linSym s (e.known A)) (e.known A) hs=true) ls)
 (h0:zBO wins w0 (σ 0) σ e0) (hlen:LensAre wins L σ) (hwin:∀ σ,LensAre wins L σ→WinIs wins w0 σ ks)
 (hm:P.follows .mixedOrders=true) (hcode:CodeOk P code) (hnat:∀ σ K,KnownOk σ K→@NatsOk (linSym σ K) P nat) (hf:P.funcs[f]? = some fn) (hb:fn.body=some c) (hcf:compFn P f=.mk cc rs) (hsub:um p c=some b)
 (hG:P.globals.size≤G) (hn:G≤n.ix) (hw:zGM G n.ix ws=true) (hA:ArgsAre A wins)
 (hargs:∀ σ' K',K'.arg=A→(∀ j,(j<e0.b.length∨(1000≤j∧j<e0.u))→σ' j=σ j)→@zS (linSym σ' K') (psiW G wins) args args'.toList)
 (hgood:LoopOk P (frameBits fn c) fn.ntmps G A wins L w0 fn c Ts p):Calls P f args' w0 fun e w=>e=.returned (.bool true)∧Below w0.heap.size w0 w:=by
 simp only [Bool.and_eq_true] at hchk
 obtain ⟨⟨⟨g1,g2⟩,g3⟩,g4⟩:=hchk
 have g1:=@zL zP _ _ g1
 obtain ⟨e,hmem,σ',r1,r2⟩:=zx (wins:=wins) (w0:=w0) (i:=σ 0) tree e0 σ hls h0 (hwin σ hlen) rfl (by omega) (@zL zP _ _ g2) (@zL zP _ _ g3)
 obtain ⟨hs,hrun⟩:=zCc hall e hmem σ' A
 subst hws
 exact zLf (K:=e.known A) (r1.known A) rfl (fun q hq=>by
  obtain ⟨wn,h1,h2⟩:=hlen q hq
  exact ⟨wn,h1,by rw [r2 _ (.inl (zC2 g4 q hq))]; exact h2⟩) hm hcode hnat hf hb hcf hsub hG hn hw hA (hargs σ' _ rfl r2) hrun hgood
section
variable {code:FuncId→CFn} {nat:Nats} {fuel:Nat} {p:List Stp} {rs:List CRes} {G:Nat} {ws L:List (Key × Nat)} {ks:List (Key × Kd)} {Ts:List TS} {nx:Option Nx} {cc:CCode} {T:TS}
def zQN (P:Program) (code:FuncId→CFn) (nat:Nats) (fuel:Nat) (G:Nat) (ws L:List (Key × Nat)) (Ts:List TS) (nx:Option Nx) (p:List Stp) (cc:CCode) (rs:List CRes) (T:TS) (l:List (Key × List CV)) (s:Nat→Int) (K:zY) (t:List Nat × List Nat):Bool:=
 uL (zA8 G ws Ts (fun t=>uC K t.θ&&kI t.θ L) K (zKy P code nat fuel G ws L nx p cc rs s K t.2) (@zp (linSym s K) P (@ev (linSym s K) P code nat fuel) (zDO p cc) (zCo T.locs) [] (mkH (mkH .nil T.objs) (zFL l)) T.n) t.1)
def zAd (f:Lf→List Nat × List Nat→Bool):List Lf→List (List Nat × List Nat)→Bool
 | [],[]=>true
 | e::l,t::r=>zEG e (fun e=>f e t)&&zAd f l r
 | _,_=>false
theorem zBw {f:Lf→List Nat × List Nat→Bool}:∀ {l:List Lf} {r:List (List Nat × List Nat)},zAd f l r=true→∀ e∈l,∃ t,f e t=true
 | [],_,_,e,he=>by cases he
 | x::l,[],h,_,_=>by cases h
 | x::l,t::r,h,e,he=>by
  unfold zAd at h
  rw [Bool.and_eq_true,uv] at h
  rcases List.mem_cons.1 he with rfl | he
  · exact ⟨t,h.1⟩
  · exact zBw h.2 e he
def zFe (P:Program) (code:FuncId→CFn) (nat:Nats) (fuel:Nat) (G:Nat) (ws L:List (Key × Nat)) (ks:List (Key × Kd)) (Ts:List TS) (nx:Option Nx) (p:List Stp) (cc:CCode) (rs:List CRes) (T:TS) (tree:LTree) (tss:List (List Nat × List Nat)) (s:Nat→Int) (A:Key→Option Value):Bool:=
 (match leaves ks tree ⟨T.b,T.f,T.r,[],1000⟩ with
 | some ls=>zAd (fun e t=>wh T.objs e.l&&zQN P code nat fuel G ws L Ts nx p cc rs T e.l s (e.known A) t) ls tss
 | none=>false)&&(Nat.ble (Nat.succ ks.length) T.b.length&&Nat.ble T.b.length 1000&&zBQ T.b.length L)
theorem zJz {tree:LTree} {tss:List (List Nat × List Nat)} (h:∀ s A,zFe P code nat fuel G ws L ks Ts nx p cc rs T tree tss s A=true):StateGoodM P code nat fuel G ws L Ts nx p cc rs ks T:=by
 have h0:=h (fun _=>0) (fun _=>none)
 unfold zFe at h0
 rw [Bool.and_eq_true] at h0
 split at h0
 · rename_i ls hls
   refine ⟨tree,ls,hls,h0.2,zI9 fun e he=>⟨?_,fun s A=>?_⟩⟩
   · obtain ⟨t,ht⟩:=zBw h0.1 e he
     rw [Bool.and_eq_true] at ht
     exact ht.1
   · have h1:=h s A
     unfold zFe at h1
     rw [Bool.and_eq_true,hls] at h1
     obtain ⟨t,ht⟩:=zBw h1.1 e he
     rw [Bool.and_eq_true] at ht
     obtain ⟨hs,hp⟩:=wQ ht.2
     exact ⟨hs,t.2,hp⟩
 · cases h0.1
def statesM (f:Nat→Bool):Nat→Nat→Bool
 | _,0=>true
 | a,n+1=>f a&&statesM f (Nat.succ a) n
theorem statesM_all {f:Nat→Bool}:∀ {n a:Nat},statesM f a n=true→∀ i,a≤i→i<a+n→f i=true
 | 0,a,_,i,h1,h2=>by omega
 | n+1,a,h,i,h1,h2=>by
  unfold statesM at h
  rw [Bool.and_eq_true] at h
  rcases Nat.eq_or_lt_of_le h1 with rfl | h1
  · exact h.1
  · exact statesM_all h.2 i h1 (by omega)
def mkTs (g:Nat→TS) (m n:Nat):List TS:=Nat.rec (motive:=fun _=>List TS) [] (fun k ih=>g (Nat.sub m (Nat.succ k))::ih) n
theorem mkTs_all {Q:TS→Prop} {g:Nat→TS} {m:Nat} (h:∀ i,i<m→Q (g i)):∀ {n:Nat},n≤m→AllS Q (mkTs g m n)
 | 0,_=>zSo
 | n+1,hn=>zPH (h (m - (n+1)) (by omega)) (mkTs_all h (n:=n) (by omega))
end
section
variable {G:Nat} {ws:List (Key × Nat)} {Ts:List TS} {ok:kJ→Bool} {K:zY} {fin:R→Bool}
def zD2 (f:Nat→Tm→xe→zC→Key→Bool) (fin:R→Bool):R→List Nat→Option (List Nat)
 | .ok .normal tm ds h n,t::r=>match f t tm ds h n with
  | true=>some r
  | false=>none
 | .ok (.exit i) tm ds h n,r=>match fin (.ok (.exit i) tm ds h n) with
  | true=>some r
  | false=>none
 | .ok .ret tm ds h n,r=>match fin (.ok .ret tm ds h n) with
  | true=>some r
  | false=>none
 | .fork a b,r=>match zD2 f fin a r with
  | some r=>zD2 f fin b r
  | none=>none
 | _,_=>none
theorem zIR {f:Nat→Tm→xe→zC→Key→Bool} (hf:∀ t tm ds h n,f t tm ds h n=true→v2 G ws Ts ok K t tm ds h n=true):∀ {r:R} {l l':List Nat},zD2 f fin r l=some l'→zA8 G ws Ts ok K fin r l=some l'
 | .ok .normal tm ds h n,[],_,hc=>by cases hc
 | .ok .normal tm ds h n,t::l,l',hc=>by
  unfold zD2 at hc
  split at hc
  · rename_i hl
    unfold zA8
    rw [hf _ _ _ _ _ hl]
    exact hc
  · cases hc
 | .ok (.exit i) tm ds h n,l,l',hc=>hc
 | .ok .ret tm ds h n,l,l',hc=>hc
 | .ret ..,l,l',hc=>by unfold zD2 at hc; cases hc
 | .err _,l,l',hc=>by unfold zD2 at hc; cases hc
 | .fork a b,l,l',hc=>by
  unfold zD2 at hc
  split at hc
  · rename_i r hr
    unfold zA8
    rw [zIR hf hr]
    exact zIR hf hc
  · cases hc
def zD8 (t:Nat):List (Nat × TS)→Option TS
 | []=>none
 | q::r=>match Nat.beq q.1 t with
  | true=>some q.2
  | false=>zD8 t r
def zQ3 (G:Nat) (ws:List (Key × Nat)) (acc:List (Nat × TS)) (ok:kJ→Bool) (K:zY) (t:Nat) (tm:Tm) (ds:xe) (h:zC) (n:Key):Bool:=match ds with
 | []=>match zD8 t acc with
  | some T=>Nat.ble (Nat.succ n.ix) 65535&&zBd T.sl tm h n fun tm h n=>zCp t T tm h fun x=>ok x&&zNQ G ws T x.ks x.θ K tm h
  | none=>false
 | _=>false
theorem zTc {acc:List (Nat × TS)} (hacc:∀ t T,zD8 t acc=some T→nth Ts t=some T) {t:Nat} {tm:Tm} {ds:xe} {h:zC} {n:Key} (hl:zQ3 G ws acc ok K t tm ds h n=true):v2 G ws Ts ok K t tm ds h n=true:=by
 unfold zQ3 at hl
 split at hl
 · split at hl
   · rename_i T hT
     unfold v2
     simp only [hacc t T hT]
     rw [zED]
     exact hl
   · cases hl
 · cases hl
def zFM (g:Nat→TS) (m:Nat):List Nat→List (Nat × TS)→(List (Nat × TS)→Bool)→Bool
 | [],acc,k=>k acc
 | t::r,acc,k=>match zD8 t acc with
  | some _=>zFM g m r acc k
  | none=>Nat.ble (Nat.succ t) m&&zTM (g t) fun T=>zFM g m r ((t,T)::acc) k
theorem zCZ {g:Nat→TS} {m:Nat} {k:List (Nat × TS)→Bool}:∀ {l:List Nat} {acc:List (Nat × TS)},zFM g m l acc k=true→(∀ t T,zD8 t acc=some T→T=g t∧t<m) →
 ∃ acc',(∀ t T,zD8 t acc'=some T→T=g t∧t<m)∧k acc'=true
 | [],acc,h,ha=>⟨acc,ha,h⟩
 | t::r,acc,h,ha=>by
  unfold zFM at h
  split at h
  · exact zCZ h ha
  · rw [Bool.and_eq_true,zED] at h
    refine zCZ h.2 fun t' T hT=>?_
    unfold zD8 at hT
    split at hT
    · rename_i e
      injection hT with hT
      have e:=@yD zP _ _ e
      simp only at e hT
      subst e
      exact ⟨hT.symm,@zL zP _ _ h.1⟩
    · exact ha t' T hT
end
theorem zJE {g:Nat→TS} {m:Nat}:∀ {n t:Nat},n≤m→t<n→nth (mkTs g m n) t=some (g (m - n+t))
 | 0,t,_,h=>by omega
 | n+1,0,_,_=>rfl
 | n+1,t+1,h1,h2=>by
  show nth (mkTs g m n) t=_
  rw [zJE (n:=n) (t:=t) (by omega) (by omega)]
  congr 2
  omega
def zUf:List (List Nat × List Nat)→List Nat
 | []=>[]
 | q::r=>q.1++zUf r
theorem zDT {f f':Lf→List Nat × List Nat→Bool} (hf:∀ e t,f e t=true→f' e t=true):∀ {l:List Lf} {r:List (List Nat × List Nat)},zAd f l r=true→zAd f' l r=true
 | [],[],_=>rfl
 | [],_::_,h=>by cases h
 | _::_,[],h=>by cases h
 | e::l,t::r,h=>by
  unfold zAd at h ⊢
  rw [Bool.and_eq_true,uv] at h
  rw [Bool.and_eq_true,uv]
  exact ⟨hf e t h.1,zDT hf h.2⟩
section
variable {code:FuncId→CFn} {nat:Nats} {fuel:Nat} {p:List Stp} {rs:List CRes} {G:Nat} {ws L:List (Key × Nat)} {ks:List (Key × Kd)} {nx:Option Nx} {cc:CCode} {T:TS}
def stateY (P:Program) (code:FuncId→CFn) (nat:Nats) (fuel:Nat) (G:Nat) (ws L:List (Key × Nat)) (ks:List (Key × Kd)) (g:Nat→TS) (m:Nat) (nx:Option Nx) (p:List Stp) (cc:CCode) (rs:List CRes) (T:TS) (tree:LTree) (tss:List (List Nat × List Nat)) (s:Nat→Int) (A:Key→Option Value):Bool:=
 zTM T fun T=>zFM g m (zUf tss) [] fun acc=>(match leaves ks tree ⟨T.b,T.f,T.r,[],1000⟩ with
 | some ls=>zAd (fun e t=>wh T.objs e.l&&uL (zD2 (zQ3 G ws acc (fun t=>uC (e.known A) t.θ&&kI t.θ L) (e.known A)) (zKy P code nat fuel G ws L nx p cc rs s (e.known A) t.2) (@zp (linSym s (e.known A)) P (@ev (linSym s (e.known A)) P code nat fuel) (zDO p cc) (zCo T.locs) [] (mkH (mkH .nil T.objs) (zFL e.l)) T.n) t.1)) ls tss
 | none=>false)&&(Nat.ble (Nat.succ ks.length) T.b.length&&Nat.ble T.b.length 1000&&zBQ T.b.length L)
theorem zQQ {g:Nat→TS} {m:Nat} {tree:LTree} {tss:List (List Nat × List Nat)} {s:Nat→Int} {A:Key→Option Value} (h:stateY P code nat fuel G ws L ks g m nx p cc rs T tree tss s A=true):zFe P code nat fuel G ws L ks (mkTs g m m) nx p cc rs T tree tss s A=true:=by
 unfold stateY at h
 rw [zED] at h
 obtain ⟨acc,ha,h⟩:=zCZ h (fun t T hT=>by cases hT)
 have hacc:∀ t T,zD8 t acc=some T→nth (mkTs g m m) t=some T:=fun t T hT=>by
  obtain ⟨e,hlt⟩:=ha t T hT
  rw [zJE (Nat.le_refl _) hlt,e,Nat.sub_self,Nat.zero_add]
 unfold zFe
 rw [Bool.and_eq_true] at h ⊢
 refine ⟨?_,h.2⟩
 have h1:=h.1
 split at h1
 · rename_i ls hls
   refine zDT (fun e t ht=>?_) h1
   rw [Bool.and_eq_true] at ht ⊢
   refine ⟨ht.1,?_⟩
   have h2:=ht.2
   unfold zQN
   unfold uL at h2 ⊢
   split at h2
   · rename_i x hx
     rw [zIR (fun t tm ds h n hl=>zTc hacc hl) hx]
   · cases h2
 · cases h1
theorem stateY_good {g:Nat→TS} {m:Nat} {tree:LTree} {tss:List (List Nat × List Nat)} (h:∀ s A,stateY P code nat fuel G ws L ks g m nx p cc rs T tree tss s A=true):StateGoodM P code nat fuel G ws L (mkTs g m m) nx p cc rs ks T:=
 zJz (tree:=tree) (tss:=tss) fun s A=>zQQ (h s A)
end
section
variable {code:FuncId→CFn} {nat:Nats} {fuel:Nat} {p:List Stp} {rs:List CRes} {G:Nat} {ws L:List (Key × Nat)} {ks:List (Key × Kd)} {nx:Option Nx} {cc:CCode} {T:TS}
end
end
end Go.Ev
