/- A verified evaluator for the model's code: EvSum, EvSumN, EvSumH, EvMemo, EvSeq. -/
import Derived.Test.YtmheccmahfgpoaaGreatDoorEvHint
set_option linter.unusedSectionVars false
set_option linter.unusedVariables false
set_option linter.unusedSimpArgs false
namespace Go.Ev
open Go.RowKit
noncomputable section
variable {P:Program}
structure Po where
 v:CV
 objs:List (Key × CObj)
structure Sm where
 args:List CV
 objs:List (Key × CObj)
 n:Key
 b:List (Int × Int)
 pins:List Key
 posts:List Po
abbrev kY (l:List (Key × CObj)):Fam:=Heap.fam (mkH .nil l)
def zFU (ψ:Psi) (l:List (Key × CObj)) (w:World) (B:Nat):Prop:=(∃ k o p,kY l k=some o∧ψ k=some p∧p.blk=B)∨w.heap.size≤B
structure Lft (O:Nat→Prop) (w w':World):Prop where
 os:w'.os=w.os
 tape:w'.tape=w.tape
 output:w'.output=w.output
 size:w.heap.size≤w'.heap.size
 block:∀ B,¬ O B→w'.heap[B]? = w.heap[B]?
theorem Lft.refl (O:Nat→Prop) (w:World):Lft O w w:=⟨rfl,rfl,rfl,Nat.le_refl _,fun _ _=>rfl⟩
theorem zPF {S:Sym} {O:Nat→Prop} {ψ ψ':Psi} {g g':Fam} {n n':Key} {w0 w w':World} (h:Lft O w0 w) (hp:@z7 S ψ g n w ψ' g' n' w') (ho:∀ B,w0.heap.size≤B→O B)
 (hm:∀ k o p,g k=some o→o.isRo=false→ψ k=some p→O p.blk):Lft O w0 w':=by
 have h1:=@z7.os S _ _ _ _ _ _ _ _ hp
 have h2:=@z7.tape S _ _ _ _ _ _ _ _ hp
 have h3:=@z7.output S _ _ _ _ _ _ _ _ hp
 have h4:=@z7.size S _ _ _ _ _ _ _ _ hp
 have h5:=@z7.frame S _ _ _ _ _ _ _ _ hp
 refine ⟨h1.trans h.os,h2.trans h.tape,h3.trans h.output,Nat.le_trans h.size h4,fun B hB=>?_⟩
 have hlt:B<w0.heap.size:=by
  rcases Nat.lt_or_ge B w0.heap.size with q | q
  · exact q
  · exact absurd (ho B q) hB
 rw [h5 B (Nat.lt_of_lt_of_le hlt h.size) fun k o p q1 q2 q3 e=>hB (e ▸ hm k o p q1 q2 q3),h.block B hB]
theorem zQg {S:Sym} {O:Nat→Prop} {ψ ψ':Psi} {g g':Fam} {n n':Key} {w0 w w':World} (h:Lft O w0 w) (hp:@z7 S ψ g n w ψ' g' n' w') (ho:∀ B,w0.heap.size≤B→O B)
 (hm:∀ k o p,g k=some o→o.isRo=false→ψ k=some p→O p.blk):∀ k o p,g' k=some o→o.isRo=false→ψ' k=some p→O p.blk:=by
 intro k o p q1 q2 q3
 rcases @z7.img S _ _ _ _ _ _ _ _ hp k o p q1 q2 q3 with ⟨k₀,o₀,p₀,a,b,c,d⟩ | hge
 · rw [← d]; exact hm k₀ o₀ p₀ a b c
 · exact ho _ (Nat.le_trans h.size hge)
theorem zI6 {ψ:Psi} {l:List (Key × CObj)} {w:World}:∀ B,w.heap.size≤B→zFU ψ l w B:=fun _ h=>.inr h
def zEF (p q:Pl):Prop:=q.blk=p.blk∧q.off=p.off∧q.sz=p.sz
structure zT0 (S:Sym) (ψ:Psi) (s:Sm) (w:World) (po:Po) (v:Value) (ψ':Psi) (w':World):Prop where
 pin:∀ k∈s.pins,∀ p,ψ k=some p→∃ p',ψ' k=some p'∧zEF p p'
 rel:@Rel S ψ' (kY po.objs) w'
 val:@zG S ψ' po.v v
 own:∀ k o p,kY po.objs k=some o→ψ' k=some p→o.isRo=false∧zFU ψ s.objs w p.blk
 lft:Lft (zFU ψ s.objs w) w w'
abbrev noA:Key→Option Value:=fun _=>none
abbrev kno:zc:=⟨[],[],[],noA⟩
def thK:List (Int × Int)→Nat→TH
 | [],_=>[]
 | _::r,j=>(0,[(j,1)])::thK r (Nat.succ j)
def thS:List (Int × Int)→TH
 | []=>[]
 | _::r=>(0,[])::thK r 1
theorem zLH:∀ {b:List (Int × Int)} {i j:Nat} {q:Int × LL},nth (thK b i) j=some q→q=(0,[(i+j,1)])∧j<b.length
 | [],i,j,q,h=>by cases j <;> cases h
 | x::r,i,0,q,h=>by
  injection h with h
  exact ⟨h.symm,by simp⟩
 | x::r,i,j+1,q,h=>by
  have h:nth (thK r (i+1)) j=some q:=h
  obtain ⟨h1,h2⟩:=zLH h
  exact ⟨by rw [h1,show i+1+j=i+(j+1) from by omega],by simp; exact h2⟩
theorem zR7 {σ σ0:Nat→Int} {b:List (Int × Int)} (h0:∀ x r,b=x::r→σ0 0=0) (hk:∀ j,1≤j→j<b.length→σ j=σ0 j):jc σ σ0 (thS b):=by
 intro j q hj
 cases b with
 | nil=>cases j <;> cases hj
 | cons x r=>
  cases j with
  | zero=>
   injection hj with hj
   subst hj
   rw [h0 x r rfl]; rfl
  | succ j=>
   have hj:nth (thK r 1) j=some q:=hj
   obtain ⟨h1,h2⟩:=zLH hj
   subst h1
   have:=hk (j+1) (by omega) (by simp; exact h2)
   rw [← this,show j+1=1+j from by omega]
   show _=(0:Int)+(1*σ (1+j)+0)
   omega
def zEr (ρ:Heap):List Key→Bool
 | []=>true
 | k::r=>kg ρ k k&&zEr ρ r
theorem zF4 {ρ:Heap}:∀ {l:List Key},zEr ρ l=true→∀ k∈l,kg ρ k k=true
 | [],_,k,h=>by cases h
 | x::r,h,k,hk=>by
  unfold zEr at h
  rw [Bool.and_eq_true] at h
  rcases List.mem_cons.1 hk with rfl | hk
  · exact h.1
  · exact zF4 h.2 k hk
def zRK (l:List (Key × CObj)):Nat:=match l with
 | p::_=>p.1.ix
 | []=>0
theorem vv {f:FuncId} {args:Array Value} {w:World} {K K':Value→World→Prop} (h:yr P f args w K) (hk:∀ v w',K v w'→K' v w'):yr P f args w K':=by
 unfold yr at h ⊢
 split at h
 · exact Calls.mono h fun e w'' ⟨v,e1,h1⟩=>⟨v,e1,hk _ _ h1⟩
 · exact hk _ _ h
 · exact h.elim
def zOH:List (Int × Int)→Bool
 | []=>false
 | q::_=>zx q.1 0&&zx q.2 0
theorem zPI {b:List (Int × Int)} (h:zOH b=true) {σ:Nat→Int} (hb:yF σ 0 b):1≤b.length∧σ 0=0:=by
 cases b with
 | nil=>cases h
 | cons q r=>
  unfold zOH at h
  rw [Bool.and_eq_true,@za noSym,@za noSym,decide_eq_true_eq,decide_eq_true_eq] at h
  have:=hb.1
  rw [h.1,h.2] at this
  exact ⟨by simp,by omega⟩
section
variable {code:FuncId→CFn} {nat:Nats} {fuel:Nat} {f:FuncId} {fn:Func} {G:Nat} {s:Sm}
def okB (b:List (Int × Int)):Bool:=zOH b&&Nat.ble b.length 1000
end
structure zTZ (P:Program) (F N:Nat) (s:Sm) (σ0:Nat→Int) (ψ0:Psi) (w0:World) (T:TS) (σ:Nat→Int) (ψ:Psi) (a:Act) (w:World):Prop where
 bnd:yF σ 0 T.b
 fct:jJ σ T.f
 rul:qC σ T.r
 keep:∀ j,1≤j→j<s.b.length→σ j=σ0 j
 st:∀ σ' K',(∀ j,j<T.b.length→σ' j=σ j)→K'.arg=noA→@St (linSym σ' K') P F N ψ (zAQ T.locs) [] (mkH .nil T.objs) T.n a w
 own:∀ k o p,kY T.objs k=some o→ψ k=some p→o.isRo=false∧zFU ψ0 s.objs w0 p.blk
 lft:Lft (zFU ψ0 s.objs w0) w0 w
 pin:∀ k∈s.pins,∀ p0,ψ0 k=some p0→∃ p,ψ k=some p∧zEF p0 p
section
variable {code:FuncId→CFn} {nat:Nats} {fuel:Nat} {fn:Func} {c b:Code} {p:List Stp} {rs:List CRes} {G:Nat} {Ts:List TS} {bound:Int} {s:Sm} {F N:Nat} {σ0:Nat→Int} {ψ0:Psi} {w0:World}
end
end
end Go.Ev
namespace Go.Ev
open Go.RowKit
noncomputable section
variable {P:Program}
mutual
def zr (ρ:Heap) (θ:TH):CV→CV
 | .sym e=>match uR θ e.l with
  | some s=>mkS e.k (e.c+s.1) s.2
  | none=>.any
 | .ptr k o=>match zg ρ k with
  | some j=>.ptr j o
  | none=>.any
 | .sl k o l c e x=>match zg ρ k with
  | some j=>.sl j o l c e x
  | none=>.any
 | .map k=>match zg ρ k with
  | some j=>.map j
  | none=>.any
 | .func f a b=>.func f (xZ ρ θ a) (xZ ρ θ b)
 | .iface t v=>.iface t (zr ρ θ v)
 | .agg l=>.agg (xZ ρ θ l)
 | .tup l=>.tup (xZ ρ θ l)
 | .sst l=>zMR (xZ ρ θ l)
 | .win ..=>.any
 | .bool b=>.bool b
 | .nat n=>.nat n
 | .int k n=>.int k n
 | .anyi k=>.anyi k
 | .str s=>.str s
 | .nilptr=>.nilptr
 | .nilsl=>.nilsl
 | .nilmap=>.nilmap
 | .nilfunc=>.nilfunc
 | .niliface=>.niliface
 | .big n=>.big n
 | .few _ _=>.any
 | .elt ..=>.any
 | .any=>.any
def xZ (ρ:Heap) (θ:TH):List CV→List CV
 | []=>[]
 | c::l=>zr ρ θ c::xZ ρ θ l
end
def zHe (ρ:Heap) (ψs ψT:Psi):Prop:=∀ k j p,zg ρ k=some j→ψs k=some p→∃ p',ψT j=some p'∧zEF p p'
section
variable {σ σT:Nat→Int} {K KT:zc} {θ:TH} {ρ:Heap} {ψs ψT:Psi}
mutual
theorem kG (hθ:jc σ σT θ) (hψ:zHe ρ ψs ψT):∀ (c:CV) {v:Value},@zG (linSym σT KT) ψs c v→@zG (linSym σ K) ψT (zr ρ θ c) v
 | .sym e,v,hv=>by
  rw [@z8 (linSym σT KT)] at hv
  have hv:v=.int e.k (evE σT e):=hv
  unfold zr
  split
  · rename_i s hs
    have h2:=zAp hθ hs
    rw [hv]
    unfold evE
    rw [h2,← Int.add_assoc]
    exact zBW _ _ _
  · exact @qK (linSym σ K) _ _
 | .ptr k o,v,hv=>by
  rw [@zl (linSym σT KT)] at hv
  obtain ⟨p,hp,rfl⟩:=hv
  unfold zr
  split
  · rename_i j hj
    obtain ⟨p',h1,h2,h3,h4⟩:=hψ k j p hj hp
    exact (@zl (linSym σ K) _ _ _ _).2 ⟨p',h1,by rw [h2,h3]⟩
  · exact @qK (linSym σ K) _ _
 | .sl k o l c e x,v,hv=>by
  rw [@zz (linSym σT KT)] at hv
  obtain ⟨p,y,cap',hp,rfl,h1,h2,h3,h4⟩:=hv
  unfold zr
  split
  · rename_i j hj
    obtain ⟨p',g1,g2,g3,g4⟩:=hψ k j p hj hp
    exact (@zz (linSym σ K) _ _ _ _ _ _ _ _).2 ⟨p',y,cap',g1,by rw [g2],h1,h2,h3,by rw [g3,g4]; exact h4⟩
  · exact @qK (linSym σ K) _ _
 | .map k,v,hv=>by
  rw [@yY (linSym σT KT)] at hv
  obtain ⟨p,hp,rfl⟩:=hv
  unfold zr
  split
  · rename_i j hj
    obtain ⟨p',g1,g2,g3,g4⟩:=hψ k j p hj hp
    exact (@yY (linSym σ K) _ _ _).2 ⟨p',g1,by rw [g2]⟩
  · exact @qK (linSym σ K) _ _
 | .func f a b,v,hv=>by
  rw [@yy (linSym σT KT)] at hv
  obtain ⟨a',b',rfl,g1,g2⟩:=hv
  unfold zr
  exact (@yy (linSym σ K) _ _ _ _ _).2 ⟨a',b',rfl,kw hθ hψ a g1,kw hθ hψ b g2⟩
 | .iface t x,v,hv=>by
  rw [@yP (linSym σT KT)] at hv
  obtain ⟨y,rfl,g⟩:=hv
  unfold zr
  exact (@yP (linSym σ K) _ _ _ _).2 ⟨y,rfl,kG hθ hψ x g⟩
 | .agg a,v,hv=>by
  rw [@yc (linSym σT KT)] at hv
  obtain ⟨a',rfl,g⟩:=hv
  unfold zr
  exact (@yc (linSym σ K) _ _ _).2 ⟨a',rfl,kw hθ hψ a g⟩
 | .tup a,v,hv=>by
  rw [@yM (linSym σT KT)] at hv
  obtain ⟨a',rfl,g⟩:=hv
  unfold zr
  exact (@yM (linSym σ K) _ _ _).2 ⟨a',rfl,kw hθ hψ a g⟩
 | .sst a,v,hv=>by
  rw [@yi (linSym σT KT)] at hv
  obtain ⟨b,rfl,g⟩:=hv
  unfold zr
  exact @zLu (linSym σ K) _ _ _ (kw hθ hψ a g)
 | .win ..,v,hv=>by unfold zr; exact @qK (linSym σ K) _ _
 | .few ..,v,hv=>by unfold zr; exact @qK (linSym σ K) _ _
 | .elt ..,v,hv=>by unfold zr; exact @qK (linSym σ K) _ _
 | .bool b,v,hv=>by
  rw [@zH (linSym σT KT)] at hv
  unfold zr
  exact (@zH (linSym σ K) _ _ _).2 hv
 | .nat b,v,hv=>by
  rw [@zW (linSym σT KT)] at hv
  unfold zr
  exact (@zW (linSym σ K) _ _ _).2 hv
 | .int k b,v,hv=>by
  rw [@zb (linSym σT KT)] at hv
  unfold zr
  exact (@zb (linSym σ K) _ _ _ _).2 hv
 | .anyi k,v,hv=>by
  rw [@yV (linSym σT KT)] at hv
  unfold zr
  exact (@yV (linSym σ K) _ _ _).2 hv
 | .str b,v,hv=>by
  rw [@ze (linSym σT KT)] at hv
  unfold zr
  exact (@ze (linSym σ K) _ _ _).2 hv
 | .nilptr,v,hv=>by
  rw [@xK (linSym σT KT)] at hv
  unfold zr
  exact (@xK (linSym σ K) _ _).2 hv
 | .nilsl,v,hv=>by
  rw [@zp (linSym σT KT)] at hv
  unfold zr
  exact (@zp (linSym σ K) _ _).2 hv
 | .nilmap,v,hv=>by
  rw [@yK (linSym σT KT)] at hv
  unfold zr
  exact (@yK (linSym σ K) _ _).2 hv
 | .nilfunc,v,hv=>by
  rw [@xA (linSym σT KT)] at hv
  unfold zr
  exact (@xA (linSym σ K) _ _).2 hv
 | .niliface,v,hv=>by
  rw [@yR (linSym σT KT)] at hv
  unfold zr
  exact (@yR (linSym σ K) _ _).2 hv
 | .big n,v,hv=>by
  rw [@kS (linSym σT KT)] at hv
  unfold zr
  exact (@kS (linSym σ K) _ _ _).2 hv
 | .any,v,hv=>by unfold zr; exact @qK (linSym σ K) _ _
theorem kw (hθ:jc σ σT θ) (hψ:zHe ρ ψs ψT):∀ (cs:List CV) {l:List Value},@zS (linSym σT KT) ψs cs l→@zS (linSym σ K) ψT (xZ ρ θ cs) l
 | [],l,hl=>by
  rw [@zM (linSym σT KT)] at hl
  unfold xZ
  exact (@zM (linSym σ K) _ _).2 hl
 | c::cs,l,hl=>by
  rw [@zY (linSym σT KT)] at hl
  obtain ⟨v,r,rfl,h1,h2⟩:=hl
  unfold xZ
  exact (@zT (linSym σ K) _ _ _ _ _).2 ⟨kG hθ hψ c h1,kw hθ hψ cs h2⟩
end
def zIe (ρ:Heap) (θ:TH):List CE→List CE
 | []=>[]
 | e::l=>⟨zr ρ θ e.key,zr ρ θ e.val,e.born⟩::zIe ρ θ l
def zPG (ρ:Heap) (θ:TH):CObj→CObj
 | .cells l=>.cells (xZ ρ θ l)
 | .map es c=>.map (zIe ρ θ es) c
 | o=>o
def okO:CObj→Bool
 | .cells _=>true
 | .map _ _=>true
 | _=>false
theorem zDU:∀ {l:List CV},(xZ ρ θ l).length=l.length
 | []=>rfl
 | c::l=>by rw [xZ,List.length_cons,List.length_cons,zDU]
theorem zEG:∀ {l:List CV} {i:Nat} {c:CV},(xZ ρ θ l)[i]? = some c→∃ d,l[i]? = some d∧c=zr ρ θ d
 | [],i,c,h=>by rw [xZ] at h; simp at h
 | d::l,0,c,h=>by
  rw [xZ] at h
  simp at h
  exact ⟨d,rfl,h.symm⟩
 | d::l,i+1,c,h=>by
  rw [xZ] at h
  exact zEG (l:=l) (i:=i) (by simpa using h)
theorem zGm (hθ:jc σ σT θ) (hψ:zHe ρ ψs ψT) {ck:Nat→Nat}:∀ {es:List CE} {l:List MapEntry},@yB (linSym σT KT) ψs ck es l→@yB (linSym σ K) ψT ck (zIe ρ θ es) l
 | [],l,h=>h
 | c::es,l,h=>by
  obtain ⟨e,r,rfl,⟨h1,h2,h3⟩,h4⟩:=h
  exact ⟨e,r,rfl,⟨kG hθ hψ _ h1,kG hθ hψ _ h2,h3⟩,zGm hθ hψ h4⟩
theorem zJR (hθ:jc σ σT θ) (hψ:zHe ρ ψs ψT) {o:CObj} (ho:okO o=true) {w:World} {p p':Pl} (hp:zEF p p') (hck:(∀ es c,o=.map es c→p'=p)) (h:@xC (linSym σT KT) ψs w p o):@xC (linSym σ K) ψT w p' (zPG ρ θ o):=by
 obtain ⟨e1,e2,e3⟩:=hp
 cases o with
 | cells l=>
  obtain ⟨arr,elem,fz,g1,g2,g3,g4,g5⟩:=h
  refine ⟨arr,elem,fz,by rw [e1]; exact g1,by rw [e3]; exact g2,by rw [e2,e3,zDU]; exact g3,by rw [e3]; exact g4,fun i c hi=>?_⟩
  obtain ⟨d,hd,rfl⟩:=zEG hi
  obtain ⟨x,hx,hr⟩:=g5 i d hd
  exact ⟨x,by rw [e2]; exact hx,kG hθ hψ d hr⟩
 | map es c=>
  obtain rfl:=hck es c rfl
  obtain ⟨arr,g1,⟨l0,gp,g2⟩,g3⟩:=h
  exact ⟨arr,g1,⟨l0,gp,zGm hθ hψ g2⟩,g3⟩
 | ro _=>cases ho
 | striter _ _=>cases ho
 | mapiter _ _ _ _=>cases ho
 | full _ _=>cases ho
 | mapz _=>cases ho
end
def fZ (z:Int) (k:Int→R):R:=match z with
 | .ofNat n=>k (.ofNat n)
 | .negSucc n=>k (.negSucc n)
def fL:LL→(LL→R)→R
 | [],k=>k []
 | (i,a)::l,k=>fZ a fun a=>fL l fun l=>k ((i,a)::l)
theorem zRy {z:Int} {k:Int→R}:fZ z k=k z:=by cases z <;> rfl
theorem zRQ:∀ {l:LL} {k:LL→R},fL l k=k l
 | [],_=>rfl
 | (i,a)::l,k=>by unfold fL; rw [zRy,zRQ]
def fTH:TH→(TH→R)→R
 | [],k=>k []
 | (a,l)::r,k=>fZ a fun a=>fL l fun l=>fTH r fun r=>k ((a,l)::r)
theorem zKN:∀ {l:TH} {k:TH→R},fTH l k=k l
 | [],_=>rfl
 | (a,l)::r,k=>by unfold fTH; rw [zRy,zRQ,zKN]
def fKs:List Key→(List Key→R)→R
 | [],k=>k []
 | x::l,k=>fKs l fun l=>k (x::l)
theorem zHZ:∀ {l:List Key} {k:List Key→R},fKs l k=k l
 | [],_=>rfl
 | x::l,k=>by unfold fKs; rw [zHZ]
theorem zOn {k b:Key}:∀ {objs:List (Key × CObj)} {ks:List Key},zg (jK objs ks) k=some b→∃ j:Nat,(∃ o:CObj,objs[j]? = some (b,o))∧ks[j]? = some k
 | [],_,h=>by
  have h:zg .nil k=some b:=h
  unfold zg at h
  rw [jX] at h; cases h
 | _::_,[],h=>by
  have h:zg .nil k=some b:=h
  unfold zg at h
  rw [jX] at h; cases h
 | p::r,j::js,h=>by
  by_cases e:k=j
  · have h:zg (yl (some (.cells [.ptr p.1 0])) j (jK r js)) k=some b:=h
    unfold zg at h
    rw [wv,if_pos e] at h
    injection h with h
    exact ⟨0,⟨p.2,by subst h; rfl⟩,by subst e; rfl⟩
  · have h':zg (jK r js) k=some b:=by
     have h:zg (yl (some (.cells [.ptr p.1 0])) j (jK r js)) k=some b:=h
     unfold zg at h ⊢
     rw [wv,if_neg e] at h
     exact h
    obtain ⟨i,⟨o,h1⟩,h2⟩:=zOn h'
    exact ⟨i+1,⟨o,by simpa using h1⟩,by simpa using h2⟩
def zF0:List Key→Heap→Heap
 | [],h=>h
 | k::r,h=>yl none k (zF0 r h)
theorem zGn {h:Heap} {k:Key} {o:CObj}:∀ {l:List Key},getH k (zF0 l h)=some o→k ∉ l∧getH k h=some o
 | [],hh=>⟨by simp,hh⟩
 | x::r,hh=>by
  have hh:getH k (yl none x (zF0 r h))=some o:=hh
  rw [wv] at hh
  split at hh
  · cases hh
  · rename_i e
    obtain ⟨h1,h2⟩:=zGn hh
    exact ⟨by simp [e,h1],h2⟩
def zR5 (kb:List (Int × Int)) (q:Int × Int) (c:Int) (l:LL):Bool:=match l with
 | [(i,a)]=>match zQW kb i with
  | some x=>qv (zx a 1) (qv (zx c 0) (qv (zx x.1 q.1) (zx x.2 q.2)))
  | none=>false
 | _=>false
def zSj [Sym] (q:Int × Int) (u:Int × LL):Bool:=match u.2 with
 | []=>decide (q.1≤u.1)&&decide (u.1≤q.2)
 | l=>match Sym.bin .geq (.sym ⟨.i64,u.1,l⟩) (zU .i64 q.1),Sym.bin .leq (.sym ⟨.i64,u.1,l⟩) (zU .i64 q.2) with
  | some [.bool true],some [.bool true]=>true
  | _,_=>false
def zSA [Sym] (q:Int × Int) (u:Int × LL):Bool:=match zR5 Sym.kb q u.1 u.2 with
 | true=>true
 | false=>zSj q u
def zQK [Sym]:List (Int × Int)→TH→Bool
 | [],[]=>true
 | q::r,u::θ=>zSA q u&&zQK r θ
 | _,_=>false
def zOY (ρ:Heap) (sb:SE→CV) (c:CV):CV:=CV.rec (motive_1:=fun _=>CV) (motive_2:=fun _=>List CV)
 (fun x0=>.bool x0)
 (fun x0=>.nat x0)
 (fun x0 x1=>.int x0 x1)
 (fun x0=>.anyi x0)
 (fun x0=>.str x0)
 .nilptr
 (fun x0 x1=>match zg ρ x0 with | some j=>.ptr j x1 | none=>.any)
 .nilsl
 (fun x0 x1 x2 x3 x4 x5=>match zg ρ x0 with | some j=>.sl j x1 x2 x3 x4 x5 | none=>.any)
 .nilmap
 (fun x0=>match zg ρ x0 with | some j=>.map j | none=>.any)
 (fun x0 x1 x2 ha hc=>.func x0 ha hc)
 .nilfunc
 (fun x0 x1 hv=>.iface x0 hv)
 .niliface
 (fun x0 hl=>.agg hl)
 (fun x0 hl=>.tup hl)
 sb
 (fun x0 x1 x2 x3=>.any)
 (fun x0 hl=>zMR hl)
 (fun x0=>.big x0)
 (fun x0 x1=>.any)
 (fun x0 x1 x2 x3=>.any)
 .any
 []
 (fun _ _ h g=>h::g) c
def zJ3 (ρ:Heap) (sb:SE→CV) (l:List CV):List CV:=CV.rec_1 (motive_1:=fun _=>CV) (motive_2:=fun _=>List CV)
 (fun x0=>.bool x0)
 (fun x0=>.nat x0)
 (fun x0 x1=>.int x0 x1)
 (fun x0=>.anyi x0)
 (fun x0=>.str x0)
 .nilptr
 (fun x0 x1=>match zg ρ x0 with | some j=>.ptr j x1 | none=>.any)
 .nilsl
 (fun x0 x1 x2 x3 x4 x5=>match zg ρ x0 with | some j=>.sl j x1 x2 x3 x4 x5 | none=>.any)
 .nilmap
 (fun x0=>match zg ρ x0 with | some j=>.map j | none=>.any)
 (fun x0 x1 x2 ha hc=>.func x0 ha hc)
 .nilfunc
 (fun x0 x1 hv=>.iface x0 hv)
 .niliface
 (fun x0 hl=>.agg hl)
 (fun x0 hl=>.tup hl)
 sb
 (fun x0 x1 x2 x3=>.any)
 (fun x0 hl=>zMR hl)
 (fun x0=>.big x0)
 (fun x0 x1=>.any)
 (fun x0 x1 x2 x3=>.any)
 .any
 []
 (fun _ _ h g=>h::g) l
def sbQ (θ:TH) (e:SE):CV:=match zJ1 θ e.l with
 | some s=>mkS e.k (e.c+s.1) s.2
 | none=>.any
theorem zO0 {ρ:Heap} {θ:TH} (e:SE):sbQ θ e=zr ρ θ (.sym e):=by
 unfold sbQ zr
 rw [ul]
section
variable {ρ:Heap} {θ:TH} {sb:SE→CV} (hs:∀ e,sb e=zr ρ θ (.sym e))
include hs
mutual
theorem zBv:∀ (c:CV),zOY ρ sb c=zr ρ θ c
 | .bool x0=>by unfold zr; rfl
 | .nat x0=>by unfold zr; rfl
 | .int x0 x1=>by unfold zr; rfl
 | .anyi x0=>by unfold zr; rfl
 | .str x0=>by unfold zr; rfl
 | .nilptr=>by unfold zr; rfl
 | .ptr x0 x1=>by unfold zr; rfl
 | .nilsl=>by unfold zr; rfl
 | .sl x0 x1 x2 x3 x4 x5=>by unfold zr; rfl
 | .nilmap=>by unfold zr; rfl
 | .map x0=>by unfold zr; rfl
 | .func x0 x1 x2=>by unfold zr; rw [← jF x1,← jF x2]; rfl
 | .nilfunc=>by unfold zr; rfl
 | .iface x0 x1=>by unfold zr; rw [← zBv x1]; rfl
 | .niliface=>by unfold zr; rfl
 | .agg x0=>by unfold zr; rw [← jF x0]; rfl
 | .tup x0=>by unfold zr; rw [← jF x0]; rfl
 | .sym x0=>hs x0
 | .win x0 x1 x2 x3=>by unfold zr; rfl
 | .sst x0=>by unfold zr; rw [← jF x0]; rfl
 | .big x0=>by unfold zr; rfl
 | .few x0 x1=>by unfold zr; rfl
 | .elt x0 x1 x2 x3=>by unfold zr; rfl
 | .any=>by unfold zr; rfl
theorem jF:∀ (l:List CV),zJ3 ρ sb l=xZ ρ θ l
 | []=>by unfold xZ; rfl
 | c::l=>by unfold xZ; rw [← zBv c,← jF l]; rfl
end
end
def zGx (ρ:Heap) (θ:TH) (c:CV):CV:=zOY ρ (sbQ θ) c
def zKy (ρ:Heap) (θ:TH) (l:List CV):List CV:=zJ3 ρ (sbQ θ) l
section
variable {ρ:Heap} {θ:TH}
theorem zB9 (c:CV):zGx ρ θ c=zr ρ θ c:=zBv (fun e=>zO0 e) c
theorem zF5 (l:List CV):zKy ρ θ l=xZ ρ θ l:=jF (fun e=>zO0 e) l
end
def fZQ (z:Int) (k:Int→R):R:=Int.rec (motive:=fun _=>R) (fun n=>k (.ofNat n)) (fun n=>k (.negSucc n)) z
theorem zPd {z:Int} {k:Int→R}:fZQ z k=k z:=by cases z <;> rfl
def fLQ (l:LL):(LL→R)→R:=List.rec (motive:=fun _=>(LL→R)→R) (fun k=>k []) (fun p _ g k=>Prod.rec (motive:=fun _=>R) (fun i a=>fZQ a fun a=>g fun l=>k ((i,a)::l)) p) l
theorem zP7:∀ {l:LL} {k:LL→R},fLQ l k=k l
 | [],_=>rfl
 | (i,a)::l,k=>by
  show (fZQ a fun a=>fLQ l fun l=>k ((i,a)::l))=_
  rw [zPd,zP7]
def zSt (e:SE) (k:SE→R):R:=SE.rec (motive:=fun _=>R) (fun j c l=>fZQ c fun c=>fLQ l fun l=>k ⟨j,c,l⟩) e
theorem zQF {e:SE} {k:SE→R}:zSt e k=k e:=by
 obtain ⟨j,c,l⟩:=e
 show (fZQ c fun c=>fLQ l fun l=>k ⟨j,c,l⟩)=k ⟨j,c,l⟩
 rw [zPd,zP7]
def fQ (c:CV):(CV→R)→R:=CV.rec (motive_1:=fun _=>(CV→R)→R) (motive_2:=fun _=>(List CV→R)→R)
 (fun x0 k=>k (.bool x0))
 (fun x0 k=>k (.nat x0))
 (fun x0 x1 k=>k (.int x0 x1))
 (fun x0 k=>k (.anyi x0))
 (fun x0 k=>k (.str x0))
 (fun k=>k (.nilptr))
 (fun x0 x1 k=>k (.ptr x0 x1))
 (fun k=>k (.nilsl))
 (fun x0 x1 x2 x3 x4 x5 k=>k (.sl x0 x1 x2 x3 x4 x5))
 (fun k=>k (.nilmap))
 (fun x0 k=>k (.map x0))
 (fun x0 x1 x2 ha hc k=>ha fun x1=>hc fun x2=>k (.func x0 x1 x2))
 (fun k=>k (.nilfunc))
 (fun x0 x1 hv k=>hv fun x1=>k (.iface x0 x1))
 (fun k=>k (.niliface))
 (fun x0 hl k=>hl fun x0=>k (.agg x0))
 (fun x0 hl k=>hl fun x0=>k (.tup x0))
 (fun x0 k=>zSt x0 fun x0=>k (.sym x0))
 (fun x0 x1 x2 x3 k=>k (.win x0 x1 x2 x3))
 (fun x0 hl k=>hl fun x0=>k (.sst x0))
 (fun x0 k=>k (.big x0))
 (fun x0 x1 k=>k (.few x0 x1))
 (fun x0 x1 x2 x3 k=>k (.elt x0 x1 x2 x3))
 (fun k=>k (.any))
 (fun k=>k [])
 (fun _ _ h g k=>h fun v=>g fun l=>k (v::l)) c
def fQs (l:List CV):(List CV→R)→R:=CV.rec_1 (motive_1:=fun _=>(CV→R)→R) (motive_2:=fun _=>(List CV→R)→R)
 (fun x0 k=>k (.bool x0))
 (fun x0 k=>k (.nat x0))
 (fun x0 x1 k=>k (.int x0 x1))
 (fun x0 k=>k (.anyi x0))
 (fun x0 k=>k (.str x0))
 (fun k=>k (.nilptr))
 (fun x0 x1 k=>k (.ptr x0 x1))
 (fun k=>k (.nilsl))
 (fun x0 x1 x2 x3 x4 x5 k=>k (.sl x0 x1 x2 x3 x4 x5))
 (fun k=>k (.nilmap))
 (fun x0 k=>k (.map x0))
 (fun x0 x1 x2 ha hc k=>ha fun x1=>hc fun x2=>k (.func x0 x1 x2))
 (fun k=>k (.nilfunc))
 (fun x0 x1 hv k=>hv fun x1=>k (.iface x0 x1))
 (fun k=>k (.niliface))
 (fun x0 hl k=>hl fun x0=>k (.agg x0))
 (fun x0 hl k=>hl fun x0=>k (.tup x0))
 (fun x0 k=>zSt x0 fun x0=>k (.sym x0))
 (fun x0 x1 x2 x3 k=>k (.win x0 x1 x2 x3))
 (fun x0 hl k=>hl fun x0=>k (.sst x0))
 (fun x0 k=>k (.big x0))
 (fun x0 x1 k=>k (.few x0 x1))
 (fun x0 x1 x2 x3 k=>k (.elt x0 x1 x2 x3))
 (fun k=>k (.any))
 (fun k=>k [])
 (fun _ _ h g k=>h fun v=>g fun l=>k (v::l)) l
mutual
theorem zGe:∀ (c:CV) (k:CV→R),fQ c k=k c
 | .bool x0,k=>rfl
 | .nat x0,k=>rfl
 | .int x0 x1,k=>rfl
 | .anyi x0,k=>rfl
 | .str x0,k=>rfl
 | .nilptr,k=>rfl
 | .ptr x0 x1,k=>rfl
 | .nilsl,k=>rfl
 | .sl x0 x1 x2 x3 x4 x5,k=>rfl
 | .nilmap,k=>rfl
 | .map x0,k=>rfl
 | .func x0 x1 x2,k=>by show (fQs x1 fun x1=>fQs x2 fun x2=>k (.func x0 x1 x2))=_; rw [zAF x1,zAF x2]
 | .nilfunc,k=>rfl
 | .iface x0 x1,k=>zGe x1 fun x1=>k (.iface x0 x1)
 | .niliface,k=>rfl
 | .agg x0,k=>zAF x0 fun x0=>k (.agg x0)
 | .tup x0,k=>zAF x0 fun x0=>k (.tup x0)
 | .sym x0,k=>zQF (k:=fun x0=>k (.sym x0))
 | .win x0 x1 x2 x3,k=>rfl
 | .sst x0,k=>zAF x0 fun x0=>k (.sst x0)
 | .big x0,k=>rfl
 | .few x0 x1,k=>rfl
 | .elt x0 x1 x2 x3,k=>rfl
 | .any,k=>rfl
theorem zAF:∀ (l:List CV) (k:List CV→R),fQs l k=k l
 | [],k=>rfl
 | c::l,k=>by show (fQ c fun v=>fQs l fun l=>k (v::l))=_; rw [zGe c,zAF l]
end
def zTK (th:List (Nat × Int × LL)):List (Int × Int)→TH
 | []=>[]
 | _::r=>(0,[])::hTh th r 1
def qkV (c:CV):CV→Bool:=CV.rec (motive_1:=fun _=>CV→Bool) (motive_2:=fun _=>List CV→Bool)
 (fun x0 d=>(CV.rec (motive_1:=fun _=>Bool) (motive_2:=fun _=>Unit) (fun y0=>zSF x0 y0) (fun _=>true) (fun _ _=>true) (fun _=>true) (fun _=>true) true (fun _ _=>true) true (fun _ _ _ _ _ _=>true) true (fun _=>true) (fun _ _ _ _ _=>true) true (fun _ _ _=>true) true (fun _ _=>true) (fun _ _=>true) (fun _=>true) (fun _ _ _ _=>true) (fun _ _=>true) (fun _=>true) (fun _ _=>true) (fun _ _ _ _=>true) true () (fun _ _ _ _=>()) d))
 (fun x0 d=>(CV.rec (motive_1:=fun _=>Bool) (motive_2:=fun _=>Unit) (fun _=>true) (fun y0=>Nat.beq x0 y0) (fun _ _=>true) (fun _=>true) (fun _=>true) true (fun _ _=>true) true (fun _ _ _ _ _ _=>true) true (fun _=>true) (fun _ _ _ _ _=>true) true (fun _ _ _=>true) true (fun _ _=>true) (fun _ _=>true) (fun _=>true) (fun _ _ _ _=>true) (fun _ _=>true) (fun _=>true) (fun _ _=>true) (fun _ _ _ _=>true) true () (fun _ _ _ _=>()) d))
 (fun x0 x1 d=>(CV.rec (motive_1:=fun _=>Bool) (motive_2:=fun _=>Unit) (fun _=>true) (fun _=>true) (fun y0 y1=>zx x1 y1) (fun _=>true) (fun _=>true) true (fun _ _=>true) true (fun _ _ _ _ _ _=>true) true (fun _=>true) (fun _ _ _ _ _=>true) true (fun _ _ _=>true) true (fun _ _=>true) (fun _ _=>true) (fun _=>true) (fun _ _ _ _=>true) (fun _ _=>true) (fun _=>true) (fun _ _=>true) (fun _ _ _ _=>true) true () (fun _ _ _ _=>()) d))
 (fun x0 d=>true)
 (fun x0 d=>(CV.rec (motive_1:=fun _=>Bool) (motive_2:=fun _=>Unit) (fun _=>true) (fun _=>true) (fun _ _=>true) (fun _=>true) (fun y0=>xq x0 y0) true (fun _ _=>true) true (fun _ _ _ _ _ _=>true) true (fun _=>true) (fun _ _ _ _ _=>true) true (fun _ _ _=>true) true (fun _ _=>true) (fun _ _=>true) (fun _=>true) (fun _ _ _ _=>true) (fun _ _=>true) (fun _=>true) (fun _ _=>true) (fun _ _ _ _=>true) true () (fun _ _ _ _=>()) d))
 (fun d=>true)
 (fun x0 x1 d=>true)
 (fun d=>(CV.rec (motive_1:=fun _=>Bool) (motive_2:=fun _=>Unit) (fun _=>true) (fun _=>true) (fun _ _=>true) (fun _=>true) (fun _=>true) true (fun _ _=>true) true (fun y0 y1 y2 y3 y4 y5=>false) true (fun _=>true) (fun _ _ _ _ _=>true) true (fun _ _ _=>true) true (fun _ _=>true) (fun _ _=>true) (fun _=>true) (fun _ _ _ _=>true) (fun _ _=>true) (fun _=>true) (fun _ _=>true) (fun _ _ _ _=>true) true () (fun _ _ _ _=>()) d))
 (fun x0 x1 x2 x3 x4 x5 d=>(CV.rec (motive_1:=fun _=>Bool) (motive_2:=fun _=>Unit) (fun _=>true) (fun _=>true) (fun _ _=>true) (fun _=>true) (fun _=>true) true (fun _ _=>true) false (fun y0 y1 y2 y3 y4 y5=>Nat.beq x2 y2) true (fun _=>true) (fun _ _ _ _ _=>true) true (fun _ _ _=>true) true (fun _ _=>true) (fun _ _=>true) (fun _=>true) (fun _ _ _ _=>true) (fun _ _=>true) (fun _=>true) (fun _ _=>true) (fun _ _ _ _=>true) true () (fun _ _ _ _=>()) d))
 (fun d=>true)
 (fun x0 d=>true)
 (fun x0 x1 x2 ha hc d=>true)
 (fun d=>true)
 (fun x0 x1 hv d=>true)
 (fun d=>true)
 (fun x0 hl d=>(CV.rec (motive_1:=fun _=>Bool) (motive_2:=fun _=>Unit) (fun _=>true) (fun _=>true) (fun _ _=>true) (fun _=>true) (fun _=>true) true (fun _ _=>true) true (fun _ _ _ _ _ _=>true) true (fun _=>true) (fun _ _ _ _ _=>true) true (fun _ _ _=>true) true (fun y0 _=>hl y0) (fun _ _=>true) (fun _=>true) (fun _ _ _ _=>true) (fun _ _=>true) (fun _=>true) (fun _ _=>true) (fun _ _ _ _=>true) true () (fun _ _ _ _=>()) d))
 (fun x0 hl d=>true)
 (fun x0 d=>true)
 (fun x0 x1 x2 x3 d=>true)
 (fun x0 hl d=>true)
 (fun x0 d=>true)
 (fun x0 x1 d=>true)
 (fun x0 x1 x2 x3 d=>true)
 (fun d=>true)
 (fun _=>true)
 (fun _ _ h g m=>List.rec (motive:=fun _=>Bool) true (fun b r _=>qv (h b) (g r)) m) c
def zN2 (l m:List CV):Bool:=qkV (.agg l) (.agg m)
theorem zGt (P:Program) [Sym] [SymFact P] {ψ:Psi} {op:BinOp} {x y:CV} {b:Bool} {u v:Value} (w:World) (h:Sym.bin op x y=some [.bool b]) (hx:zG ψ x u) (hy:zG ψ y v) :
 (binOp op 0 u v).run P w=.ok (.bool b) w:=by
 obtain ⟨h1,z,h2,c,h3,h4⟩:=(SymFact.ok (P:=P)).1 op x y _ h ψ 0 u v w hx hy
 obtain rfl:c=.bool b:=by simpa using h3
 rw [zH.1 h4] at h2
 exact h2
theorem zQv {σ:Nat→Int} {K:zc} (hK:KnownOk σ K) {q:Int × Int} {u:Int × LL} (h:zR5 K.b q u.1 u.2=true):q.1≤evQ σ u∧evQ σ u≤q.2:=by
 obtain ⟨c,l⟩:=u
 unfold zR5 at h
 split at h
 · rename_i i a hl
   simp only at hl
   subst hl
   split at h
   · rename_i x hx
     rw [zDM] at hx
     obtain ⟨b1,b2⟩:=hK.b _ _ hx
     simp only [qX,Bool.and_eq_true] at h
     obtain ⟨h1,h2,h3,h4⟩:=h
     rw [@za noSym,decide_eq_true_eq] at h1
     rw [@za noSym,decide_eq_true_eq] at h2
     rw [@za noSym,decide_eq_true_eq] at h3
     rw [@za noSym,decide_eq_true_eq] at h4
     subst h1 h2
     show q.1≤0+(1*σ i+0)∧0+(1*σ i+0)≤q.2
     omega
   · cases h
 · cases h
theorem zQV (P:Program) {σ:Nat→Int} {K:zc} (hK:KnownOk σ K) {q:Int × Int} {u:Int × LL} (h:@zSj (linSym σ K) q u=true):q.1≤evQ σ u∧evQ σ u≤q.2:=by
 letI S:Sym:=linSym σ K
 haveI hS:SymFact P:=xg hK
 unfold zSj at h
 split at h
 · rename_i hu
   rw [Bool.and_eq_true,decide_eq_true_eq,decide_eq_true_eq] at h
   unfold evQ
   rw [hu]
   simp [evL]
   exact h
 · split at h
   · rename_i h1 h2
     have hv:@zG (linSym σ K) (fun _=>none) (.sym ⟨.i64,u.1,u.2⟩) (.int .i64 (evQ σ u)):=(@z8 (linSym σ K) _ _ _).2 rfl
     have hl:∀ z:Int,@zG (linSym σ K) (fun _=>none) (zU .i64 z) (.int .i64 z):=fun z=>@yb (linSym σ K) _ _ _
     have g1:=@zGt P (linSym σ K) hS _ _ _ _ _ _ _ default h1 hv (hl q.1)
     have g2:=@zGt P (linSym σ K) hS _ _ _ _ _ _ _ default h2 hv (hl q.2)
     have e1:q.1≤evQ σ u:=by simpa [binOp,Op.intCmp] using g1
     have e2:evQ σ u≤q.2:=by simpa [binOp,Op.intCmp] using g2
     exact ⟨e1,e2⟩
   · cases h
theorem zQ3 (P:Program) {σ:Nat→Int} {K:zc} (hK:KnownOk σ K) {q:Int × Int} {u:Int × LL} (h:@zSA (linSym σ K) q u=true):q.1≤evQ σ u∧evQ σ u≤q.2:=by
 unfold zSA at h
 split at h
 · rename_i h1
   exact zQv hK h1
 · exact zQV P hK h
theorem zHX {σ:Nat→Int} {K:zc} (hK:KnownOk σ K) (P:Program):∀ {b:List (Int × Int)} {θ:TH} {σT:Nat→Int} {j:Nat},@zQK (linSym σ K) b θ=true→(∀ i q,nth θ i=some q→σT (j+i)=evQ σ q)→b.length=θ.length∧yF σT j b
 | [],[],_,_,_,_=>⟨rfl,trivial⟩
 | [],_::_,_,_,h,_=>by cases h
 | _::_,[],_,_,h,_=>by cases h
 | q::r,u::θ,σT,j,h,hθ=>by
  unfold zQK at h
  rw [Bool.and_eq_true] at h
  obtain ⟨g1,g2⟩:=zHX hK P (σT:=σT) (j:=j+1) h.2 (fun i x hi=>by
   have:=hθ (i+1) x hi
   rw [show j+1+i=j+(i+1) from by omega]; exact this)
  refine ⟨by simp [g1],?_,g2⟩
  rw [show σT j=evQ σ u from hθ 0 u rfl]
  exact zQ3 P hK h.1
theorem nats_lin {nat:Nats} (h:∀ [Sym] [SymFact P],NatsOk P nat):∀ σ K,KnownOk σ K→@NatsOk (linSym σ K) P nat:=fun σ K hK=>@h (linSym σ K) (xg hK)
end
end Go.Ev
namespace Go.Ev
open Go.RowKit
noncomputable section
variable {P:Program}
section
variable {code:FuncId→CFn} {nat:Nats} {fuel:Nat} {p:List Stp} {rs:List CRes} {G:Nat} {Ts:List TS} {s:Sm} {cc:CCode} {T:TS}
theorem zMk {Q:Lf→Prop}:∀ {l:List Lf},(∀ e∈l,Q e)→AllG Q l
 | [],_=>allG_nil
 | e::l,h=>allG_cons (h e (by simp)) (zMk fun x hx=>h x (by simp [hx]))
end
end
end Go.Ev
namespace Go.Ev
open Go.RowKit
noncomputable section
variable {P:Program}
end
end Go.Ev
namespace Go.Ev
open Go.RowKit
noncomputable section
variable {P:Program}
theorem zDG {q:List Stp} {bl:Code}:∀ {p:List Stp} {c a b:Code},atC p c=some (.seq a b)→uF (p++.r::q) c=some bl→uF q b=some bl
 | [],c,a,b,h,hs=>by
  injection h with h; subst h; exact hs
 | .l::p,c,a,b,h,hs=>by
  cases c <;> first | exact zDG (p:=p) h hs | cases h
 | .r::p,c,a,b,h,hs=>by
  cases c <;> first | exact zDG (p:=p) h hs | cases h
 | .b::p,c,a,b,h,hs=>by
  cases c <;> first | exact zDG (p:=p) h hs | cases h
theorem zHM {q:List Stp}:∀ {p:List Stp} {c a b:Code} {Q:Exit→Act→World→Prop},atC p c=some (.seq a b)→QH P (p++.r::q) c Q=QH P q b (QH P p c Q)
 | [],c,a,b,Q,h=>by
  injection h with h; subst h; rfl
 | .l::p,c,a,b,Q,h=>by
  cases c <;> try (cases h; done)
  rename_i y z
  exact zHM (p:=p) (Q:=Exit.then (z.wp P Q) Q) h
 | .r::p,c,a,b,Q,h=>by
  cases c <;> try (cases h; done)
  exact zHM (p:=p) h
 | .b::p,c,a,b,Q,h=>by
  cases c <;> try (cases h; done)
  exact zHM (p:=p) h
structure Nx where
 Ts:List TS
 pre:List Stp
 q:List Stp
 q2:List Stp
section
variable {code:FuncId→CFn} {nat:Nats} {fuel:Nat} {fn:Func} {c b:Code} {p:List Stp} {rs:List CRes} {G:Nat} {wins:List Win} {L:List (Key × Nat)} {A:Key→Option Value} {Ts:List TS} {bound:Int} {w0:World} {nx:Option Nx}
def LoopOk (P:Program) (F N G:Nat) (A:Key→Option Value) (wins:List Win) (L:List (Key × Nat)) (w0:World) (fn:Func) (c:Code) (Ts:List TS) (p:List Stp):Prop:=
 ∀ (t:Nat) (T:TS) (σ:Nat→Int) (ψ:Psi) (a:Act) (w:World) (b:Code),uF p c=some b→nth Ts t=some T→zNV P F N G A wins L w0 T σ ψ a w→uH P b (QH P p c (zId P fn w0)) a w
def zEQ (P:Program) (F N G:Nat) (A:Key→Option Value) (wins:List Win) (L:List (Key × Nat)) (w0:World) (fn:Func) (c:Code) (p:List Stp):Option Nx→Prop
 | none=>True
 | some x=>p=x.pre++.l::x.q∧(∃ xa xb bl,atC x.pre c=some (.seq xa xb)∧uF (x.pre++.r::x.q2) c=some bl)∧LoopOk P F N G A wins L w0 fn c x.Ts (x.pre++.r::x.q2)
def zTa (P:Program) (code:FuncId→CFn) (nat:Nats) (fuel:Nat) (G:Nat) (ws L:List (Key × Nat)) (x:Nx) (cc:CCode) (s:Nat→Int) (K:zc) (ts:List Nat) (r:R):Bool:=
 wW (zAs G ws x.Ts (fun t=>zCo t.θ&&jN t.θ L) K (fun _=>false)
  (xz (@zDv (linSym s K) P (@ev (linSym s K) P code nat fuel) x.q2 (zEl x.pre cc)) (@uO (linSym s K) P (@ev (linSym s K) P code nat fuel) x.q (zIJ x.pre cc) r)) ts)
def zHI (P:Program) (code:FuncId→CFn) (nat:Nats) (fuel:Nat) (G:Nat) (ws L:List (Key × Nat)) (nx:Option Nx) (p:List Stp) (cc:CCode) (rs:List CRes) (s:Nat→Int) (K:zc) (ts:List Nat) (r:R):Bool:=match nx with
 | none=>zIt P code nat fuel p cc rs (linSym s K) r
 | some x=>match r with
  | .ok (.exit i) tm ds h n=>zTa P code nat fuel G ws L x cc s K ts (.ok (.exit i) tm ds h n)
  | r=>zIt P code nat fuel p cc rs (linSym s K) r
def zN0 (P:Program) (code:FuncId→CFn) (nat:Nats) (fuel:Nat) (G:Nat) (ws L:List (Key × Nat)) (Ts:List TS) (nx:Option Nx) (p:List Stp) (cc:CCode) (rs:List CRes) (T:TS) (l:List (Key × List CV)) (s:Nat→Int) (K:zc) (ts:List Nat) (hs:List kM):Bool:=
 wV (kK G ws Ts (fun t=>vt t.θ&&jN t.θ L) K (zHI P code nat fuel G ws L nx p cc rs s K ts) (@zi (linSym s K) P (@ev (linSym s K) P code nat fuel) (zBg p cc) (zAQ T.locs) [] (mkH (mkH .nil T.objs) (zDx l)) T.n) hs)
def zDJ (P:Program) (code:FuncId→CFn) (nat:Nats) (fuel:Nat) (G:Nat) (wins:List Win) (L:List (Key × Nat)) (A:Key→Option Value) (Ts:List TS) (nx:Option Nx) (p:List Stp) (cc:CCode) (rs:List CRes) (w0:World):Prop:=
 ∀ t T,nth Ts t=some T→∀ σ,yF σ 0 T.b→jJ σ T.f→qC σ T.r→LensAre wins L σ→∃ σ' K' l hs ts,(∀ j,j<T.b.length→σ' j=σ j)∧(∀ q∈L,σ' q.2=σ q.2)∧K'.arg=A∧KnownOk σ' K'∧(∀ q∈l,zAA (linSym σ' K') wins w0 (σ 0) q)∧wF T.objs l=true ∧
  zN0 P code nat fuel G (wsOf wins) L Ts nx p cc rs T l σ' K' ts hs=true
theorem zGr [Sym] [SymFact P] {call:yT} (hcall:ym call) (q:List Stp) (y:CCode) {r:R} (h:zX (xz (zDv P call q y) r)):zX r:=
 xW (fun tm ds h n=>jz (P:=P) hcall q y tm ds h n) h
theorem zK2 {σ:Nat→Int} {K:zc} (hK:KnownOk σ K) (hm:P.follows .mixedOrders=true) (hcode:CodeOk P code) (hnat:∀ σ K,KnownOk σ K→@NatsOk (linSym σ K) P nat) {ws:List (Key × Nat)} {cc:CCode} {ts:List Nat}:∀ r,zHI P code nat fuel G ws L nx p cc rs σ K ts r=true→zX r:=by
 intro r h
 unfold zHI at h
 split at h
 · exact zF3 hK hm hcode hnat r h
 · split at h
   · obtain ⟨hs,h1⟩:=kn h
     obtain ⟨o,h2⟩:=zBF h1
     have hc:=jt (fun _ h=>by cases h) h2
     letI S:Sym:=linSym σ K
     haveI hS:SymFact P:=xg hK
     have hcall:yW P (ev P code nat fuel):=zAx (fun call hcall F N=>xf hm hcall) hcode (hnat _ _ hK) fuel
     exact wN hcall.above _ _ (zGr hcall.above _ _ hc)
   · exact zF3 hK hm hcode hnat _ h
theorem zQJ {σ:Nat→Int} {K:zc} (hK:KnownOk σ K) (hlen:LensAre wins L σ) (hA:ArgsAre K.arg wins) (hG:P.globals.size≤G) (hm:P.follows .mixedOrders=true) (hcode:CodeOk P code) (hnat:∀ σ K,KnownOk σ K→@NatsOk (linSym σ K) P nat) {F N:Nat} (hsub:uF p c=some b) (hn:yH c=true)
 {x:Nx} (hnx:zEQ P F N G K.arg wins L w0 fn c p (some x)) {ts:List Nat} {ψ₀:Psi} {g₀:Fam} {n₀:Key} {w₀:World} {r:R} {e:Exit} {a:Act} {w:World}
 (ho:@yw (linSym σ K) P F N ψ₀ g₀ n₀ w₀ r e a w) (hf:zTa P code nat fuel G (wsOf wins) L x (zR P F N c) σ K ts r=true)
 (hb:Below w0.heap.size w0 w₀) (ho0:∀ k o p,g₀ k=some o→o.isRo=false→ψ₀ k=some p→w0.heap.size≤p.blk):QH P p c (zId P fn w0) e a w:=by
 obtain ⟨rfl,⟨xa,xb,bl,hat,hsub2⟩,hok⟩:=hnx
 rw [zLt hat]
 obtain ⟨hl,hr⟩:=uG (P:=P) (F:=F) (N:=N) hat
 have hnab:yH xa=true∧yH xb=true:=by
  have:=zBd hat hn
  simpa [yH] using this
 obtain ⟨hs,h1⟩:=kn hf
 obtain ⟨o,h2⟩:=zBF h1
 rw [hl,hr] at h2
 have hc:=jt (fun _ h=>by cases h) h2
 letI S:Sym:=linSym σ K
 haveI hS:SymFact P:=xg hK
 have hcall:yW P (ev P code nat fuel):=zAx (fun call hcall F N=>xf hm hcall) hcode (hnat _ _ hK) fuel
 have hdraw:j6 P F N (ev P code nat fuel):=xf hm hcall
 have hab:=fun tm ds h n=>jz (P:=P) hcall.above x.q2 (zR P F N xb) tm ds h n
 have hok2:=fun t T σ ψ a w=>hok t T σ ψ a w bl hsub2
 rw [zHM hat] at hok2
 refine ux hcall hdraw x.q xa (zHL hat hsub) hnab.1 ho (zGr hcall.above _ _ hc) fun e a w ho=>?_
 rcases jv hc ho with ⟨rfl,tm',ds',h',n',ψ',g2,g3,g4,g5⟩ | ⟨g1,g2⟩
 · show xb.wp P (QH P x.pre c (zId P fn w0)) a w
   refine zBa hcall hdraw x.q2 xb (Q:=QH P x.pre c (zId P fn w0)) (zDG hat hsub2) hnab.2 g2 g4 fun e'' a'' w'' ho'=>?_
   have ho2:=g5 e'' a'' w'' (yw.trans g3 ho')
   rcases vS h2 ho2 with ⟨rfl,tm,h,n,ψ,t,T,k1,k2,k3,k4,k5⟩ | ⟨_,r',_,k2⟩
   · rw [Bool.and_eq_true] at k4
     obtain ⟨k4,k4L⟩:=k4
     obtain ⟨q0,θr,hθ⟩:∃ q0 θr,t.θ=q0::θr:=by
      unfold zCo at k4
      split at k4
      · rename_i q θr hq; exact ⟨q,θr,hq⟩
      · cases k4
     obtain ⟨σ'',ψT,hi,_⟩:=zKw hK hlen k1 k2 hG hA k5 ⟨q0,by rw [hθ]; rfl⟩ k4L ho0 hb
     exact ⟨rfl,hok2 _ _ _ _ _ _ k3 hi⟩
   · cases k2
 · rcases vS h2 g2 with ⟨rfl,_⟩ | ⟨_,r',_,k2⟩
   · exact absurd rfl g1
   · cases k2
theorem zOM {σ:Nat→Int} {K:zc} (hK:KnownOk σ K) (hlen:LensAre wins L σ) (hA:ArgsAre K.arg wins) (hG:P.globals.size≤G) (hm:P.follows .mixedOrders=true) (hcode:CodeOk P code) (hnat:∀ σ K,KnownOk σ K→@NatsOk (linSym σ K) P nat) {F N:Nat} (hsub:uF p c=some b) (hn:yH c=true)
 (hrs:yu (xO P F N) fn.results.toList=some rs) (hnx:zEQ P F N G K.arg wins L w0 fn c p nx) {ts:List Nat} {ψ₀:Psi} {g₀:Fam} {n₀:Key} {w₀:World} {r:R} {e:Exit} {a:Act} {w:World}
 (ho:@yw (linSym σ K) P F N ψ₀ g₀ n₀ w₀ r e a w) (hf:zHI P code nat fuel G (wsOf wins) L nx p (zR P F N c) rs σ K ts r=true)
 (hb:Below w0.heap.size w0 w₀) (ho0:∀ k o p,g₀ k=some o→o.isRo=false→ψ₀ k=some p→w0.heap.size≤p.blk):QH P p c (zId P fn w0) e a w:=by
 unfold zHI at hf
 split at hf
 · exact zMy hK hm hcode hnat hsub hn hrs ho hf hb ho0
 · split at hf
   · exact zQJ hK hlen hA hG hm hcode hnat hsub hn hnx ho hf hb ho0
   · exact zMy hK hm hcode hnat hsub hn hrs ho hf hb ho0
theorem zJ5 (hm:P.follows .mixedOrders=true) (hcode:CodeOk P code) (hnat:∀ σ K,KnownOk σ K→@NatsOk (linSym σ K) P nat) (hG:P.globals.size≤G) {F N:Nat} (hsub:uF p c=some b) (hn:yH c=true)
 (hrs:yu (xO P F N) fn.results.toList=some rs) (hA:ArgsAre A wins) (hbd:boundIs bound Ts=true)
 (hnx:zEQ P F N G A wins L w0 fn c p nx) (hgood:zDJ P code nat fuel G wins L A Ts nx p (zR P F N c) rs w0):∀ (m:Nat) (t:Nat) (T:TS) (σ:Nat→Int) (ψ:Psi) (a:Act) (w:World),nth Ts t=some T→zNV P F N G A wins L w0 T σ ψ a w→(bound - σ 0).toNat≤m →
 uH P b (QH P p c (zId P fn w0)) a w:=by
 have hnb:yH b=true:=by
  have:∀ {p:List Stp} {c:Code},uF p c=some b→yH c=true→yH b=true:=by
   intro p
   induction p with
   | nil=>
    intro c hs hn
    cases c <;> try (cases hs; done)
    injection hs with hs; subst hs
    simpa [yH] using hn
   | cons x p ih=>
    intro c hs hn
    cases x <;> cases c <;> try (cases hs; done)
    · rename_i x y
      have hn:yH x=true∧yH y=true:=by simpa [yH] using hn
      exact ih hs hn.1
    · rename_i x y
      have hn:yH x=true∧yH y=true:=by simpa [yH] using hn
      exact ih hs hn.2
    · exact ih hs hn
  exact this hsub hn
 have step:∀ (t:Nat) (T:TS) (σ:Nat→Int) (ψ:Psi) (a:Act) (w:World),nth Ts t=some T→zNV P F N G A wins L w0 T σ ψ a w →
  (∀ (t':Nat) (T':TS) (σ':Nat→Int) (ψ':Psi) (a':Act) (w':World),nth Ts t'=some T'→zNV P F N G A wins L w0 T' σ' ψ' a' w'→(bound - σ' 0).toNat<(bound - σ 0).toNat→uH P b (QH P p c (zId P fn w0)) a' w') →
  uH P b (QH P p c (zId P fn w0)) a w:=by
  intro t T σ ψ a w hT hi hrec
  obtain ⟨σ',K',l,hs,ts,hag,hagL,hKA,hK,hl,hap,hpass⟩:=hgood t T hT σ hi.bnd hi.fct hi.rul hi.len
  have hst:=zP5 hi hag hKA hl hap
  obtain ⟨q1,r1,hb1,_⟩:=zAW hbd hT
  have hag0:σ' 0=σ 0:=hag 0 (by rw [hb1]; simp)
  have hm0:∀ k o p,Heap.fam (mkH (mkH .nil T.objs) (zDx l)) k=some o→o.isRo=false→ψ k=some p→w0.heap.size≤p.blk:=by
   intro k o p h1 h2 h3
   rcases uW h1 with ⟨cs,_,rfl⟩ | h1
   · cases h2
   · exact (hi.own k o p h1 h3).2
  letI S:Sym:=linSym σ' K'
  haveI hS:SymFact P:=xg hK
  have hcall:yW P (ev P code nat fuel):=zAx (fun call hcall F N=>xf hm hcall) hcode (hnat _ _ hK) fuel
  have hdraw:j6 P F N (ev P code nat fuel):=xf hm hcall
  unfold zN0 at hpass
  rw [@zAg S P F N p c b hsub] at hpass
  generalize hres:zi P (ev P code nat fuel) (zR P F N b) (zAQ T.locs) [] (mkH (mkH .nil T.objs) (zDx l)) T.n=r at hpass
  obtain ⟨hs',hchk⟩:∃ x,kK G (wsOf wins) Ts (fun t=>vt t.θ&&jN t.θ L) K' (zHI P code nat fuel G (wsOf wins) L nx p (zR P F N c) rs σ' K' ts) r hs=some x:=by
   unfold wV at hpass
   split at hpass
   · rename_i x hx; exact ⟨x,hx⟩
   · cases hpass
  have hclean:zX r:=jt (zK2 hK hm hcode hnat) hchk
  have hsim:=vL hcall hdraw b hnb hst (by rw [hres]; exact hclean)
  rw [hres] at hsim
  refine zG1 (wp_mono hsim fun e a' w' ho=>?_)
  rcases vS hchk ho with ⟨rfl,tm,h,n,ψ',t',T',h1,h2,h3,h4,h5⟩ | ⟨hne,r',h1,h2⟩
  · rw [Bool.and_eq_true] at h4
    obtain ⟨h4,h4L⟩:=h4
    obtain ⟨q0,θr,hθ,e1,e2⟩:∃ q0 θr,t'.θ=q0::θr∧q0.1=1∧q0.2=[(0,1)]:=by
     unfold vt at h4
     split at h4
     · rename_i q θr hq
       rw [Bool.and_eq_true,@za noSym,decide_eq_true_eq] at h4
       exact ⟨q,θr,hq,h4.1,@wT noSym _ _ h4.2⟩
     · cases h4
    obtain ⟨σ'',ψT,hinv,h0⟩:=zKw hK (fun q hq=>by
     obtain ⟨wn,g1,g2⟩:=hi.len q hq
     exact ⟨wn,g1,by rw [hagL q hq]; exact g2⟩) h1 h2 hG (by rw [hKA]; exact hA) h5 ⟨q0,by rw [hθ]; rfl⟩ h4L hm0 hi.blw
    rw [hKA] at hinv
    have hσ:σ'' 0=σ 0+1:=by
     rw [h0 q0 (by rw [hθ]; rfl)]
     unfold evQ
     rw [e1,e2]
     show (1:Int)+(1*σ' 0+0)=_
     rw [hag0]; omega
    obtain ⟨q2,r2,hb2,hle⟩:=zAW hbd h3
    have hbb:=hinv.bnd
    rw [hb2] at hbb
    have:=hbb.1.2
    exact hrec t'.T T' σ'' ψT a' w' h3 hinv (by omega)
  · have:=zOM hK (fun q hq=>by
     obtain ⟨wn,g1,g2⟩:=hi.len q hq
     exact ⟨wn,g1,by rw [hagL q hq]; exact g2⟩) (by rw [hKA]; exact hA) hG hm hcode hnat hsub hn hrs (by rw [hKA]; exact hnx) h1 h2 hi.blw hm0
    cases e <;> first | exact absurd rfl hne | exact this
 intro m
 induction m with
 | zero=>
  intro t T σ ψ a w hT hi hm0
  exact step t T σ ψ a w hT hi fun t' T' σ' ψ' a' w' hT' hi' hlt=>by omega
 | succ m ih=>
  intro t T σ ψ a w hT hi hm0
  exact step t T σ ψ a w hT hi fun t' T' σ' ψ' a' w' hT' hi' hlt=>ih t' T' σ' ψ' a' w' hT' hi' (by omega)
theorem zMN (hm:P.follows .mixedOrders=true) (hcode:CodeOk P code) (hnat:∀ σ K,KnownOk σ K→@NatsOk (linSym σ K) P nat) (hG:P.globals.size≤G) {F N:Nat} (hn:yH c=true)
 (hrs:yu (xO P F N) fn.results.toList=some rs) (hA:ArgsAre A wins) (hbd:boundIs bound Ts=true)
 (hnx:zEQ P F N G A wins L w0 fn c p nx) (hgood:zDJ P code nat fuel G wins L A Ts nx p (zR P F N c) rs w0):LoopOk P F N G A wins L w0 fn c Ts p:=
 fun t T σ ψ a w b hsub hT hi=>zJ5 hm hcode hnat hG hsub hn hrs hA hbd hnx hgood _ t T σ ψ a w hT hi (Nat.le_refl _)
theorem loopOk_fn {cc:CCode} {f:FuncId} (hm:P.follows .mixedOrders=true) (hcode:CodeOk P code) (hnat:∀ σ K,KnownOk σ K→@NatsOk (linSym σ K) P nat) (hG:P.globals.size≤G) (hf:P.funcs[f]? = some fn) (hb:fn.body=some c) (hcf:compFn P f=.mk cc rs) (hA:ArgsAre A wins) (hbd:boundIs bound Ts=true)
 (hnx:zEQ P (frameBits fn c) fn.ntmps G A wins L w0 fn c p nx) (hgood:zDJ P code nat fuel G wins L A Ts nx p cc rs w0):LoopOk P (frameBits fn c) fn.ntmps G A wins L w0 fn c Ts p:=by
 obtain ⟨hrs,hnr,rfl⟩:=zE7 hf hb hcf
 exact zMN hm hcode hnat hG hnr hrs hA hbd hnx hgood
end
theorem zJM {code:FuncId→CFn} {nat:Nats} {fuel:Nat} {f:FuncId} {fn:Func} {c b:Code} {cc:CCode} {p:List Stp} {rs:List CRes} {G:Nat} {wins:List Win} {L:List (Key × Nat)} {A:Key→Option Value} {Ts:List TS} {w0:World}
 {σ:Nat→Int} {K:zc} {args:List CV} {args':Array Value} {n:Key} {hs:List kM} (hK:KnownOk σ K) (hKA:K.arg=A) (hlen:LensAre wins L σ)
 (hm:P.follows .mixedOrders=true) (hcode:CodeOk P code) (hnat:∀ σ K,KnownOk σ K→@NatsOk (linSym σ K) P nat) (hf:P.funcs[f]? = some fn) (hb:fn.body=some c) (hcf:compFn P f=.mk cc rs) (hsub:uF p c=some b)
 (hG:P.globals.size≤G) (hn:G≤n.ix) (hw:zFR G n.ix (wsOf wins)=true) (hA:ArgsAre A wins)
 (hargs:@zS (linSym σ K) (psiW G wins) args args'.toList) (hrun:startOf P code nat fuel G (wsOf wins) L Ts p cc args n (linSym σ K) K hs=true)
 (hgood:LoopOk P (frameBits fn c) fn.ntmps G A wins L w0 fn c Ts p):Calls P f args' w0 fun e w=>e=.returned (.bool true)∧Below w0.heap.size w0 w:=by
 obtain ⟨hrs,hnr,rfl⟩:=zE7 hf hb hcf
 letI S:Sym:=linSym σ K
 haveI hS:SymFact P:=xg hK
 have hcall:yW P (ev P code nat fuel):=zAx (fun call hcall F N=>xf hm hcall) hcode (hnat _ _ hK) fuel
 have hdraw:∀ F N,j6 P F N (ev P code nat fuel):=fun F N=>xf hm hcall
 have hst:St P (frameBits fn c) fn.ntmps (psiW G wins) (qJ args 0 .nil) [] .nil n { tmps:=args'++Array.replicate (fn.ntmps - args'.size) undef,defers:=[] } w0:=
  zCb hcall hdraw hargs (zMQ hG hw) (zRn _ _) (zKI hn hw)
 unfold startOf at hrun
 generalize hres:zDv P (ev P code nat fuel) p (zR P (frameBits fn c) fn.ntmps c) (qJ args 0 .nil) [] .nil n=r at hrun
 obtain ⟨hs',hchk⟩:∃ x,kK G (wsOf wins) Ts (fun t=>zCo t.θ&&jN t.θ L) K (fun _=>false) r hs=some x:=by
  unfold wV at hrun
  split at hrun
  · rename_i x hx; exact ⟨x,hx⟩
  · cases hrun
 have hclean:zX r:=jt (fun _ h=>by cases h) hchk
 refine calls_of_wp_defers hf hb (zBa hcall (hdraw _ _) p c hsub hnr hst (by rw [hres]; exact hclean) fun e a' w' ho=>?_)
 rw [hres] at ho
 rcases vS hchk ho with ⟨rfl,tm,h,n',ψ',t',T',h1,h2,h3,h4,h5⟩ | ⟨_,r',_,h2⟩
 · rw [Bool.and_eq_true] at h4
   obtain ⟨h4,h4L⟩:=h4
   obtain ⟨q0,θr,hθ⟩:∃ q0 θr,t'.θ=q0::θr:=by
    unfold zCo at h4
    split at h4
    · rename_i q θr hq; exact ⟨q,θr,hq⟩
    · cases h4
   obtain ⟨σ'',ψT,hinv,_⟩:=zKw hK hlen h1 h2 hG (by rw [hKA]; exact hA) h5 ⟨q0,by rw [hθ]; rfl⟩ h4L (w0:=w0) (fun k o p h1 _ _=>by
    have h1:getH k .nil=some o:=h1
    rw [jX] at h1; cases h1) (Below.refl _ _)
   rw [hKA] at hinv
   exact ⟨rfl,hgood _ _ _ _ _ _ _ hsub h3 hinv⟩
 · cases h2
def zNv (P:Program) (code:FuncId→CFn) (nat:Nats) (fuel G:Nat) (ws L:List (Key × Nat)) (Ts:List TS) (nx:Option Nx) (p:List Stp) (cc:CCode) (rs:List CRes) (T:TS) (e:Lf):Prop:=
 wF T.objs e.l=true∧∀ (s:Nat→Int) (A:Key→Option Value),∃ hs ts,zN0 P code nat fuel G ws L Ts nx p cc rs T e.l s (e.known A) ts hs=true
def StateGoodM (P:Program) (code:FuncId→CFn) (nat:Nats) (fuel G:Nat) (ws L:List (Key × Nat)) (Ts:List TS) (nx:Option Nx) (p:List Stp) (cc:CCode) (rs:List CRes) (ks:List (Key × Kd)) (T:TS):Prop:=
 ∃ (tree:LTree) (ls:List Lf),leaves ks tree ⟨T.b,T.f,T.r,[],1000⟩=some ls∧(Nat.ble (Nat.succ ks.length) T.b.length&&Nat.ble T.b.length 1000&&zCQ T.b.length L)=true ∧
  AllG (zNv P code nat fuel G ws L Ts nx p cc rs T) ls
theorem passes_allM {code:FuncId→CFn} {nat:Nats} {fuel G:Nat} {wins:List Win} {ws L:List (Key × Nat)} {A:Key→Option Value} {Ts:List TS} {p:List Stp} {cc:CCode} {rs:List CRes} {w0:World} {ks:List (Key × Kd)}
 (hws:wsOf wins=ws) (hA:ArgsAre A wins) (hwin:∀ σ,LensAre wins L σ→WinIs wins w0 σ ks) {nx:Option Nx} (h:AllS (StateGoodM P code nat fuel G ws L Ts nx p cc rs ks) Ts):zDJ P code nat fuel G wins L A Ts nx p cc rs w0:=by
 intro t T hT σ hb hf hr hlen
 obtain ⟨tree,ls,h1,h2,h3⟩:=zJP h hT
 rw [Bool.and_eq_true,Bool.and_eq_true] at h2
 have g1:=@zJ noSym _ _ h2.1.1
 have g2:=@zJ noSym _ _ h2.1.2
 obtain ⟨e,hm,σ',r1,r2⟩:=yS (wins:=wins) (w0:=w0) (i:=σ 0) tree _ σ h1 ⟨hb,hf,hr,fun q hq=>by cases hq⟩ (hwin σ hlen) rfl (by show ks.length<T.b.length; omega) g2 (Nat.le_refl _)
 obtain ⟨hap,hall⟩:=zBn h3 e hm
 obtain ⟨hs,ts,hpass⟩:=hall σ' A
 refine ⟨σ',e.known A,e.l,hs,ts,fun j hj=>r2 j (.inl hj),fun q hq=>r2 _ (.inl (zCk h2.2 q hq)),rfl,r1.known A,fun q hq=>r1.w q hq σ' _ hA wl,hap,?_⟩
 rw [hws]
 exact hpass
theorem calls_treeM {code:FuncId→CFn} {nat:Nats} {fuel:Nat} {f:FuncId} {fn:Func} {c b:Code} {cc:CCode} {p:List Stp} {rs:List CRes} {G:Nat} {wins:List Win} {ws L:List (Key × Nat)} {A:Key→Option Value} {Ts:List TS} {w0:World}
 {ks:List (Key × Kd)} {tree:LTree} {e0:Lf} {ls:List Lf} {σ:Nat→Int} {args:List CV} {args':Array Value} {n:Key} (hws:wsOf wins=ws)
 (hls:leaves ks tree e0=some ls) (hchk:(Nat.ble (Nat.succ ks.length) e0.b.length&&Nat.ble e0.b.length 1000&&Nat.ble 1000 e0.u&&zCQ e0.b.length L)=true)
 (hall:AllG (fun e=>∀ (s:Nat→Int) (A:Key→Option Value),∃ hs,startOf P code nat fuel G ws L Ts p cc args n (linSym s (e.known A)) (e.known A) hs=true) ls)
 (h0:zB8 wins w0 (σ 0) σ e0) (hlen:LensAre wins L σ) (hwin:∀ σ,LensAre wins L σ→WinIs wins w0 σ ks)
 (hm:P.follows .mixedOrders=true) (hcode:CodeOk P code) (hnat:∀ σ K,KnownOk σ K→@NatsOk (linSym σ K) P nat) (hf:P.funcs[f]? = some fn) (hb:fn.body=some c) (hcf:compFn P f=.mk cc rs) (hsub:uF p c=some b)
 (hG:P.globals.size≤G) (hn:G≤n.ix) (hw:zFR G n.ix ws=true) (hA:ArgsAre A wins)
 (hargs:∀ σ' K',K'.arg=A→(∀ j,(j<e0.b.length∨(1000≤j∧j<e0.u))→σ' j=σ j)→@zS (linSym σ' K') (psiW G wins) args args'.toList)
 (hgood:LoopOk P (frameBits fn c) fn.ntmps G A wins L w0 fn c Ts p):Calls P f args' w0 fun e w=>e=.returned (.bool true)∧Below w0.heap.size w0 w:=by
 simp only [Bool.and_eq_true] at hchk
 obtain ⟨⟨⟨g1,g2⟩,g3⟩,g4⟩:=hchk
 have g1:=@zJ noSym _ _ g1
 obtain ⟨e,hmem,σ',r1,r2⟩:=yS (wins:=wins) (w0:=w0) (i:=σ 0) tree e0 σ hls h0 (hwin σ hlen) rfl (by omega) (@zJ noSym _ _ g2) (@zJ noSym _ _ g3)
 obtain ⟨hs,hrun⟩:=zBn hall e hmem σ' A
 subst hws
 exact zJM (K:=e.known A) (r1.known A) rfl (fun q hq=>by
  obtain ⟨wn,h1,h2⟩:=hlen q hq
  exact ⟨wn,h1,by rw [r2 _ (.inl (zCk g4 q hq))]; exact h2⟩) hm hcode hnat hf hb hcf hsub hG hn hw hA (hargs σ' _ rfl r2) hrun hgood
section
variable {code:FuncId→CFn} {nat:Nats} {fuel:Nat} {p:List Stp} {rs:List CRes} {G:Nat} {ws L:List (Key × Nat)} {ks:List (Key × Kd)} {Ts:List TS} {nx:Option Nx} {cc:CCode} {T:TS}
def mkTs (g:Nat→TS) (m n:Nat):List TS:=Nat.rec (motive:=fun _=>List TS) [] (fun k ih=>g (Nat.sub m (Nat.succ k))::ih) n
theorem mkTs_all {Q:TS→Prop} {g:Nat→TS} {m:Nat} (h:∀ i,i<m→Q (g i)):∀ {n:Nat},n≤m→AllS Q (mkTs g m n)
 | 0,_=>zP4
 | n+1,hn=>zNy (h (m - (n+1)) (by omega)) (mkTs_all h (n:=n) (by omega))
end
section
variable {G:Nat} {ws:List (Key × Nat)} {Ts:List TS} {ok:kM→Bool} {K:zc} {fin:R→Bool}
def zBX (f:Nat→Tm→xP→Heap→Key→Bool) (fin:R→Bool):R→List Nat→Option (List Nat)
 | .ok .normal tm ds h n,t::r=>match f t tm ds h n with
  | true=>some r
  | false=>none
 | .ok (.exit i) tm ds h n,r=>match fin (.ok (.exit i) tm ds h n) with
  | true=>some r
  | false=>none
 | .ok .ret tm ds h n,r=>match fin (.ok .ret tm ds h n) with
  | true=>some r
  | false=>none
 | .fork a b,r=>match zBX f fin a r with
  | some r=>zBX f fin b r
  | none=>none
 | _,_=>none
theorem zHH {f:Nat→Tm→xP→Heap→Key→Bool} (hf:∀ t tm ds h n,f t tm ds h n=true→vP G ws Ts ok K t tm ds h n=true):∀ {r:R} {l l':List Nat},zBX f fin r l=some l'→zAs G ws Ts ok K fin r l=some l'
 | .ok .normal tm ds h n,[],_,hc=>by cases hc
 | .ok .normal tm ds h n,t::l,l',hc=>by
  unfold zBX at hc
  split at hc
  · rename_i hl
    unfold zAs
    rw [hf _ _ _ _ _ hl]
    exact hc
  · cases hc
 | .ok (.exit i) tm ds h n,l,l',hc=>hc
 | .ok .ret tm ds h n,l,l',hc=>hc
 | .ret ..,l,l',hc=>by unfold zBX at hc; cases hc
 | .err _,l,l',hc=>by unfold zBX at hc; cases hc
 | .fork a b,l,l',hc=>by
  unfold zBX at hc
  split at hc
  · rename_i r hr
    unfold zAs
    rw [zHH hf hr]
    exact zHH hf hc
  · cases hc
def zDk (t:Nat):List (Nat × TS)→Option TS
 | []=>none
 | q::r=>match Nat.beq q.1 t with
  | true=>some q.2
  | false=>zDk t r
def zL4 (G:Nat) (ws:List (Key × Nat)) (acc:List (Nat × TS)) (ok:kM→Bool) (K:zc) (t:Nat) (tm:Tm) (ds:xP) (h:Heap) (n:Key):Bool:=match ds with
 | []=>match zDk t acc with
  | some T=>zBB t T tm h fun x=>ok x&&zLY G ws T x.ks x.θ K tm h&&Nat.ble (Nat.succ n.ix) 65535
  | none=>false
 | _=>false
theorem zQH {acc:List (Nat × TS)} (hacc:∀ t T,zDk t acc=some T→nth Ts t=some T) {t:Nat} {tm:Tm} {ds:xP} {h:Heap} {n:Key} (hl:zL4 G ws acc ok K t tm ds h n=true):vP G ws Ts ok K t tm ds h n=true:=by
 unfold zL4 at hl
 split at hl
 · split at hl
   · rename_i T hT
     unfold vP
     simp only [hacc t T hT]
     rw [zBY]
     exact hl
   · cases hl
 · cases hl
def zES (g:Nat→TS) (m:Nat):List Nat→List (Nat × TS)→(List (Nat × TS)→Bool)→Bool
 | [],acc,k=>k acc
 | t::r,acc,k=>match zDk t acc with
  | some _=>zES g m r acc k
  | none=>Nat.ble (Nat.succ t) m&&zPA (g t) fun T=>zES g m r ((t,T)::acc) k
theorem zCh {g:Nat→TS} {m:Nat} {k:List (Nat × TS)→Bool}:∀ {l:List Nat} {acc:List (Nat × TS)},zES g m l acc k=true→(∀ t T,zDk t acc=some T→T=g t∧t<m) →
 ∃ acc',(∀ t T,zDk t acc'=some T→T=g t∧t<m)∧k acc'=true
 | [],acc,h,ha=>⟨acc,ha,h⟩
 | t::r,acc,h,ha=>by
  unfold zES at h
  split at h
  · exact zCh h ha
  · rw [Bool.and_eq_true,zBY] at h
    refine zCh h.2 fun t' T hT=>?_
    unfold zDk at hT
    split at hT
    · rename_i e
      injection hT with hT
      have e:=@zu noSym _ _ e
      simp only at e hT
      subst e
      exact ⟨hT.symm,@zJ noSym _ _ h.1⟩
    · exact ha t' T hT
end
theorem zIq {g:Nat→TS} {m:Nat}:∀ {n t:Nat},n≤m→t<n→nth (mkTs g m n) t=some (g (m - n+t))
 | 0,t,_,h=>by omega
 | n+1,0,_,_=>rfl
 | n+1,t+1,h1,h2=>by
  show nth (mkTs g m n) t=_
  rw [zIq (n:=n) (t:=t) (by omega) (by omega)]
  congr 2
  omega
def zRA:List (List Nat × List Nat)→List Nat
 | []=>[]
 | q::r=>q.1++zRA r
section
variable {code:FuncId→CFn} {nat:Nats} {fuel:Nat} {p:List Stp} {rs:List CRes} {G:Nat} {ws L:List (Key × Nat)} {ks:List (Key × Kd)} {nx:Option Nx} {cc:CCode} {T:TS}
end
def zDD (f:Lf→List Nat × List Nat→Bool) (ls:List Lf) (tss:List (List Nat × List Nat)):Nat→Nat→Bool
 | _,0=>true
 | a,n+1=>(match nth ls a,nth tss a with
  | some e,some t=>zIc e (fun e=>f e t)
  | _,_=>false)&&zDD f ls tss (Nat.succ a) n
theorem zC6 {f:Lf→List Nat × List Nat→Bool} {ls:List Lf} {tss:List (List Nat × List Nat)}:∀ {n a:Nat},zDD f ls tss a n=true→∀ i,a≤i→i<a+n→∃ e t,nth ls i=some e∧f e t=true
 | 0,a,_,i,h1,h2=>by omega
 | n+1,a,h,i,h1,h2=>by
  unfold zDD at h
  rw [Bool.and_eq_true] at h
  rcases Nat.eq_or_lt_of_le h1 with rfl | h1
  · have h3:=h.1
    split at h3
    · rename_i e t he ht
      rw [zLh] at h3
      exact ⟨e,t,he,h3⟩
    · cases h3
  · exact zC6 h.2 i h1 (by omega)
def zTF (l:List (List Nat × List Nat)) (a n:Nat):List (List Nat × List Nat):=(l.drop a).take n
section
variable {code:FuncId→CFn} {nat:Nats} {fuel:Nat} {p:List Stp} {rs:List CRes} {G:Nat} {ws L:List (Key × Nat)} {ks:List (Key × Kd)} {nx:Option Nx} {cc:CCode} {T:TS}
def stateYP (P:Program) (code:FuncId→CFn) (nat:Nats) (fuel:Nat) (G:Nat) (ws L:List (Key × Nat)) (ks:List (Key × Kd)) (g:Nat→TS) (m:Nat) (nx:Option Nx) (p:List Stp) (cc:CCode) (rs:List CRes) (T:TS) (tree:LTree) (tss:List (List Nat × List Nat)) (a n:Nat) (s:Nat→Int) (A:Key→Option Value):Bool:=
 zPA T fun T=>zES g m (zRA (zTF tss a n)) [] fun acc=>match leaves ks tree ⟨T.b,T.f,T.r,[],1000⟩ with
 | some ls=>zDD (fun e t=>wF T.objs e.l&&wW (zBX (zL4 G ws acc (fun t=>vt t.θ&&jN t.θ L) (e.known A)) (zHI P code nat fuel G ws L nx p cc rs s (e.known A) t.2) (@zi (linSym s (e.known A)) P (@ev (linSym s (e.known A)) P code nat fuel) (zBg p cc) (zAQ T.locs) [] (mkH (mkH .nil T.objs) (zDx e.l)) T.n) t.1)) ls tss a n
 | none=>false
def stateY0 (ks:List (Key × Kd)) (L:List (Key × Nat)) (T:TS) (tree:LTree) (N:Nat):Bool:=
 zPA T fun T=>(match leaves ks tree ⟨T.b,T.f,T.r,[],1000⟩ with
 | some ls=>Nat.beq ls.length N
 | none=>false)&&(Nat.ble (Nat.succ ks.length) T.b.length&&Nat.ble T.b.length 1000&&zCQ T.b.length L)
theorem stateYP_good {g:Nat→TS} {m N:Nat} {tree:LTree} {tss:List (List Nat × List Nat)} (h0:stateY0 ks L T tree N=true)
 (h:∀ i,i<N→∃ a n,a≤i∧i<a+n∧∀ s A,stateYP P code nat fuel G ws L ks g m nx p cc rs T tree tss a n s A=true):StateGoodM P code nat fuel G ws L (mkTs g m m) nx p cc rs ks T:=by
 unfold stateY0 at h0
 rw [zBY,Bool.and_eq_true] at h0
 obtain ⟨h1,h2⟩:=h0
 split at h1
 · rename_i ls hls
   have hN:=@zu noSym _ _ h1
   have key:∀ e∈ls,∀ (s:Nat→Int) (A:Key→Option Value),∃ t:List Nat × List Nat,wF T.objs e.l=true∧∃ acc:List (Nat × TS),(∀ t T,zDk t acc=some T→nth (mkTs g m m) t=some T)∧wW (zBX (zL4 G ws acc (fun t=>vt t.θ&&jN t.θ L) (e.known A)) (zHI P code nat fuel G ws L nx p cc rs s (e.known A) t.2) (@zi (linSym s (e.known A)) P (@ev (linSym s (e.known A)) P code nat fuel) (zBg p cc) (zAQ T.locs) [] (mkH (mkH .nil T.objs) (zDx e.l)) T.n) t.1)=true:=by
    intro e he s A
    obtain ⟨i,hi,hie⟩:=List.mem_iff_getElem.1 he
    obtain ⟨a,n,q1,q2,q3⟩:=h i (by omega)
    have h3:=q3 s A
    unfold stateYP at h3
    rw [zBY] at h3
    obtain ⟨acc,ha,h3⟩:=zCh h3 (fun t T hT=>by cases hT)
    simp only [hls] at h3
    obtain ⟨e',t,g1,g2⟩:=zC6 h3 i q1 q2
    have:e'=e:=by
     rw [@nth_eq noSym,List.getElem?_eq_getElem hi] at g1
     injection g1 with g1
     rw [← g1,hie]
    subst this
    rw [Bool.and_eq_true] at g2
    exact ⟨t,g2.1,acc,fun t T hT=>by
     obtain ⟨e,hlt⟩:=ha t T hT
     rw [zIq (Nat.le_refl _) hlt,e,Nat.sub_self,Nat.zero_add],g2.2⟩
   refine ⟨tree,ls,hls,h2,zMk fun e he=>⟨?_,fun s A=>?_⟩⟩
   · exact (key e he (fun _=>0) (fun _=>none)).choose_spec.1
   · obtain ⟨t,_,acc,hacc,hr⟩:=key e he s A
     have hr':wW (zAs G ws (mkTs g m m) (fun t=>vt t.θ&&jN t.θ L) (e.known A) (zHI P code nat fuel G ws L nx p cc rs s (e.known A) t.2) (@zi (linSym s (e.known A)) P (@ev (linSym s (e.known A)) P code nat fuel) (zBg p cc) (zAQ T.locs) [] (mkH (mkH .nil T.objs) (zDx e.l)) T.n) t.1)=true:=by
      unfold wW at hr ⊢
      split at hr
      · rename_i x hx
        rw [zHH (fun t tm ds h n hl=>zQH hacc hl) hx]
      · cases hr
     obtain ⟨hs,hp⟩:=kn hr'
     exact ⟨hs,t.2,hp⟩
 · cases h1
end
end
end Go.Ev
