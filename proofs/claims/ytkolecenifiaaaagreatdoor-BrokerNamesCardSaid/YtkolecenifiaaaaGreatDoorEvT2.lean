/- A verified evaluator for the model's code: EvCov, EvLoop, EvSlide, EvInv, EvTwo. -/
import Derived.Test.YtkolecenifiaaaaGreatDoorEvSym
set_option linter.unusedSectionVars false
set_option linter.unusedVariables false
set_option linter.unusedSimpArgs false
namespace Go.Ev
noncomputable section
variable {P:Program}
abbrev TH:=List (Int × LL)
def vz (θ:TH):LL→Option (Int × LL)
 | []=>some (0,[])
 | p::r=>match nth θ p.1,vz θ r with
  | some q,some s=>some (p.2*q.1+s.1,wy (kg p.2 q.2) s.2)
  | _,_=>none
def qX (σs σT:Nat→Int) (θ:TH):Prop:=∀ j q,nth θ j=some q→σT j=q.1+evL σs q.2
theorem vQ {σs σT:Nat→Int} {θ:TH} (hθ:qX σs σT θ):∀ {l:LL} {s:Int × LL},vz θ l=some s→evL σT l=s.1+evL σs s.2
 | [],s,h=>by
  injection h with h; subst h
  simp [evL]
 | p::r,s,h=>by
  unfold vz at h
  split at h
  · rename_i q u hq hu
    injection h with h; subst h
    have h1:=hθ _ _ hq
    have h2:=vQ hθ hu
    show p.2*σT p.1+evL σT r=_
    rw [h1,h2,qu,xy,Int.mul_add]
    omega
  · cases h
def zAr (θ:TH) (e:SE) (v:CV):Bool:=match zBn v with
 | some (k,c,l)=>match vz θ e.l with
  | some s=>kEq e.k k&&zj (e.c+s.1) c&&j6 s.2 l
  | none=>false
 | none=>false
def zm (m:zC) (k:Key):Option Key:=match zn k m with
 | some (.cells (.ptr b _::_))=>some b
 | _=>none
def wD (ρ:zC) (k j:Key):Bool:=match zm ρ k with
 | some b=>Nat.beq b.ix j.ix
 | none=>false
def zIv (k:IntKind) (v:CV):Bool:=match v with
 | .anyi j=>kEq k j
 | v=>match zBn v with
  | some (j,_,_)=>kEq k j
  | none=>false
def zIZ:List (List Nat)→List (List Nat)→Bool
 | [],[]=>true
 | a::l,b::m=>qC a b&&zIZ l m
 | _,_=>false
theorem zH7:∀ {a b:List (List Nat)},zIZ a b=true→a=b
 | [],[],_=>rfl
 | [],_::_,h=>by cases h
 | _::_,[],h=>by cases h
 | a::l,b::m,h=>by
  unfold zIZ at h
  rw [Bool.and_eq_true,@jB zP,decide_eq_true_eq] at h
  rw [h.1,zH7 h.2]
mutual
def yK (ρ:zC) (θ:TH):CV→CV→Bool
 | .any,_=>true
 | .sym e,v=>zAr θ e v
 | .bool a,.bool b=>a == b
 | .nat a,.nat b=>Nat.beq a b
 | .int k a,.int j b=>kEq k j&&zj a b
 | .anyi k,v=>zIv k v
 | .str a,.str b=>qC a b
 | .nilptr,.nilptr=>true
 | .ptr k o,.ptr j p=>wD ρ k j&&Nat.beq o p
 | .nilsl,.nilsl=>true
 | .sl k o l c e x,.sl k' o' l' c' e' x'=>wD ρ k k'&&Nat.beq o o'&&Nat.beq l l'&&Nat.beq e e'&&x == x'&&(Nat.beq c c' || (!x&&Nat.ble c c'))
 | .nilmap,.nilmap=>true
 | .map k,.map j=>wD ρ k j
 | .func f a b,.func g c d=>decide (f=g)&&wZ ρ θ a c&&wZ ρ θ b d
 | .nilfunc,.nilfunc=>true
 | .iface t v,.iface u w=>Nat.beq t u&&yK ρ θ v w
 | .niliface,.niliface=>true
 | .agg a,.agg b=>wZ ρ θ a b
 | .tup a,.tup b=>wZ ρ θ a b
 | .sst a,.sst b=>wZ ρ θ a b
 | .sst a,.str s=>wZ ρ θ a (x8 s)
 | .few i t,.str s=>match nth θ i with
  | some q=>match q.1,q.2 with
   | .ofNat c,[]=>match nth t c with
    | some x=>qC x s
    | none=>false
   | _,_=>false
  | none=>false
 | .few i t,.few j u=>match nth θ i with
  | some q=>zj q.1 0&&j6 q.2 [(j,1)]&&zIZ t u
  | none=>false
 | _,_=>false
def wZ (ρ:zC) (θ:TH):List CV→List CV→Bool
 | [],[]=>true
 | a::as,b::bs=>yK ρ θ a b&&wZ ρ θ as bs
 | _,_=>false
end
def zA7 (ρ:zC) (ψs ψT:Psi):Prop:=∀ k j p,wD ρ k j=true→ψs j=some p→∃ p',ψT k=some p'∧p'.blk=p.blk∧p'.off=p.off∧p'.sz=p.sz
section
variable {σs σT:Nat→Int} {Ks KT:zY} {θ:TH} {ρ:zC} {ψs ψT:Psi}
theorem zOF (hθ:qX σs σT θ) {e:SE} {d:CV} (h:zAr θ e d=true) {v:Value} (hv:@zH (linSym σs Ks) ψs d v):v=.int e.k (evE σT e):=by
 unfold zAr at h
 split at h
 · rename_i k c l hf
   split at h
   · rename_i s hs
     rw [Bool.and_eq_true,Bool.and_eq_true,@yo zP,@za zP,decide_eq_true_eq,decide_eq_true_eq] at h
     have h1:=qP d hf hv
     have h2:=vQ hθ hs
     have h3:=@qq zP _ _ h.2
     rw [h1,h.1.1,← h.1.2]
     unfold evE
     rw [h2,h3,Int.add_assoc]
   · cases h
 · cases h
theorem zPr {k:IntKind} {d:CV} (h:zIv k d=true) {v:Value} (hv:@zH (linSym σs Ks) ψs d v):∃ n,v=.int k n:=by
 unfold zIv at h
 split at h
 · rename_i j
   rw [@yo zP,decide_eq_true_eq] at h
   subst h
   exact (@yk (linSym σs Ks) _ _ _).1 hv
 · split at h
   · rename_i j c l hf
     rw [@yo zP,decide_eq_true_eq] at h
     subst h
     exact ⟨_,qP d hf hv⟩
   · cases h
mutual
theorem qT (hθ:qX σs σT θ) (hψ:zA7 ρ ψs ψT):∀ (c d:CV) {v:Value},yK ρ θ c d=true→@zH (linSym σs Ks) ψs d v→@zH (linSym σT KT) ψT c v
 | .any,_,_,_,_=>@x7 (linSym σT KT) _ _
 | .sym e,d,v,h,hv=>by
  rw [yK] at h
  rw [@zq (linSym σT KT)]
  exact zOF hθ h hv
 | .anyi k,d,v,h,hv=>by
  rw [yK] at h
  rw [@yk (linSym σT KT)]
  exact zPr h hv
 | .bool a,d,v,h,hv=>by
  cases d <;> try (simp [yK] at h; done)
  simp only [yK,beq_iff_eq] at h
  subst h
  rw [@zJ (linSym σs Ks)] at hv
  rw [@zJ (linSym σT KT)]; exact hv
 | .nat a,d,v,h,hv=>by
  cases d <;> try (simp [yK] at h; done)
  simp only [yK] at h
  obtain rfl:=@yD zP _ _ h
  rw [@zX (linSym σs Ks)] at hv
  rw [@zX (linSym σT KT)]; exact hv
 | .int k a,d,v,h,hv=>by
  cases d <;> try (simp [yK] at h; done)
  simp only [yK,Bool.and_eq_true,@yo zP,@za zP,decide_eq_true_eq] at h
  obtain ⟨rfl,rfl⟩:=h
  rw [@zg (linSym σs Ks)] at hv
  rw [@zg (linSym σT KT)]; exact hv
 | .str a,d,v,h,hv=>by
  cases d <;> try (simp [yK] at h; done)
  simp only [yK,@jB zP,decide_eq_true_eq] at h
  subst h
  rw [@ze (linSym σs Ks)] at hv
  rw [@ze (linSym σT KT)]; exact hv
 | .nilptr,d,v,h,hv=>by
  cases d <;> try (simp [yK] at h; done)
  rw [@xW (linSym σs Ks)] at hv
  rw [@xW (linSym σT KT)]; exact hv
 | .ptr k o,d,v,h,hv=>by
  cases d <;> try (simp [yK] at h; done)
  simp only [yK,Bool.and_eq_true] at h
  obtain rfl:=@yD zP _ _ h.2
  rw [@zu (linSym σs Ks)] at hv
  obtain ⟨p,hp,rfl⟩:=hv
  obtain ⟨p',h1,h2,h3,h4⟩:=hψ _ _ _ h.1 hp
  rw [@zu (linSym σT KT)]
  exact ⟨p',h1,by rw [h2,h3]⟩
 | .nilsl,d,v,h,hv=>by
  cases d <;> try (simp [yK] at h; done)
  rw [@zw (linSym σs Ks)] at hv
  rw [@zw (linSym σT KT)]; exact hv
 | .sl k o l c e x,d,v,h,hv=>by
  cases d <;> try (simp [yK] at h; done)
  rename_i k' o' l' c' e' x'
  simp only [yK,Bool.and_eq_true,beq_iff_eq] at h
  obtain ⟨⟨⟨⟨⟨hk,ho⟩,hl⟩,he⟩,hx⟩,hc⟩:=h
  obtain rfl:=@yD zP _ _ ho
  obtain rfl:=@yD zP _ _ hl
  obtain rfl:=@yD zP _ _ he
  subst hx
  rw [@yF (linSym σs Ks)] at hv
  obtain ⟨p,y,cap',hp,rfl,h1,h2,h3,h4⟩:=hv
  obtain ⟨p',g1,g2,g3,g4⟩:=hψ _ _ _ hk hp
  rw [@yF (linSym σT KT)]
  refine ⟨p',y,cap',g1,by rw [g2],?_,h2,?_,?_⟩
  · rw [Bool.or_eq_true,Bool.and_eq_true] at hc
    rcases hc with hc | hc
    · rw [@yD zP _ _ hc]; exact h1
    · have:=@zL zP _ _ hc.2; omega
  · intro hx
    subst hx
    rw [Bool.or_eq_true,Bool.and_eq_true] at hc
    rcases hc with hc | hc
    · rw [@yD zP _ _ hc]; exact h3 rfl
    · simp at hc
  · rw [g3,g4]; exact h4
 | .nilmap,d,v,h,hv=>by
  cases d <;> try (simp [yK] at h; done)
  rw [@yS (linSym σs Ks)] at hv
  rw [@yS (linSym σT KT)]; exact hv
 | .map k,d,v,h,hv=>by
  cases d <;> try (simp [yK] at h; done)
  simp only [yK] at h
  rw [@yq (linSym σs Ks)] at hv
  obtain ⟨p,hp,rfl⟩:=hv
  obtain ⟨p',h1,h2,h3,h4⟩:=hψ _ _ _ h hp
  rw [@yq (linSym σT KT)]
  exact ⟨p',h1,by rw [h2]⟩
 | .func f a b,d,v,h,hv=>by
  cases d <;> try (simp [yK] at h; done)
  simp only [yK,Bool.and_eq_true,decide_eq_true_eq] at h
  obtain ⟨⟨rfl,h1⟩,h2⟩:=h
  rw [@xH (linSym σs Ks)] at hv
  obtain ⟨a',b',rfl,g1,g2⟩:=hv
  rw [@xH (linSym σT KT)]
  exact ⟨a',b',rfl,kv hθ hψ a _ h1 g1,kv hθ hψ b _ h2 g2⟩
 | .nilfunc,d,v,h,hv=>by
  cases d <;> try (simp [yK] at h; done)
  rw [@xK (linSym σs Ks)] at hv
  rw [@xK (linSym σT KT)]; exact hv
 | .iface t x,d,v,h,hv=>by
  cases d <;> try (simp [yK] at h; done)
  simp only [yK,Bool.and_eq_true] at h
  obtain rfl:=@yD zP _ _ h.1
  rw [@yf (linSym σs Ks)] at hv
  obtain ⟨y,rfl,g⟩:=hv
  rw [@yf (linSym σT KT)]
  exact ⟨y,rfl,qT hθ hψ x _ h.2 g⟩
 | .niliface,d,v,h,hv=>by
  cases d <;> try (simp [yK] at h; done)
  rw [@yj (linSym σs Ks)] at hv
  rw [@yj (linSym σT KT)]; exact hv
 | .agg a,d,v,h,hv=>by
  cases d <;> try (simp [yK] at h; done)
  simp only [yK] at h
  rw [@yn (linSym σs Ks)] at hv
  obtain ⟨a',rfl,g⟩:=hv
  rw [@yn (linSym σT KT)]
  exact ⟨a',rfl,kv hθ hψ a _ h g⟩
 | .tup a,d,v,h,hv=>by
  cases d <;> try (simp [yK] at h; done)
  simp only [yK] at h
  rw [@yW (linSym σs Ks)] at hv
  obtain ⟨a',rfl,g⟩:=hv
  rw [@yW (linSym σT KT)]
  exact ⟨a',rfl,kv hθ hψ a _ h g⟩
 | .sst a,d,v,h,hv=>by
  cases d with
  | sst c=>
   simp only [yK] at h
   rw [@zy (linSym σs Ks)] at hv
   obtain ⟨b,rfl,g⟩:=hv
   rw [@zy (linSym σT KT)]
   exact ⟨b,rfl,kv hθ hψ a _ h g⟩
  | str s=>
   simp only [yK] at h
   rw [@ze (linSym σs Ks)] at hv
   obtain ⟨b,rfl,hb⟩:=hv
   rw [@zy (linSym σT KT)]
   refine ⟨b,rfl,kv hθ hψ a _ h ?_⟩
   have:=@zA2 (linSym σs Ks) ψs b
   rw [hb,Array.toList_map] at this
   exact this
  | _=>simp [yK] at h
 | .few i t,d,v,h,hv=>by
  have hval:∀ (σ:Nat→Int) (K:zY) (i:Nat),@Sym.val (linSym σ K) ⟨.i64,0,[(i,1)]⟩=.int .i64 (σ i):=fun σ K i=>by
   show Value.int .i64 (0+(1*σ i+0))=_
   congr 1; omega
  cases d with
  | str s=>
   unfold yK at h
   split at h
   · rename_i q hq
     obtain ⟨q1,q2⟩:=q
     simp only at h
     split at h
     · rename_i c
       split at h
       · rename_i x hx
         rw [@jB zP,decide_eq_true_eq] at h
         subst h
         have h1:=hθ _ _ hq
         rw [@ze (linSym σs Ks)] at hv
         obtain ⟨b,rfl,hb⟩:=hv
         rw [@jp (linSym σT KT)]
         refine ⟨c,b,?_,rfl,?_⟩
         · rw [hval,h1]
           simp [evL]
         · rw [@yg zP] at hx
           rw [hx,hb]
       · cases h
     · cases h
   · cases h
  | few j u=>
   unfold yK at h
   split at h
   · rename_i q hq
     rw [Bool.and_eq_true,Bool.and_eq_true,@za zP,decide_eq_true_eq] at h
     have h1:=hθ _ _ hq
     rw [h.1.1,@qq zP _ _ h.1.2] at h1
     have h2:=zH7 h.2
     subst h2
     rw [@jp (linSym σs Ks)] at hv
     obtain ⟨m,b,g1,rfl,g3⟩:=hv
     rw [hval] at g1
     rw [@jp (linSym σT KT)]
     refine ⟨m,b,?_,rfl,g3⟩
     rw [hval,h1,← g1]
     congr 1
     show (0:Int)+(1*σs j+0)=_
     omega
   · cases h
  | _=>simp [yK] at h
 | .win ..,d,v,h,hv=>by
  cases d <;> simp [yK] at h
 | .elt ..,d,v,h,hv=>by
  cases d <;> simp [yK] at h
theorem kv (hθ:qX σs σT θ) (hψ:zA7 ρ ψs ψT):∀ (cs ds:List CV) {l:List Value},wZ ρ θ cs ds=true→@zS (linSym σs Ks) ψs ds l→@zS (linSym σT KT) ψT cs l
 | [],[],l,_,hl=>by
  rw [@zM (linSym σs Ks)] at hl
  rw [@zM (linSym σT KT)]; exact hl
 | [],_::_,_,h,_=>by simp [wZ] at h
 | _::_,[],_,h,_=>by simp [wZ] at h
 | c::cs,d::ds,l,h,hl=>by
  simp only [wZ,Bool.and_eq_true] at h
  rw [@zd (linSym σs Ks)] at hl
  obtain ⟨v,r,rfl,h1,h2⟩:=hl
  exact (@zW (linSym σT KT) _ _ _ _ _).2 ⟨qT hθ hψ c d h.1 h1,kv hθ hψ cs ds h.2 h2⟩
end
def qY (ρ:zC) (θ:TH):List CV→List CV→Bool
 | [],_=>true
 | a::as,b::bs=>yK ρ θ a b&&qY ρ θ as bs
 | _::_,[]=>false
def zHf (ρ:zC) (θ:TH):List CE→List CE→Bool
 | [],[]=>true
 | a::as,b::bs=>yK ρ θ a.key b.key&&yK ρ θ a.val b.val&&zHf ρ θ as bs
 | _,_=>false
def zUt:List Nat→List Nat→Bool
 | [],_=>true
 | _::_,[]=>false
 | a::x,b::y=>match Nat.beq a b with
  | true=>zUt x y
  | false=>Nat.ble a b
def zV8 (a b:CV):Bool:=match a,b with
 | .str x,.str y=>zUt x y
 | .nat x,.nat y=>Nat.ble x y
 | _,_=>true
def zT3 (e:CE):List CE→List CE
 | []=>[e]
 | c::l=>match zV8 e.key c.key with
  | true=>e::c::l
  | false=>c::zT3 e l
def vT:List CE→List CE
 | []=>[]
 | e::l=>zT3 e (vT l)
theorem zHL {e:CE}:∀ {l:List CE},(zT3 e l).Perm (e::l)
 | []=>List.Perm.refl _
 | c::l=>by
  unfold zT3
  split
  · exact List.Perm.refl _
  · exact (List.Perm.cons c zHL).trans (List.Perm.swap e c l)
theorem zH8:∀ {l:List CE},(vT l).Perm l
 | []=>List.Perm.refl _
 | e::l=>zHL.trans (List.Perm.cons e zH8)
def zEq (b:Nat):List CE→Bool
 | []=>true
 | e::r=>!(Nat.beq b e.born)&&zEq b r
def upB:List CE→Nat→Bool
 | [],_=>true
 | e::r,clock=>Nat.ble (Nat.succ e.born) clock&&zEq e.born r&&upB r clock
def zTO:List CE→Nat→Nat→Bool
 | [],i,clock=>Nat.beq i clock
 | e::r,i,clock=>Nat.beq e.born i&&zTO r (Nat.succ i) clock
def zTN (ρ:zC) (θ:TH):List (CV × CV)→List (CV × CV)→Bool
 | [],[]=>true
 | a::as,b::bs=>yK ρ θ a.1 b.1&&yK ρ θ a.2 b.2&&zTN ρ θ as bs
 | _,_=>false
def zNI (ρ:zC) (θ:TH):List (CV × CV)→Bool
 | []=>true
 | a::as=>yK ρ θ a.2 (.str [])&&zNI ρ θ as
def zBv (ρ:zC) (θ:TH):CObj→CObj→Bool
 | .cells a,.cells b=>qY ρ θ a b
 | .cells a,.full _ b=>qY ρ θ a b
 | .map es c,.map es' c'=>zHf ρ θ es (vT es')&&zTO es 0 c&&upB (vT es') c'
 | .mapz a,.mapz b=>zTN ρ θ a b
 | .mapz a,.map [] _=>zNI ρ θ a
 | .seen k,.seen j=>wD ρ k j
 | .hid,.hid=>true
 | _,_=>false
theorem zDz:∀ {as bs:List CV},qY ρ θ as bs=true→as.length≤bs.length∧∀ (i:Nat) (c:CV),as[i]? = some c→∃ d,bs[i]? = some d∧yK ρ θ c d=true
 | [],bs,_=>⟨Nat.zero_le _,fun i c h=>by simp at h⟩
 | _::_,[],h=>by cases h
 | a::as,b::bs,h=>by
  unfold qY at h
  rw [Bool.and_eq_true] at h
  obtain ⟨h1,h2⟩:=zDz h.2
  refine ⟨by simp; exact h1,fun i c hc=>?_⟩
  cases i with
  | zero=>simp at hc; subst hc; exact ⟨b,rfl,h.1⟩
  | succ i=>exact h2 i c (by simpa using hc)
theorem wP (hθ:qX σs σT θ) (hψ:zA7 ρ ψs ψT) {as bs:List CV} (h:qY ρ θ as bs=true) {w:World} {p p':Pl} (h1:p'.blk=p.blk) (h2:p'.off=p.off) (h3:p'.sz=p.sz)
 (hc:@yc (linSym σs Ks) ψs w p bs):@yc (linSym σT KT) ψT w p' as:=by
 obtain ⟨arr,elem,fz,g1,g2,g3,g4,g5⟩:=hc
 obtain ⟨q1,q2⟩:=zDz h
 refine ⟨arr,elem,fz,by rw [h1]; exact g1,by rw [h3]; exact g2,by rw [h2,h3]; omega,by rw [h3]; exact g4,fun i c hi=>?_⟩
 obtain ⟨d,hd,hcd⟩:=q2 i c hi
 obtain ⟨x,hx,hr⟩:=g5 i d hd
 exact ⟨x,by rw [h2]; exact hx,qT hθ hψ c d hcd hr⟩
def qD (bs:List CE) (clock:Nat) (j:Nat):Nat:=match bs[j]? with
 | some e=>e.born
 | none=>clock+(j - bs.length)
theorem zJx:∀ {bs:List CE} {clock:Nat},upB bs clock=true→∀ (j:Nat) (e:CE),bs[j]? = some e→e.born<clock
 | [],clock,h,j,e,he=>by simp at he
 | b::bs,clock,h,j,e,he=>by
  unfold upB at h
  rw [Bool.and_eq_true,Bool.and_eq_true] at h
  have h1:=@zL zP _ _ h.1.1
  cases j with
  | zero=>simp at he; subst he; omega
  | succ j=>exact zJx h.2 j e (by simpa using he)
theorem zGw {b:Nat}:∀ {l:List CE},zEq b l=true→∀ e∈l,e.born≠b
 | [],_,e,he=>by cases he
 | x::l,h,e,he=>by
  unfold zEq at h
  rw [Bool.and_eq_true] at h
  rcases List.mem_cons.1 he with rfl | he
  · intro q
    rw [← q,@qe zP] at h; simp at h
  · exact zGw h.2 e he
theorem zQ7:∀ {bs:List CE} {clock:Nat},upB bs clock=true→∀ (i j:Nat) (a b:CE),i<j→bs[i]? = some a→bs[j]? = some b→b.born≠a.born
 | [],clock,h,i,j,a,b,_,h1,_=>by simp at h1
 | c::bs,clock,h,i,j,a,b,hij,h1,h2=>by
  unfold upB at h
  rw [Bool.and_eq_true,Bool.and_eq_true] at h
  cases j with
  | zero=>omega
  | succ j=>
   have h2:bs[j]? = some b:=by simpa using h2
   cases i with
   | zero=>
    simp at h1; subst h1
    exact zGw h.1.2 b (List.mem_of_getElem? h2)
   | succ i=>exact zQ7 h.2 i j a b (by omega) (by simpa using h1) h2
theorem zOX {bs:List CE} {clock:Nat} (h:upB bs clock=true):∀ a b,qD bs clock a=qD bs clock b→a=b:=by
 have key:∀ a b,a<b→qD bs clock a≠qD bs clock b:=by
  intro a b hab
  unfold qD
  cases ha:bs[a]? with
  | none=>
   have hla:=List.getElem?_eq_none_iff.1 ha
   rw [List.getElem?_eq_none (by omega)]
   simp only; omega
  | some x=>
   cases hb:bs[b]? with
   | none=>
    have:=zJx h a x ha
    simp only; omega
   | some y=>
    have:=zQ7 h a b x y hab ha hb
    simp only; exact fun e=>this e.symm
 intro a b e
 rcases Nat.lt_trichotomy a b with q | q | q
 · exact absurd e (key a b q)
 · exact q
 · exact absurd e.symm (key b a q)
theorem v1 {bs:List CE} {clock:Nat} (k:Nat):qD bs clock (bs.length+k)=clock+k:=by
 unfold qD
 rw [List.getElem?_eq_none (by omega)]
 simp only; omega
theorem zQX {bs:List CE} {clock:Nat} (h:upB bs clock=true) (k x:Nat):x<bs.length+k ↔ qD bs clock x<clock+k:=by
 unfold qD
 cases hx:bs[x]? with
 | none=>
  have:=List.getElem?_eq_none_iff.1 hx
  simp only; omega
 | some e=>
  have h1:=zJx h x e hx
  have h2:=(List.getElem?_eq_some_iff.1 hx).1
  simp only
  exact ⟨fun _=>by omega,fun _=>by omega⟩
theorem zSy {bs:List CE} {clock:Nat} (h:upB bs clock=true) {ck:Nat→Nat} (hc:wL ck clock):wL (fun j=>ck (qD bs clock j)) bs.length:=by
 refine ⟨fun a b hab=>zOX h a b (hc.one _ _ hab),fun k x=>?_,fun k=>?_⟩
 · show _ ↔ ck (qD bs clock x)<ck (qD bs clock (bs.length+k))
   rw [v1,zQX h k x]
   exact hc.cmp k _
 · show ck (qD bs clock (bs.length+k))=ck (qD bs clock bs.length)+k
   have h0:qD bs clock bs.length=clock:=v1 0
   rw [v1,h0,hc.run]
theorem zCw:∀ {as bs:List CE},zHf ρ θ as bs=true→as.length=bs.length
 | [],[],_=>rfl
 | [],_::_,h=>by cases h
 | _::_,[],h=>by cases h
 | a::as,b::bs,h=>by
  unfold zHf at h
  rw [Bool.and_eq_true] at h
  simp [zCw h.2]
theorem zIh:∀ {es:List CE} {i clock:Nat},zTO es i clock=true→clock=i+es.length∧∀ (j:Nat) (e:CE),es[j]? = some e→e.born=i+j
 | [],i,clock,h=>⟨by have:=@yD zP _ _ h; simp; omega,fun j e he=>by simp at he⟩
 | a::es,i,clock,h=>by
  unfold zTO at h
  rw [Bool.and_eq_true] at h
  have h1:=@yD zP _ _ h.1
  obtain ⟨h2,h3⟩:=zIh h.2
  refine ⟨by simp; omega,fun j e he=>?_⟩
  cases j with
  | zero=>simp at he; subst he; omega
  | succ j=>have:=h3 j e (by simpa using he); omega
theorem zJL (hθ:qX σs σT θ) (hψ:zA7 ρ ψs ψT) {ck ck':Nat→Nat}:∀ {as bs:List CE} {l:List MapEntry},zHf ρ θ as bs=true →
 (∀ (j:Nat) (a b:CE),as[j]? = some a→bs[j]? = some b→ck' a.born=ck b.born)→@yM (linSym σs Ks) ψs ck bs l→@yM (linSym σT KT) ψT ck' as l
 | [],[],l,_,_,hl=>hl
 | [],_::_,_,h,_,_=>by cases h
 | _::_,[],_,h,_,_=>by cases h
 | a::as,b::bs,l,h,hb,hl=>by
  unfold zHf at h
  rw [Bool.and_eq_true,Bool.and_eq_true] at h
  obtain ⟨e,r,rfl,⟨h1,h2,h3⟩,h4⟩:=hl
  exact ⟨e,r,rfl,⟨qT hθ hψ _ _ h.1.1 h1,qT hθ hψ _ _ h.1.2 h2,by rw [h3]; exact (hb 0 a b rfl rfl).symm⟩,
   zJL hθ hψ h.2 (fun j x y hx hy=>hb (j+1) x y (by simpa using hx) (by simpa using hy)) h4⟩
theorem zTm {S:Sym} {ψ:Psi} {ck:Nat→Nat} {cs ds:List CE} (hp:ds.Perm cs):∀ {l:List MapEntry},@yM S ψ ck cs l→∃ l',l'.Perm l∧@yM S ψ ck ds l':=by
 induction hp with
 | nil=>intro l h; exact ⟨l,List.Perm.refl _,h⟩
 | cons x _ ih=>
  rintro l ⟨e,r,rfl,hx,hr⟩
  obtain ⟨r',g1,g2⟩:=ih hr
  exact ⟨e::r',List.Perm.cons e g1,e,r',rfl,hx,g2⟩
 | swap x y m=>
  rintro l ⟨e,r,rfl,hx,e',r',rfl,hy,hr⟩
  exact ⟨e'::e::r',List.Perm.swap e e' r',e',_,rfl,hy,e,r',rfl,hx,hr⟩
 | trans _ _ ih1 ih2=>
  intro l h
  obtain ⟨l1,g1,g2⟩:=ih2 h
  obtain ⟨l2,g3,g4⟩:=ih1 g2
  exact ⟨l2,g3.trans g1,g4⟩
theorem zI7 (hθ:qX σs σT θ) (hψ:zA7 ρ ψs ψT):∀ {as bs:List (CV × CV)} {l:List MapEntry},zTN ρ θ as bs=true→@vL (linSym σs Ks) ψs bs l→@vL (linSym σT KT) ψT as l
 | [],[],_,_,h=>h
 | [],_::_,_,h,_=>by cases h
 | _::_,[],_,h,_=>by cases h
 | a::as,b::bs,l,h,hz=>by
  unfold zTN at h
  rw [Bool.and_eq_true,Bool.and_eq_true] at h
  rcases hz with ⟨h1,h2⟩ | ⟨e,m,rfl,h1,h2,h3⟩
  · exact .inl ⟨qT hθ hψ _ _ h.1.2 h1,zI7 hθ hψ h.2 h2⟩
  · exact .inr ⟨e,m,rfl,qT hθ hψ _ _ h.1.1 h1,qT hθ hψ _ _ h.1.2 h2,zI7 hθ hψ h.2 h3⟩
theorem zKn (Ks:zY) (hθ:qX σs σT θ) (hψ:zA7 ρ ψs ψT):∀ {as:List (CV × CV)},zNI ρ θ as=true→@vL (linSym σT KT) ψT as []
 | [],_=>rfl
 | a::as,h=>by
  unfold zNI at h
  rw [Bool.and_eq_true] at h
  exact .inl ⟨qT (Ks:=Ks) hθ hψ _ _ h.1 ((@ze (linSym σs Ks) _ _ _).2 ⟨.empty,rfl,rfl⟩),zKn Ks hθ hψ h.2⟩
def zCU (o:Option CObj) (ck:Nat→Nat):Nat→Nat:=match o with
 | some (.map es clock)=>fun j=>ck (qD (vT es) clock j)
 | _=>ck
theorem zNT (hθ:qX σs σT θ) (hψ:zA7 ρ ψs ψT) {o o':CObj} (h:zBv ρ θ o o'=true) {w:World} {p p':Pl} (h1:p'.blk=p.blk) (h2:p'.off=p.off) (h3:p'.sz=p.sz) (h4:p'.ck=zCU (some o') p.ck)
 (ho:@xM (linSym σs Ks) ψs w p o'):@xM (linSym σT KT) ψT w p' o∧o.isRo=false∧o'.isRo=false:=by
 unfold zBv at h
 split at h
 · exact ⟨wP hθ hψ h h1 h2 h3 ho,rfl,rfl⟩
 · exact ⟨wP hθ hψ h h1 h2 h3 (@jW.toCells (linSym σs Ks) _ _ _ _ _ ho),rfl,rfl⟩
 · rename_i es c es' c'
   rw [Bool.and_eq_true,Bool.and_eq_true] at h
   refine ⟨?_,rfl,rfl⟩
   obtain ⟨arr,g1,⟨l0,gp,g2⟩,g3⟩:=ho
   have hlen:=zCw h.1.1
   obtain ⟨n1,n2⟩:=zIh h.1.2
   have hc:c=(vT es').length:=by omega
   have h4:p'.ck=fun j=>p.ck (qD (vT es') c' j):=h4
   obtain ⟨l1,gq,g2⟩:=zTm (zH8 (l:=es')) g2
   refine ⟨arr,?_,⟨l1,gq.trans gp,?_⟩,?_⟩
   · rw [h1,g1,h4,hc]
     show _=some (Obj.map arr (p.ck (qD (vT es') c' (vT es').length)))
     have h0:qD (vT es') c' (vT es').length=c':=v1 0
     rw [h0]
   · refine zJL hθ hψ h.1.1 (fun j a b ha hb=>?_) g2
     rw [h4]
     show p.ck (qD (vT es') c' a.born)=_
     rw [n2 j a ha,Nat.zero_add]
     unfold qD
     rw [hb]
   · rw [h4,hc]
     exact zSy h.2 g3
 · obtain ⟨arr,c,g1,l,gp,g2⟩:=ho
   exact ⟨⟨arr,c,by rw [h1]; exact g1,l,gp,zI7 hθ hψ h g2⟩,rfl,rfl⟩
 · obtain ⟨arr,g1,⟨l,gp,g2⟩,_⟩:=ho
   have g2:l=[]:=g2
   subst g2
   exact ⟨⟨arr,_,by rw [h1]; exact g1,[],gp,zKn Ks hθ hψ h⟩,rfl,rfl⟩
 · obtain ⟨arr,e,fz,g1,g2,g3,g4,q,l,c,g5,g6,g7,g8,g9,g10⟩:=ho
   obtain ⟨q',k1,k2,k3,k4⟩:=hψ _ _ _ h g6
   exact ⟨⟨arr,e,fz,by rw [h1]; exact g1,by rw [h3]; exact g2,by rw [h2,h3]; exact g3,by rw [h3]; exact g4,q',l,c,by rw [h2,k2,k3]; exact g5,k1,g7,g8,g9,by rw [k4,k3]; exact g10⟩,rfl,rfl⟩
 · obtain ⟨arr,e,fz,g1,g2,g3,g4,g5⟩:=ho
   exact ⟨⟨arr,e,fz,by rw [h1]; exact g1,by rw [h3]; exact g2,by rw [h2,h3]; exact g3,g4,by rw [h2,h3]; exact g5⟩,rfl,rfl⟩
 · cases h
end
theorem zKq {ρ:zC} {θ:TH} {o o':CObj} (h:zBv ρ θ o o'=true):o'.isRo=false:=by
 unfold zBv at h
 split at h
 · rfl
 · rfl
 · rfl
 · rfl
 · rfl
 · rfl
 · rfl
 · cases h
structure Win where
 key:Key
 esz:Nat
 base:Option Addr
 B:Nat
 x:Nat
 len:Nat
 cap:Nat
 sz:Nat
structure TS where
 locs:List (Nat × CV)
 objs:List (Key × CObj)
 n:Key
 b:List (Int × Int)
 f:List (LL × Int × Int)
 r:List SRule:=[]
 sl:List (Nat × List Nat):=[]
def zN (n:Nat) (k:Nat→Bool):Bool:=match n with
 | 0=>k 0
 | m+1=>k (Nat.succ m)
theorem je {n:Nat} {k:Nat→Bool}:zN n k=k n:=by cases n <;> rfl
def zI (z:Int) (k:Int→Bool):Bool:=match z with
 | .ofNat n=>zN n fun n=>k (.ofNat n)
 | .negSucc n=>zN n fun n=>k (.negSucc n)
theorem zD1 {z:Int} {k:Int→Bool}:zI z k=k z:=by
 cases z with
 | ofNat n=>exact je (k:=fun n=>k (.ofNat n))
 | negSucc n=>exact je (k:=fun n=>k (.negSucc n))
def zDg (d:Dg) (k:Dg→Bool):Bool:=match d with
 | .d0=>k .d0
 | .d1=>k .d1
 | .d2=>k .d2
 | .d3=>k .d3
 | .d4=>k .d4
 | .d5=>k .d5
 | .d6=>k .d6
 | .d7=>k .d7
 | .d8=>k .d8
 | .d9=>k .d9
 | .d10=>k .d10
 | .d11=>k .d11
 | .d12=>k .d12
 | .d13=>k .d13
 | .d14=>k .d14
 | .d15=>k .d15
theorem zUJ {d:Dg} {k:Dg→Bool}:zDg d k=k d:=by cases d <;> rfl
def zK (b:Key) (k:Key→Bool):Bool:=match b with
 | .mk a b c d=>zDg a fun a=>zDg b fun b=>zDg c fun c=>zDg d fun d=>k (.mk a b c d)
theorem zAk {b:Key} {k:Key→Bool}:zK b k=k b:=by
 cases b
 unfold zK
 simp only [zUJ]
def zLL:LL→(LL→Bool)→Bool
 | [],k=>k []
 | (i,a)::l,k=>zN i fun i=>zI a fun a=>zLL l fun l=>k ((i,a)::l)
theorem zLO:∀ {l:LL} {k:LL→Bool},zLL l k=k l
 | [],_=>rfl
 | (i,a)::l,k=>by unfold zLL; rw [je,zD1,zLO]
def zSE (e:SE) (k:SE→Bool):Bool:=match e with
 | ⟨j,c,l⟩=>zI c fun c=>zLL l fun l=>k ⟨j,c,l⟩
theorem zDA {e:SE} {k:SE→Bool}:zSE e k=k e:=by
 obtain ⟨j,c,l⟩:=e
 show (zI c fun c=>zLL l fun l=>k ⟨j,c,l⟩)=k ⟨j,c,l⟩
 rw [zD1,zLO]
mutual
def zV:CV→(CV→Bool)→Bool
 | .agg l,k=>zVs l fun l=>k (.agg l)
 | .tup l,k=>zVs l fun l=>k (.tup l)
 | .sst l,k=>zVs l fun l=>k (.sst l)
 | .iface t v,k=>zV v fun v=>k (.iface t v)
 | .func f a b,k=>zVs a fun a=>zVs b fun b=>k (.func f a b)
 | .sym e,k=>zSE e fun e=>k (.sym e)
 | .bool b,k=>k (.bool b)
 | .nat n,k=>zN n fun n=>k (.nat n)
 | .int j n,k=>zI n fun n=>k (.int j n)
 | .anyi j,k=>k (.anyi j)
 | .str s,k=>k (.str s)
 | .nilptr,k=>k .nilptr
 | .ptr b o,k=>zK b fun b=>zN o fun o=>k (.ptr b o)
 | .nilsl,k=>k .nilsl
 | .sl b o l c e x,k=>zK b fun b=>zN o fun o=>zN l fun l=>zN c fun c=>zN e fun e=>k (.sl b o l c e x)
 | .nilmap,k=>k .nilmap
 | .map b,k=>zK b fun b=>k (.map b)
 | .nilfunc,k=>k .nilfunc
 | .niliface,k=>k .niliface
 | .win a b c d,k=>zSE c fun c=>zSE d fun d=>k (.win a b c d)
 | .big n,k=>k (.big n)
 | .few i t,k=>zN i fun i=>k (.few i t)
 | .elt b o i m,k=>k (.elt b o i m)
 | .any,k=>k .any
def zVs:List CV→(List CV→Bool)→Bool
 | [],k=>k []
 | v::l,k=>zV v fun v=>zVs l fun l=>k (v::l)
end
mutual
theorem zFk:∀ (c:CV) (k:CV→Bool),zV c k=k c
 | .agg l,k=>by unfold zV; exact zBN l _
 | .tup l,k=>by unfold zV; exact zBN l _
 | .sst l,k=>by unfold zV; exact zBN l _
 | .iface t v,k=>by unfold zV; exact zFk v _
 | .func f a b,k=>by unfold zV; rw [zBN a,zBN b]
 | .sym e,k=>by unfold zV; exact zDA
 | .bool b,k=>by unfold zV; rfl
 | .nat n,k=>by unfold zV; exact je
 | .int j n,k=>by unfold zV; exact zD1
 | .anyi j,k=>by unfold zV; rfl
 | .str s,k=>by unfold zV; rfl
 | .nilptr,k=>by unfold zV; rfl
 | .ptr b o,k=>by unfold zV; rw [zAk,je]
 | .nilsl,k=>by unfold zV; rfl
 | .sl b o l c e x,k=>by unfold zV; rw [zAk,je,je,je,je]
 | .nilmap,k=>by unfold zV; rfl
 | .map b,k=>by unfold zV; exact zAk
 | .nilfunc,k=>by unfold zV; rfl
 | .niliface,k=>by unfold zV; rfl
 | .win a b c d,k=>by unfold zV; rw [zDA,zDA]
 | .big n,k=>by unfold zV; rfl
 | .few i t,k=>by unfold zV; exact je
 | .elt b o i m,k=>by unfold zV; rfl
 | .any,k=>by unfold zV; rfl
theorem zBN:∀ (l:List CV) (k:List CV→Bool),zVs l k=k l
 | [],k=>by unfold zVs; rfl
 | v::l,k=>by unfold zVs; rw [zFk v,zBN l]
end
def zEs:List CE→(List CE→Bool)→Bool
 | [],k=>k []
 | ⟨a,b,n⟩::l,k=>zV a fun a=>zV b fun b=>zN n fun n=>zEs l fun l=>k (⟨a,b,n⟩::l)
theorem zQW:∀ {l:List CE} {k:List CE→Bool},zEs l k=k l
 | [],_=>rfl
 | ⟨a,b,n⟩::l,k=>by unfold zEs; rw [zFk,zFk,je,zQW]
def zZ:List (CV × CV)→(List (CV × CV)→Bool)→Bool
 | [],k=>k []
 | (a,b)::l,k=>zV a fun a=>zV b fun b=>zZ l fun l=>k ((a,b)::l)
theorem zT9:∀ {l:List (CV × CV)} {k:List (CV × CV)→Bool},zZ l k=k l
 | [],_=>rfl
 | (a,b)::l,k=>by unfold zZ; rw [zFk,zFk,zT9]
def zO (o:CObj) (k:CObj→Bool):Bool:=match o with
 | .cells l=>zVs l fun l=>k (.cells l)
 | .map es c=>zEs es fun es=>zN c fun c=>k (.map es c)
 | .mapz es=>zZ es fun es=>k (.mapz es)
 | .seen b=>zK b fun b=>k (.seen b)
 | o=>k o
theorem zBX {o:CObj} {k:CObj→Bool}:zO o k=k o:=by
 cases o with
 | cells l=>exact zBN l _
 | map es c=>
  show (zEs es fun es=>zN c fun c=>k (.map es c))=_
  rw [zQW,je]
 | mapz es=>exact zT9
 | seen b=>exact zAk (k:=fun b=>k (.seen b))
 | _=>rfl
def zOs:List (Key × CObj)→(List (Key × CObj)→Bool)→Bool
 | [],k=>k []
 | (j,o)::l,k=>zK j fun j=>zO o fun o=>zOs l fun l=>k ((j,o)::l)
theorem zRN:∀ {l:List (Key × CObj)} {k:List (Key × CObj)→Bool},zOs l k=k l
 | [],_=>rfl
 | (j,o)::l,k=>by unfold zOs; rw [zAk,zBX,zRN]
def zLc:List (Nat × CV)→(List (Nat × CV)→Bool)→Bool
 | [],k=>k []
 | (j,o)::l,k=>zN j fun j=>zV o fun o=>zLc l fun l=>k ((j,o)::l)
theorem zMD:∀ {l:List (Nat × CV)} {k:List (Nat × CV)→Bool},zLc l k=k l
 | [],_=>rfl
 | (j,o)::l,k=>by unfold zLc; rw [je,zFk,zMD]
def zB:List (Int × Int)→(List (Int × Int)→Bool)→Bool
 | [],k=>k []
 | (a,b)::l,k=>zI a fun a=>zI b fun b=>zB l fun l=>k ((a,b)::l)
theorem zNi:∀ {l:List (Int × Int)} {k:List (Int × Int)→Bool},zB l k=k l
 | [],_=>rfl
 | (a,b)::l,k=>by unfold zB; rw [zD1,zD1,zNi]
def zF:List (LL × Int × Int)→(List (LL × Int × Int)→Bool)→Bool
 | [],k=>k []
 | (m,a,b)::l,k=>zLL m fun m=>zI a fun a=>zI b fun b=>zF l fun l=>k ((m,a,b)::l)
theorem zR4:∀ {l:List (LL × Int × Int)} {k:List (LL × Int × Int)→Bool},zF l k=k l
 | [],_=>rfl
 | (m,a,b)::l,k=>by unfold zF; rw [zLO,zD1,zD1,zR4]
def zTS (T:TS) (k:TS→Bool):Bool:=match T with
 | ⟨l,o,n,b,f,r,s⟩=>zLc l fun l=>zOs o fun o=>zK n fun n=>zB b fun b=>zF f fun f=>k ⟨l,o,n,b,f,r,s⟩
theorem zMr {T:TS} {k:TS→Bool}:zTS T k=k T:=by
 obtain ⟨l,o,n,b,f,r,s⟩:=T
 show (zLc l fun l=>zOs o fun o=>zK n fun n=>zB b fun b=>zF f fun f=>k ⟨l,o,n,b,f,r,s⟩)=_
 rw [zMD,zRN,zAk,zNi,zR4]
def zCo:List (Nat × CV)→Tm
 | []=>.nil
 | p::r=>ko p.2 (Loc.ofNat p.1) (zCo r)
def mkH (h:zC):List (Key × CObj)→zC
 | []=>h
 | p::r=>yu (some p.2) p.1 (mkH h r)
def j3:List (Key × CObj)→List Key→zC
 | p::r,j::js=>yu (some (.cells [.ptr j 0])) p.1 (j3 r js)
 | _,_=>.nil
def jo:List (Key × CObj)→List Key→zC
 | p::r,j::js=>yu (some (.cells [.ptr p.1 0])) j (jo r js)
 | _,_=>.nil
def qU (ρ inv:zC) (θ:TH) (h:zC) (lo hi:Nat):List (Key × CObj)→List Key→Bool
 | [],[]=>true
 | p::r,j::js=>wD ρ p.1 j&&wD inv j p.1&&Nat.ble lo p.1.ix&&Nat.ble (Nat.succ p.1.ix) hi&&(match zn j h with
  | some o=>zBv ρ θ p.2 o
  | none=>false)&&qU ρ inv θ h lo hi r js
 | _,_=>false
def findW:List Win→Key→Option Win
 | [],_=>none
 | w::r,k=>match decide (w.key=k) with
  | true=>some w
  | false=>findW r k
def zMk:List (Key × Nat)→Key→Nat→Bool
 | [],_,_=>false
 | p::r,k,z=>match decide (p.1=k) with
  | true=>Nat.beq p.2 z
  | false=>zMk r k z
def zGM (lo hi:Nat):List (Key × Nat)→Bool
 | []=>true
 | p::r=>Nat.ble lo p.1.ix&&Nat.ble (Nat.succ p.1.ix) hi&&zGM lo hi r
def wsOf (l:List Win):List (Key × Nat):=l.map fun w=>(w.key,w.esz)
def zCC (ρ:zC) (k:Key):Bool:=match zm ρ k with
 | none=>true
 | some _=>false
def zUH (ρ:zC) (θ:TH) (ws:List (Key × Nat)) (c d:CV):Bool:=match c with
 | .win k z e n=>match d with
  | .win k' z' _ n'=>decide (k=k')&&Nat.beq z z'&&(zRu e (sv 0)&&zMk ws k z || zRu e ⟨.i64,0,[]⟩&&zMk ws k 0&&Nat.beq z 1)&&zAr θ n (.sym n')&&zCC ρ k&&Nat.ble 1 z
  | _=>false
 | c=>yK ρ θ c d
def zJW (ρ:zC) (θ:TH) (ws:List (Key × Nat)) (tm:Tm):List (Nat × CV)→Bool
 | []=>true
 | p::r=>Nat.ble p.1 271&&zUH ρ θ ws p.2 (qZ (Loc.ofNat p.1) tm)&&zJW ρ θ ws tm r
def inQ (s:Int) (lo hi:Int):Option (Int × Int)→Bool
 | some u=>decide (lo≤s+u.1)&&decide (s+u.2≤hi)
 | none=>false
theorem zIy {s lo hi:Int} {o:Option (Int × Int)} (h:inQ s lo hi o=true):∃ u,o=some u∧lo≤s+u.1∧s+u.2≤hi:=by
 unfold inQ at h
 split at h
 · rename_i u
   rw [Bool.and_eq_true,decide_eq_true_eq,decide_eq_true_eq] at h
   exact ⟨u,rfl,h.1,h.2⟩
 · cases h
def zRS (K:zY):List (Int × Int)→TH→Bool
 | [],[]=>true
 | q::r,s::θ=>(inQ s.1 q.1 q.2 (zFf K.b s.2) || inQ s.1 q.1 q.2 (zLb K.b s.2 K.f))&&zRS K r θ
 | _,_=>false
def zQz (K:zY) (θ:TH):List (LL × Int × Int)→Bool
 | []=>true
 | q::r=>(match vz θ q.1 with
  | some s=>inQ s.1 q.2.1 q.2.2 (zQw s.2 K.f) || inQ s.1 q.2.1 q.2.2 (zLb K.b s.2 K.f)
  | none=>false)&&zQz K θ r
def zLJ (θ:TH) (r q:SRule):Bool:=(match vz θ r.x.l with
 | some s=>decide (r.op=q.op)&&kEq r.x.k q.x.k&&Nat.beq r.c q.c&&zj (r.x.c+s.1) q.x.c&&j6 s.2 q.x.l
 | none=>false)&&(match r.v,q.v with
 | .sym e,.sym e'=>zAr θ e (.sym e')
 | _,_=>false)
def zEF (θ:TH) (r:SRule):List SRule→Bool
 | []=>false
 | q::l=>zLJ θ r q || zEF θ r l
def neC (θ:TH) (K:zY) (r:SRule):Bool:=match r.v,r.c with
 | .bool false,0=>kEq r.x.k .i64&&(match vz θ r.x.l with
  | some s=>neX (r.x.c+s.1) s.2 (kg (-1) s.2) K.rules || neK K (r.x.c+s.1) s.2 K.rules || (match rng K s.2 with
   | some q=>decide (0<r.x.c+s.1+q.1) || decide (r.x.c+s.1+q.2<0)
   | none=>false)
  | none=>false)
 | _,_=>false
def zMP (θ:TH):CV→Option (Int × LL)
 | .sym e=>match vz θ e.l with
  | some s=>some (e.c+s.1,s.2)
  | none=>none
 | _=>none
def isE (z:Int × LL):CV→Bool
 | .sym e=>zj e.c z.1&&j6 e.l z.2
 | _=>false
def zNf (z:Int × LL):List CV→Option (List CV)
 | []=>none
 | c::l=>match isE z c with
  | true=>some l
  | false=>zNf z l
def zTl (θ:TH):List CV→List CV→Option (Int × LL)
 | [],_=>none
 | [c],_=>zMP θ c
 | c::l,m=>match zMP θ c with
  | some z=>match zNf z m with
   | some m'=>zTl θ l m'
   | none=>none
  | none=>none
def eqZ (a b:Int × LL):Bool:=zj a.1 b.1&&j6 a.2 b.2
def eqR (K:zY) (x:Int × LL) (e:SE):Bool:=match rng K (wy x.2 (kg (-1) e.l)) with
 | some q=>decide (q.1=q.2)&&decide (x.1+q.1=e.c)
 | none=>false
def zVh (K:zY) (x:Int × LL) (qx:SE) (m:List CV) (q:SRule):Bool:=match q.op,q.v with
 | .add,.agg (.sym n::l)=>eqR K x q.x&&zj n.c qx.c&&j6 n.l qx.l&&CV.beqs l m
 | _,_=>false
def zUY (K:zY) (x:Int × LL) (qx:SE) (m:List CV):List SRule→Bool:=List.rec (motive:=fun _=>Bool) false (fun q _ ih=>zVh K x qx m q || ih)
def zS3 (θ:TH) (K:zY) (r:SRule) (l:List CV) (q:SRule):Bool:=match q.op,q.v with
 | .sub,.agg m=>Nat.beq r.c (Nat.succ q.c)&&(match zMP θ (.sym r.x),zTl θ l m with
  | some x,some z=>isE x (.sym q.x) || (eqZ x z&&zUY K x q.x m K.rules)
  | _,_=>false)
 | _,_=>false
def zU9 (θ:TH) (K:zY) (r:SRule) (l:List CV):List SRule→Bool:=List.rec (motive:=fun _=>Bool) false (fun q _ ih=>zS3 θ K r l q || ih)
def zUO (θ:TH) (K:zY) (r:SRule):Bool:=match r.v with
 | .agg []=>(match zMP θ (.sym r.x) with
  | some x=>(match rng K x.2 with
   | some q=>decide (x.1+q.2≤Int.ofNat r.c)
   | none=>false)
  | none=>false)
 | .agg l=>zU9 θ K r l K.rules
 | _=>false
def zAp (θ:TH) (K:zY):List SRule→Bool
 | []=>true
 | r::rs=>(match r.op with
  | .eql=>neC θ K r
  | .sub=>zUO θ K r
  | _=>zEF θ r K.rules)&&zAp θ K rs
theorem w9 (k:IntKind) (n:Int) (e:SE):zb k n≠.sym e:=by
 cases n with
 | ofNat m=>cases m <;> cases k <;> (intro h; cases h)
 | negSucc m=>cases m <;> (intro h; cases h)
theorem zLw (k:IntKind) (n:Nat) (e:SE):ji k n≠.sym e:=by
 cases n <;> cases k <;> (intro h; cases h)
theorem zKt {op:BinOp} {k:IntKind} {a b:Int} {e:SE} (h:yQ op k a b=some (.sym e)):False:=by
 cases op <;> first
  | (have h:some (zb k _)=some (.sym e):=h
     injection h with h; exact w9 _ _ _ h)
  | (have h:some (CV.bool _)=some (.sym e):=h
     injection h with h; cases h)
  | (have h:Bool.rec (motive:=fun _=>Option CV) (some (zb k _)) none (zj b (.ofNat 0))=some (.sym e):=h
     cases hb:zj b (.ofNat 0) <;> rw [hb] at h
     · injection h with h; exact w9 _ _ _ h
     · cases h)
  | (cases b with
     | ofNat m=>
      first
       | (have h:some (zb k _)=some (.sym e):=h
          injection h with h; exact w9 _ _ _ h)
       | (cases a with
          | ofNat x=>
           have h:some (ji k _)=some (.sym e):=h
           injection h with h; exact zLw _ _ _ h
          | negSucc x=>
           have h:some (zb k _)=some (.sym e):=h
           injection h with h; exact w9 _ _ _ h)
     | negSucc m=>cases h)
theorem zP5 {σs σT:Nat→Int} {θ:TH} (hθ:qX σs σT θ) {r q:SRule} (h:zLJ θ r q=true) (hq:z7 σs q):z7 σT r:=by
 unfold zLJ at h
 rw [Bool.and_eq_true] at h
 obtain ⟨h1,h2⟩:=h
 split at h1
 · rename_i s hs
   simp only [Bool.and_eq_true,decide_eq_true_eq] at h1
   obtain ⟨⟨⟨⟨a1,a2⟩,a3⟩,a4⟩,a5⟩:=h1
   rw [@yo zP,decide_eq_true_eq] at a2
   have a3:=@yD zP _ _ a3
   rw [@za zP,decide_eq_true_eq] at a4
   have a5:=@qq zP _ _ a5
   have hq:z7 σs q∧(q.op=.add∨q.op=.sub∨q.op=.mul→False):=by
    refine ⟨hq,fun ho=>?_⟩
    split at h2
    · rename_i e e' he he'
      unfold z7 at hq
      rcases ho with ho | ho | ho <;> rw [ho] at hq
      · have hq:zBh σs q:=hq
        unfold zBh at hq; rw [he'] at hq; exact hq
      · have hq:zBe σs q:=hq
        unfold zBe at hq; rw [he'] at hq; exact hq
      · have hq:zBc σs q:=hq
        unfold zBc at hq; rw [he'] at hq; exact hq
    · cases h2
   have hq:uN σs q∧(uN σT r→z7 σT r):=by
    obtain ⟨hq,ho⟩:=hq
    unfold z7 at hq ⊢
    rw [a1]
    generalize q.op=o at *
    cases o <;> first | exact ⟨hq,id⟩ | exact (ho (.inl rfl)).elim | exact (ho (.inr (.inl rfl))).elim | exact (ho (.inr (.inr rfl))).elim
   obtain ⟨⟨u,b1,b2,b3⟩,hback⟩:=hq
   have ex:evE σT r.x=evE σs q.x:=by
    unfold evE
    rw [vQ hθ hs,← a4,a5]
    omega
   refine hback ⟨u,by rw [a1,a2]; exact b1,by rw [a1,a2,a3,ex]; exact b2,?_⟩
   split at h2
   · rename_i e e' he he'
     refine .inr ⟨e,he,?_⟩
     unfold zAr at h2
     split at h2
     · rename_i k c l hf
       split at h2
       · rename_i s' hs'
         simp only [Bool.and_eq_true] at h2
         obtain ⟨⟨c1,c2⟩,c3⟩:=h2
         rw [@yo zP,decide_eq_true_eq] at c1
         rw [@za zP,decide_eq_true_eq] at c2
         have c3:=@qq zP _ _ c3
         injection hf with hf
         injection hf with d1 hf
         injection hf with d2 d3
         rcases b3 with b3 | ⟨e2,b4,b5⟩
         · rw [he'] at b3
           rw [← b3] at b2
           exact (zKt b2).elim
         · rw [he'] at b4
           injection b4 with b4
           subst b4
           rw [b5,c1,← d1]
           congr 1
           unfold evE
           rw [vQ hθ hs',c3,← d3,d2,← c2]
           omega
       · cases h2
     · cases h2
   · cases h2
 · cases h1
theorem zVo {σs σT:Nat→Int} {θ:TH} {K:zY} (hK:KnownOk σs K) (hθ:qX σs σT θ) {r:SRule} (ho:r.op=.eql) (h:neC θ K r=true):z7 σT r:=by
 unfold neC at h
 split at h
 · rename_i h1 h2
   rw [Bool.and_eq_true,@yo zP,decide_eq_true_eq] at h
   obtain ⟨hk,h⟩:=h
   split at h
   · rename_i s hs
     have hne:evE σT r.x≠0:=by
      unfold evE
      rw [vQ hθ hs]
      rw [Bool.or_eq_true,Bool.or_eq_true] at h
      rcases h with (h | h) | h
      · have:=zER (σ:=σs) (by rw [xy]; omega) hK.rules h
        omega
      · have:=zCW hK hK.rules h
        omega
      · split at h
        · rename_i q hq
          have:=yi hK hq
          rw [Bool.or_eq_true,decide_eq_true_eq,decide_eq_true_eq] at h
          omega
        · cases h
     refine (uu ho).2 ⟨.bool false,.inl hk,?_,.inl h1⟩
     rw [ho,h2]
     show some (CV.bool (zj (evE σT r.x) (.ofNat 0)))=_
     rw [@za zP,decide_eq_false (by simpa using hne)]
   · cases h
 · cases h
theorem zEp {σs σT:Nat→Int} {θ:TH} (hθ:qX σs σT θ) {c:CV} {z:Int × LL} (h:zMP θ c=some z):zBG σT c=z.1+evL σs z.2:=by
 unfold zMP at h
 split at h
 · rename_i e
   split at h
   · rename_i s hs
     injection h with h; subst h
     show e.c+evL σT e.l=e.c+s.1+evL σs s.2
     rw [vQ hθ hs]; omega
   · cases h
 · cases h
theorem zQf {σ:Nat→Int} {z:Int × LL} {c:CV} (h:isE z c=true):zBG σ c=z.1+evL σ z.2:=by
 unfold isE at h
 split at h
 · rename_i e
   rw [Bool.and_eq_true,@za zP,decide_eq_true_eq] at h
   show e.c+evL σ e.l=_
   rw [h.1,@qq zP _ _ h.2]
 · cases h
theorem zJH {σ:Nat→Int} {z:Int × LL} {y:Int}:∀ {m m':List CV},zNf z m=some m'→(if y<z.1+evL σ z.2 then 1 else 0)+jV y (xx σ m')≤jV y (xx σ m)
 | [],_,h=>by cases h
 | c::l,m',h=>by
  unfold zNf at h
  split at h
  · rename_i hc
    injection h with h; subst h
    show _≤jV y (zBG σ c::xx σ l)
    rw [zQf hc]
    exact Nat.le_refl _
  · have:=zJH (σ:=σ) (y:=y) h
    show _≤jV y (zBG σ c::xx σ l)
    simp only [jV]
    omega
theorem zNq {σs σT:Nat→Int} {θ:TH} (hθ:qX σs σT θ) {z:Int × LL} {y:Int}:∀ {l m:List CV},zTl θ l m=some z→jV y (xx σT l)≤jV y (xx σs m)+(if y<z.1+evL σs z.2 then 1 else 0)
 | [],_,h=>by cases h
 | [c],m,h=>by
  have h:zMP θ c=some z:=h
  show jV y (zBG σT c::[])≤_
  rw [zEp hθ h]
  simp only [jV]
  omega
 | c::c'::l,m,h=>by
  unfold zTl at h
  split at h
  · rename_i zc hz
    split at h
    · rename_i m' hm
      have h1:=zNq hθ (y:=y) h
      have h2:=zJH (σ:=σs) (y:=y) hm
      show jV y (zBG σT c::xx σT (c'::l))≤_
      rw [zEp hθ hz]
      simp only [jV] at h1 h2 ⊢
      omega
    · cases h
  · cases h
theorem zUX {σ:Nat→Int} {K:zY} (hK:KnownOk σ K) {x:Int × LL} {e:SE} (h:eqR K x e=true):evE σ e=x.1+evL σ x.2:=by
 unfold eqR at h
 split at h
 · rename_i q hq
   rw [Bool.and_eq_true,decide_eq_true_eq,decide_eq_true_eq] at h
   have:=yi hK hq
   rw [qu,xy] at this
   unfold evE
   omega
 · cases h
theorem zOB {σ:Nat→Int} {K:zY} (hK:KnownOk σ K) {x:Int × LL} {qx:SE} {m:List CV}:∀ {rs:List SRule},(∀ r∈rs,z7 σ r)→zUY K x qx m rs=true→x.1+evL σ x.2=frA (evE σ qx) (xx σ m)
 | [],_,h=>by cases h
 | q::rs,hr,h=>by
  have h:(zVh K x qx m q || zUY K x qx m rs)=true:=h
  rw [Bool.or_eq_true] at h
  rcases h with h | h
  · have hq:=hr q (by simp)
    unfold zVh at h
    split at h
    · rename_i n l ho hv
      simp only [Bool.and_eq_true] at h
      obtain ⟨⟨⟨h1,h2⟩,h3⟩,h4⟩:=h
      rw [@za zP,decide_eq_true_eq] at h2
      have h3:=@qq zP _ _ h3
      have h4:=@CV.beqs_eq zP _ _ h4
      have e1:evE σ q.x=_:=zUX hK h1
      unfold z7 at hq
      rw [ho] at hq
      have hq:zBh σ q:=hq
      unfold zBh at hq
      rw [hv] at hq
      have hq:evE σ q.x=frA (evE σ n) (xx σ l):=hq
      rw [← e1,hq,h4]
      unfold evE
      rw [h2,h3]
    · cases h
  · exact zOB hK (fun r h'=>hr r (by simp [h'])) h
theorem zS1 {σs σT:Nat→Int} {θ:TH} {K:zY} (hK:KnownOk σs K) (hθ:qX σs σT θ) {r q:SRule} {l:List CV} (hq:z7 σs q) (h:zS3 θ K r l q=true):evE σT r.x+jV (evE σT r.x) (xx σT l)≤r.c:=by
 unfold zS3 at h
 split at h
 · rename_i m ho hv
   rw [Bool.and_eq_true] at h
   obtain ⟨hc,h⟩:=h
   have hc:=Nat.eq_of_beq_eq_true hc
   have hq:evE σs q.x+jV (evE σs q.x) (xx σs m)≤q.c:=by
    unfold z7 at hq
    rw [ho] at hq
    have hq:zBe σs q:=hq
    unfold zBe at hq
    rw [hv] at hq
    exact hq
   split at h
   · rename_i x z hx hz
     have ex:evE σT r.x=x.1+evL σs x.2:=zEp hθ (c:=.sym r.x) hx
     have hs:=zNq hθ (y:=evE σT r.x) hz
     rw [Bool.or_eq_true] at h
     rcases h with h | h
     · have e:evE σs q.x=_:=zQf (σ:=σs) h
       have e:evE σT r.x=evE σs q.x:=by rw [e,ex]
       rw [e] at hs ⊢
       split at hs <;> omega
     · rw [Bool.and_eq_true] at h
       obtain ⟨h1,h2⟩:=h
       unfold eqZ at h1
       rw [Bool.and_eq_true,@za zP,decide_eq_true_eq] at h1
       have e2:=@qq zP _ _ h1.2
       have e3:=zOB hK hK.rules h2
       obtain ⟨f1,f2,f3⟩:=zJK (evE σs q.x) (xx σs m)
       rw [← e3,← ex] at f3
       rw [← h1.1,← e2,← ex,if_neg (by omega)] at hs
       omega
   · cases h
 · cases h
theorem zNO {σs σT:Nat→Int} {θ:TH} {K:zY} (hK:KnownOk σs K) (hθ:qX σs σT θ) {r:SRule} {l:List CV}:∀ {rs:List SRule},(∀ q∈rs,z7 σs q)→zU9 θ K r l rs=true→evE σT r.x+jV (evE σT r.x) (xx σT l)≤r.c
 | [],_,h=>by cases h
 | q::rs,hr,h=>by
  have h:(zS3 θ K r l q || zU9 θ K r l rs)=true:=h
  rw [Bool.or_eq_true] at h
  rcases h with h | h
  · exact zS1 hK hθ (hr q (by simp)) h
  · exact zNO hK hθ (fun r h'=>hr r (by simp [h'])) h
theorem zSM {σs σT:Nat→Int} {θ:TH} {K:zY} (hK:KnownOk σs K) (hθ:qX σs σT θ) {r:SRule} (ho:r.op=.sub) (h:zUO θ K r=true):z7 σT r:=by
 unfold z7
 rw [ho]
 show zBe σT r
 unfold zBe
 unfold zUO at h
 split at h
 · rename_i hv
   rw [hv]
   split at h
   · rename_i x hx
     split at h
     · rename_i q hq
       rw [decide_eq_true_eq] at h
       have:=yi hK hq
       have e:evE σT r.x=x.1+evL σs x.2:=zEp hθ (c:=.sym r.x) hx
       show evE σT r.x+((0:Nat):Int)≤r.c
       have:Int.ofNat r.c=(r.c:Int):=rfl
       omega
     · cases h
   · cases h
 · rename_i l _ hv
   rw [hv]
   exact zNO hK hθ hK.rules h
 · cases h
theorem zEO {σs σT:Nat→Int} {θ:TH} (hθ:qX σs σT θ) {r:SRule}:∀ {m:List SRule},zEF θ r m=true→(∀ q∈m,z7 σs q)→z7 σT r
 | [],h,_=>by cases h
 | q::m,h,hm=>by
  unfold zEF at h
  rw [Bool.or_eq_true] at h
  rcases h with h | h
  · exact zP5 hθ h (hm q (by simp))
  · exact zEO hθ h fun q' hq'=>hm q' (by simp [hq'])
theorem zEc {σs σT:Nat→Int} {θ:TH} {K:zY} (hK:KnownOk σs K) (hθ:qX σs σT θ):∀ {rs:List SRule},zAp θ K rs=true→xG σT rs
 | [],_=>trivial
 | r::rs,h=>by
  unfold zAp at h
  rw [Bool.and_eq_true] at h
  refine ⟨?_,zEc hK hθ h.2⟩
  have h:=h.1
  split at h
  · rename_i ho; exact zVo hK hθ ho h
  · rename_i ho; exact zSM hK hθ ho h
  · exact zEO hθ h hK.rules
def zI3 (G:Nat) (ws:List (Key × Nat)) (T:TS) (ks:List Key) (θ:TH) (K:zY) (tm:Tm) (h:zC):Bool:=
 qU (j3 T.objs ks) (jo T.objs ks) θ h G T.n.ix T.objs ks&&zJW (j3 T.objs ks) θ ws tm T.locs&&zRS K T.b θ&&zQz K θ T.f&&zGM G T.n.ix ws&&Nat.ble G T.n.ix&&zAp θ K T.r
theorem zVE (p:Loc):qZ p Tm.nil=.any:=@zEU zP p
theorem zOq (v:CV) (p:Loc) (t:Tm):qZ p (ko v p t)=v:=@j5 zP v p t
theorem zJR (v:CV) (p q:Loc) (t:Tm) (h:q≠p):qZ q (ko v p t)=qZ q t:=@xf zP v p q t h
theorem vU (o:Option CObj) (k j:Key) (h:zC):zn j (yu o k h)=if j=k then o else zn j h:=@zC3 zP o k j h
theorem jZ (k:Key):zn k (.nil:zC)=none:=@zCD zP k
theorem zHG (t:Nat):∀ {locs:List (Nat × CV)},qZ (Loc.ofNat t) (zCo locs)=.any∨∃ p∈locs,Loc.ofNat p.1=Loc.ofNat t∧qZ (Loc.ofNat t) (zCo locs)=p.2
 | []=>.inl (zVE _)
 | p::r=>by
  by_cases e:Loc.ofNat p.1=Loc.ofNat t
  · refine .inr ⟨p,by simp,e,?_⟩
    show qZ _ (ko p.2 _ _)=_
    rw [e,zOq]
  · have h:qZ (Loc.ofNat t) (zCo (p::r))=qZ (Loc.ofNat t) (zCo r):=zJR _ _ _ _ (fun q=>e q.symm)
    rcases zHG t (locs:=r) with h' | ⟨q,hq,h1,h2⟩
    · exact .inl (h.trans h')
    · exact .inr ⟨q,by simp [hq],h1,h.trans h2⟩
theorem jH {h:zC} {k:Key} {o:CObj}:∀ {objs:List (Key × CObj)},zn k (mkH h objs)=some o→(∃ j:Nat,objs[j]? = some (k,o))∨zn k h=some o
 | [],hh=>.inr hh
 | p::r,hh=>by
  have hh:zn k (yu (some p.2) p.1 (mkH h r))=some o:=hh
  rw [vU] at hh
  split at hh
  · rename_i e
    injection hh with h1
    exact .inl ⟨0,by subst e; subst h1; rfl⟩
  · rcases jH hh with ⟨j,hj⟩ | h'
    · exact .inl ⟨j+1,by simpa using hj⟩
    · exact .inr h'
theorem zGk {k b:Key}:∀ {objs:List (Key × CObj)} {ks:List Key},zm (j3 objs ks) k=some b→∃ (j:Nat) (o:CObj),objs[j]? = some (k,o)∧ks[j]? = some b
 | [],_,h=>by
  have h:zm .nil k=some b:=h
  unfold zm at h
  rw [jZ] at h; cases h
 | _::_,[],h=>by
  have h:zm .nil k=some b:=h
  unfold zm at h
  rw [jZ] at h; cases h
 | p::r,j::js,h=>by
  by_cases e:k=p.1
  · have h:zm (yu (some (.cells [.ptr j 0])) p.1 (j3 r js)) k=some b:=h
    unfold zm at h
    rw [vU,if_pos e] at h
    injection h with h
    exact ⟨0,p.2,by subst e; rfl,by subst h; rfl⟩
  · have h':zm (j3 r js) k=some b:=by
     have h:zm (yu (some (.cells [.ptr j 0])) p.1 (j3 r js)) k=some b:=h
     unfold zm at h ⊢
     rw [vU,if_neg e] at h
     exact h
    obtain ⟨i,o,h1,h2⟩:=zGk h'
    exact ⟨i+1,o,by simpa using h1,by simpa using h2⟩
theorem jE {ρ:zC} {k j:Key} (h:wD ρ k j=true):zm ρ k=some j:=by
 unfold wD at h
 split at h
 · rename_i b hb
   rw [hb,@Key.ix_inj zP _ _ (Nat.eq_of_beq_eq_true h)]
 · cases h
theorem kP {ρ inv:zC} {θ:TH} {h:zC} {lo hi:Nat}:∀ {objs:List (Key × CObj)} {ks:List Key},qU ρ inv θ h lo hi objs ks=true→∀ (j:Nat) (k:Key) (o:CObj),objs[j]? = some (k,o) →
 ∃ i o',ks[j]? = some i∧zm ρ k=some i∧zm inv i=some k∧lo≤k.ix∧k.ix<hi∧zn i h=some o'∧zBv ρ θ o o'=true
 | [],_,_,j,k,o,hj=>by simp at hj
 | _::_,[],hc,_,_,_,_=>by cases hc
 | p::r,i::is,hc,j,k,o,hj=>by
  unfold qU at hc
  simp only [Bool.and_eq_true] at hc
  obtain ⟨⟨⟨⟨⟨c1,c2⟩,c3⟩,c4⟩,c5⟩,c6⟩:=hc
  cases j with
  | zero=>
   simp at hj
   subst hj
   split at c5
   · rename_i o' ho
     exact ⟨i,o',rfl,jE c1,jE c2,@zL zP _ _ c3,@zL zP _ _ c4,ho,c5⟩
   · cases c5
  | succ j=>
   obtain ⟨i',o',h1,h2⟩:=kP c6 j k o (by simpa using hj)
   exact ⟨i',o',by simpa using h1,h2⟩
theorem kM {l:List Win} {k:Key} {w:Win} (h:findW l k=some w):w∈l∧w.key=k:=by
 induction l with
 | nil=>cases h
 | cons x l ih=>
  unfold findW at h
  split at h
  · rename_i e
    injection h with h; subst h
    exact ⟨by simp,of_decide_eq_true e⟩
  · have:=ih h
    exact ⟨by simp [this.1],this.2⟩
theorem zST {l:List Win} {k:Key} {z:Nat} (h:zMk (wsOf l) k z=true):∃ w,findW l k=some w∧w.esz=z:=by
 induction l with
 | nil=>cases h
 | cons x l ih=>
  have h:zMk ((x.key,x.esz)::wsOf l) k z=true:=h
  unfold zMk at h
  unfold findW
  split at h
  · rename_i e
    simp only at e
    rw [e]
    exact ⟨x,rfl,@yD zP _ _ h⟩
  · rename_i e
    simp only at e
    rw [e]
    exact ih h
theorem zIs {lo hi:Nat} {l:List Win} (h:zGM lo hi (wsOf l)=true):∀ w∈l,lo≤w.key.ix∧w.key.ix<hi:=by
 induction l with
 | nil=>intro w hw; cases hw
 | cons x l ih=>
  have h:zGM lo hi ((x.key,x.esz)::wsOf l)=true:=h
  unfold zGM at h
  rw [Bool.and_eq_true,Bool.and_eq_true] at h
  intro w hw
  rcases List.mem_cons.1 hw with rfl | hw
  · exact ⟨@zL zP _ _ h.1.1,@zL zP _ _ h.1.2⟩
  · exact ih h.2 w hw
theorem zKx {ρ:zC} {θ:TH} {ws:List (Key × Nat)} {tm:Tm}:∀ {locs:List (Nat × CV)},zJW ρ θ ws tm locs=true→∀ p∈locs,p.1≤271∧zUH ρ θ ws p.2 (qZ (Loc.ofNat p.1) tm)=true
 | [],_,p,hp=>by cases hp
 | q::r,h,p,hp=>by
  unfold zJW at h
  rw [Bool.and_eq_true,Bool.and_eq_true] at h
  rcases List.mem_cons.1 hp with rfl | hp
  · exact ⟨@zL zP _ _ h.1.1,h.1.2⟩
  · exact zKx h.2 p hp
def qW (ρ h:zC) (wins:List Win) (ψ:Psi) (G:Nat) (i:Int):Psi:=fun k=>match zm ρ k with
 | some j=>(ψ j).map fun p=>⟨p.blk,p.off,p.sz,zCU (zn j h) p.ck⟩
 | none=>match findW wins k with
  | some w=>some ⟨w.B,w.x+i.toNat*w.esz,w.sz,fun n=>n⟩
  | none=>if k.ix<G then ψ k else none
def evQ (σ:Nat→Int) (q:Int × LL):Int:=q.1+evL σ q.2
def ArgsAre (A:Key→Option Value) (wins:List Win):Prop:=∀ w∈wins,A w.key=some (.slice w.base w.len w.cap)∧(0<w.len→w.base=some ⟨w.B,w.x,none⟩)∧(w.sz=w.x+w.cap*(max 1 w.esz))∧w.len≤w.cap
section
variable {σs:Nat→Int} {Ks:zY} {θ:TH} {T:TS} {ks:List Key} {wins:List Win} {G:Nat} {F N:Nat} {ψ:Psi} {tm:Tm} {h:zC} {n:Key} {a:Act} {w:World}
theorem zOG {σs:Nat→Int} {Ks:zY} (hK:KnownOk σs Ks) {σT:Nat→Int}:∀ {b:List (Int × Int)} {θ:TH} {k:Nat},zRS Ks b θ=true→(∀ j q,nth θ j=some q→σT (k+j)=evQ σs q) →
 b.length=θ.length∧yL σT k b
 | [],[],_,_,_=>⟨rfl,trivial⟩
 | [],_::_,_,h,_=>by cases h
 | _::_,[],_,h,_=>by cases h
 | q::r,s::θ,k,h,hθ=>by
  unfold zRS at h
  rw [Bool.and_eq_true] at h
  obtain ⟨h1,h2⟩:=h
  obtain ⟨g1,g2⟩:=zOG hK (σT:=σT) (k:=k+1) h2 (fun j q hj=>by
   have:=hθ (j+1) q hj
   rw [show k+1+j=k+(j+1) from by omega]; exact this)
  refine ⟨by simp [g1],?_,g2⟩
  have h0:σT k=evQ σs s:=hθ 0 s rfl
  rw [Bool.or_eq_true] at h1
  obtain ⟨u,r,l1,l2⟩:∃ u:Int × Int,(u.1≤evL σs s.2∧evL σs s.2≤u.2)∧q.1≤s.1+u.1∧s.1+u.2≤q.2:=by
   rcases h1 with h1 | h1
   · obtain ⟨u,hu,l⟩:=zIy h1
     exact ⟨u,kE hK.b hu,l⟩
   · obtain ⟨u,hu,l⟩:=zIy h1
     exact ⟨u,zA4 hK.b hK.f hu,l⟩
  rw [h0]
  unfold evQ
  constructor <;> omega
theorem zOb {σs σT:Nat→Int} {Ks:zY} (hK:KnownOk σs Ks) {θ:TH} (hθ:qX σs σT θ):∀ {f:List (LL × Int × Int)},zQz Ks θ f=true→jn σT f
 | [],_=>trivial
 | q::r,h=>by
  unfold zQz at h
  rw [Bool.and_eq_true] at h
  refine ⟨?_,zOb hK hθ h.2⟩
  have h1:=h.1
  split at h1
  · rename_i s hs
    rw [Bool.or_eq_true] at h1
    obtain ⟨u,r,l1,l2⟩:∃ u:Int × Int,(u.1≤evL σs s.2∧evL σs s.2≤u.2)∧q.2.1≤s.1+u.1∧s.1+u.2≤q.2.2:=by
     rcases h1 with h1 | h1
     · obtain ⟨u,hu,l⟩:=zIy h1
       exact ⟨u,zGv hK.f hu,l⟩
     · obtain ⟨u,hu,l⟩:=zIy h1
       exact ⟨u,zA4 hK.b hK.f hu,l⟩
    rw [vQ hθ hs]
    constructor <;> omega
  · cases h1
theorem zRB (hst:@St (linSym σs Ks) P F N ψ tm [] h n a w) (hG:P.globals.size≤G) (hA:ArgsAre Ks.arg wins) (hc:zI3 G (wsOf wins) T ks θ Ks tm h=true) (i:Int) (hi:∀ q,nth θ 0=some q→evQ σs q=i) (h0:∃ q,nth θ 0=some q) :
 ∃ ψT,(∀ σT KT,qX σs σT θ→KT.arg=Ks.arg→@St (linSym σT KT) P F N ψT (zCo T.locs) [] (mkH .nil T.objs) T.n a w) ∧
  (∀ k o p,zC.fam (mkH .nil T.objs) k=some o→ψT k=some p→o.isRo=false∧∃ k0 o0 p0,zC.fam h k0=some o0∧o0.isRo=false∧ψ k0=some p0∧p0.blk=p.blk) ∧
  (∀ k wn,findW wins k=some wn→zCC (j3 T.objs ks) k=true→ψT k=some ⟨wn.B,wn.x+i.toNat*wn.esz,wn.sz,fun n=>n⟩)∧zA7 (j3 T.objs ks) ψ ψT:=by
 have hR:@Rel (linSym σs Ks) ψ (zC.fam h) w:=@St.rel (linSym σs Ks) _ _ _ _ _ _ _ _ _ _ hst
 have hTot:∀ k o,zC.fam h k=some o→∃ p,ψ k=some p:=@Rel.tot (linSym σs Ks) _ _ _ hR
 have hOn:∀ k o p,zC.fam h k=some o→ψ k=some p→@xM (linSym σs Ks) ψ w p o:=@Rel.on (linSym σs Ks) _ _ _ hR
 have hInj:=@Rel.inj (linSym σs Ks) _ _ _ hR
 have hGl:kR P ψ:=@St.glob (linSym σs Ks) _ _ _ _ _ _ _ _ _ _ hst
 have hDf:=@St.dfr (linSym σs Ks) _ _ _ _ _ _ _ _ _ _ hst
 have hFr:@xR (linSym σs Ks) ψ F N tm a:=@St.frame (linSym σs Ks) _ _ _ _ _ _ _ _ _ _ hst
 have hTmp:=@xR.tmp (linSym σs Ks) _ _ _ _ _ hFr
 have hSz:=@xR.size (linSym σs Ks) _ _ _ _ _ hFr
 unfold zI3 at hc
 simp only [Bool.and_eq_true] at hc
 obtain ⟨⟨⟨⟨⟨⟨c1,c2⟩,c3⟩,c4⟩,c5⟩,c6⟩,_⟩:=hc
 have c6:=@zL zP _ _ c6
 generalize hρ:j3 T.objs ks=ρ at c1 c2
 generalize hinv:jo T.objs ks=inv at c1
 have hobj:=kP c1
 have hwb:=zIs c5
 have hrho:∀ k b,zm ρ k=some b→G≤k.ix∧k.ix<T.n.ix∧∃ (o o':CObj) (j:Nat),T.objs[j]? = some (k,o)∧zm inv b=some k∧zn b h=some o'∧zBv ρ θ o o'=true:=by
  intro k b hk
  have hk':=hk
  rw [← hρ] at hk'
  obtain ⟨j,o,h1,h2⟩:=zGk hk'
  obtain ⟨i',o',g1,g2,g3,g4,g5,g6,g7⟩:=hobj j k o h1
  rw [hk] at g2
  injection g2 with g2
  subst g2
  exact ⟨g4,g5,o,o',j,h1,g3,g6,g7⟩
 have hps:∀ k j p,zm ρ k=some j→ψ j=some p→qW ρ h wins ψ G i k=some ⟨p.blk,p.off,p.sz,zCU (zn j h) p.ck⟩:=by
  intro k j p hk hp
  unfold qW
  rw [hk]
  simp only
  rw [hp]; rfl
 have hPs:zA7 ρ ψ (qW ρ h wins ψ G i):=fun k j p hk hp=>⟨_,hps k j p (jE hk) hp,rfl,rfl,rfl⟩
 have hwin:∀ k wn,findW wins k=some wn→zCC ρ k=true→qW ρ h wins ψ G i k=some ⟨wn.B,wn.x+i.toNat*wn.esz,wn.sz,fun n=>n⟩:=by
  intro k wn hw hno
  have hno:zm ρ k=none:=by
   unfold zCC at hno
   split at hno
   · assumption
   · cases hno
  unfold qW
  rw [hno]
  simp only
  rw [hw]
 have hfam:∀ k o p,zC.fam (mkH .nil T.objs) k=some o→qW ρ h wins ψ G i k=some p→∃ b o' p0,zm ρ k=some b∧zm inv b=some k∧zC.fam h b=some o'∧ψ b=some p0∧zBv ρ θ o o'=true ∧
  p=⟨p0.blk,p0.off,p0.sz,zCU (some o') p0.ck⟩:=by
  intro k o p hk hp
  rcases jH hk with ⟨j,hj⟩ | hn
  · obtain ⟨b,o',g1,g2,g3,g4,g5,g6,g7⟩:=hobj j k o hj
    obtain ⟨p0,hp0⟩:=hTot b o' g6
    rw [hps k b p0 g2 hp0,g6] at hp
    injection hp with hp
    exact ⟨b,o',p0,g2,g3,g6,hp0,g7,hp.symm⟩
  · rw [jZ] at hn; cases hn
 refine ⟨qW ρ h wins ψ G i,fun σT KT hθ hKT=>?_,?_,hwin,by first | exact hPs | (rw [hρ]; exact hPs)⟩
 · refine @St.mk (linSym σT KT) P F N _ _ _ _ _ _ _ ?_ ?_ ?_ ?_ ?_
   · refine @xR.mk (linSym σT KT) _ _ _ _ _ hSz fun t h1 h2 h3=>?_
     rcases zHG t (locs:=T.locs) with e | ⟨p,hp,e1,e2⟩
     · rw [e]; exact @x7 (linSym σT KT) _ _
     · obtain ⟨q1,q2⟩:=zKx c2 p hp
       have e1:p.1=t:=@Loc.ofNat_inj zP _ _ q1 h2 e1
       rw [e2]
       rw [e1] at q2
       have hv:=hTmp t h1 h2 h3
       unfold zUH at q2
       split at q2
       · rename_i k z e nn heq
         split at q2
         · rename_i k' z' e' n' heq'
           simp only [Bool.and_eq_true,decide_eq_true_eq] at q2
           obtain ⟨⟨⟨⟨⟨rfl,hz⟩,hew⟩,hn⟩,hno⟩,h1z⟩:=q2
           have h1z:=@zL zP _ _ h1z
           obtain rfl:=@yD zP _ _ hz
           rw [heq',@qA (linSym σs Ks)] at hv
           obtain ⟨ha,base,len,cap,iv,hv',hn',he',_⟩:=hv
           have ha:Ks.arg k=some (a.tmps.getD t undef):=ha
           have hn2:=zOF (Ks:=Ks) (ψs:=ψ) hθ hn (v:=.int .i64 len) ((@zq (linSym σs Ks) _ _ _).2 hn'.symm)
           have key:∀ zz,zMk (wsOf wins) k zz=true→∃ wn,findW wins k=some wn∧wn.esz=zz∧a.tmps.getD t undef=.slice wn.base wn.len wn.cap∧(0<wn.len→wn.base=some ⟨wn.B,wn.x,none⟩)∧wn.sz=wn.x+wn.cap*(max 1 wn.esz)∧wn.len≤wn.cap∧len=wn.len:=by
            intro zz hw
            obtain ⟨wn,hwn,hez⟩:=zST hw
            obtain ⟨hmem,hkey⟩:=kM hwn
            obtain ⟨hA',hbase,hsz,hlc⟩:=hA wn hmem
            rw [hkey] at hA'
            rw [ha] at hA'
            injection hA' with hA'
            refine ⟨wn,hwn,hez,hA',hbase,hsz,hlc,?_⟩
            rw [hv'] at hA'
            injection hA' with _ h2 _
           rw [heq,@qA (linSym σT KT)]
           rw [Bool.or_eq_true,Bool.and_eq_true,Bool.and_eq_true,Bool.and_eq_true] at hew
           rcases hew with ⟨he,hw⟩ | ⟨⟨he,hw⟩,hz1⟩
           · obtain rfl:=@zIm zP _ _ he
             obtain ⟨wn,hwn,hez,hA',hbase,hsz,hlc,hlen⟩:=key z hw
             obtain ⟨q0,hq0⟩:=h0
             refine ⟨by show KT.arg k=_; rw [hKT]; exact ha,wn.base,wn.len,wn.cap,i,hA',?_,?_,fun q1 q2=>⟨_,wn.x,hwin k wn hwn hno,hbase (by omega),?_⟩⟩
             · rw [← hlen]; exact hn2.symm
             · show Value.int .i64 (evE σT (sv 0))=.int .i64 i
               rw [xr,hθ 0 q0 hq0]
               have:=hi q0 hq0
               unfold evQ at this
               rw [this]
             · rw [← hez]
               refine ⟨rfl,?_,hlc⟩
               rw [hsz,show max 1 wn.esz=wn.esz from by omega]
           · obtain rfl:=@zIm zP _ _ he
             obtain rfl:=@yD zP _ _ hz1
             obtain ⟨wn,hwn,hez,hA',hbase,hsz,hlc,hlen⟩:=key 0 hw
             refine ⟨by show KT.arg k=_; rw [hKT]; exact ha,wn.base,wn.len,wn.cap,0,hA',?_,?_,fun q1 q2=>⟨_,wn.x,hwin k wn hwn hno,hbase (by omega),?_⟩⟩
             · rw [← hlen]; exact hn2.symm
             · rfl
             · refine ⟨?_,?_,hlc⟩
               · show wn.x+i.toNat*wn.esz=wn.x+(0:Int).toNat*1
                 rw [hez]; simp
               · rw [hsz,hez]; rfl
         · cases q2
       · exact qT hθ hPs _ _ q2 hv
   · exact hDf
   · refine @Rel.mk (linSym σT KT) _ _ _ ?_ ?_ ?_
     · intro k o p hk hp
       obtain ⟨b,o',p0,g1,g2,g3,g4,g5,rfl⟩:=hfam k o p hk hp
       exact (zNT (p:=p0) (p':=⟨p0.blk,p0.off,p0.sz,zCU (some o') p0.ck⟩) hθ hPs g5 rfl rfl rfl rfl (hOn b o' p0 g3 g4)).1
     · intro k o hk
       rcases jH hk with ⟨j,hj⟩ | hn
       · obtain ⟨b,o',g1,g2,g3,g4,g5,g6,g7⟩:=hobj j k o hj
         obtain ⟨p0,hp0⟩:=hTot b o' g6
         exact ⟨_,hps k b p0 g2 hp0⟩
       · rw [jZ] at hn; cases hn
     · intro k₁ k₂ o₁ o₂ p₁ p₂ h1 h2 h3 h4 hr e
       obtain ⟨b1,o1',q1,g1,g2,g3,g4,g5,rfl⟩:=hfam _ _ _ h1 h3
       obtain ⟨b2,o2',q2,f1,f2,f3,f4,f5,rfl⟩:=hfam _ _ _ h2 h4
       have:=hInj b1 b2 _ _ _ _ g3 f3 g4 f4 (.inl (zKq g5)) e
       subst this
       rw [g2] at f2
       injection f2
   · intro g hg h4
     obtain ⟨sz,e⟩:=hGl g hg h4
     have hix:(Key.ofNat g).ix=g:=@Key.ix_ofNat zP _ (by omega)
     refine ⟨sz,?_⟩
     have hno:zm ρ (Key.ofNat g)=none:=by
      cases hr:zm ρ (Key.ofNat g) with
      | none=>rfl
      | some b=>have:=(hrho _ _ hr).1; omega
     have hnw:findW wins (Key.ofNat g)=none:=by
      cases hr:findW wins (Key.ofNat g) with
      | none=>rfl
      | some wn=>
       obtain ⟨hm,hk⟩:=kM hr
       have:=(hwb wn hm).1
       rw [hk] at this; omega
     unfold qW
     rw [hno]
     simp only
     rw [hnw]
     simp only
     rw [if_pos (by omega)]
     exact e
   · intro k hk
     have hno:zm ρ k=none:=by
      cases hr:zm ρ k with
      | none=>rfl
      | some b=>have:=(hrho _ _ hr).2.1; omega
     have hnw:findW wins k=none:=by
      cases hr:findW wins k with
      | none=>rfl
      | some wn=>
       obtain ⟨hm,hk⟩:=kM hr
       have:=(hwb wn hm).2
       rw [hk] at this; omega
     unfold qW
     rw [hno]
     simp only
     rw [hnw]
     simp only
     split
     · rename_i hlt
       omega
     · rfl
 · intro k o p hk hp
   obtain ⟨b,o',p0,g1,g2,g3,g4,g5,rfl⟩:=hfam k o p hk hp
   have hro:o.isRo=false∧o'.isRo=false:=by
    unfold zBv at g5
    split at g5
    · exact ⟨rfl,rfl⟩
    · exact ⟨rfl,rfl⟩
    · exact ⟨rfl,rfl⟩
    · exact ⟨rfl,rfl⟩
    · exact ⟨rfl,rfl⟩
    · exact ⟨rfl,rfl⟩
    · exact ⟨rfl,rfl⟩
    · cases g5
   exact ⟨hro.1,b,o',p0,g3,hro.2,g4,rfl⟩
end
end
end Go.Ev
namespace Go.Ev
variable [Sym]
noncomputable section
variable {P:Program}
variable [SymFact P]
inductive Stp where
 | l | r | b
def zEi (P:Program) (call:ym):List Stp→CCode→K
 | [],_=>fun tm ds h n=>.ok .normal tm ds h n
 | .l::p,.seq a _=>zEi P call p a
 | .r::p,.seq a b=>fun tm ds h n=>qK (zEi P call p b) (zp P call a tm ds h n)
 | .b::p,.block _ x=>zEi P call p x
 | _,_=>fun _ _ _ _=>.err 330
def u5 (P:Program) (call:ym):List Stp→CCode→R→R
 | [],_=>fun r=>r
 | .l::p,.seq a b=>fun r=>qK (zp P call b) (u5 P call p a r)
 | .r::p,.seq _ b=>u5 P call p b
 | .b::p,.block id x=>fun r=>uq id (u5 P call p x r)
 | _,_=>fun _=>.err 331
def zDO:List Stp→CCode→CCode
 | [],.loop b=>b
 | .l::p,.seq a _=>zDO p a
 | .r::p,.seq _ b=>zDO p b
 | .b::p,.block _ x=>zDO p x
 | _,_=>.bad 50
def bodyF:CFn→CCode
 | .mk b _=>b
 | _=>.bad 51
def resF:CFn→List CRes
 | .mk _ r=>r
 | _=>[]
def um:List Stp→Code→Option Code
 | [],.loop b=>some b
 | .l::p,.seq x _=>um p x
 | .r::p,.seq _ y=>um p y
 | .b::p,.block _ x=>um p x
 | _,_=>none
def QH (P:Program):List Stp→Code→(Exit→Act→World→Prop)→Exit→Act→World→Prop
 | .l::p,.seq x y,Q=>QH P p x (Exit.then (y.wp P Q) Q)
 | .r::p,.seq _ y,Q=>QH P p y Q
 | .b::p,.block id x,Q=>QH P p x (Exit.inBlock id Q)
 | _,_,Q=>Q
omit [SymFact P] in
theorem zAX {F N:Nat}:∀ {p:List Stp} {c b:Code},um p c=some b→zDO p (zU P F N c)=zU P F N b
 | [],c,b,h=>by
  cases c <;> first | (injection h with h; subst h; rfl) | cases h
 | .l::p,c,b,h=>by
  cases c <;> first | exact zAX (p:=p) h | cases h
 | .r::p,c,b,h=>by
  cases c <;> first | exact zAX (p:=p) h | cases h
 | .b::p,c,b,h=>by
  cases c <;> first | exact zAX (p:=p) h | cases h
section
variable {F N:Nat} {call:ym}
theorem kU (hcall:xA call):∀ (p:List Stp) (c:CCode) (tm:Tm) (ds:xe) (h:zC) (n:Key),zk n (zEi P call p c tm ds h n)
 | [],_,_,_,_,_=>Nat.le_refl _
 | .l::p,c,tm,ds,h,n=>by
  cases c <;> first | exact kU hcall p _ tm ds h n | trivial
 | .r::p,c,tm,ds,h,n=>by
  cases c <;> first | exact qa (fun tm ds h n=>kU hcall p _ tm ds h n) (y9 hcall _ tm ds h n) | trivial
 | .b::p,c,tm,ds,h,n=>by
  cases c <;> first | exact kU hcall p _ tm ds h n | trivial
theorem zB0 (hcall:yP P call) (hdraw:kY P F N call):∀ (p:List Stp) (c:Code) {b:Code} {Q:Exit→Act→World→Prop} {ψ:Psi} {tm:Tm} {ds:xe} {h:zC} {n:Key} {a:Act} {w:World},
 um p c=some b→yY c=true→St P F N ψ tm ds h n a w→zf (zEi P call p (zU P F N c) tm ds h n) →
 (∀ e a' w',xF P F N ψ (zC.fam h) n w (zEi P call p (zU P F N c) tm ds h n) e a' w'→e=.normal∧up P b (QH P p c Q) a' w')→c.wp P Q a w
 | [],c,b,Q,ψ,tm,ds,h,n,a,w,hs,hn,hst,hc,hq=>by
  cases c <;> try (cases hs; done)
  rename_i b'
  injection hs with hs; subst hs
  exact zFO (hq .normal a w ⟨trivial,ψ,hst,yH.refl hst.rel,hc⟩).2
 | .l::p,c,b,Q,ψ,tm,ds,h,n,a,w,hs,hn,hst,hc,hq=>by
  cases c <;> try (cases hs; done)
  rename_i x y
  have hnr:yY x=true∧yY y=true:=by simpa [yY] using hn
  exact wp_seq (zB0 hcall hdraw p x (Q:=Exit.then (y.wp P Q) Q) hs hnr.1 hst hc hq)
 | .r::p,c,b,Q,ψ,tm,ds,h,n,a,w,hs,hn,hst,hc,hq=>by
  cases c <;> try (cases hs; done)
  rename_i x y
  have hnr:yY x=true∧yY y=true:=by simpa [yY] using hn
  have hc:zf (qK (zEi P call p (zU P F N y)) (zp P call (zU P F N x) tm ds h n)):=hc
  have hab:=fun tm ds h n=>kU (P:=P) hcall.above p (zU P F N y) tm ds h n
  refine wp_seq (wp_mono (vv hcall hdraw x hnr.1 hst (xq hab hc)) fun e a' w' ho=>?_)
  rcases kQ hc ho with ⟨rfl,tm',ds',h',n',ψ',h2,h3,h4,h5⟩ | ⟨h1,h2⟩
  · refine zB0 hcall hdraw p y (Q:=Q) hs hnr.2 h2 h4 fun e'' a'' w'' ho'=>?_
    exact hq e'' a'' w'' (h5 e'' a'' w'' (xF.trans h3 ho'))
  · exact absurd (hq e a' w' h2).1 h1
 | .b::p,c,b,Q,ψ,tm,ds,h,n,a,w,hs,hn,hst,hc,hq=>by
  cases c <;> try (cases hs; done)
  rename_i id x
  exact wp_block (zB0 hcall hdraw p x (Q:=Exit.inBlock id Q) hs hn hst hc hq)
theorem wv (hcall:xA call):∀ (p:List Stp) (c:CCode) {r:R},zf (u5 P call p c r)→zf r
 | [],_,_,h=>h
 | .l::p,c,r,h=>by
  cases c <;> first | exact wv hcall p _ (xq (fun tm ds h n=>y9 hcall _ tm ds h n) h) | exact h.elim
 | .r::p,c,r,h=>by
  cases c <;> first | exact wv hcall p _ h | exact h.elim
 | .b::p,c,r,h=>by
  cases c <;> first | exact wv hcall p _ (jx _ h) | exact h.elim
theorem zAE (hcall:yP P call) (hdraw:kY P F N call) {ψ₀:Psi} {g₀:Fam} {n₀:Key} {w₀:World}:∀ (p:List Stp) (c:Code) {b:Code} {Q:Exit→Act→World→Prop} {r:R} {e:Exit} {a:Act} {w:World},
 um p c=some b→yY c=true→xF P F N ψ₀ g₀ n₀ w₀ r e a w→zf (u5 P call p (zU P F N c) r) →
 (∀ e a w,xF P F N ψ₀ g₀ n₀ w₀ (u5 P call p (zU P F N c) r) e a w→Q e a w)→QH P p c Q e a w
 | [],c,b,Q,r,e,a,w,hs,hn,ho,hc,hq=>by
  cases c <;> first | exact hq e a w ho | cases hs
 | .l::p,c,b,Q,r,e,a,w,hs,hn,ho,hc,hq=>by
  cases c <;> try (cases hs; done)
  rename_i x y
  have hnr:yY x=true∧yY y=true:=by simpa [yY] using hn
  have hc:zf (qK (zp P call (zU P F N y)) (u5 P call p (zU P F N x) r)):=hc
  have hab:=fun tm ds h n=>y9 (P:=P) hcall.above (zU P F N y) tm ds h n
  refine zAE hcall hdraw p x (Q:=Exit.then (y.wp P Q) Q) hs hnr.1 ho (xq hab hc) fun e a w ho=>?_
  rcases kQ hc ho with ⟨rfl,tm',ds',h',n',ψ',h2,h3,h4,h5⟩ | ⟨h1,h2⟩
  · exact wp_mono (vv hcall hdraw y hnr.2 h2 h4) fun e'' a'' w'' ho'=>hq e'' a'' w'' (h5 e'' a'' w'' (xF.trans h3 ho'))
  · cases e <;> first | exact absurd rfl h1 | exact hq _ _ _ h2
 | .r::p,c,b,Q,r,e,a,w,hs,hn,ho,hc,hq=>by
  cases c <;> try (cases hs; done)
  rename_i x y
  have hnr:yY x=true∧yY y=true:=by simpa [yY] using hn
  exact zAE hcall hdraw p y (Q:=Q) hs hnr.2 ho hc hq
 | .b::p,c,b,Q,r,e,a,w,hs,hn,ho,hc,hq=>by
  cases c <;> try (cases hs; done)
  rename_i id x
  have hc:zf (uq id (u5 P call p (zU P F N x) r)):=hc
  refine zAE hcall hdraw p x (Q:=Exit.inBlock id Q) hs hn ho (jx id hc) fun e a w ho=>?_
  exact uh (fun e a w h=>hq e a w h) ho
end
end
end Go.Ev
namespace Go.Ev
noncomputable section
variable {P:Program}
def zWD (v:CV):Option (Key × Nat):=match v with
 | .ptr b o=>some (b,o)
 | .sl b o _ _ _ _=>some (b,o)
 | _=>none
def zLM (l:List CV) (v:CV):Nat→List CV:=List.rec (motive:=fun _=>Nat→List CV) (fun _=>[]) (fun x r ih i=>Nat.rec (motive:=fun _=>List CV) (v::r) (fun j _=>x::ih j) i) l
theorem zK8 {v:CV}:∀ {l:List CV} {i j:Nat} {c:CV},(zLM l v i)[j]? = some c→(j=i∧c=v∧i<l.length)∨(j≠i∧l[j]? = some c)
 | [],i,j,c,h=>by
  have h:([]:List CV)[j]? = some c:=h
  simp at h
 | x::r,0,j,c,h=>by
  have h:(v::r)[j]? = some c:=h
  cases j with
  | zero=>simp at h; exact .inl ⟨rfl,h.symm,by simp⟩
  | succ j=>exact .inr ⟨by omega,by simpa using h⟩
 | x::r,i+1,j,c,h=>by
  have h:(x::zLM r v i)[j]? = some c:=h
  cases j with
  | zero=>simp at h; exact .inr ⟨by omega,by simpa using h⟩
  | succ j=>
   rcases zK8 (l:=r) (i:=i) (by simpa using h) with ⟨a,b,d⟩ | ⟨a,b⟩
   · exact .inl ⟨by omega,b,by simp; omega⟩
   · exact .inr ⟨by omega,by simpa using b⟩
theorem zK4 {v:CV}:∀ {l:List CV} {i:Nat},(zLM l v i).length=l.length
 | [],_=>rfl
 | x::r,0=>rfl
 | x::r,i+1=>by
  show (zLM r v i).length+1=_
  rw [zK4]; rfl
def slV:List Nat→CV→zC→Key→(CV→zC→Key→Bool)→Bool
 | [],v,h,n,k=>match v with
  | .sl b (.succ o) l c e x=>match zn b h with
   | some (.cells vs)=>match Nat.ble (Nat.succ o) vs.length&&Nat.ble (Nat.succ n.ix) 65535 with
    | true=>k (.sl n 0 l c e x) (yu (some (.cells (vs.drop (Nat.succ o)))) n (yu none b h)) n.succ
    | false=>k (.sl b (.succ o) l c e x) h n
   | _=>k (.sl b (.succ o) l c e x) h n
  | v=>k v h n
 | i::r,v,h,n,k=>match zWD v with
  | some q=>match zn q.1 h with
   | some (.cells vs)=>match nth vs (q.2+i) with
    | some c=>slV r c h n fun c' h' n'=>match zn q.1 h' with
     | some (.cells vs')=>k v (yu (some (.cells (zLM vs' c' (q.2+i)))) q.1 h') n'
     | _=>k v h' n'
    | none=>k v h n
   | _=>k v h n
  | none=>k v h n
def zBd:List (Nat × List Nat)→Tm→zC→Key→(Tm→zC→Key→Bool)→Bool
 | [],tm,h,n,k=>k tm h n
 | p::r,tm,h,n,k=>slV p.2 (qZ (Loc.ofNat p.1) tm) h n fun v h n=>zBd r (ko v (Loc.ofNat p.1) tm) h n k
theorem zRG:∀ (p:List Nat) (v:CV) (h:zC) (n:Key),∃ v' h' n',∀ k,slV p v h n k=k v' h' n'
 | [],v,h,n=>by
  unfold slV
  split
  · split
    · split
      · exact ⟨_,_,_,fun _=>rfl⟩
      · exact ⟨_,_,_,fun _=>rfl⟩
    · exact ⟨_,_,_,fun _=>rfl⟩
  · exact ⟨_,_,_,fun _=>rfl⟩
 | i::r,v,h,n=>by
  unfold slV
  split
  · rename_i q _
    split
    · split
      · rename_i c _
        obtain ⟨c',h',n',e⟩:=zRG r c h n
        cases hg:zn q.1 h' with
        | none=>exact ⟨v,h',n',fun k=>by rw [e]; simp only [hg]⟩
        | some o=>cases o with
         | cells vs'=>exact ⟨v,yu (some (.cells (zLM vs' c' (q.2+i)))) q.1 h',n',fun k=>by rw [e]; simp only [hg]⟩
         | _=>exact ⟨v,h',n',fun k=>by rw [e]; simp only [hg]⟩
      · exact ⟨_,_,_,fun _=>rfl⟩
    · exact ⟨_,_,_,fun _=>rfl⟩
  · exact ⟨_,_,_,fun _=>rfl⟩
theorem zJ5:∀ (l:List (Nat × List Nat)) (tm:Tm) (h:zC) (n:Key),∃ tm' h' n',∀ k,zBd l tm h n k=k tm' h' n'
 | [],tm,h,n=>⟨tm,h,n,fun _=>rfl⟩
 | p::r,tm,h,n=>by
  obtain ⟨v,h1,n1,e⟩:=zRG p.2 (qZ (Loc.ofNat p.1) tm) h n
  obtain ⟨tm',h',n',e'⟩:=zJ5 r (ko v (Loc.ofNat p.1) tm) h1 n1
  exact ⟨tm',h',n',fun k=>by unfold zBd; rw [e]; exact e' k⟩
theorem zL9 {l:List (Nat × List Nat)} {tm:Tm} {h:zC} {n:Key} {α:Type} {k:Tm→zC→Key→Bool} {k':α→Tm→zC→Key→Bool} (hk:zBd l tm h n k=true) (hh:∀ tm h n,k tm h n=true→∃ x,k' x tm h n=true) :
 ∃ x,zBd l tm h n (k' x)=true:=by
 obtain ⟨tm',h',n',e⟩:=zJ5 l tm h n
 rw [e] at hk
 obtain ⟨x,hx⟩:=hh _ _ _ hk
 exact ⟨x,by rw [e]; exact hx⟩
theorem zQV {w:World} {B:Nat} {o:Obj} (h:w.heap[B]? = some o):w.upB B o=w:=by
 have:w.heap.setIfInBounds B o=w.heap:=by
  apply Array.ext_getElem?
  intro i
  rw [Array.getElem?_setIfInBounds]
  split
  · rename_i e
    subst e
    split
    · exact h.symm
    · rename_i q
      rw [Array.getElem?_eq_none (by omega)]
  · rfl
 show { w with heap:=w.heap.setIfInBounds B o }=w
 rw [this]
section
variable [Sym]
theorem zSH {w:World}:∀ (p:List Nat) {v:CV} {h:zC} {n:Key} {ψ:Psi} {k:CV→zC→Key→Bool},Rel ψ (zC.fam h) w→xc ψ n→slV p v h n k=true →
 ∃ v' h' n' ψ',yH ψ (zC.fam h) n w ψ' (zC.fam h') n' w∧xc ψ' n'∧(∀ x,zH ψ v x→zH ψ' v' x)∧k v' h' n'=true
 | [],v,h,n,ψ,k,hr,hf,hk=>by
  have same:k v h n=true→∃ v' h' n' ψ',yH ψ (zC.fam h) n w ψ' (zC.fam h') n' w∧xc ψ' n'∧(∀ x,zH ψ v x→zH ψ' v' x)∧k v' h' n'=true:=
   fun hk=>⟨v,h,n,ψ,yH.refl hr,hf,fun _ h=>h,hk⟩
  unfold slV at hk
  split at hk
  · rename_i b o l c e x
    split at hk
    · rename_i vs hb
      split at hk
      · rename_i hc
        rw [Bool.and_eq_true] at hc
        have c1:=@zL zP _ _ hc.1
        have c2:=@zL zP _ _ hc.2
        have hb':zC.fam h b=some (.cells vs):=hb
        obtain ⟨p,hp⟩:=hr.tot b _ hb'
        have ho:=hr.on b _ p hb' hp
        obtain ⟨arr,elem,fz,g1,g2,g3,g4,g5⟩:=ho
        have hroom:n.room:=by unfold Key.room; omega
        have hnone:ψ n=none:=hf n (Nat.le_refl _)
        have hle:=Psi.le_upd (ψ:=ψ) (k:=n) ⟨p.blk,p.off+Nat.succ o,p.sz,p.ck⟩ hnone
        have hpost:=zHF (n:=n) (p':=⟨p.blk,p.off+Nat.succ o,p.sz,p.ck⟩) (ob:=.cells arr elem fz) (o':=.cells (vs.drop (Nat.succ o))) hr hroom hnone hb' rfl hp rfl (by
         rw [zQV g1]
         refine ⟨arr,elem,fz,g1,g2,?_,g4,fun i c hi=>?_⟩
         · show p.off+Nat.succ o+(vs.drop (Nat.succ o)).length≤p.sz
           rw [List.length_drop]; omega
         · rw [List.getElem?_drop] at hi
           obtain ⟨y,q1,q2⟩:=g5 _ c hi
           refine ⟨y,?_,q2.mono hle⟩
           rw [← q1]; congr 1; show p.off+Nat.succ o+i=_; omega)
        rw [zQV g1] at hpost
        refine ⟨_,_,_,_,by rw [z6,z6]; exact hpost,?_,fun y hy=>?_,hk⟩
        · intro j hj
          have hix:=Key.ix_succ hroom
          rw [Psi.upd_other _ _ (fun e=>by subst e; omega)]
          exact hf j (by omega)
        · rw [yF] at hy ⊢
          obtain ⟨p1,y1,cap',k1,k2,k3,k4,k5,k6⟩:=hy
          rw [hp] at k1; injection k1 with k1; subst k1
          exact ⟨_,y1,cap',Psi.upd_same _ _ _,k2,k3,k4,k5,k6⟩
      · exact same hk
    · exact same hk
  · exact same hk
 | i::r,v,h,n,ψ,k,hr,hf,hk=>by
  have same:k v h n=true→∃ v' h' n' ψ',yH ψ (zC.fam h) n w ψ' (zC.fam h') n' w∧xc ψ' n'∧(∀ x,zH ψ v x→zH ψ' v' x)∧k v' h' n'=true:=
   fun hk=>⟨v,h,n,ψ,yH.refl hr,hf,fun _ h=>h,hk⟩
  unfold slV at hk
  split at hk
  · rename_i q _
    split at hk
    · rename_i vs hb
      split at hk
      · rename_i c hc
        obtain ⟨c',h',n',ψ',g1,g2,g3,g4⟩:=zSH r hr hf hk
        split at g4
        · rename_i vs' hb'
          have hb0:zC.fam h q.1=some (.cells vs):=hb
          have hb1:zC.fam h' q.1=some (.cells vs'):=hb'
          obtain ⟨p,hp⟩:=hr.tot _ _ hb0
          have hp':=g1.ext _ _ hp
          obtain ⟨arr,elem,fz,a1,a2,a3,a4,a5⟩:=hr.on _ _ _ hb0 hp
          obtain ⟨arr',elem',fz',b1,b2,b3,b4,b5⟩:=g1.rel.on _ _ _ hb1 hp'
          have hsame:arr'=arr:=by
           rw [a1] at b1; injection b1 with b1; injection b1 with b1; exact b1.symm
          rw [@yg zP] at hc
          obtain ⟨x,x1,x2⟩:=a5 _ _ hc
          have hpost:=zDj (n:=n') (o':=.cells (zLM vs' c' (q.2+i))) g1.rel hb1 hp' ⟨arr',elem',fz',b1,b2,by rw [zK4]; exact b3,b4,fun j d hj=>by
           rcases zK8 hj with ⟨e1,e2,_⟩ | ⟨_,e2⟩
           · subst e1; subst e2
             exact ⟨x,by rw [hsame]; exact x1,g3 x x2⟩
           · exact b5 j d e2⟩
          exact ⟨v,_,n',ψ',g1.trans (by rw [z6]; exact hpost),g2,fun x hx=>hx.mono g1.ext,g4⟩
        · exact ⟨v,h',n',ψ',g1,g2,fun x hx=>hx.mono g1.ext,g4⟩
      · exact same hk
    · exact same hk
  · exact same hk
theorem zLh {F N:Nat} {a:Act} {w:World}:∀ (l:List (Nat × List Nat)) {tm:Tm} {h:zC} {n:Key} {ψ:Psi} {k:Tm→zC→Key→Bool},St P F N ψ tm [] h n a w→zBd l tm h n k=true →
 ∃ tm' h' n' ψ',St P F N ψ' tm' [] h' n' a w∧yH ψ (zC.fam h) n w ψ' (zC.fam h') n' w∧k tm' h' n'=true
 | [],tm,h,n,ψ,k,hs,hk=>⟨tm,h,n,ψ,hs,yH.refl hs.rel,hk⟩
 | p::r,tm,h,n,ψ,k,hs,hk=>by
  unfold zBd at hk
  obtain ⟨v,h1,n1,ψ1,g1,g2,g3,g4⟩:=zSH p.2 hs.rel hs.fresh hk
  have hs1:St P F N ψ1 (ko v (Loc.ofNat p.1) tm) [] h1 n1 a w:=by
   refine ⟨⟨hs.frame.size,fun t q1 q2 q3=>?_⟩,hs.dfr,g1.rel,fun j q1 q2=>let ⟨sz,e⟩:=hs.glob j q1 q2; ⟨sz,g1.ext _ _ e⟩,g2⟩
   have h0:=hs.frame.tmp t q1 q2 q3
   by_cases e:Loc.ofNat t=Loc.ofNat p.1
   · rw [e,zOq]
     rw [e] at h0
     exact g3 _ h0
   · rw [zJR _ _ _ _ e]
     exact h0.mono g1.ext
  obtain ⟨tm',h',n',ψ',k1,k2,k3⟩:=zLh r hs1 g4
  exact ⟨tm',h',n',ψ',k1,g1.trans k2,k3⟩
end
end
end Go.Ev
namespace Go.Ev
open Go.RowKit
noncomputable section
variable {P:Program}
structure kJ where
 T:Nat
 ks:List Key
 θ:TH
def zTo (θ:TH):Bool:=match θ with
 | q::_=>zj q.1 1&&j6 q.2 [(0,1)]
 | []=>false
def zC5 (θ:TH):Bool:=match θ with
 | _::_=>true
 | []=>false
def kI (θ:TH):List (Key × Nat)→Bool
 | []=>true
 | q::r=>(match nth θ q.2 with
  | some u=>zj u.1 0&&j6 u.2 [(q.2,1)]
  | none=>false)&&kI θ r
def LensAre (wins:List Win) (L:List (Key × Nat)) (σ:Nat→Int):Prop:=∀ q∈L,∃ wn,findW wins q.1=some wn∧σ q.2=wn.len
theorem zG6 {θ:TH}:∀ {L:List (Key × Nat)},kI θ L=true→∀ q∈L,nth θ q.2=some (0,[(q.2,1)])
 | [],_,q,h=>by cases h
 | x::r,h,q,hq=>by
  unfold kI at h
  rw [Bool.and_eq_true] at h
  rcases List.mem_cons.1 hq with rfl | hq
  · have h1:=h.1
    split at h1
    · rename_i u hu
      rw [Bool.and_eq_true,@za zP,decide_eq_true_eq] at h1
      rw [hu]
      obtain ⟨a,b⟩:=u
      simp only at h1
      rw [h1.1,@qq zP _ _ h1.2]
    · cases h1
  · exact zG6 h.2 q hq
def zCB (G:Nat) (ws:List (Key × Nat)) (Ts:List TS) (ok:kJ→Bool) (K:zY) (t:kJ) (tm:Tm) (ds:xe) (h:zC) (n:Key):Bool:=match ds with
 | []=>match nth Ts t.T with
  | some T=>zTS T fun T=>Nat.ble (Nat.succ n.ix) 65535&&zBd T.sl tm h n fun tm h n=>ok t&&zI3 G ws T t.ks t.θ K tm h
  | none=>false
 | _=>false
def ku (G:Nat) (ws:List (Key × Nat)) (Ts:List TS) (ok:kJ→Bool) (K:zY) (fin:R→Bool):R→List kJ→Option (List kJ)
 | .ok .normal tm ds h n,t::r=>match zCB G ws Ts ok K t tm ds h n with
  | true=>some r
  | false=>none
 | .ok (.exit i) tm ds h n,r=>match fin (.ok (.exit i) tm ds h n) with
  | true=>some r
  | false=>none
 | .ok .ret tm ds h n,r=>match fin (.ok .ret tm ds h n) with
  | true=>some r
  | false=>none
 | .fork a b,r=>match ku G ws Ts ok K fin a r with
  | some r=>ku G ws Ts ok K fin b r
  | none=>none
 | _,_=>none
def w6 (o:Option (List kJ)):Bool:=match o with
 | some _=>true
 | none=>false
section
variable {G:Nat} {ws:List (Key × Nat)} {Ts:List TS} {ok:kJ→Bool} {K:zY} {fin:R→Bool}
theorem kO (hf:∀ r,fin r=true→zf r):∀ {r:R} {l l':List kJ},ku G ws Ts ok K fin r l=some l'→zf r
 | .ok .normal tm ds h n,[],_,hc=>by cases hc
 | .ok .normal tm ds h n,t::r,l',hc=>by
  unfold ku at hc
  split at hc
  · rename_i hl
    unfold zCB at hl
    split at hl
    · split at hl
      · rw [zMr,Bool.and_eq_true] at hl
        exact @zL zP _ _ hl.1
      · cases hl
    · cases hl
  · cases hc
 | .ok (.exit i) tm ds h n,l,l',hc=>by
  unfold ku at hc
  split at hc
  · rename_i h1; exact hf _ h1
  · cases hc
 | .ok .ret tm ds h n,l,l',hc=>by
  unfold ku at hc
  split at hc
  · rename_i h1; exact hf _ h1
  · cases hc
 | .ret ..,l,l',hc=>by cases hc
 | .err _,l,l',hc=>by cases hc
 | .fork a b,l,l',hc=>by
  unfold ku at hc
  split at hc
  · rename_i r hr
    exact ⟨kO hf hr,kO hf hc⟩
  · cases hc
def zUZ (P:Program) (F N:Nat) (ψ₀:Psi) (g₀:Fam) (n₀:Key) (w₀:World) (G:Nat) (ws:List (Key × Nat)) (Ts:List TS) (ok:kJ→Bool) (K:zY) (fin:R→Bool) (S:Sym) (e:Exit) (a:Act) (w:World):Prop:=
 (e=.normal∧∃ (tm:Tm) (h:zC) (n:Key) (ψ:Psi) (t:kJ) (T:TS),@St S P F N ψ tm [] h n a w∧@yH S ψ₀ g₀ n₀ w₀ ψ (zC.fam h) n w∧nth Ts t.T=some T∧ok t=true∧zI3 G ws T t.ks t.θ K tm h=true) ∨
 (e≠.normal∧∃ r,@xF S P F N ψ₀ g₀ n₀ w₀ r e a w∧fin r=true)
theorem v8 {S:Sym} {F N:Nat} {ψ₀:Psi} {g₀:Fam} {n₀:Key} {w₀:World} {e:Exit} {a:Act} {w:World}:∀ {r:R} {l l':List kJ},ku G ws Ts ok K fin r l=some l' →
 @xF S P F N ψ₀ g₀ n₀ w₀ r e a w→zUZ P F N ψ₀ g₀ n₀ w₀ G ws Ts ok K fin S e a w
 | .ok .normal tm ds h n,[],_,hc,_=>by cases hc
 | .ok .normal tm ds h n,t::r,l',hc,⟨h1,ψ,h2,h3,h4⟩=>by
  unfold ku at hc
  split at hc
  · rename_i hl
    unfold zCB at hl
    split at hl
    · split at hl
      · rename_i T hT
        rw [zMr,Bool.and_eq_true] at hl
        cases e <;> first | exact h1.elim | skip
        obtain ⟨tm',h',n',ψ',k1,k2,k3⟩:=@zLh P S F N a w T.sl tm h n ψ _ h2 hl.2
        rw [Bool.and_eq_true] at k3
        exact Or.inl ⟨rfl,tm',h',n',ψ',t,T,k1,@yH.trans S _ _ _ _ _ _ _ _ _ _ _ _ h3 k2,hT,k3.1,k3.2⟩
      · cases hl
    · cases hl
  · cases hc
 | .ok (.exit i) tm ds h n,l,l',hc,ho=>by
  unfold ku at hc
  split at hc
  · rename_i hf
    refine Or.inr ⟨fun e1=>?_,_,ho,hf⟩
    subst e1; exact ho.1.elim
  · cases hc
 | .ok .ret tm ds h n,l,l',hc,ho=>by
  unfold ku at hc
  split at hc
  · rename_i hf
    refine Or.inr ⟨fun e1=>?_,_,ho,hf⟩
    subst e1; exact ho.1.elim
  · cases hc
 | .ret ..,l,l',hc,_=>by cases hc
 | .err _,l,l',hc,_=>by cases hc
 | .fork a b,l,l',hc,ho=>by
  unfold ku at hc
  split at hc
  · rename_i r hr
    rcases ho with ho | ho
    · exact v8 hr ho
    · exact v8 hc ho
  · cases hc
end
structure zP7 (P:Program) (F N:Nat) (G:Nat) (A:Key→Option Value) (wins:List Win) (L:List (Key × Nat)) (w0:World) (T:TS) (σ:Nat→Int) (ψ:Psi) (a:Act) (w:World):Prop where
 bnd:yL σ 0 T.b
 fct:jn σ T.f
 rul:xG σ T.r
 len:LensAre wins L σ
 st:∀ σ' K',(∀ j,j<T.b.length→σ' j=σ j)→K'.arg=A→@St (linSym σ' K') P F N ψ (zCo T.locs) [] (mkH .nil T.objs) T.n a w
 own:∀ k o p,zC.fam (mkH .nil T.objs) k=some o→ψ k=some p→o.isRo=false∧w0.heap.size≤p.blk
 blw:Below w0.heap.size w0 w
 win:∀ k wn,findW wins k=some wn→zC.fam (mkH .nil T.objs) k=none→ψ k=some ⟨wn.B,wn.x+(σ 0).toNat*wn.esz,wn.sz,fun n=>n⟩
theorem zKK {S:Sym} {ψ ψ':Psi} {g g':Fam} {n n':Key} {w0 w w':World} (h:Below w0.heap.size w0 w) (hp:@yH S ψ g n w ψ' g' n' w') (hm:∀ k o p,g k=some o→o.isRo=false→ψ k=some p→w0.heap.size≤p.blk) :
 Below w0.heap.size w0 w':=by
 have h1:=@yH.os S _ _ _ _ _ _ _ _ hp
 have h2:=@yH.tape S _ _ _ _ _ _ _ _ hp
 have h3:=@yH.output S _ _ _ _ _ _ _ _ hp
 have h4:=@yH.size S _ _ _ _ _ _ _ _ hp
 have h5:=@yH.frame S _ _ _ _ _ _ _ _ hp
 refine ⟨h1.trans h.os,h2.trans h.tape,h3.trans h.output,Nat.le_trans h.size h4,fun k hk=>?_⟩
 rw [h5 k (Nat.lt_of_lt_of_le hk h.size) fun k' o p q1 q2 q3 e=>?_,h.block k hk]
 have:=hm k' o p q1 q2 q3
 omega
theorem zNM {h:zC}:∀ {objs:List (Key × CObj)} {j:Nat} {k:Key} {o:CObj},objs[j]? = some (k,o)→∃ o',zn k (mkH h objs)=some o'
 | [],j,k,o,hj=>by simp at hj
 | p::r,j,k,o,hj=>by
  show ∃ o',zn k (yu (some p.2) p.1 (mkH h r))=some o'
  rw [vU]
  split
  · exact ⟨_,rfl⟩
  · rename_i e
    cases j with
    | zero=>simp at hj; subst hj; exact absurd rfl e
    | succ j=>exact zNM (j:=j) (by simpa using hj)
theorem zQF {objs:List (Key × CObj)} {ks:List Key} {k:Key} (h:zC.fam (mkH .nil objs) k=none):zCC (j3 objs ks) k=true:=by
 unfold zCC
 split
 · rfl
 · rename_i b hb
   obtain ⟨j,o,h1,h2⟩:=zGk hb
   obtain ⟨o',h3⟩:=zNM (h:=.nil) h1
   have h:zn k (mkH .nil objs)=none:=h
   rw [h] at h3; cases h3
theorem zMg {L:List (Key × Nat)} {wins:List Win} {σs:Nat→Int} {Ks:zY} (hK:KnownOk σs Ks) (hlen:LensAre wins L σs) {θ:TH} {T:TS} {ks:List Key} {G F N:Nat} {ψ₀ ψ:Psi} {g₀:Fam} {n₀:Key} {w0 w₀:World} {tm:Tm} {h:zC} {n:Key} {a:Act} {w:World}
 (hst:@St (linSym σs Ks) P F N ψ tm [] h n a w) (hp:@yH (linSym σs Ks) ψ₀ g₀ n₀ w₀ ψ (zC.fam h) n w) (hG:P.globals.size≤G) (hA:ArgsAre Ks.arg wins) (hc:zI3 G (wsOf wins) T ks θ Ks tm h=true)
 (h0:∃ q,nth θ 0=some q) (hL:kI θ L=true) (hm:∀ k o p,g₀ k=some o→o.isRo=false→ψ₀ k=some p→w0.heap.size≤p.blk) (hb:Below w0.heap.size w0 w₀) :
 ∃ σ ψT,zP7 P F N G Ks.arg wins L w0 T σ ψT a w∧∀ q,nth θ 0=some q→σ 0=evQ σs q:=by
 obtain ⟨σ,hσ⟩:∃ σ:Nat→Int,∀ j,σ j=match nth θ j with | some q=>evQ σs q | none=>0:=⟨_,fun _=>rfl⟩
 have hth:∀ j q,nth θ j=some q→σ j=evQ σs q:=fun j q hj=>by rw [hσ,hj]
 obtain ⟨q0,hq0⟩:=h0
 obtain ⟨ψT,c1,c2,c3⟩:=zRB hst hG hA hc (evQ σs q0) (fun q hq=>by rw [hq0] at hq; injection hq with hq; rw [hq]) ⟨q0,hq0⟩
 have hc':=hc
 unfold zI3 at hc'
 simp only [Bool.and_eq_true] at hc'
 obtain ⟨⟨⟨⟨⟨⟨_,_⟩,c6⟩,c7⟩,_⟩,_⟩,c10⟩:=hc'
 obtain ⟨hlenb,hbd⟩:=zOG hK (σT:=σ) (k:=0) c6 (fun j q hj=>by rw [Nat.zero_add]; exact hth j q hj)
 have hout:=@yH.img (linSym σs Ks) _ _ _ _ _ _ _ _ hp
 have hsz:=@yH.size (linSym σs Ks) _ _ _ _ _ _ _ _ hp
 refine ⟨σ,ψT,⟨hbd,zOb hK (fun j q hj=>hth j q hj) c7,zEc hK (fun j q hj=>hth j q hj) c10,fun q hq=>?_,fun σ' K' hag hK'=>?_,fun k o p h1 h2=>?_,zKK hb hp hm,fun k wn hw hno=>?_⟩,fun q hq=>hth 0 q hq⟩
 · obtain ⟨wn,h1,h2⟩:=hlen q hq
   refine ⟨wn,h1,?_⟩
   rw [hth _ _ (zG6 hL q hq)]
   show (0:Int)+(1*σs q.2+0)=_
   rw [h2]; omega
 · refine c1 σ' K' (fun j q hj=>?_) hK'
   have hlt:j<T.b.length:=by
    rw [hlenb]
    rw [@yg zP] at hj
    exact (List.getElem?_eq_some_iff.1 hj).1
   rw [hag j hlt]
   exact hth j q hj
 · obtain ⟨g1,k0,o0,p0,g2,g3,g4,g5⟩:=c2 k o p h1 h2
   refine ⟨g1,?_⟩
   rw [← g5]
   rcases hout k0 o0 p0 g2 g3 g4 with ⟨k1,o1,p1,r1,r2,r3,r4⟩ | r
   · rw [← r4]; exact hm k1 o1 p1 r1 r2 r3
   · exact Nat.le_trans hb.size (Nat.le_trans (by exact Nat.le_refl _) r)
 · rw [c3.1 k wn hw (zQF hno),hth 0 q0 hq0]
def zVb:CV→Option Key
 | .sl k _ _ _ _ _=>some k
 | .win k _ _ _=>some k
 | _=>none
def zRw (wins:List Win) (i:Int) (ψ:Psi) (c:CV):Prop:=∀ k wn,zVb c=some k→findW wins k=some wn→ψ k=some ⟨wn.B,wn.x+i.toNat*wn.esz,wn.sz,fun n=>n⟩
def zBg (S:Sym) (wins:List Win) (w0:World) (i:Int) (q:Key × List CV):Prop:=
 ∃ wn arr elem fz,findW wins q.1=some wn∧w0.heap[wn.B]? = some (.cells arr elem fz)∧wn.x+i.toNat*wn.esz+q.2.length≤arr.size ∧
  ∀ (j:Nat) (c:CV),q.2[j]? = some c→∃ v,arr[wn.x+i.toNat*wn.esz+j]? = some v∧∀ ψ,zRw wins i ψ c→@zH S ψ c v
def zFL (l:List (Key × List CV)):List (Key × CObj):=l.map fun q=>(q.1,.ro q.2)
def zGq (objs:List (Key × CObj)):List CV→Bool
 | []=>true
 | c::r=>(match zVb c with
  | none=>true
  | some k=>(match zn k (mkH .nil objs) with
   | none=>true
   | some _=>false))&&zGq objs r
theorem zG7 {objs:List (Key × CObj)}:∀ {l:List CV},zGq objs l=true→∀ (j:Nat) c k,l[j]? = some c→zVb c=some k→zn k (mkH .nil objs)=none
 | [],_,j,c,k,hj,_=>by simp at hj
 | x::r,h,j,c,k,hj,hk=>by
  unfold zGq at h
  rw [Bool.and_eq_true] at h
  cases j with
  | zero=>
   simp at hj
   subst hj
   have h1:=h.1
   rw [hk] at h1
   simp only at h1
   split at h1
   · assumption
   · cases h1
  | succ j=>exact zG7 h.2 j c k (by simpa using hj) hk
def wh (objs:List (Key × CObj)):List (Key × List CV)→Bool
 | []=>true
 | q::r=>zGq objs q.2&&(match zn q.1 (mkH .nil objs) with
  | none=>true
  | some _=>false)&&(match zn q.1 (mkH .nil (zFL r)) with
  | none=>true
  | some _=>false)&&wh objs r
theorem zRE {l:List (Key × List CV)} {j:Nat} {k:Key} {o:CObj} (h:(zFL l)[j]? = some (k,o)):∃ cs,(k,cs)∈l∧o=.ro cs:=by
 unfold zFL at h
 rw [List.getElem?_map] at h
 cases hq:l[j]? with
 | none=>rw [hq] at h; cases h
 | some q=>
  rw [hq] at h
  injection h with h
  injection h with h1 h2
  subst h1 h2
  exact ⟨q.2,List.mem_of_getElem? hq,rfl⟩
theorem zH6 {objs:List (Key × CObj)}:∀ {l:List (Key × List CV)},wh objs l=true→∀ q∈l,zn q.1 (mkH .nil objs)=none
 | [],_,q,hq=>by cases hq
 | x::r,h,q,hq=>by
  unfold wh at h
  simp only [Bool.and_eq_true] at h
  rcases List.mem_cons.1 hq with rfl | hq
  · have h1:=h.1.1.2
    split at h1
    · assumption
    · cases h1
  · exact zH6 h.2 q hq
theorem zGh {objs:List (Key × CObj)}:∀ {l:List (Key × List CV)},wh objs l=true→∀ q∈l,zGq objs q.2=true
 | [],_,q,hq=>by cases hq
 | x::r,h,q,hq=>by
  unfold wh at h
  simp only [Bool.and_eq_true] at h
  rcases List.mem_cons.1 hq with rfl | hq
  · exact h.1.1.1
  · exact zGh h.2 q hq
theorem zAf {objs:List (Key × CObj)} {l:List (Key × List CV)} {k:Key} {o:CObj} (h:zC.fam (mkH (mkH .nil objs) (zFL l)) k=some o) :
 (∃ cs,(k,cs)∈l∧o=.ro cs)∨zC.fam (mkH .nil objs) k=some o:=by
 rcases jH h with ⟨j,hj⟩ | h
 · exact .inl (zRE hj)
 · exact .inr h
section
variable {F N G:Nat} {A:Key→Option Value} {wins:List Win} {L:List (Key × Nat)} {w0:World} {T:TS} {σ:Nat→Int} {ψ:Psi} {a:Act} {w:World}
theorem zSq (hi:zP7 P F N G A wins L w0 T σ ψ a w) {σ':Nat→Int} {K':zY} (hag:∀ j,j<T.b.length→σ' j=σ j) (hA:K'.arg=A) {l:List (Key × List CV)}
 (hl:∀ q∈l,zBg (linSym σ' K') wins w0 (σ 0) q) (hap:wh T.objs l=true) :
 @St (linSym σ' K') P F N ψ (zCo T.locs) [] (mkH (mkH .nil T.objs) (zFL l)) T.n a w:=by
 have hst:=hi.st σ' K' hag hA
 have hR:@Rel (linSym σ' K') ψ (zC.fam (mkH .nil T.objs)) w:=@St.rel (linSym σ' K') _ _ _ _ _ _ _ _ _ _ hst
 have hTot:=@Rel.tot (linSym σ' K') _ _ _ hR
 have hOn:=@Rel.on (linSym σ' K') _ _ _ hR
 have hInj:=@Rel.inj (linSym σ' K') _ _ _ hR
 have hwin:∀ k cs,(k,cs)∈l→∃ wn arr elem fz,findW wins k=some wn∧ψ k=some ⟨wn.B,wn.x+(σ 0).toNat*wn.esz,wn.sz,fun n=>n⟩∧w.heap[wn.B]? = some (.cells arr elem fz)∧wn.B<w0.heap.size ∧
  wn.x+(σ 0).toNat*wn.esz+cs.length≤arr.size ∧
  ∀ (j:Nat) (c:CV),cs[j]? = some c→∃ v,arr[wn.x+(σ 0).toNat*wn.esz+j]? = some v∧@zH (linSym σ' K') ψ c v:=by
  intro k cs hm
  obtain ⟨wn,arr,elem,fz,h1,h2,h5,h6⟩:=hl _ hm
  have hlt:wn.B<w0.heap.size:=by
   rcases Nat.lt_or_ge wn.B w0.heap.size with h | h
   · exact h
   · rw [Array.getElem?_eq_none h] at h2; cases h2
  exact ⟨wn,arr,elem,fz,h1,hi.win k wn h1 (zH6 hap _ hm),by rw [hi.blw.block _ hlt]; exact h2,hlt,h5,fun j c hj=>by
   obtain ⟨v,hv,hr⟩:=h6 j c hj
   exact ⟨v,hv,hr ψ fun k' wn' hk' hw'=>hi.win k' wn' hw' (zG7 (zGh hap _ hm) j c k' hj hk')⟩⟩
 refine @St.mk (linSym σ' K') P F N _ _ _ _ _ _ _ (@St.frame (linSym σ' K') _ _ _ _ _ _ _ _ _ _ hst) (@St.dfr (linSym σ' K') _ _ _ _ _ _ _ _ _ _ hst) ?_ (@St.glob (linSym σ' K') _ _ _ _ _ _ _ _ _ _ hst) (@St.fresh (linSym σ' K') _ _ _ _ _ _ _ _ _ _ hst)
 refine @Rel.mk (linSym σ' K') _ _ _ ?_ ?_ ?_
 · intro k o p hk hp
   rcases zAf hk with ⟨cs,hm,rfl⟩ | hk
   · obtain ⟨wn,arr,elem,fz,h1,h2,h3,_,h6,h7⟩:=hwin k cs hm
     rw [h2] at hp
     injection hp with hp; subst hp
     exact ⟨arr,elem,fz,h3,h6,h7⟩
   · exact hOn k o p hk hp
 · intro k o hk
   rcases zAf hk with ⟨cs,hm,rfl⟩ | hk
   · obtain ⟨wn,arr,elem,fz,h1,h2,_⟩:=hwin k cs hm
     exact ⟨_,h2⟩
   · exact hTot k o hk
 · intro k₁ k₂ o₁ o₂ p₁ p₂ h1 h2 h3 h4 hr e
   rcases zAf h1 with ⟨cs1,m1,rfl⟩ | h1 <;> rcases zAf h2 with ⟨cs2,m2,rfl⟩ | h2
   · exact hr.elim (fun h=>by cases h) (fun h=>by cases h)
   · exfalso
     obtain ⟨w1,_,_,_,f1,g1,_,hlt,_⟩:=hwin k₁ cs1 m1
     rw [g1] at h3
     injection h3 with h3; subst h3
     have:=(hi.own _ _ _ h2 h4).2
     simp only at e
     omega
   · exfalso
     obtain ⟨w1,_,_,_,f1,g1,_,hlt,_⟩:=hwin k₂ cs2 m2
     rw [g1] at h4
     injection h4 with h4; subst h4
     have:=(hi.own _ _ _ h1 h3).2
     simp only at e
     omega
   · exact hInj k₁ k₂ o₁ o₂ p₁ p₂ h1 h2 h3 h4 hr e
end
def boundIs (m:Int):List TS→Bool
 | []=>true
 | T::r=>(match T.b with
  | q::_=>decide (q.2≤m)
  | []=>false)&&boundIs m r
theorem zBI {m:Int}:∀ {Ts:List TS} {t:Nat} {T:TS},boundIs m Ts=true→nth Ts t=some T→∃ q r,T.b=q::r∧q.2≤m
 | [],_,_,_,h=>by cases h
 | x::r,t,T,hb,h=>by
  unfold boundIs at hb
  rw [Bool.and_eq_true] at hb
  cases t with
  | zero=>
   injection h with h; subst h
   have h1:=hb.1
   split at h1
   · rename_i q l e
     exact ⟨q,l,e,of_decide_eq_true h1⟩
   · cases h1
  | succ t=>exact zBI hb.2 h
section
variable {code:FuncId→CFn} {nat:Nats} {fuel:Nat} {fn:Func} {c b:Code} {p:List Stp} {rs:List CRes} {G:Nat} {wins:List Win} {L:List (Key × Nat)} {A:Key→Option Value} {Ts:List TS} {bound:Int} {w0:World}
def zJJ (P:Program) (code:FuncId→CFn) (nat:Nats) (fuel:Nat) (p:List Stp) (cc:CCode) (rs:List CRes) (S:Sym) (r:R):Bool:=
 allTrue (y6 false (@ev S P code nat fuel) rs (@u5 S P (@ev S P code nat fuel) p cc r))
def zVa (P:Program) (code:FuncId→CFn) (nat:Nats) (fuel:Nat) (G:Nat) (ws L:List (Key × Nat)) (Ts:List TS) (p:List Stp) (cc:CCode) (rs:List CRes) (T:TS) (l:List (Key × List CV)) (S:Sym) (K:zY) (hs:List kJ):Bool:=
 w6 (ku G ws Ts (fun t=>zTo t.θ&&kI t.θ L) K (zJJ P code nat fuel p cc rs S) (@zp S P (@ev S P code nat fuel) (zDO p cc) (zCo T.locs) [] (mkH (mkH .nil T.objs) (zFL l)) T.n) hs)
def Passes (P:Program) (code:FuncId→CFn) (nat:Nats) (fuel:Nat) (G:Nat) (wins:List Win) (L:List (Key × Nat)) (A:Key→Option Value) (Ts:List TS) (p:List Stp) (cc:CCode) (rs:List CRes) (w0:World):Prop:=
 ∀ t T,nth Ts t=some T→∀ σ,yL σ 0 T.b→jn σ T.f→xG σ T.r→LensAre wins L σ→∃ σ' K' l hs,(∀ j,j<T.b.length→σ' j=σ j)∧(∀ q∈L,σ' q.2=σ q.2)∧K'.arg=A∧KnownOk σ' K'∧(∀ q∈l,zBg (linSym σ' K') wins w0 (σ 0) q)∧wh T.objs l=true ∧
  zVa P code nat fuel G (wsOf wins) L Ts p cc rs T l (linSym σ' K') K' hs=true
theorem zGW {σ:Nat→Int} {K:zY} (hK:KnownOk σ K) (hm:P.follows .mixedOrders=true) (hcode:CodeOk P code) (hnat:∀ σ K,KnownOk σ K→@NatsOk (linSym σ K) P nat) {cc:CCode}:∀ r,zJJ P code nat fuel p cc rs (linSym σ K) r=true→zf r:=by
 letI S:Sym:=linSym σ K
 haveI hS:SymFact P:=yx hK
 have hcall:yP P (ev P code nat fuel):=vu (fun call hcall F N=>xS hm hcall) hcode (hnat _ _ hK) fuel
 intro r h
 have h:allTrue (y6 false (ev P code nat fuel) rs (u5 P (ev P code nat fuel) p cc r))=true:=h
 exact wv hcall.above p cc (xX hcall.above false rs (jJ h))
abbrev zJq (P:Program) (fn:Func) (w0:World):Exit→Act→World→Prop:=bodyPostD P fn fun e w=>e=.returned (.bool true)∧Below w0.heap.size w0 w
theorem zOy {σ:Nat→Int} {K:zY} (hK:KnownOk σ K) (hm:P.follows .mixedOrders=true) (hcode:CodeOk P code) (hnat:∀ σ K,KnownOk σ K→@NatsOk (linSym σ K) P nat) {F N:Nat} (hsub:um p c=some b) (hn:yY c=true)
 (hrs:xD (xd P F N) fn.results.toList=some rs) {ψ₀:Psi} {g₀:Fam} {n₀:Key} {w₀:World} {r:R} {e:Exit} {a:Act} {w:World}
 (ho:@xF (linSym σ K) P F N ψ₀ g₀ n₀ w₀ r e a w) (hf:zJJ P code nat fuel p (zU P F N c) rs (linSym σ K) r=true)
 (hb:Below w0.heap.size w0 w₀) (ho0:∀ k o p,g₀ k=some o→o.isRo=false→ψ₀ k=some p→w0.heap.size≤p.blk):QH P p c (zJq P fn w0) e a w:=by
 letI S:Sym:=linSym σ K
 haveI hS:SymFact P:=yx hK
 have hcall:yP P (ev P code nat fuel):=vu (fun call hcall F N=>xS hm hcall) hcode (hnat _ _ hK) fuel
 have hdraw:kY P F N (ev P code nat fuel):=xS hm hcall
 have hf:allTrue (y6 false (ev P code nat fuel) rs (u5 P (ev P code nat fuel) p (zU P F N c) r))=true:=hf
 have hc:=jJ hf
 have hc2:=xX hcall.above false rs hc
 refine zAE hcall hdraw p c hsub hn ho hc2 fun e a w ho=>?_
 refine wW false rs hc ho fun tm ds h' n' ψ' q1 q2 q3 q4 q5=>?_
 have hl:=zHc hcall hrs q2 q4
 have:Leaves P fn a.tmps (fun e w=>e=.returned (.bool true)∧Below w0.heap.size w0 w) a.defers .returning w:=by
  refine ju (fun e w'' ⟨v,he,hr⟩=>?_) _ _ _ hl
  obtain ⟨rfl,ψ'',g'',n'',hp⟩:=vK hf (q5 _ _ (zl.trans q3 hr))
  exact ⟨he,zKK hb hp ho0⟩
 rcases q1 with rfl | rfl
 · exact this
 · exact this
end
end
end Go.Ev
namespace Go.Ev
open Go.RowKit
noncomputable section
variable {P:Program}
theorem zF1 {f:FuncId} {fn:Func} {c:Code} {cc:CCode} {rs:List CRes} (hf:P.funcs[f]? = some fn) (hb:fn.body=some c) (h:compFn P f=.mk cc rs) :
 xD (xd P (frameBits fn c) fn.ntmps) fn.results.toList=some rs∧yY c=true∧cc=zU P (frameBits fn c) fn.ntmps c:=by
 unfold compFn at h
 rw [@yg zP] at h
 have hf':P.funcs.toList[f]? = some fn:=by simpa using hf
 simp only [hf',hb] at h
 split at h
 · cases h
 · unfold zBR at h
   cases hrs:xD (xd P (frameBits fn c) fn.ntmps) fn.results.toList with
   | none=>simp only [hrs] at h; cases h
   | some r=>
    simp only [hrs] at h
    split at h
    · rename_i hn
      injection h with h1 h2
      subst h1 h2
      exact ⟨rfl,hn,rfl⟩
    · split at h
      · split at h <;> cases h
      · cases h
def psiW (G:Nat) (wins:List Win):Psi:=fun k=>match findW wins k with
 | some w=>some ⟨w.B,w.x+0*w.esz,w.sz,fun n=>n⟩
 | none=>zJN G k
theorem zOY {G:Nat} {wins:List Win} {hi:Nat} (hG:P.globals.size≤G) (hw:zGM G hi (wsOf wins)=true):kR P (psiW G wins):=by
 intro g hg h4
 obtain ⟨sz,e⟩:=@zHO zP P zRj _ hG g hg h4
 have hix:(Key.ofNat g).ix=g:=@Key.ix_ofNat zP _ (by omega)
 have hnw:findW wins (Key.ofNat g)=none:=by
  cases hr:findW wins (Key.ofNat g) with
  | none=>rfl
  | some wn=>
   obtain ⟨hm,hk⟩:=kM hr
   have:=(zIs hw wn hm).1
   rw [hk] at this; omega
 refine ⟨sz,?_⟩
 unfold psiW
 rw [hnw]
 exact e
theorem zMu {G:Nat} {wins:List Win} {n:Key} (hn:G≤n.ix) (hw:zGM G n.ix (wsOf wins)=true):xc (psiW G wins) n:=by
 intro k hk
 have hnw:findW wins k=none:=by
  cases hr:findW wins k with
  | none=>rfl
  | some wn=>
   obtain ⟨hm,hk'⟩:=kM hr
   have:=(zIs hw wn hm).2
   rw [hk'] at this; omega
 unfold psiW
 rw [hnw]
 exact @zFJ zP _ _ hn k hk
def startOf (P:Program) (code:FuncId→CFn) (nat:Nats) (fuel:Nat) (G:Nat) (ws L:List (Key × Nat)) (Ts:List TS) (p:List Stp) (cc:CCode) (args:List CV) (n:Key) (S:Sym) (K:zY) (hs:List kJ):Bool:=
 w6 (ku G ws Ts (fun t=>zC5 t.θ&&kI t.θ L) K (fun _=>false) (@zEi S P (@ev S P code nat fuel) p cc (qg args 0 .nil) [] .nil n) hs)
end
end Go.Ev
