/- A verified evaluator for the model's code: EvCov, EvLoop, EvSlide, EvInv, EvTwo. -/
import Derived.Test.YteejciioplkoeaaGreatDoorEvSym
set_option linter.unusedSectionVars false
set_option linter.unusedVariables false
set_option linter.unusedSimpArgs false
namespace Go.Ev
noncomputable section
variable {P:Program}
abbrev TH:=List (Int × LL)
def uw (θ:TH):LL→Option (Int × LL)
 | []=>some (0,[])
 | p::r=>match nth θ p.1,uw θ r with
  | some q,some s=>some (p.2*q.1+s.1,zB5 (uy p.2 q.2) s.2)
  | _,_=>none
def jy (σs σT:Nat→Int) (θ:TH):Prop:=∀ j q,nth θ j=some q→σT j=q.1+evL σs q.2
theorem zAY {σs σT:Nat→Int} {θ:TH} (hθ:jy σs σT θ):∀ {l:LL} {s:Int × LL},uw θ l=some s→evL σT l=s.1+evL σs s.2
 | [],s,h=>by
  injection h with h; subst h
  simp [evL]
 | p::r,s,h=>by
  unfold uw at h
  split at h
  · rename_i q u hq hu
    injection h with h; subst h
    have h1:=hθ _ _ hq
    have h2:=zAY hθ hu
    show p.2*σT p.1+evL σT r=_
    rw [h1,h2,zAA,vJ,Int.mul_add]
    omega
  · cases h
def zAh (θ:TH) (e:SE) (v:CV):Bool:=match zBM v with
 | some (k,c,l)=>match uw θ e.l with
  | some s=>kEq e.k k&&z7 (e.c+s.1) c&&vY s.2 l
  | none=>false
 | none=>false
def zk (m:zC) (k:Key):Option Key:=match zj k m with
 | some (.cells (.ptr b _::_))=>some b
 | _=>none
def k7 (ρ:zC) (k j:Key):Bool:=match zk ρ k with
 | some b=>Nat.beq b.ix j.ix
 | none=>false
def zCS (k:IntKind) (v:CV):Bool:=match v with
 | .anyi j=>kEq k j
 | v=>match zBM v with
  | some (j,_,_)=>kEq k j
  | none=>false
def zIx:List (List Nat)→List (List Nat)→Bool
 | [],[]=>true
 | a::l,b::m=>qB a b&&zIx l m
 | _,_=>false
theorem zHN:∀ {a b:List (List Nat)},zIx a b=true→a=b
 | [],[],_=>rfl
 | [],_::_,h=>by cases h
 | _::_,[],h=>by cases h
 | a::l,b::m,h=>by
  unfold zIx at h
  rw [Bool.and_eq_true,@kF zR,decide_eq_true_eq] at h
  rw [h.1,zHN h.2]
mutual
def yG (ρ:zC) (θ:TH):CV→CV→Bool
 | .any,_=>true
 | .sym e,v=>zAh θ e v
 | .bool a,.bool b=>a == b
 | .nat a,.nat b=>Nat.beq a b
 | .int k a,.int j b=>kEq k j&&z7 a b
 | .anyi k,v=>zCS k v
 | .str a,.str b=>qB a b
 | .nilptr,.nilptr=>true
 | .ptr k o,.ptr j p=>k7 ρ k j&&Nat.beq o p
 | .nilsl,.nilsl=>true
 | .sl k o l c e x,.sl k' o' l' c' e' x'=>k7 ρ k k'&&Nat.beq o o'&&Nat.beq l l'&&Nat.beq e e'&&x == x'&&(Nat.beq c c' || (!x&&Nat.ble c c'))
 | .nilmap,.nilmap=>true
 | .map k,.map j=>k7 ρ k j
 | .func f a b,.func g c d=>decide (f=g)&&wR ρ θ a c&&wR ρ θ b d
 | .nilfunc,.nilfunc=>true
 | .iface t v,.iface u w=>Nat.beq t u&&yG ρ θ v w
 | .niliface,.niliface=>true
 | .agg a,.agg b=>wR ρ θ a b
 | .tup a,.tup b=>wR ρ θ a b
 | .sst a,.sst b=>wR ρ θ a b
 | .sst a,.str s=>wR ρ θ a (x8 s)
 | .few i t,.str s=>match nth θ i with
  | some q=>match q.1,q.2 with
   | .ofNat c,[]=>match nth t c with
    | some x=>qB x s
    | none=>false
   | _,_=>false
  | none=>false
 | .few i t,.few j u=>match nth θ i with
  | some q=>z7 q.1 0&&vY q.2 [(j,1)]&&zIx t u
  | none=>false
 | _,_=>false
def wR (ρ:zC) (θ:TH):List CV→List CV→Bool
 | [],[]=>true
 | a::as,b::bs=>yG ρ θ a b&&wR ρ θ as bs
 | _,_=>false
end
def zA0 (ρ:zC) (ψs ψT:Psi):Prop:=∀ k j p,k7 ρ k j=true→ψs j=some p→∃ p',ψT k=some p'∧p'.blk=p.blk∧p'.off=p.off∧p'.sz=p.sz
section
variable {σs σT:Nat→Int} {Ks KT:zc} {θ:TH} {ρ:zC} {ψs ψT:Psi}
theorem zNL (hθ:jy σs σT θ) {e:SE} {d:CV} (h:zAh θ e d=true) {v:Value} (hv:@zH (linSym σs Ks) ψs d v):v=.int e.k (evE σT e):=by
 unfold zAh at h
 split at h
 · rename_i k c l hf
   split at h
   · rename_i s hs
     rw [Bool.and_eq_true,Bool.and_eq_true,@yl zR,@ze zR,decide_eq_true_eq,decide_eq_true_eq] at h
     have h1:=qr d hf hv
     have h2:=zAY hθ hs
     have h3:=@wu zR _ _ h.2
     rw [h1,h.1.1,← h.1.2]
     unfold evE
     rw [h2,h3,Int.add_assoc]
   · cases h
 · cases h
theorem zHg {k:IntKind} {d:CV} (h:zCS k d=true) {v:Value} (hv:@zH (linSym σs Ks) ψs d v):∃ n,v=.int k n:=by
 unfold zCS at h
 split at h
 · rename_i j
   rw [@yl zR,decide_eq_true_eq] at h
   subst h
   exact (@yP (linSym σs Ks) _ _ _).1 hv
 · split at h
   · rename_i j c l hf
     rw [@yl zR,decide_eq_true_eq] at h
     subst h
     exact ⟨_,qr d hf hv⟩
   · cases h
mutual
theorem qO (hθ:jy σs σT θ) (hψ:zA0 ρ ψs ψT):∀ (c d:CV) {v:Value},yG ρ θ c d=true→@zH (linSym σs Ks) ψs d v→@zH (linSym σT KT) ψT c v
 | .any,_,_,_,_=>@xo (linSym σT KT) _ _
 | .sym e,d,v,h,hv=>by
  rw [yG] at h
  rw [@zt (linSym σT KT)]
  exact zNL hθ h hv
 | .anyi k,d,v,h,hv=>by
  rw [yG] at h
  rw [@yP (linSym σT KT)]
  exact zHg h hv
 | .bool a,d,v,h,hv=>by
  cases d <;> try (simp [yG] at h; done)
  simp only [yG,beq_iff_eq] at h
  subst h
  rw [@zJ (linSym σs Ks)] at hv
  rw [@zJ (linSym σT KT)]; exact hv
 | .nat a,d,v,h,hv=>by
  cases d <;> try (simp [yG] at h; done)
  simp only [yG] at h
  obtain rfl:=@z8 zR _ _ h
  rw [@zS (linSym σs Ks)] at hv
  rw [@zS (linSym σT KT)]; exact hv
 | .int k a,d,v,h,hv=>by
  cases d <;> try (simp [yG] at h; done)
  simp only [yG,Bool.and_eq_true,@yl zR,@ze zR,decide_eq_true_eq] at h
  obtain ⟨rfl,rfl⟩:=h
  rw [@zd (linSym σs Ks)] at hv
  rw [@zd (linSym σT KT)]; exact hv
 | .str a,d,v,h,hv=>by
  cases d <;> try (simp [yG] at h; done)
  simp only [yG,@kF zR,decide_eq_true_eq] at h
  subst h
  rw [@zf (linSym σs Ks)] at hv
  rw [@zf (linSym σT KT)]; exact hv
 | .nilptr,d,v,h,hv=>by
  cases d <;> try (simp [yG] at h; done)
  rw [@xV (linSym σs Ks)] at hv
  rw [@xV (linSym σT KT)]; exact hv
 | .ptr k o,d,v,h,hv=>by
  cases d <;> try (simp [yG] at h; done)
  simp only [yG,Bool.and_eq_true] at h
  obtain rfl:=@z8 zR _ _ h.2
  rw [@zm (linSym σs Ks)] at hv
  obtain ⟨p,hp,rfl⟩:=hv
  obtain ⟨p',h1,h2,h3,h4⟩:=hψ _ _ _ h.1 hp
  rw [@zm (linSym σT KT)]
  exact ⟨p',h1,by rw [h2,h3]⟩
 | .nilsl,d,v,h,hv=>by
  cases d <;> try (simp [yG] at h; done)
  rw [@zu (linSym σs Ks)] at hv
  rw [@zu (linSym σT KT)]; exact hv
 | .sl k o l c e x,d,v,h,hv=>by
  cases d <;> try (simp [yG] at h; done)
  rename_i k' o' l' c' e' x'
  simp only [yG,Bool.and_eq_true,beq_iff_eq] at h
  obtain ⟨⟨⟨⟨⟨hk,ho⟩,hl⟩,he⟩,hx⟩,hc⟩:=h
  obtain rfl:=@z8 zR _ _ ho
  obtain rfl:=@z8 zR _ _ hl
  obtain rfl:=@z8 zR _ _ he
  subst hx
  rw [@zx (linSym σs Ks)] at hv
  obtain ⟨p,y,cap',hp,rfl,h1,h2,h3,h4⟩:=hv
  obtain ⟨p',g1,g2,g3,g4⟩:=hψ _ _ _ hk hp
  rw [@zx (linSym σT KT)]
  refine ⟨p',y,cap',g1,by rw [g2],?_,h2,?_,?_⟩
  · rw [Bool.or_eq_true,Bool.and_eq_true] at hc
    rcases hc with hc | hc
    · rw [@z8 zR _ _ hc]; exact h1
    · have:=@zL zR _ _ hc.2; omega
  · intro hx
    subst hx
    rw [Bool.or_eq_true,Bool.and_eq_true] at hc
    rcases hc with hc | hc
    · rw [@z8 zR _ _ hc]; exact h3 rfl
    · simp at hc
  · rw [g3,g4]; exact h4
 | .nilmap,d,v,h,hv=>by
  cases d <;> try (simp [yG] at h; done)
  rw [@yV (linSym σs Ks)] at hv
  rw [@yV (linSym σT KT)]; exact hv
 | .map k,d,v,h,hv=>by
  cases d <;> try (simp [yG] at h; done)
  simp only [yG] at h
  rw [@yn (linSym σs Ks)] at hv
  obtain ⟨p,hp,rfl⟩:=hv
  obtain ⟨p',h1,h2,h3,h4⟩:=hψ _ _ _ h hp
  rw [@yn (linSym σT KT)]
  exact ⟨p',h1,by rw [h2]⟩
 | .func f a b,d,v,h,hv=>by
  cases d <;> try (simp [yG] at h; done)
  simp only [yG,Bool.and_eq_true,decide_eq_true_eq] at h
  obtain ⟨⟨rfl,h1⟩,h2⟩:=h
  rw [@xJ (linSym σs Ks)] at hv
  obtain ⟨a',b',rfl,g1,g2⟩:=hv
  rw [@xJ (linSym σT KT)]
  exact ⟨a',b',rfl,km hθ hψ a _ h1 g1,km hθ hψ b _ h2 g2⟩
 | .nilfunc,d,v,h,hv=>by
  cases d <;> try (simp [yG] at h; done)
  rw [@xL (linSym σs Ks)] at hv
  rw [@xL (linSym σT KT)]; exact hv
 | .iface t x,d,v,h,hv=>by
  cases d <;> try (simp [yG] at h; done)
  simp only [yG,Bool.and_eq_true] at h
  obtain rfl:=@z8 zR _ _ h.1
  rw [@yc (linSym σs Ks)] at hv
  obtain ⟨y,rfl,g⟩:=hv
  rw [@yc (linSym σT KT)]
  exact ⟨y,rfl,qO hθ hψ x _ h.2 g⟩
 | .niliface,d,v,h,hv=>by
  cases d <;> try (simp [yG] at h; done)
  rw [@yg (linSym σs Ks)] at hv
  rw [@yg (linSym σT KT)]; exact hv
 | .agg a,d,v,h,hv=>by
  cases d <;> try (simp [yG] at h; done)
  simp only [yG] at h
  rw [@yY (linSym σs Ks)] at hv
  obtain ⟨a',rfl,g⟩:=hv
  rw [@yY (linSym σT KT)]
  exact ⟨a',rfl,km hθ hψ a _ h g⟩
 | .tup a,d,v,h,hv=>by
  cases d <;> try (simp [yG] at h; done)
  simp only [yG] at h
  rw [@yX (linSym σs Ks)] at hv
  obtain ⟨a',rfl,g⟩:=hv
  rw [@yX (linSym σT KT)]
  exact ⟨a',rfl,km hθ hψ a _ h g⟩
 | .sst a,d,v,h,hv=>by
  cases d with
  | sst c=>
   simp only [yG] at h
   rw [@yx (linSym σs Ks)] at hv
   obtain ⟨b,rfl,g⟩:=hv
   rw [@yx (linSym σT KT)]
   exact ⟨b,rfl,km hθ hψ a _ h g⟩
  | str s=>
   simp only [yG] at h
   rw [@zf (linSym σs Ks)] at hv
   obtain ⟨b,rfl,hb⟩:=hv
   rw [@yx (linSym σT KT)]
   refine ⟨b,rfl,km hθ hψ a _ h ?_⟩
   have:=@zAU (linSym σs Ks) ψs b
   rw [hb,Array.toList_map] at this
   exact this
  | _=>simp [yG] at h
 | .few i t,d,v,h,hv=>by
  have hval:∀ (σ:Nat→Int) (K:zc) (i:Nat),@Sym.val (linSym σ K) ⟨.i64,0,[(i,1)]⟩=.int .i64 (σ i):=fun σ K i=>by
   show Value.int .i64 (0+(1*σ i+0))=_
   congr 1; omega
  cases d with
  | str s=>
   unfold yG at h
   split at h
   · rename_i q hq
     obtain ⟨q1,q2⟩:=q
     simp only at h
     split at h
     · rename_i c
       split at h
       · rename_i x hx
         rw [@kF zR,decide_eq_true_eq] at h
         subst h
         have h1:=hθ _ _ hq
         rw [@zf (linSym σs Ks)] at hv
         obtain ⟨b,rfl,hb⟩:=hv
         rw [@jd (linSym σT KT)]
         refine ⟨c,b,?_,rfl,?_⟩
         · rw [hval,h1]
           simp [evL]
         · rw [@ye zR] at hx
           rw [hx,hb]
       · cases h
     · cases h
   · cases h
  | few j u=>
   unfold yG at h
   split at h
   · rename_i q hq
     rw [Bool.and_eq_true,Bool.and_eq_true,@ze zR,decide_eq_true_eq] at h
     have h1:=hθ _ _ hq
     rw [h.1.1,@wu zR _ _ h.1.2] at h1
     have h2:=zHN h.2
     subst h2
     rw [@jd (linSym σs Ks)] at hv
     obtain ⟨m,b,g1,rfl,g3⟩:=hv
     rw [hval] at g1
     rw [@jd (linSym σT KT)]
     refine ⟨m,b,?_,rfl,g3⟩
     rw [hval,h1,← g1]
     congr 1
     show (0:Int)+(1*σs j+0)=_
     omega
   · cases h
  | _=>simp [yG] at h
 | .win ..,d,v,h,hv=>by
  cases d <;> simp [yG] at h
 | .elt ..,d,v,h,hv=>by
  cases d <;> simp [yG] at h
theorem km (hθ:jy σs σT θ) (hψ:zA0 ρ ψs ψT):∀ (cs ds:List CV) {l:List Value},wR ρ θ cs ds=true→@zX (linSym σs Ks) ψs ds l→@zX (linSym σT KT) ψT cs l
 | [],[],l,_,hl=>by
  rw [@zM (linSym σs Ks)] at hl
  rw [@zM (linSym σT KT)]; exact hl
 | [],_::_,_,h,_=>by simp [wR] at h
 | _::_,[],_,h,_=>by simp [wR] at h
 | c::cs,d::ds,l,h,hl=>by
  simp only [wR,Bool.and_eq_true] at h
  rw [@za (linSym σs Ks)] at hl
  obtain ⟨v,r,rfl,h1,h2⟩:=hl
  exact (@zW (linSym σT KT) _ _ _ _ _).2 ⟨qO hθ hψ c d h.1 h1,km hθ hψ cs ds h.2 h2⟩
end
def qS (ρ:zC) (θ:TH):List CV→List CV→Bool
 | [],_=>true
 | a::as,b::bs=>yG ρ θ a b&&qS ρ θ as bs
 | _::_,[]=>false
def zGX (ρ:zC) (θ:TH):List CE→List CE→Bool
 | [],[]=>true
 | a::as,b::bs=>yG ρ θ a.key b.key&&yG ρ θ a.val b.val&&zGX ρ θ as bs
 | _,_=>false
def zTf:List Nat→List Nat→Bool
 | [],_=>true
 | _::_,[]=>false
 | a::x,b::y=>match Nat.beq a b with
  | true=>zTf x y
  | false=>Nat.ble a b
def zUI (a b:CV):Bool:=match a,b with
 | .str x,.str y=>zTf x y
 | .nat x,.nat y=>Nat.ble x y
 | _,_=>true
def zST (e:CE):List CE→List CE
 | []=>[e]
 | c::l=>match zUI e.key c.key with
  | true=>e::c::l
  | false=>c::zST e l
def vL:List CE→List CE
 | []=>[]
 | e::l=>zST e (vL l)
theorem zHs {e:CE}:∀ {l:List CE},(zST e l).Perm (e::l)
 | []=>List.Perm.refl _
 | c::l=>by
  unfold zST
  split
  · exact List.Perm.refl _
  · exact (List.Perm.cons c zHs).trans (List.Perm.swap e c l)
theorem zHO:∀ {l:List CE},(vL l).Perm l
 | []=>List.Perm.refl _
 | e::l=>zHs.trans (List.Perm.cons e zHO)
def zEh (b:Nat):List CE→Bool
 | []=>true
 | e::r=>!(Nat.beq b e.born)&&zEh b r
def upB:List CE→Nat→Bool
 | [],_=>true
 | e::r,clock=>Nat.ble (Nat.succ e.born) clock&&zEh e.born r&&upB r clock
def zSC:List CE→Nat→Nat→Bool
 | [],i,clock=>Nat.beq i clock
 | e::r,i,clock=>Nat.beq e.born i&&zSC r (Nat.succ i) clock
def zSB (ρ:zC) (θ:TH):List (CV × CV)→List (CV × CV)→Bool
 | [],[]=>true
 | a::as,b::bs=>yG ρ θ a.1 b.1&&yG ρ θ a.2 b.2&&zSB ρ θ as bs
 | _,_=>false
def zMU (ρ:zC) (θ:TH):List (CV × CV)→Bool
 | []=>true
 | a::as=>yG ρ θ a.2 (.str [])&&zMU ρ θ as
def zBl (ρ:zC) (θ:TH):CObj→CObj→Bool
 | .cells a,.cells b=>qS ρ θ a b
 | .cells a,.full _ b=>qS ρ θ a b
 | .map es c,.map es' c'=>zGX ρ θ es (vL es')&&zSC es 0 c&&upB (vL es') c'
 | .mapz a,.mapz b=>zSB ρ θ a b
 | .mapz a,.map [] _=>zMU ρ θ a
 | .seen k,.seen j=>k7 ρ k j
 | .hid,.hid=>true
 | _,_=>false
theorem zDq:∀ {as bs:List CV},qS ρ θ as bs=true→as.length≤bs.length∧∀ (i:Nat) (c:CV),as[i]? = some c→∃ d,bs[i]? = some d∧yG ρ θ c d=true
 | [],bs,_=>⟨Nat.zero_le _,fun i c h=>by simp at h⟩
 | _::_,[],h=>by cases h
 | a::as,b::bs,h=>by
  unfold qS at h
  rw [Bool.and_eq_true] at h
  obtain ⟨h1,h2⟩:=zDq h.2
  refine ⟨by simp; exact h1,fun i c hc=>?_⟩
  cases i with
  | zero=>simp at hc; subst hc; exact ⟨b,rfl,h.1⟩
  | succ i=>exact h2 i c (by simpa using hc)
theorem wF (hθ:jy σs σT θ) (hψ:zA0 ρ ψs ψT) {as bs:List CV} (h:qS ρ θ as bs=true) {w:World} {p p':Pl} (h1:p'.blk=p.blk) (h2:p'.off=p.off) (h3:p'.sz=p.sz)
 (hc:@yZ (linSym σs Ks) ψs w p bs):@yZ (linSym σT KT) ψT w p' as:=by
 obtain ⟨arr,elem,fz,g1,g2,g3,g4,g5⟩:=hc
 obtain ⟨q1,q2⟩:=zDq h
 refine ⟨arr,elem,fz,by rw [h1]; exact g1,by rw [h3]; exact g2,by rw [h2,h3]; omega,by rw [h3]; exact g4,fun i c hi=>?_⟩
 obtain ⟨d,hd,hcd⟩:=q2 i c hi
 obtain ⟨x,hx,hr⟩:=g5 i d hd
 exact ⟨x,by rw [h2]; exact hx,qO hθ hψ c d hcd hr⟩
def qC (bs:List CE) (clock:Nat) (j:Nat):Nat:=match bs[j]? with
 | some e=>e.born
 | none=>clock+(j - bs.length)
theorem zI4:∀ {bs:List CE} {clock:Nat},upB bs clock=true→∀ (j:Nat) (e:CE),bs[j]? = some e→e.born<clock
 | [],clock,h,j,e,he=>by simp at he
 | b::bs,clock,h,j,e,he=>by
  unfold upB at h
  rw [Bool.and_eq_true,Bool.and_eq_true] at h
  have h1:=@zL zR _ _ h.1.1
  cases j with
  | zero=>simp at he; subst he; omega
  | succ j=>exact zI4 h.2 j e (by simpa using he)
theorem zGe {b:Nat}:∀ {l:List CE},zEh b l=true→∀ e∈l,e.born≠b
 | [],_,e,he=>by cases he
 | x::l,h,e,he=>by
  unfold zEh at h
  rw [Bool.and_eq_true] at h
  rcases List.mem_cons.1 he with rfl | he
  · intro q
    rw [← q,@jB zR] at h; simp at h
  · exact zGe h.2 e he
theorem zP8:∀ {bs:List CE} {clock:Nat},upB bs clock=true→∀ (i j:Nat) (a b:CE),i<j→bs[i]? = some a→bs[j]? = some b→b.born≠a.born
 | [],clock,h,i,j,a,b,_,h1,_=>by simp at h1
 | c::bs,clock,h,i,j,a,b,hij,h1,h2=>by
  unfold upB at h
  rw [Bool.and_eq_true,Bool.and_eq_true] at h
  cases j with
  | zero=>omega
  | succ j=>
   have h2:bs[j]? = some b:=by simpa using h2
   cases i with
   | zero=>
    simp at h1; subst h1
    exact zGe h.1.2 b (List.mem_of_getElem? h2)
   | succ i=>exact zP8 h.2 i j a b (by omega) (by simpa using h1) h2
theorem zN1 {bs:List CE} {clock:Nat} (h:upB bs clock=true):∀ a b,qC bs clock a=qC bs clock b→a=b:=by
 have key:∀ a b,a<b→qC bs clock a≠qC bs clock b:=by
  intro a b hab
  unfold qC
  cases ha:bs[a]? with
  | none=>
   have hla:=List.getElem?_eq_none_iff.1 ha
   rw [List.getElem?_eq_none (by omega)]
   simp only; omega
  | some x=>
   cases hb:bs[b]? with
   | none=>
    have:=zI4 h a x ha
    simp only; omega
   | some y=>
    have:=zP8 h a b x y hab ha hb
    simp only; exact fun e=>this e.symm
 intro a b e
 rcases Nat.lt_trichotomy a b with q | q | q
 · exact absurd e (key a b q)
 · exact q
 · exact absurd e.symm (key b a q)
theorem vp {bs:List CE} {clock:Nat} (k:Nat):qC bs clock (bs.length+k)=clock+k:=by
 unfold qC
 rw [List.getElem?_eq_none (by omega)]
 simp only; omega
theorem zP0 {bs:List CE} {clock:Nat} (h:upB bs clock=true) (k x:Nat):x<bs.length+k ↔ qC bs clock x<clock+k:=by
 unfold qC
 cases hx:bs[x]? with
 | none=>
  have:=List.getElem?_eq_none_iff.1 hx
  simp only; omega
 | some e=>
  have h1:=zI4 h x e hx
  have h2:=(List.getElem?_eq_some_iff.1 hx).1
  simp only
  exact ⟨fun _=>by omega,fun _=>by omega⟩
theorem zRB {bs:List CE} {clock:Nat} (h:upB bs clock=true) {ck:Nat→Nat} (hc:wo ck clock):wo (fun j=>ck (qC bs clock j)) bs.length:=by
 refine ⟨fun a b hab=>zN1 h a b (hc.one _ _ hab),fun k x=>?_,fun k=>?_⟩
 · show _ ↔ ck (qC bs clock x)<ck (qC bs clock (bs.length+k))
   rw [vp,zP0 h k x]
   exact hc.cmp k _
 · show ck (qC bs clock (bs.length+k))=ck (qC bs clock bs.length)+k
   have h0:qC bs clock bs.length=clock:=vp 0
   rw [vp,h0,hc.run]
theorem zCm:∀ {as bs:List CE},zGX ρ θ as bs=true→as.length=bs.length
 | [],[],_=>rfl
 | [],_::_,h=>by cases h
 | _::_,[],h=>by cases h
 | a::as,b::bs,h=>by
  unfold zGX at h
  rw [Bool.and_eq_true] at h
  simp [zCm h.2]
theorem zHX:∀ {es:List CE} {i clock:Nat},zSC es i clock=true→clock=i+es.length∧∀ (j:Nat) (e:CE),es[j]? = some e→e.born=i+j
 | [],i,clock,h=>⟨by have:=@z8 zR _ _ h; simp; omega,fun j e he=>by simp at he⟩
 | a::es,i,clock,h=>by
  unfold zSC at h
  rw [Bool.and_eq_true] at h
  have h1:=@z8 zR _ _ h.1
  obtain ⟨h2,h3⟩:=zHX h.2
  refine ⟨by simp; omega,fun j e he=>?_⟩
  cases j with
  | zero=>simp at he; subst he; omega
  | succ j=>have:=h3 j e (by simpa using he); omega
theorem zJg (hθ:jy σs σT θ) (hψ:zA0 ρ ψs ψT) {ck ck':Nat→Nat}:∀ {as bs:List CE} {l:List MapEntry},zGX ρ θ as bs=true →
 (∀ (j:Nat) (a b:CE),as[j]? = some a→bs[j]? = some b→ck' a.born=ck b.born)→@yL (linSym σs Ks) ψs ck bs l→@yL (linSym σT KT) ψT ck' as l
 | [],[],l,_,_,hl=>hl
 | [],_::_,_,h,_,_=>by cases h
 | _::_,[],_,h,_,_=>by cases h
 | a::as,b::bs,l,h,hb,hl=>by
  unfold zGX at h
  rw [Bool.and_eq_true,Bool.and_eq_true] at h
  obtain ⟨e,r,rfl,⟨h1,h2,h3⟩,h4⟩:=hl
  exact ⟨e,r,rfl,⟨qO hθ hψ _ _ h.1.1 h1,qO hθ hψ _ _ h.1.2 h2,by rw [h3]; exact (hb 0 a b rfl rfl).symm⟩,
   zJg hθ hψ h.2 (fun j x y hx hy=>hb (j+1) x y (by simpa using hx) (by simpa using hy)) h4⟩
theorem zSe {S:Sym} {ψ:Psi} {ck:Nat→Nat} {cs ds:List CE} (hp:ds.Perm cs):∀ {l:List MapEntry},@yL S ψ ck cs l→∃ l',l'.Perm l∧@yL S ψ ck ds l':=by
 induction hp with
 | nil=>intro l h; exact ⟨l,List.Perm.refl _,h⟩
 | cons x _ ih=>
  rintro l ⟨e,r,rfl,hx,hr⟩
  obtain ⟨r',g1,g2⟩:=ih hr
  exact ⟨e::r',List.Perm.cons e g1,e,r',rfl,hx,g2⟩
 | swap x y m=>
  rintro l ⟨e,r,rfl,hx,e',r',rfl,hy,hr⟩
  exact ⟨e'::e::r',List.Perm.swap e e' r',e',_,rfl,hy,e,r',rfl,hx,hr⟩
 | trans _ _ ih1 ih2=>
  intro l h
  obtain ⟨l1,g1,g2⟩:=ih2 h
  obtain ⟨l2,g3,g4⟩:=ih1 g2
  exact ⟨l2,g3.trans g1,g4⟩
theorem zIF (hθ:jy σs σT θ) (hψ:zA0 ρ ψs ψT):∀ {as bs:List (CV × CV)} {l:List MapEntry},zSB ρ θ as bs=true→@vE (linSym σs Ks) ψs bs l→@vE (linSym σT KT) ψT as l
 | [],[],_,_,h=>h
 | [],_::_,_,h,_=>by cases h
 | _::_,[],_,h,_=>by cases h
 | a::as,b::bs,l,h,hz=>by
  unfold zSB at h
  rw [Bool.and_eq_true,Bool.and_eq_true] at h
  rcases hz with ⟨h1,h2⟩ | ⟨e,m,rfl,h1,h2,h3⟩
  · exact .inl ⟨qO hθ hψ _ _ h.1.2 h1,zIF hθ hψ h.2 h2⟩
  · exact .inr ⟨e,m,rfl,qO hθ hψ _ _ h.1.1 h1,qO hθ hψ _ _ h.1.2 h2,zIF hθ hψ h.2 h3⟩
theorem zJS (Ks:zc) (hθ:jy σs σT θ) (hψ:zA0 ρ ψs ψT):∀ {as:List (CV × CV)},zMU ρ θ as=true→@vE (linSym σT KT) ψT as []
 | [],_=>rfl
 | a::as,h=>by
  unfold zMU at h
  rw [Bool.and_eq_true] at h
  exact .inl ⟨qO (Ks:=Ks) hθ hψ _ _ h.1 ((@zf (linSym σs Ks) _ _ _).2 ⟨.empty,rfl,rfl⟩),zJS Ks hθ hψ h.2⟩
def zCK (o:Option CObj) (ck:Nat→Nat):Nat→Nat:=match o with
 | some (.map es clock)=>fun j=>ck (qC (vL es) clock j)
 | _=>ck
theorem zM3 (hθ:jy σs σT θ) (hψ:zA0 ρ ψs ψT) {o o':CObj} (h:zBl ρ θ o o'=true) {w:World} {p p':Pl} (h1:p'.blk=p.blk) (h2:p'.off=p.off) (h3:p'.sz=p.sz) (h4:p'.ck=zCK (some o') p.ck)
 (ho:@xH (linSym σs Ks) ψs w p o'):@xH (linSym σT KT) ψT w p' o∧o.isRo=false∧o'.isRo=false:=by
 unfold zBl at h
 split at h
 · exact ⟨wF hθ hψ h h1 h2 h3 ho,rfl,rfl⟩
 · exact ⟨wF hθ hψ h h1 h2 h3 (@jP.toCells (linSym σs Ks) _ _ _ _ _ ho),rfl,rfl⟩
 · rename_i es c es' c'
   rw [Bool.and_eq_true,Bool.and_eq_true] at h
   refine ⟨?_,rfl,rfl⟩
   obtain ⟨arr,g1,⟨l0,gp,g2⟩,g3⟩:=ho
   have hlen:=zCm h.1.1
   obtain ⟨n1,n2⟩:=zHX h.1.2
   have hc:c=(vL es').length:=by omega
   have h4:p'.ck=fun j=>p.ck (qC (vL es') c' j):=h4
   obtain ⟨l1,gq,g2⟩:=zSe (zHO (l:=es')) g2
   refine ⟨arr,?_,⟨l1,gq.trans gp,?_⟩,?_⟩
   · rw [h1,g1,h4,hc]
     show _=some (Obj.map arr (p.ck (qC (vL es') c' (vL es').length)))
     have h0:qC (vL es') c' (vL es').length=c':=vp 0
     rw [h0]
   · refine zJg hθ hψ h.1.1 (fun j a b ha hb=>?_) g2
     rw [h4]
     show p.ck (qC (vL es') c' a.born)=_
     rw [n2 j a ha,Nat.zero_add]
     unfold qC
     rw [hb]
   · rw [h4,hc]
     exact zRB h.2 g3
 · obtain ⟨arr,c,g1,l,gp,g2⟩:=ho
   exact ⟨⟨arr,c,by rw [h1]; exact g1,l,gp,zIF hθ hψ h g2⟩,rfl,rfl⟩
 · obtain ⟨arr,g1,⟨l,gp,g2⟩,_⟩:=ho
   have g2:l=[]:=g2
   subst g2
   exact ⟨⟨arr,_,by rw [h1]; exact g1,[],gp,zJS Ks hθ hψ h⟩,rfl,rfl⟩
 · obtain ⟨arr,e,fz,g1,g2,g3,g4,q,l,c,g5,g6,g7,g8,g9,g10⟩:=ho
   obtain ⟨q',k1,k2,k3,k4⟩:=hψ _ _ _ h g6
   exact ⟨⟨arr,e,fz,by rw [h1]; exact g1,by rw [h3]; exact g2,by rw [h2,h3]; exact g3,by rw [h3]; exact g4,q',l,c,by rw [h2,k2,k3]; exact g5,k1,g7,g8,g9,by rw [k4,k3]; exact g10⟩,rfl,rfl⟩
 · obtain ⟨arr,e,fz,g1,g2,g3,g4,g5⟩:=ho
   exact ⟨⟨arr,e,fz,by rw [h1]; exact g1,by rw [h3]; exact g2,by rw [h2,h3]; exact g3,g4,by rw [h2,h3]; exact g5⟩,rfl,rfl⟩
 · cases h
end
theorem zJV {ρ:zC} {θ:TH} {o o':CObj} (h:zBl ρ θ o o'=true):o'.isRo=false:=by
 unfold zBl at h
 split at h
 · rfl
 · rfl
 · rfl
 · rfl
 · rfl
 · rfl
 · rfl
 · cases h
structure Win where
 key:Key
 esz:Nat
 base:Option Addr
 B:Nat
 x:Nat
 len:Nat
 cap:Nat
 sz:Nat
structure TS where
 locs:List (Nat × CV)
 objs:List (Key × CObj)
 n:Key
 b:List (Int × Int)
 f:List (LL × Int × Int)
 r:List xE:=[]
 sl:List (Nat × List Nat):=[]
def zN (n:Nat) (k:Nat→Bool):Bool:=match n with
 | 0=>k 0
 | m+1=>k (Nat.succ m)
theorem jW {n:Nat} {k:Nat→Bool}:zN n k=k n:=by cases n <;> rfl
def zI (z:Int) (k:Int→Bool):Bool:=match z with
 | .ofNat n=>zN n fun n=>k (.ofNat n)
 | .negSucc n=>zN n fun n=>k (.negSucc n)
theorem zDT {z:Int} {k:Int→Bool}:zI z k=k z:=by
 cases z with
 | ofNat n=>exact jW (k:=fun n=>k (.ofNat n))
 | negSucc n=>exact jW (k:=fun n=>k (.negSucc n))
def zDg (d:Dg) (k:Dg→Bool):Bool:=match d with
 | .d0=>k .d0
 | .d1=>k .d1
 | .d2=>k .d2
 | .d3=>k .d3
 | .d4=>k .d4
 | .d5=>k .d5
 | .d6=>k .d6
 | .d7=>k .d7
 | .d8=>k .d8
 | .d9=>k .d9
 | .d10=>k .d10
 | .d11=>k .d11
 | .d12=>k .d12
 | .d13=>k .d13
 | .d14=>k .d14
 | .d15=>k .d15
theorem zTu {d:Dg} {k:Dg→Bool}:zDg d k=k d:=by cases d <;> rfl
def zK (b:Key) (k:Key→Bool):Bool:=match b with
 | .mk a b c d=>zDg a fun a=>zDg b fun b=>zDg c fun c=>zDg d fun d=>k (.mk a b c d)
theorem zAa {b:Key} {k:Key→Bool}:zK b k=k b:=by
 cases b
 unfold zK
 simp only [zTu]
def zLL:LL→(LL→Bool)→Bool
 | [],k=>k []
 | (i,a)::l,k=>zN i fun i=>zI a fun a=>zLL l fun l=>k ((i,a)::l)
theorem zK5:∀ {l:LL} {k:LL→Bool},zLL l k=k l
 | [],_=>rfl
 | (i,a)::l,k=>by unfold zLL; rw [jW,zDT,zK5]
def zSE (e:SE) (k:SE→Bool):Bool:=match e with
 | ⟨j,c,l⟩=>zI c fun c=>zLL l fun l=>k ⟨j,c,l⟩
theorem zDr {e:SE} {k:SE→Bool}:zSE e k=k e:=by
 obtain ⟨j,c,l⟩:=e
 show (zI c fun c=>zLL l fun l=>k ⟨j,c,l⟩)=k ⟨j,c,l⟩
 rw [zDT,zK5]
mutual
def zV:CV→(CV→Bool)→Bool
 | .agg l,k=>zVs l fun l=>k (.agg l)
 | .tup l,k=>zVs l fun l=>k (.tup l)
 | .sst l,k=>zVs l fun l=>k (.sst l)
 | .iface t v,k=>zV v fun v=>k (.iface t v)
 | .func f a b,k=>zVs a fun a=>zVs b fun b=>k (.func f a b)
 | .sym e,k=>zSE e fun e=>k (.sym e)
 | .bool b,k=>k (.bool b)
 | .nat n,k=>zN n fun n=>k (.nat n)
 | .int j n,k=>zI n fun n=>k (.int j n)
 | .anyi j,k=>k (.anyi j)
 | .str s,k=>k (.str s)
 | .nilptr,k=>k .nilptr
 | .ptr b o,k=>zK b fun b=>zN o fun o=>k (.ptr b o)
 | .nilsl,k=>k .nilsl
 | .sl b o l c e x,k=>zK b fun b=>zN o fun o=>zN l fun l=>zN c fun c=>zN e fun e=>k (.sl b o l c e x)
 | .nilmap,k=>k .nilmap
 | .map b,k=>zK b fun b=>k (.map b)
 | .nilfunc,k=>k .nilfunc
 | .niliface,k=>k .niliface
 | .win a b c d,k=>zSE c fun c=>zSE d fun d=>k (.win a b c d)
 | .big n,k=>k (.big n)
 | .few i t,k=>zN i fun i=>k (.few i t)
 | .elt b o i m,k=>k (.elt b o i m)
 | .any,k=>k .any
def zVs:List CV→(List CV→Bool)→Bool
 | [],k=>k []
 | v::l,k=>zV v fun v=>zVs l fun l=>k (v::l)
end
mutual
theorem zE2:∀ (c:CV) (k:CV→Bool),zV c k=k c
 | .agg l,k=>by unfold zV; exact zBA l _
 | .tup l,k=>by unfold zV; exact zBA l _
 | .sst l,k=>by unfold zV; exact zBA l _
 | .iface t v,k=>by unfold zV; exact zE2 v _
 | .func f a b,k=>by unfold zV; rw [zBA a,zBA b]
 | .sym e,k=>by unfold zV; exact zDr
 | .bool b,k=>by unfold zV; rfl
 | .nat n,k=>by unfold zV; exact jW
 | .int j n,k=>by unfold zV; exact zDT
 | .anyi j,k=>by unfold zV; rfl
 | .str s,k=>by unfold zV; rfl
 | .nilptr,k=>by unfold zV; rfl
 | .ptr b o,k=>by unfold zV; rw [zAa,jW]
 | .nilsl,k=>by unfold zV; rfl
 | .sl b o l c e x,k=>by unfold zV; rw [zAa,jW,jW,jW,jW]
 | .nilmap,k=>by unfold zV; rfl
 | .map b,k=>by unfold zV; exact zAa
 | .nilfunc,k=>by unfold zV; rfl
 | .niliface,k=>by unfold zV; rfl
 | .win a b c d,k=>by unfold zV; rw [zDr,zDr]
 | .big n,k=>by unfold zV; rfl
 | .few i t,k=>by unfold zV; exact jW
 | .elt b o i m,k=>by unfold zV; rfl
 | .any,k=>by unfold zV; rfl
theorem zBA:∀ (l:List CV) (k:List CV→Bool),zVs l k=k l
 | [],k=>by unfold zVs; rfl
 | v::l,k=>by unfold zVs; rw [zE2 v,zBA l]
end
def zEs:List CE→(List CE→Bool)→Bool
 | [],k=>k []
 | ⟨a,b,n⟩::l,k=>zV a fun a=>zV b fun b=>zN n fun n=>zEs l fun l=>k (⟨a,b,n⟩::l)
theorem zPZ:∀ {l:List CE} {k:List CE→Bool},zEs l k=k l
 | [],_=>rfl
 | ⟨a,b,n⟩::l,k=>by unfold zEs; rw [zE2,zE2,jW,zPZ]
def zZ:List (CV × CV)→(List (CV × CV)→Bool)→Bool
 | [],k=>k []
 | (a,b)::l,k=>zV a fun a=>zV b fun b=>zZ l fun l=>k ((a,b)::l)
theorem zSZ:∀ {l:List (CV × CV)} {k:List (CV × CV)→Bool},zZ l k=k l
 | [],_=>rfl
 | (a,b)::l,k=>by unfold zZ; rw [zE2,zE2,zSZ]
def zO (o:CObj) (k:CObj→Bool):Bool:=match o with
 | .cells l=>zVs l fun l=>k (.cells l)
 | .map es c=>zEs es fun es=>zN c fun c=>k (.map es c)
 | .mapz es=>zZ es fun es=>k (.mapz es)
 | .seen b=>zK b fun b=>k (.seen b)
 | o=>k o
theorem zDB {o:CObj} {k:CObj→Bool}:zO o k=k o:=by
 cases o with
 | cells l=>exact zBA l _
 | map es c=>
  show (zEs es fun es=>zN c fun c=>k (.map es c))=_
  rw [zPZ,jW]
 | mapz es=>exact zSZ
 | seen b=>exact zAa (k:=fun b=>k (.seen b))
 | _=>rfl
def zOs:List (Key × CObj)→(List (Key × CObj)→Bool)→Bool
 | [],k=>k []
 | (j,o)::l,k=>zK j fun j=>zO o fun o=>zOs l fun l=>k ((j,o)::l)
theorem zQN:∀ {l:List (Key × CObj)} {k:List (Key × CObj)→Bool},zOs l k=k l
 | [],_=>rfl
 | (j,o)::l,k=>by unfold zOs; rw [zAa,zDB,zQN]
def zLc:List (Nat × CV)→(List (Nat × CV)→Bool)→Bool
 | [],k=>k []
 | (j,o)::l,k=>zN j fun j=>zV o fun o=>zLc l fun l=>k ((j,o)::l)
theorem zLS:∀ {l:List (Nat × CV)} {k:List (Nat × CV)→Bool},zLc l k=k l
 | [],_=>rfl
 | (j,o)::l,k=>by unfold zLc; rw [jW,zE2,zLS]
def zB:List (Int × Int)→(List (Int × Int)→Bool)→Bool
 | [],k=>k []
 | (a,b)::l,k=>zI a fun a=>zI b fun b=>zB l fun l=>k ((a,b)::l)
theorem zMv:∀ {l:List (Int × Int)} {k:List (Int × Int)→Bool},zB l k=k l
 | [],_=>rfl
 | (a,b)::l,k=>by unfold zB; rw [zDT,zDT,zMv]
def zF:List (LL × Int × Int)→(List (LL × Int × Int)→Bool)→Bool
 | [],k=>k []
 | (m,a,b)::l,k=>zLL m fun m=>zI a fun a=>zI b fun b=>zF l fun l=>k ((m,a,b)::l)
theorem zQ4:∀ {l:List (LL × Int × Int)} {k:List (LL × Int × Int)→Bool},zF l k=k l
 | [],_=>rfl
 | (m,a,b)::l,k=>by unfold zF; rw [zK5,zDT,zDT,zQ4]
def zTS (T:TS) (k:TS→Bool):Bool:=match T with
 | ⟨l,o,n,b,f,r,s⟩=>zLc l fun l=>zOs o fun o=>zK n fun n=>zB b fun b=>zF f fun f=>k ⟨l,o,n,b,f,r,s⟩
theorem zLF {T:TS} {k:TS→Bool}:zTS T k=k T:=by
 obtain ⟨l,o,n,b,f,r,s⟩:=T
 show (zLc l fun l=>zOs o fun o=>zK n fun n=>zB b fun b=>zF f fun f=>k ⟨l,o,n,b,f,r,s⟩)=_
 rw [zLS,zQN,zAa,zMv,zQ4]
def zCc:List (Nat × CV)→Tm
 | []=>.nil
 | p::r=>kg p.2 (Loc.ofNat p.1) (zCc r)
def mkH (h:zC):List (Key × CObj)→zC
 | []=>h
 | p::r=>ya (some p.2) p.1 (mkH h r)
def ju:List (Key × CObj)→List Key→zC
 | p::r,j::js=>ya (some (.cells [.ptr j 0])) p.1 (ju r js)
 | _,_=>.nil
def jc:List (Key × CObj)→List Key→zC
 | p::r,j::js=>ya (some (.cells [.ptr p.1 0])) j (jc r js)
 | _,_=>.nil
def qP (ρ inv:zC) (θ:TH) (h:zC) (lo hi:Nat):List (Key × CObj)→List Key→Bool
 | [],[]=>true
 | p::r,j::js=>k7 ρ p.1 j&&k7 inv j p.1&&Nat.ble lo p.1.ix&&Nat.ble (Nat.succ p.1.ix) hi&&(match zj j h with
  | some o=>zBl ρ θ p.2 o
  | none=>false)&&qP ρ inv θ h lo hi r js
 | _,_=>false
def findW:List Win→Key→Option Win
 | [],_=>none
 | w::r,k=>match decide (w.key=k) with
  | true=>some w
  | false=>findW r k
def zLy:List (Key × Nat)→Key→Nat→Bool
 | [],_,_=>false
 | p::r,k,z=>match decide (p.1=k) with
  | true=>Nat.beq p.2 z
  | false=>zLy r k z
def zGv (lo hi:Nat):List (Key × Nat)→Bool
 | []=>true
 | p::r=>Nat.ble lo p.1.ix&&Nat.ble (Nat.succ p.1.ix) hi&&zGv lo hi r
def wsOf (l:List Win):List (Key × Nat):=l.map fun w=>(w.key,w.esz)
def zCt (ρ:zC) (k:Key):Bool:=match zk ρ k with
 | none=>true
 | some _=>false
def zTs (ρ:zC) (θ:TH) (ws:List (Key × Nat)) (c d:CV):Bool:=match c with
 | .win k z e n=>match d with
  | .win k' z' _ n'=>decide (k=k')&&Nat.beq z z'&&(zQv e (sv 0)&&zLy ws k z || zQv e ⟨.i64,0,[]⟩&&zLy ws k 0&&Nat.beq z 1)&&zAh θ n (.sym n')&&zCt ρ k&&Nat.ble 1 z
  | _=>false
 | c=>yG ρ θ c d
def zJq (ρ:zC) (θ:TH) (ws:List (Key × Nat)) (tm:Tm):List (Nat × CV)→Bool
 | []=>true
 | p::r=>Nat.ble p.1 271&&zTs ρ θ ws p.2 (qT (Loc.ofNat p.1) tm)&&zJq ρ θ ws tm r
def inQ (s:Int) (lo hi:Int):Option (Int × Int)→Bool
 | some u=>decide (lo≤s+u.1)&&decide (s+u.2≤hi)
 | none=>false
theorem zH8 {s lo hi:Int} {o:Option (Int × Int)} (h:inQ s lo hi o=true):∃ u,o=some u∧lo≤s+u.1∧s+u.2≤hi:=by
 unfold inQ at h
 split at h
 · rename_i u
   rw [Bool.and_eq_true,decide_eq_true_eq,decide_eq_true_eq] at h
   exact ⟨u,rfl,h.1,h.2⟩
 · cases h
def zQT (K:zc):List (Int × Int)→TH→Bool
 | [],[]=>true
 | q::r,s::θ=>(inQ s.1 q.1 q.2 (zGp K.b s.2) || inQ s.1 q.1 q.2 (zKz K.b s.2 K.f))&&zQT K r θ
 | _,_=>false
def zPA (K:zc) (θ:TH):List (LL × Int × Int)→Bool
 | []=>true
 | q::r=>(match uw θ q.1 with
  | some s=>inQ s.1 q.2.1 q.2.2 (zPx s.2 K.f) || inQ s.1 q.2.1 q.2.2 (zKz K.b s.2 K.f)
  | none=>false)&&zPA K θ r
def zK2 (θ:TH) (r q:xE):Bool:=(match uw θ r.x.l with
 | some s=>decide (r.op=q.op)&&kEq r.x.k q.x.k&&Nat.beq r.c q.c&&z7 (r.x.c+s.1) q.x.c&&vY s.2 q.x.l
 | none=>false)&&(match r.v,q.v with
 | .sym e,.sym e'=>zAh θ e (.sym e')
 | _,_=>false)
def zEu (θ:TH) (r:xE):List xE→Bool
 | []=>false
 | q::l=>zK2 θ r q || zEu θ r l
def zAf (θ:TH) (l:List xE):List xE→Bool
 | []=>true
 | r::rs=>zEu θ r l&&zAf θ l rs
theorem wz (k:IntKind) (n:Int) (e:SE):zY k n≠.sym e:=by
 cases n with
 | ofNat m=>cases m <;> cases k <;> (intro h; cases h)
 | negSucc m=>cases m <;> (intro h; cases h)
theorem zKR (k:IntKind) (n:Nat) (e:SE):jZ k n≠.sym e:=by
 cases n <;> cases k <;> (intro h; cases h)
theorem zJY {op:BinOp} {k:IntKind} {a b:Int} {e:SE} (h:yQ op k a b=some (.sym e)):False:=by
 cases op <;> first
  | (have h:some (zY k _)=some (.sym e):=h
     injection h with h; exact wz _ _ _ h)
  | (have h:some (CV.bool _)=some (.sym e):=h
     injection h with h; cases h)
  | (have h:Bool.rec (motive:=fun _=>Option CV) (some (zY k _)) none (z7 b (.ofNat 0))=some (.sym e):=h
     cases hb:z7 b (.ofNat 0) <;> rw [hb] at h
     · injection h with h; exact wz _ _ _ h
     · cases h)
  | (cases b with
     | ofNat m=>
      first
       | (have h:some (zY k _)=some (.sym e):=h
          injection h with h; exact wz _ _ _ h)
       | (cases a with
          | ofNat x=>
           have h:some (jZ k _)=some (.sym e):=h
           injection h with h; exact zKR _ _ _ h
          | negSucc x=>
           have h:some (zY k _)=some (.sym e):=h
           injection h with h; exact wz _ _ _ h)
     | negSucc m=>cases h)
theorem zO8 {σs σT:Nat→Int} {θ:TH} (hθ:jy σs σT θ) {r q:xE} (h:zK2 θ r q=true) (hq:xu σs q):xu σT r:=by
 unfold zK2 at h
 rw [Bool.and_eq_true] at h
 obtain ⟨h1,h2⟩:=h
 split at h1
 · rename_i s hs
   simp only [Bool.and_eq_true,decide_eq_true_eq] at h1
   obtain ⟨⟨⟨⟨a1,a2⟩,a3⟩,a4⟩,a5⟩:=h1
   rw [@yl zR,decide_eq_true_eq] at a2
   have a3:=@z8 zR _ _ a3
   rw [@ze zR,decide_eq_true_eq] at a4
   have a5:=@wu zR _ _ a5
   obtain ⟨u,b1,b2,b3⟩:=hq
   have ex:evE σT r.x=evE σs q.x:=by
    unfold evE
    rw [zAY hθ hs,← a4,a5]
    omega
   refine ⟨u,by rw [a1,a2]; exact b1,by rw [a1,a2,a3,ex]; exact b2,?_⟩
   split at h2
   · rename_i e e' he he'
     refine .inr ⟨e,he,?_⟩
     unfold zAh at h2
     split at h2
     · rename_i k c l hf
       split at h2
       · rename_i s' hs'
         simp only [Bool.and_eq_true] at h2
         obtain ⟨⟨c1,c2⟩,c3⟩:=h2
         rw [@yl zR,decide_eq_true_eq] at c1
         rw [@ze zR,decide_eq_true_eq] at c2
         have c3:=@wu zR _ _ c3
         injection hf with hf
         injection hf with d1 hf
         injection hf with d2 d3
         rcases b3 with b3 | ⟨e2,b4,b5⟩
         · rw [he'] at b3
           rw [← b3] at b2
           exact (zJY b2).elim
         · rw [he'] at b4
           injection b4 with b4
           subst b4
           rw [b5,c1,← d1]
           congr 1
           unfold evE
           rw [zAY hθ hs',c3,← d3,d2,← c2]
           omega
       · cases h2
     · cases h2
   · cases h2
 · cases h1
theorem zD4 {σs σT:Nat→Int} {θ:TH} (hθ:jy σs σT θ) {l:List xE} (hl:∀ q∈l,xu σs q):∀ {rs:List xE},zAf θ l rs=true→xy σT rs
 | [],_=>trivial
 | r::rs,h=>by
  unfold zAf at h
  rw [Bool.and_eq_true] at h
  refine ⟨?_,zD4 hθ hl h.2⟩
  have:∀ {m:List xE},zEu θ r m=true→(∀ q∈m,xu σs q)→xu σT r:=by
   intro m
   induction m with
   | nil=>intro h _; cases h
   | cons q m ih=>
    intro h hm
    unfold zEu at h
    rw [Bool.or_eq_true] at h
    rcases h with h | h
    · exact zO8 hθ h (hm q (by simp))
    · exact ih h fun q' hq'=>hm q' (by simp [hq'])
  exact this h.1 hl
def zIB (G:Nat) (ws:List (Key × Nat)) (T:TS) (ks:List Key) (θ:TH) (K:zc) (tm:Tm) (h:zC):Bool:=
 qP (ju T.objs ks) (jc T.objs ks) θ h G T.n.ix T.objs ks&&zJq (ju T.objs ks) θ ws tm T.locs&&zQT K T.b θ&&zPA K θ T.f&&zGv G T.n.ix ws&&Nat.ble G T.n.ix&&zAf θ K.rules T.r
theorem zUf (p:Loc):qT p Tm.nil=.any:=@zEE zR p
theorem zNA (v:CV) (p:Loc) (t:Tm):qT p (kg v p t)=v:=@jx zR v p t
theorem zJl (v:CV) (p q:Loc) (t:Tm) (h:q≠p):qT q (kg v p t)=qT q t:=@xf zR v p q t h
theorem qw (o:Option CObj) (k j:Key) (h:zC):zj j (ya o k h)=if j=k then o else zj j h:=@zCW zR o k j h
theorem qh (k:Key):zj k (.nil:zC)=none:=@zEq zR k
theorem zHo (t:Nat):∀ {locs:List (Nat × CV)},qT (Loc.ofNat t) (zCc locs)=.any∨∃ p∈locs,Loc.ofNat p.1=Loc.ofNat t∧qT (Loc.ofNat t) (zCc locs)=p.2
 | []=>.inl (zUf _)
 | p::r=>by
  by_cases e:Loc.ofNat p.1=Loc.ofNat t
  · refine .inr ⟨p,by simp,e,?_⟩
    show qT _ (kg p.2 _ _)=_
    rw [e,zNA]
  · have h:qT (Loc.ofNat t) (zCc (p::r))=qT (Loc.ofNat t) (zCc r):=zJl _ _ _ _ (fun q=>e q.symm)
    rcases zHo t (locs:=r) with h' | ⟨q,hq,h1,h2⟩
    · exact .inl (h.trans h')
    · exact .inr ⟨q,by simp [hq],h1,h.trans h2⟩
theorem qz {h:zC} {k:Key} {o:CObj}:∀ {objs:List (Key × CObj)},zj k (mkH h objs)=some o→(∃ j:Nat,objs[j]? = some (k,o))∨zj k h=some o
 | [],hh=>.inr hh
 | p::r,hh=>by
  have hh:zj k (ya (some p.2) p.1 (mkH h r))=some o:=hh
  rw [qw] at hh
  split at hh
  · rename_i e
    injection hh with h1
    exact .inl ⟨0,by subst e; subst h1; rfl⟩
  · rcases qz hh with ⟨j,hj⟩ | h'
    · exact .inl ⟨j+1,by simpa using hj⟩
    · exact .inr h'
theorem zF3 {k b:Key}:∀ {objs:List (Key × CObj)} {ks:List Key},zk (ju objs ks) k=some b→∃ (j:Nat) (o:CObj),objs[j]? = some (k,o)∧ks[j]? = some b
 | [],_,h=>by
  have h:zk .nil k=some b:=h
  unfold zk at h
  rw [qh] at h; cases h
 | _::_,[],h=>by
  have h:zk .nil k=some b:=h
  unfold zk at h
  rw [qh] at h; cases h
 | p::r,j::js,h=>by
  by_cases e:k=p.1
  · have h:zk (ya (some (.cells [.ptr j 0])) p.1 (ju r js)) k=some b:=h
    unfold zk at h
    rw [qw,if_pos e] at h
    injection h with h
    exact ⟨0,p.2,by subst e; rfl,by subst h; rfl⟩
  · have h':zk (ju r js) k=some b:=by
     have h:zk (ya (some (.cells [.ptr j 0])) p.1 (ju r js)) k=some b:=h
     unfold zk at h ⊢
     rw [qw,if_neg e] at h
     exact h
    obtain ⟨i,o,h1,h2⟩:=zF3 h'
    exact ⟨i+1,o,by simpa using h1,by simpa using h2⟩
theorem qv {ρ:zC} {k j:Key} (h:k7 ρ k j=true):zk ρ k=some j:=by
 unfold k7 at h
 split at h
 · rename_i b hb
   rw [hb,@Key.ix_inj zR _ _ (Nat.eq_of_beq_eq_true h)]
 · cases h
theorem kI {ρ inv:zC} {θ:TH} {h:zC} {lo hi:Nat}:∀ {objs:List (Key × CObj)} {ks:List Key},qP ρ inv θ h lo hi objs ks=true→∀ (j:Nat) (k:Key) (o:CObj),objs[j]? = some (k,o) →
 ∃ i o',ks[j]? = some i∧zk ρ k=some i∧zk inv i=some k∧lo≤k.ix∧k.ix<hi∧zj i h=some o'∧zBl ρ θ o o'=true
 | [],_,_,j,k,o,hj=>by simp at hj
 | _::_,[],hc,_,_,_,_=>by cases hc
 | p::r,i::is,hc,j,k,o,hj=>by
  unfold qP at hc
  simp only [Bool.and_eq_true] at hc
  obtain ⟨⟨⟨⟨⟨c1,c2⟩,c3⟩,c4⟩,c5⟩,c6⟩:=hc
  cases j with
  | zero=>
   simp at hj
   subst hj
   split at c5
   · rename_i o' ho
     exact ⟨i,o',rfl,qv c1,qv c2,@zL zR _ _ c3,@zL zR _ _ c4,ho,c5⟩
   · cases c5
  | succ j=>
   obtain ⟨i',o',h1,h2⟩:=kI c6 j k o (by simpa using hj)
   exact ⟨i',o',by simpa using h1,h2⟩
theorem kG {l:List Win} {k:Key} {w:Win} (h:findW l k=some w):w∈l∧w.key=k:=by
 induction l with
 | nil=>cases h
 | cons x l ih=>
  unfold findW at h
  split at h
  · rename_i e
    injection h with h; subst h
    exact ⟨by simp,of_decide_eq_true e⟩
  · have:=ih h
    exact ⟨by simp [this.1],this.2⟩
theorem zRS {l:List Win} {k:Key} {z:Nat} (h:zLy (wsOf l) k z=true):∃ w,findW l k=some w∧w.esz=z:=by
 induction l with
 | nil=>cases h
 | cons x l ih=>
  have h:zLy ((x.key,x.esz)::wsOf l) k z=true:=h
  unfold zLy at h
  unfold findW
  split at h
  · rename_i e
    simp only at e
    rw [e]
    exact ⟨x,rfl,@z8 zR _ _ h⟩
  · rename_i e
    simp only at e
    rw [e]
    exact ih h
theorem zH4 {lo hi:Nat} {l:List Win} (h:zGv lo hi (wsOf l)=true):∀ w∈l,lo≤w.key.ix∧w.key.ix<hi:=by
 induction l with
 | nil=>intro w hw; cases hw
 | cons x l ih=>
  have h:zGv lo hi ((x.key,x.esz)::wsOf l)=true:=h
  unfold zGv at h
  rw [Bool.and_eq_true,Bool.and_eq_true] at h
  intro w hw
  rcases List.mem_cons.1 hw with rfl | hw
  · exact ⟨@zL zR _ _ h.1.1,@zL zR _ _ h.1.2⟩
  · exact ih h.2 w hw
theorem zJ2 {ρ:zC} {θ:TH} {ws:List (Key × Nat)} {tm:Tm}:∀ {locs:List (Nat × CV)},zJq ρ θ ws tm locs=true→∀ p∈locs,p.1≤271∧zTs ρ θ ws p.2 (qT (Loc.ofNat p.1) tm)=true
 | [],_,p,hp=>by cases hp
 | q::r,h,p,hp=>by
  unfold zJq at h
  rw [Bool.and_eq_true,Bool.and_eq_true] at h
  rcases List.mem_cons.1 hp with rfl | hp
  · exact ⟨@zL zR _ _ h.1.1,h.1.2⟩
  · exact zJ2 h.2 p hp
def qQ (ρ h:zC) (wins:List Win) (ψ:Psi) (G:Nat) (i:Int):Psi:=fun k=>match zk ρ k with
 | some j=>(ψ j).map fun p=>⟨p.blk,p.off,p.sz,zCK (zj j h) p.ck⟩
 | none=>match findW wins k with
  | some w=>some ⟨w.B,w.x+i.toNat*w.esz,w.sz,fun n=>n⟩
  | none=>if k.ix<G then ψ k else none
def evQ (σ:Nat→Int) (q:Int × LL):Int:=q.1+evL σ q.2
def ArgsAre (A:Key→Option Value) (wins:List Win):Prop:=∀ w∈wins,A w.key=some (.slice w.base w.len w.cap)∧(0<w.len→w.base=some ⟨w.B,w.x,none⟩)∧(w.sz=w.x+w.cap*(max 1 w.esz))∧w.len≤w.cap
section
variable {σs:Nat→Int} {Ks:zc} {θ:TH} {T:TS} {ks:List Key} {wins:List Win} {G:Nat} {F N:Nat} {ψ:Psi} {tm:Tm} {h:zC} {n:Key} {a:Act} {w:World}
theorem zNM {σs:Nat→Int} {Ks:zc} (hK:KnownOk σs Ks) {σT:Nat→Int}:∀ {b:List (Int × Int)} {θ:TH} {k:Nat},zQT Ks b θ=true→(∀ j q,nth θ j=some q→σT (k+j)=evQ σs q) →
 b.length=θ.length∧yH σT k b
 | [],[],_,_,_=>⟨rfl,trivial⟩
 | [],_::_,_,h,_=>by cases h
 | _::_,[],_,h,_=>by cases h
 | q::r,s::θ,k,h,hθ=>by
  unfold zQT at h
  rw [Bool.and_eq_true] at h
  obtain ⟨h1,h2⟩:=h
  obtain ⟨g1,g2⟩:=zNM hK (σT:=σT) (k:=k+1) h2 (fun j q hj=>by
   have:=hθ (j+1) q hj
   rw [show k+1+j=k+(j+1) from by omega]; exact this)
  refine ⟨by simp [g1],?_,g2⟩
  have h0:σT k=evQ σs s:=hθ 0 s rfl
  rw [Bool.or_eq_true] at h1
  obtain ⟨u,r,l1,l2⟩:∃ u:Int × Int,(u.1≤evL σs s.2∧evL σs s.2≤u.2)∧q.1≤s.1+u.1∧s.1+u.2≤q.2:=by
   rcases h1 with h1 | h1
   · obtain ⟨u,hu,l⟩:=zH8 h1
     exact ⟨u,wJ hK.b hu,l⟩
   · obtain ⟨u,hu,l⟩:=zH8 h1
     exact ⟨u,zAW hK.b hK.f hu,l⟩
  rw [h0]
  unfold evQ
  constructor <;> omega
theorem zNj {σs σT:Nat→Int} {Ks:zc} (hK:KnownOk σs Ks) {θ:TH} (hθ:jy σs σT θ):∀ {f:List (LL × Int × Int)},zPA Ks θ f=true→jb σT f
 | [],_=>trivial
 | q::r,h=>by
  unfold zPA at h
  rw [Bool.and_eq_true] at h
  refine ⟨?_,zNj hK hθ h.2⟩
  have h1:=h.1
  split at h1
  · rename_i s hs
    rw [Bool.or_eq_true] at h1
    obtain ⟨u,r,l1,l2⟩:∃ u:Int × Int,(u.1≤evL σs s.2∧evL σs s.2≤u.2)∧q.2.1≤s.1+u.1∧s.1+u.2≤q.2.2:=by
     rcases h1 with h1 | h1
     · obtain ⟨u,hu,l⟩:=zH8 h1
       exact ⟨u,zGd hK.f hu,l⟩
     · obtain ⟨u,hu,l⟩:=zH8 h1
       exact ⟨u,zAW hK.b hK.f hu,l⟩
    rw [zAY hθ hs]
    constructor <;> omega
  · cases h1
theorem zQC (hst:@St (linSym σs Ks) P F N ψ tm [] h n a w) (hG:P.globals.size≤G) (hA:ArgsAre Ks.arg wins) (hc:zIB G (wsOf wins) T ks θ Ks tm h=true) (i:Int) (hi:∀ q,nth θ 0=some q→evQ σs q=i) (h0:∃ q,nth θ 0=some q) :
 ∃ ψT,(∀ σT KT,jy σs σT θ→KT.arg=Ks.arg→@St (linSym σT KT) P F N ψT (zCc T.locs) [] (mkH .nil T.objs) T.n a w) ∧
  (∀ k o p,zC.fam (mkH .nil T.objs) k=some o→ψT k=some p→o.isRo=false∧∃ k0 o0 p0,zC.fam h k0=some o0∧o0.isRo=false∧ψ k0=some p0∧p0.blk=p.blk) ∧
  (∀ k wn,findW wins k=some wn→zCt (ju T.objs ks) k=true→ψT k=some ⟨wn.B,wn.x+i.toNat*wn.esz,wn.sz,fun n=>n⟩)∧zA0 (ju T.objs ks) ψ ψT:=by
 have hR:@Rel (linSym σs Ks) ψ (zC.fam h) w:=@St.rel (linSym σs Ks) _ _ _ _ _ _ _ _ _ _ hst
 have hTot:∀ k o,zC.fam h k=some o→∃ p,ψ k=some p:=@Rel.tot (linSym σs Ks) _ _ _ hR
 have hOn:∀ k o p,zC.fam h k=some o→ψ k=some p→@xH (linSym σs Ks) ψ w p o:=@Rel.on (linSym σs Ks) _ _ _ hR
 have hInj:=@Rel.inj (linSym σs Ks) _ _ _ hR
 have hGl:kK P ψ:=@St.glob (linSym σs Ks) _ _ _ _ _ _ _ _ _ _ hst
 have hDf:=@St.dfr (linSym σs Ks) _ _ _ _ _ _ _ _ _ _ hst
 have hFr:@xS (linSym σs Ks) ψ F N tm a:=@St.frame (linSym σs Ks) _ _ _ _ _ _ _ _ _ _ hst
 have hTmp:=@xS.tmp (linSym σs Ks) _ _ _ _ _ hFr
 have hSz:=@xS.size (linSym σs Ks) _ _ _ _ _ hFr
 unfold zIB at hc
 simp only [Bool.and_eq_true] at hc
 obtain ⟨⟨⟨⟨⟨⟨c1,c2⟩,c3⟩,c4⟩,c5⟩,c6⟩,_⟩:=hc
 have c6:=@zL zR _ _ c6
 generalize hρ:ju T.objs ks=ρ at c1 c2
 generalize hinv:jc T.objs ks=inv at c1
 have hobj:=kI c1
 have hwb:=zH4 c5
 have hrho:∀ k b,zk ρ k=some b→G≤k.ix∧k.ix<T.n.ix∧∃ (o o':CObj) (j:Nat),T.objs[j]? = some (k,o)∧zk inv b=some k∧zj b h=some o'∧zBl ρ θ o o'=true:=by
  intro k b hk
  have hk':=hk
  rw [← hρ] at hk'
  obtain ⟨j,o,h1,h2⟩:=zF3 hk'
  obtain ⟨i',o',g1,g2,g3,g4,g5,g6,g7⟩:=hobj j k o h1
  rw [hk] at g2
  injection g2 with g2
  subst g2
  exact ⟨g4,g5,o,o',j,h1,g3,g6,g7⟩
 have hps:∀ k j p,zk ρ k=some j→ψ j=some p→qQ ρ h wins ψ G i k=some ⟨p.blk,p.off,p.sz,zCK (zj j h) p.ck⟩:=by
  intro k j p hk hp
  unfold qQ
  rw [hk]
  simp only
  rw [hp]; rfl
 have hPs:zA0 ρ ψ (qQ ρ h wins ψ G i):=fun k j p hk hp=>⟨_,hps k j p (qv hk) hp,rfl,rfl,rfl⟩
 have hwin:∀ k wn,findW wins k=some wn→zCt ρ k=true→qQ ρ h wins ψ G i k=some ⟨wn.B,wn.x+i.toNat*wn.esz,wn.sz,fun n=>n⟩:=by
  intro k wn hw hno
  have hno:zk ρ k=none:=by
   unfold zCt at hno
   split at hno
   · assumption
   · cases hno
  unfold qQ
  rw [hno]
  simp only
  rw [hw]
 have hfam:∀ k o p,zC.fam (mkH .nil T.objs) k=some o→qQ ρ h wins ψ G i k=some p→∃ b o' p0,zk ρ k=some b∧zk inv b=some k∧zC.fam h b=some o'∧ψ b=some p0∧zBl ρ θ o o'=true ∧
  p=⟨p0.blk,p0.off,p0.sz,zCK (some o') p0.ck⟩:=by
  intro k o p hk hp
  rcases qz hk with ⟨j,hj⟩ | hn
  · obtain ⟨b,o',g1,g2,g3,g4,g5,g6,g7⟩:=hobj j k o hj
    obtain ⟨p0,hp0⟩:=hTot b o' g6
    rw [hps k b p0 g2 hp0,g6] at hp
    injection hp with hp
    exact ⟨b,o',p0,g2,g3,g6,hp0,g7,hp.symm⟩
  · rw [qh] at hn; cases hn
 refine ⟨qQ ρ h wins ψ G i,fun σT KT hθ hKT=>?_,?_,hwin,by first | exact hPs | (rw [hρ]; exact hPs)⟩
 · refine @St.mk (linSym σT KT) P F N _ _ _ _ _ _ _ ?_ ?_ ?_ ?_ ?_
   · refine @xS.mk (linSym σT KT) _ _ _ _ _ hSz fun t h1 h2 h3=>?_
     rcases zHo t (locs:=T.locs) with e | ⟨p,hp,e1,e2⟩
     · rw [e]; exact @xo (linSym σT KT) _ _
     · obtain ⟨q1,q2⟩:=zJ2 c2 p hp
       have e1:p.1=t:=@Loc.ofNat_inj zR _ _ q1 h2 e1
       rw [e2]
       rw [e1] at q2
       have hv:=hTmp t h1 h2 h3
       unfold zTs at q2
       split at q2
       · rename_i k z e nn heq
         split at q2
         · rename_i k' z' e' n' heq'
           simp only [Bool.and_eq_true,decide_eq_true_eq] at q2
           obtain ⟨⟨⟨⟨⟨rfl,hz⟩,hew⟩,hn⟩,hno⟩,h1z⟩:=q2
           have h1z:=@zL zR _ _ h1z
           obtain rfl:=@z8 zR _ _ hz
           rw [heq',@qA (linSym σs Ks)] at hv
           obtain ⟨ha,base,len,cap,iv,hv',hn',he',_⟩:=hv
           have ha:Ks.arg k=some (a.tmps.getD t undef):=ha
           have hn2:=zNL (Ks:=Ks) (ψs:=ψ) hθ hn (v:=.int .i64 len) ((@zt (linSym σs Ks) _ _ _).2 hn'.symm)
           have key:∀ zz,zLy (wsOf wins) k zz=true→∃ wn,findW wins k=some wn∧wn.esz=zz∧a.tmps.getD t undef=.slice wn.base wn.len wn.cap∧(0<wn.len→wn.base=some ⟨wn.B,wn.x,none⟩)∧wn.sz=wn.x+wn.cap*(max 1 wn.esz)∧wn.len≤wn.cap∧len=wn.len:=by
            intro zz hw
            obtain ⟨wn,hwn,hez⟩:=zRS hw
            obtain ⟨hmem,hkey⟩:=kG hwn
            obtain ⟨hA',hbase,hsz,hlc⟩:=hA wn hmem
            rw [hkey] at hA'
            rw [ha] at hA'
            injection hA' with hA'
            refine ⟨wn,hwn,hez,hA',hbase,hsz,hlc,?_⟩
            rw [hv'] at hA'
            injection hA' with _ h2 _
           rw [heq,@qA (linSym σT KT)]
           rw [Bool.or_eq_true,Bool.and_eq_true,Bool.and_eq_true,Bool.and_eq_true] at hew
           rcases hew with ⟨he,hw⟩ | ⟨⟨he,hw⟩,hz1⟩
           · obtain rfl:=@zH1 zR _ _ he
             obtain ⟨wn,hwn,hez,hA',hbase,hsz,hlc,hlen⟩:=key z hw
             obtain ⟨q0,hq0⟩:=h0
             refine ⟨by show KT.arg k=_; rw [hKT]; exact ha,wn.base,wn.len,wn.cap,i,hA',?_,?_,fun q1 q2=>⟨_,wn.x,hwin k wn hwn hno,hbase (by omega),?_⟩⟩
             · rw [← hlen]; exact hn2.symm
             · show Value.int .i64 (evE σT (sv 0))=.int .i64 i
               rw [qe,hθ 0 q0 hq0]
               have:=hi q0 hq0
               unfold evQ at this
               rw [this]
             · rw [← hez]
               refine ⟨rfl,?_,hlc⟩
               rw [hsz,show max 1 wn.esz=wn.esz from by omega]
           · obtain rfl:=@zH1 zR _ _ he
             obtain rfl:=@z8 zR _ _ hz1
             obtain ⟨wn,hwn,hez,hA',hbase,hsz,hlc,hlen⟩:=key 0 hw
             refine ⟨by show KT.arg k=_; rw [hKT]; exact ha,wn.base,wn.len,wn.cap,0,hA',?_,?_,fun q1 q2=>⟨_,wn.x,hwin k wn hwn hno,hbase (by omega),?_⟩⟩
             · rw [← hlen]; exact hn2.symm
             · rfl
             · refine ⟨?_,?_,hlc⟩
               · show wn.x+i.toNat*wn.esz=wn.x+(0:Int).toNat*1
                 rw [hez]; simp
               · rw [hsz,hez]; rfl
         · cases q2
       · exact qO hθ hPs _ _ q2 hv
   · exact hDf
   · refine @Rel.mk (linSym σT KT) _ _ _ ?_ ?_ ?_
     · intro k o p hk hp
       obtain ⟨b,o',p0,g1,g2,g3,g4,g5,rfl⟩:=hfam k o p hk hp
       exact (zM3 (p:=p0) (p':=⟨p0.blk,p0.off,p0.sz,zCK (some o') p0.ck⟩) hθ hPs g5 rfl rfl rfl rfl (hOn b o' p0 g3 g4)).1
     · intro k o hk
       rcases qz hk with ⟨j,hj⟩ | hn
       · obtain ⟨b,o',g1,g2,g3,g4,g5,g6,g7⟩:=hobj j k o hj
         obtain ⟨p0,hp0⟩:=hTot b o' g6
         exact ⟨_,hps k b p0 g2 hp0⟩
       · rw [qh] at hn; cases hn
     · intro k₁ k₂ o₁ o₂ p₁ p₂ h1 h2 h3 h4 hr e
       obtain ⟨b1,o1',q1,g1,g2,g3,g4,g5,rfl⟩:=hfam _ _ _ h1 h3
       obtain ⟨b2,o2',q2,f1,f2,f3,f4,f5,rfl⟩:=hfam _ _ _ h2 h4
       have:=hInj b1 b2 _ _ _ _ g3 f3 g4 f4 (.inl (zJV g5)) e
       subst this
       rw [g2] at f2
       injection f2
   · intro g hg h4
     obtain ⟨sz,e⟩:=hGl g hg h4
     have hix:(Key.ofNat g).ix=g:=@Key.ix_ofNat zR _ (by omega)
     refine ⟨sz,?_⟩
     have hno:zk ρ (Key.ofNat g)=none:=by
      cases hr:zk ρ (Key.ofNat g) with
      | none=>rfl
      | some b=>have:=(hrho _ _ hr).1; omega
     have hnw:findW wins (Key.ofNat g)=none:=by
      cases hr:findW wins (Key.ofNat g) with
      | none=>rfl
      | some wn=>
       obtain ⟨hm,hk⟩:=kG hr
       have:=(hwb wn hm).1
       rw [hk] at this; omega
     unfold qQ
     rw [hno]
     simp only
     rw [hnw]
     simp only
     rw [if_pos (by omega)]
     exact e
   · intro k hk
     have hno:zk ρ k=none:=by
      cases hr:zk ρ k with
      | none=>rfl
      | some b=>have:=(hrho _ _ hr).2.1; omega
     have hnw:findW wins k=none:=by
      cases hr:findW wins k with
      | none=>rfl
      | some wn=>
       obtain ⟨hm,hk⟩:=kG hr
       have:=(hwb wn hm).2
       rw [hk] at this; omega
     unfold qQ
     rw [hno]
     simp only
     rw [hnw]
     simp only
     split
     · rename_i hlt
       omega
     · rfl
 · intro k o p hk hp
   obtain ⟨b,o',p0,g1,g2,g3,g4,g5,rfl⟩:=hfam k o p hk hp
   have hro:o.isRo=false∧o'.isRo=false:=by
    unfold zBl at g5
    split at g5
    · exact ⟨rfl,rfl⟩
    · exact ⟨rfl,rfl⟩
    · exact ⟨rfl,rfl⟩
    · exact ⟨rfl,rfl⟩
    · exact ⟨rfl,rfl⟩
    · exact ⟨rfl,rfl⟩
    · exact ⟨rfl,rfl⟩
    · cases g5
   exact ⟨hro.1,b,o',p0,g3,hro.2,g4,rfl⟩
end
end
end Go.Ev
namespace Go.Ev
variable [Sym]
noncomputable section
variable {P:Program}
variable [SymFact P]
inductive Stp where
 | l | r | b
def zEa (P:Program) (call:yh):List Stp→CCode→K
 | [],_=>fun tm ds h n=>.ok .normal tm ds h n
 | .l::p,.seq a _=>zEa P call p a
 | .r::p,.seq a b=>fun tm ds h n=>qJ (zEa P call p b) (zp P call a tm ds h n)
 | .b::p,.block _ x=>zEa P call p x
 | _,_=>fun _ _ _ _=>.err 330
def uq (P:Program) (call:yh):List Stp→CCode→R→R
 | [],_=>fun r=>r
 | .l::p,.seq a b=>fun r=>qJ (zp P call b) (uq P call p a r)
 | .r::p,.seq _ b=>uq P call p b
 | .b::p,.block id x=>fun r=>uh id (uq P call p x r)
 | _,_=>fun _=>.err 331
def zDH:List Stp→CCode→CCode
 | [],.loop b=>b
 | .l::p,.seq a _=>zDH p a
 | .r::p,.seq _ b=>zDH p b
 | .b::p,.block _ x=>zDH p x
 | _,_=>.bad 50
def bodyF:CFn→CCode
 | .mk b _=>b
 | _=>.bad 51
def resF:CFn→List CRes
 | .mk _ r=>r
 | _=>[]
def ue:List Stp→Code→Option Code
 | [],.loop b=>some b
 | .l::p,.seq x _=>ue p x
 | .r::p,.seq _ y=>ue p y
 | .b::p,.block _ x=>ue p x
 | _,_=>none
def QH (P:Program):List Stp→Code→(Exit→Act→World→Prop)→Exit→Act→World→Prop
 | .l::p,.seq x y,Q=>QH P p x (Exit.then (y.wp P Q) Q)
 | .r::p,.seq _ y,Q=>QH P p y Q
 | .b::p,.block id x,Q=>QH P p x (Exit.inBlock id Q)
 | _,_,Q=>Q
omit [SymFact P] in
theorem zAP {F N:Nat}:∀ {p:List Stp} {c b:Code},ue p c=some b→zDH p (zU P F N c)=zU P F N b
 | [],c,b,h=>by
  cases c <;> first | (injection h with h; subst h; rfl) | cases h
 | .l::p,c,b,h=>by
  cases c <;> first | exact zAP (p:=p) h | cases h
 | .r::p,c,b,h=>by
  cases c <;> first | exact zAP (p:=p) h | cases h
 | .b::p,c,b,h=>by
  cases c <;> first | exact zAP (p:=p) h | cases h
section
variable {F N:Nat} {call:yh}
theorem kP (hcall:yy call):∀ (p:List Stp) (c:CCode) (tm:Tm) (ds:xd) (h:zC) (n:Key),zi n (zEa P call p c tm ds h n)
 | [],_,_,_,_,_=>Nat.le_refl _
 | .l::p,c,tm,ds,h,n=>by
  cases c <;> first | exact kP hcall p _ tm ds h n | trivial
 | .r::p,c,tm,ds,h,n=>by
  cases c <;> first | exact qU (fun tm ds h n=>kP hcall p _ tm ds h n) (yv hcall _ tm ds h n) | trivial
 | .b::p,c,tm,ds,h,n=>by
  cases c <;> first | exact kP hcall p _ tm ds h n | trivial
theorem zBN (hcall:ym P call) (hdraw:kT P F N call):∀ (p:List Stp) (c:Code) {b:Code} {Q:Exit→Act→World→Prop} {ψ:Psi} {tm:Tm} {ds:xd} {h:zC} {n:Key} {a:Act} {w:World},
 ue p c=some b→yS c=true→St P F N ψ tm ds h n a w→zb (zEa P call p (zU P F N c) tm ds h n) →
 (∀ e a' w',xG P F N ψ (zC.fam h) n w (zEa P call p (zU P F N c) tm ds h n) e a' w'→e=.normal∧ug P b (QH P p c Q) a' w')→c.wp P Q a w
 | [],c,b,Q,ψ,tm,ds,h,n,a,w,hs,hn,hst,hc,hq=>by
  cases c <;> try (cases hs; done)
  rename_i b'
  injection hs with hs; subst hs
  exact zFw (hq .normal a w ⟨trivial,ψ,hst,zy.refl hst.rel,hc⟩).2
 | .l::p,c,b,Q,ψ,tm,ds,h,n,a,w,hs,hn,hst,hc,hq=>by
  cases c <;> try (cases hs; done)
  rename_i x y
  have hnr:yS x=true∧yS y=true:=by simpa [yS] using hn
  exact wp_seq (zBN hcall hdraw p x (Q:=Exit.then (y.wp P Q) Q) hs hnr.1 hst hc hq)
 | .r::p,c,b,Q,ψ,tm,ds,h,n,a,w,hs,hn,hst,hc,hq=>by
  cases c <;> try (cases hs; done)
  rename_i x y
  have hnr:yS x=true∧yS y=true:=by simpa [yS] using hn
  have hc:zb (qJ (zEa P call p (zU P F N y)) (zp P call (zU P F N x) tm ds h n)):=hc
  have hab:=fun tm ds h n=>kP (P:=P) hcall.above p (zU P F N y) tm ds h n
  refine wp_seq (wp_mono (vl hcall hdraw x hnr.1 hst (xq hab hc)) fun e a' w' ho=>?_)
  rcases kJ hc ho with ⟨rfl,tm',ds',h',n',ψ',h2,h3,h4,h5⟩ | ⟨h1,h2⟩
  · refine zBN hcall hdraw p y (Q:=Q) hs hnr.2 h2 h4 fun e'' a'' w'' ho'=>?_
    exact hq e'' a'' w'' (h5 e'' a'' w'' (xG.trans h3 ho'))
  · exact absurd (hq e a' w' h2).1 h1
 | .b::p,c,b,Q,ψ,tm,ds,h,n,a,w,hs,hn,hst,hc,hq=>by
  cases c <;> try (cases hs; done)
  rename_i id x
  exact wp_block (zBN hcall hdraw p x (Q:=Exit.inBlock id Q) hs hn hst hc hq)
theorem wl (hcall:yy call):∀ (p:List Stp) (c:CCode) {r:R},zb (uq P call p c r)→zb r
 | [],_,_,h=>h
 | .l::p,c,r,h=>by
  cases c <;> first | exact wl hcall p _ (xq (fun tm ds h n=>yv hcall _ tm ds h n) h) | exact h.elim
 | .r::p,c,r,h=>by
  cases c <;> first | exact wl hcall p _ h | exact h.elim
 | .b::p,c,r,h=>by
  cases c <;> first | exact wl hcall p _ (jo _ h) | exact h.elim
theorem zAv (hcall:ym P call) (hdraw:kT P F N call) {ψ₀:Psi} {g₀:Fam} {n₀:Key} {w₀:World}:∀ (p:List Stp) (c:Code) {b:Code} {Q:Exit→Act→World→Prop} {r:R} {e:Exit} {a:Act} {w:World},
 ue p c=some b→yS c=true→xG P F N ψ₀ g₀ n₀ w₀ r e a w→zb (uq P call p (zU P F N c) r) →
 (∀ e a w,xG P F N ψ₀ g₀ n₀ w₀ (uq P call p (zU P F N c) r) e a w→Q e a w)→QH P p c Q e a w
 | [],c,b,Q,r,e,a,w,hs,hn,ho,hc,hq=>by
  cases c <;> first | exact hq e a w ho | cases hs
 | .l::p,c,b,Q,r,e,a,w,hs,hn,ho,hc,hq=>by
  cases c <;> try (cases hs; done)
  rename_i x y
  have hnr:yS x=true∧yS y=true:=by simpa [yS] using hn
  have hc:zb (qJ (zp P call (zU P F N y)) (uq P call p (zU P F N x) r)):=hc
  have hab:=fun tm ds h n=>yv (P:=P) hcall.above (zU P F N y) tm ds h n
  refine zAv hcall hdraw p x (Q:=Exit.then (y.wp P Q) Q) hs hnr.1 ho (xq hab hc) fun e a w ho=>?_
  rcases kJ hc ho with ⟨rfl,tm',ds',h',n',ψ',h2,h3,h4,h5⟩ | ⟨h1,h2⟩
  · exact wp_mono (vl hcall hdraw y hnr.2 h2 h4) fun e'' a'' w'' ho'=>hq e'' a'' w'' (h5 e'' a'' w'' (xG.trans h3 ho'))
  · cases e <;> first | exact absurd rfl h1 | exact hq _ _ _ h2
 | .r::p,c,b,Q,r,e,a,w,hs,hn,ho,hc,hq=>by
  cases c <;> try (cases hs; done)
  rename_i x y
  have hnr:yS x=true∧yS y=true:=by simpa [yS] using hn
  exact zAv hcall hdraw p y (Q:=Q) hs hnr.2 ho hc hq
 | .b::p,c,b,Q,r,e,a,w,hs,hn,ho,hc,hq=>by
  cases c <;> try (cases hs; done)
  rename_i id x
  have hc:zb (uh id (uq P call p (zU P F N x) r)):=hc
  refine zAv hcall hdraw p x (Q:=Exit.inBlock id Q) hs hn ho (jo id hc) fun e a w ho=>?_
  exact uZ (fun e a w h=>hq e a w h) ho
end
end
end Go.Ev
namespace Go.Ev
noncomputable section
variable {P:Program}
def zVf (v:CV):Option (Key × Nat):=match v with
 | .ptr b o=>some (b,o)
 | .sl b o _ _ _ _=>some (b,o)
 | _=>none
def zK4 (l:List CV) (v:CV):Nat→List CV:=List.rec (motive:=fun _=>Nat→List CV) (fun _=>[]) (fun x r ih i=>Nat.rec (motive:=fun _=>List CV) (v::r) (fun j _=>x::ih j) i) l
theorem zKw {v:CV}:∀ {l:List CV} {i j:Nat} {c:CV},(zK4 l v i)[j]? = some c→(j=i∧c=v∧i<l.length)∨(j≠i∧l[j]? = some c)
 | [],i,j,c,h=>by
  have h:([]:List CV)[j]? = some c:=h
  simp at h
 | x::r,0,j,c,h=>by
  have h:(v::r)[j]? = some c:=h
  cases j with
  | zero=>simp at h; exact .inl ⟨rfl,h.symm,by simp⟩
  | succ j=>exact .inr ⟨by omega,by simpa using h⟩
 | x::r,i+1,j,c,h=>by
  have h:(x::zK4 r v i)[j]? = some c:=h
  cases j with
  | zero=>simp at h; exact .inr ⟨by omega,by simpa using h⟩
  | succ j=>
   rcases zKw (l:=r) (i:=i) (by simpa using h) with ⟨a,b,d⟩ | ⟨a,b⟩
   · exact .inl ⟨by omega,b,by simp; omega⟩
   · exact .inr ⟨by omega,by simpa using b⟩
theorem zKs {v:CV}:∀ {l:List CV} {i:Nat},(zK4 l v i).length=l.length
 | [],_=>rfl
 | x::r,0=>rfl
 | x::r,i+1=>by
  show (zK4 r v i).length+1=_
  rw [zKs]; rfl
def slV:List Nat→CV→zC→Key→(CV→zC→Key→Bool)→Bool
 | [],v,h,n,k=>match v with
  | .sl b (.succ o) l c e x=>match zj b h with
   | some (.cells vs)=>match Nat.ble (Nat.succ o) vs.length&&Nat.ble (Nat.succ n.ix) 65535 with
    | true=>k (.sl n 0 l c e x) (ya (some (.cells (vs.drop (Nat.succ o)))) n (ya none b h)) n.succ
    | false=>k (.sl b (.succ o) l c e x) h n
   | _=>k (.sl b (.succ o) l c e x) h n
  | v=>k v h n
 | i::r,v,h,n,k=>match zVf v with
  | some q=>match zj q.1 h with
   | some (.cells vs)=>match nth vs (q.2+i) with
    | some c=>slV r c h n fun c' h' n'=>match zj q.1 h' with
     | some (.cells vs')=>k v (ya (some (.cells (zK4 vs' c' (q.2+i)))) q.1 h') n'
     | _=>k v h' n'
    | none=>k v h n
   | _=>k v h n
  | none=>k v h n
def zA6:List (Nat × List Nat)→Tm→zC→Key→(Tm→zC→Key→Bool)→Bool
 | [],tm,h,n,k=>k tm h n
 | p::r,tm,h,n,k=>slV p.2 (qT (Loc.ofNat p.1) tm) h n fun v h n=>zA6 r (kg v (Loc.ofNat p.1) tm) h n k
theorem zQH:∀ (p:List Nat) (v:CV) (h:zC) (n:Key),∃ v' h' n',∀ k,slV p v h n k=k v' h' n'
 | [],v,h,n=>by
  unfold slV
  split
  · split
    · split
      · exact ⟨_,_,_,fun _=>rfl⟩
      · exact ⟨_,_,_,fun _=>rfl⟩
    · exact ⟨_,_,_,fun _=>rfl⟩
  · exact ⟨_,_,_,fun _=>rfl⟩
 | i::r,v,h,n=>by
  unfold slV
  split
  · rename_i q _
    split
    · split
      · rename_i c _
        obtain ⟨c',h',n',e⟩:=zQH r c h n
        cases hg:zj q.1 h' with
        | none=>exact ⟨v,h',n',fun k=>by rw [e]; simp only [hg]⟩
        | some o=>cases o with
         | cells vs'=>exact ⟨v,ya (some (.cells (zK4 vs' c' (q.2+i)))) q.1 h',n',fun k=>by rw [e]; simp only [hg]⟩
         | _=>exact ⟨v,h',n',fun k=>by rw [e]; simp only [hg]⟩
      · exact ⟨_,_,_,fun _=>rfl⟩
    · exact ⟨_,_,_,fun _=>rfl⟩
  · exact ⟨_,_,_,fun _=>rfl⟩
theorem zJA:∀ (l:List (Nat × List Nat)) (tm:Tm) (h:zC) (n:Key),∃ tm' h' n',∀ k,zA6 l tm h n k=k tm' h' n'
 | [],tm,h,n=>⟨tm,h,n,fun _=>rfl⟩
 | p::r,tm,h,n=>by
  obtain ⟨v,h1,n1,e⟩:=zQH p.2 (qT (Loc.ofNat p.1) tm) h n
  obtain ⟨tm',h',n',e'⟩:=zJA r (kg v (Loc.ofNat p.1) tm) h1 n1
  exact ⟨tm',h',n',fun k=>by unfold zA6; rw [e]; exact e' k⟩
theorem zLp {l:List (Nat × List Nat)} {tm:Tm} {h:zC} {n:Key} {α:Type} {k:Tm→zC→Key→Bool} {k':α→Tm→zC→Key→Bool} (hk:zA6 l tm h n k=true) (hh:∀ tm h n,k tm h n=true→∃ x,k' x tm h n=true) :
 ∃ x,zA6 l tm h n (k' x)=true:=by
 obtain ⟨tm',h',n',e⟩:=zJA l tm h n
 rw [e] at hk
 obtain ⟨x,hx⟩:=hh _ _ _ hk
 exact ⟨x,by rw [e]; exact hx⟩
theorem zPX {w:World} {B:Nat} {o:Obj} (h:w.heap[B]? = some o):w.upB B o=w:=by
 have:w.heap.setIfInBounds B o=w.heap:=by
  apply Array.ext_getElem?
  intro i
  rw [Array.getElem?_setIfInBounds]
  split
  · rename_i e
    subst e
    split
    · exact h.symm
    · rename_i q
      rw [Array.getElem?_eq_none (by omega)]
  · rfl
 show { w with heap:=w.heap.setIfInBounds B o }=w
 rw [this]
section
variable [Sym]
theorem zRI {w:World}:∀ (p:List Nat) {v:CV} {h:zC} {n:Key} {ψ:Psi} {k:CV→zC→Key→Bool},Rel ψ (zC.fam h) w→xe ψ n→slV p v h n k=true →
 ∃ v' h' n' ψ',zy ψ (zC.fam h) n w ψ' (zC.fam h') n' w∧xe ψ' n'∧(∀ x,zH ψ v x→zH ψ' v' x)∧k v' h' n'=true
 | [],v,h,n,ψ,k,hr,hf,hk=>by
  have same:k v h n=true→∃ v' h' n' ψ',zy ψ (zC.fam h) n w ψ' (zC.fam h') n' w∧xe ψ' n'∧(∀ x,zH ψ v x→zH ψ' v' x)∧k v' h' n'=true:=
   fun hk=>⟨v,h,n,ψ,zy.refl hr,hf,fun _ h=>h,hk⟩
  unfold slV at hk
  split at hk
  · rename_i b o l c e x
    split at hk
    · rename_i vs hb
      split at hk
      · rename_i hc
        rw [Bool.and_eq_true] at hc
        have c1:=@zL zR _ _ hc.1
        have c2:=@zL zR _ _ hc.2
        have hb':zC.fam h b=some (.cells vs):=hb
        obtain ⟨p,hp⟩:=hr.tot b _ hb'
        have ho:=hr.on b _ p hb' hp
        obtain ⟨arr,elem,fz,g1,g2,g3,g4,g5⟩:=ho
        have hroom:n.room:=by unfold Key.room; omega
        have hnone:ψ n=none:=hf n (Nat.le_refl _)
        have hle:=Psi.le_upd (ψ:=ψ) (k:=n) ⟨p.blk,p.off+Nat.succ o,p.sz,p.ck⟩ hnone
        have hpost:=zHn (n:=n) (p':=⟨p.blk,p.off+Nat.succ o,p.sz,p.ck⟩) (ob:=.cells arr elem fz) (o':=.cells (vs.drop (Nat.succ o))) hr hroom hnone hb' rfl hp rfl (by
         rw [zPX g1]
         refine ⟨arr,elem,fz,g1,g2,?_,g4,fun i c hi=>?_⟩
         · show p.off+Nat.succ o+(vs.drop (Nat.succ o)).length≤p.sz
           rw [List.length_drop]; omega
         · rw [List.getElem?_drop] at hi
           obtain ⟨y,q1,q2⟩:=g5 _ c hi
           refine ⟨y,?_,q2.mono hle⟩
           rw [← q1]; congr 1; show p.off+Nat.succ o+i=_; omega)
        rw [zPX g1] at hpost
        refine ⟨_,_,_,_,by rw [zn,zn]; exact hpost,?_,fun y hy=>?_,hk⟩
        · intro j hj
          have hix:=Key.ix_succ hroom
          rw [Psi.upd_other _ _ (fun e=>by subst e; omega)]
          exact hf j (by omega)
        · rw [zx] at hy ⊢
          obtain ⟨p1,y1,cap',k1,k2,k3,k4,k5,k6⟩:=hy
          rw [hp] at k1; injection k1 with k1; subst k1
          exact ⟨_,y1,cap',Psi.upd_same _ _ _,k2,k3,k4,k5,k6⟩
      · exact same hk
    · exact same hk
  · exact same hk
 | i::r,v,h,n,ψ,k,hr,hf,hk=>by
  have same:k v h n=true→∃ v' h' n' ψ',zy ψ (zC.fam h) n w ψ' (zC.fam h') n' w∧xe ψ' n'∧(∀ x,zH ψ v x→zH ψ' v' x)∧k v' h' n'=true:=
   fun hk=>⟨v,h,n,ψ,zy.refl hr,hf,fun _ h=>h,hk⟩
  unfold slV at hk
  split at hk
  · rename_i q _
    split at hk
    · rename_i vs hb
      split at hk
      · rename_i c hc
        obtain ⟨c',h',n',ψ',g1,g2,g3,g4⟩:=zRI r hr hf hk
        split at g4
        · rename_i vs' hb'
          have hb0:zC.fam h q.1=some (.cells vs):=hb
          have hb1:zC.fam h' q.1=some (.cells vs'):=hb'
          obtain ⟨p,hp⟩:=hr.tot _ _ hb0
          have hp':=g1.ext _ _ hp
          obtain ⟨arr,elem,fz,a1,a2,a3,a4,a5⟩:=hr.on _ _ _ hb0 hp
          obtain ⟨arr',elem',fz',b1,b2,b3,b4,b5⟩:=g1.rel.on _ _ _ hb1 hp'
          have hsame:arr'=arr:=by
           rw [a1] at b1; injection b1 with b1; injection b1 with b1; exact b1.symm
          rw [@ye zR] at hc
          obtain ⟨x,x1,x2⟩:=a5 _ _ hc
          have hpost:=zDd (n:=n') (o':=.cells (zK4 vs' c' (q.2+i))) g1.rel hb1 hp' ⟨arr',elem',fz',b1,b2,by rw [zKs]; exact b3,b4,fun j d hj=>by
           rcases zKw hj with ⟨e1,e2,_⟩ | ⟨_,e2⟩
           · subst e1; subst e2
             exact ⟨x,by rw [hsame]; exact x1,g3 x x2⟩
           · exact b5 j d e2⟩
          exact ⟨v,_,n',ψ',g1.trans (by rw [zn]; exact hpost),g2,fun x hx=>hx.mono g1.ext,g4⟩
        · exact ⟨v,h',n',ψ',g1,g2,fun x hx=>hx.mono g1.ext,g4⟩
      · exact same hk
    · exact same hk
  · exact same hk
theorem zKE {F N:Nat} {a:Act} {w:World}:∀ (l:List (Nat × List Nat)) {tm:Tm} {h:zC} {n:Key} {ψ:Psi} {k:Tm→zC→Key→Bool},St P F N ψ tm [] h n a w→zA6 l tm h n k=true →
 ∃ tm' h' n' ψ',St P F N ψ' tm' [] h' n' a w∧zy ψ (zC.fam h) n w ψ' (zC.fam h') n' w∧k tm' h' n'=true
 | [],tm,h,n,ψ,k,hs,hk=>⟨tm,h,n,ψ,hs,zy.refl hs.rel,hk⟩
 | p::r,tm,h,n,ψ,k,hs,hk=>by
  unfold zA6 at hk
  obtain ⟨v,h1,n1,ψ1,g1,g2,g3,g4⟩:=zRI p.2 hs.rel hs.fresh hk
  have hs1:St P F N ψ1 (kg v (Loc.ofNat p.1) tm) [] h1 n1 a w:=by
   refine ⟨⟨hs.frame.size,fun t q1 q2 q3=>?_⟩,hs.dfr,g1.rel,fun j q1 q2=>let ⟨sz,e⟩:=hs.glob j q1 q2; ⟨sz,g1.ext _ _ e⟩,g2⟩
   have h0:=hs.frame.tmp t q1 q2 q3
   by_cases e:Loc.ofNat t=Loc.ofNat p.1
   · rw [e,zNA]
     rw [e] at h0
     exact g3 _ h0
   · rw [zJl _ _ _ _ e]
     exact h0.mono g1.ext
  obtain ⟨tm',h',n',ψ',k1,k2,k3⟩:=zKE r hs1 g4
  exact ⟨tm',h',n',ψ',k1,g1.trans k2,k3⟩
end
end
end Go.Ev
namespace Go.Ev
open Go.RowKit
noncomputable section
variable {P:Program}
structure kC where
 T:Nat
 ks:List Key
 θ:TH
def zAI (θ:TH):Bool:=match θ with
 | q::_=>z7 q.1 1&&vY q.2 [(0,1)]
 | []=>false
def zCZ (θ:TH):Bool:=match θ with
 | _::_=>true
 | []=>false
def j9 (θ:TH):List (Key × Nat)→Bool
 | []=>true
 | q::r=>(match nth θ q.2 with
  | some u=>z7 u.1 0&&vY u.2 [(q.2,1)]
  | none=>false)&&j9 θ r
def LensAre (wins:List Win) (L:List (Key × Nat)) (σ:Nat→Int):Prop:=∀ q∈L,∃ wn,findW wins q.1=some wn∧σ q.2=wn.len
theorem zGP {θ:TH}:∀ {L:List (Key × Nat)},j9 θ L=true→∀ q∈L,nth θ q.2=some (0,[(q.2,1)])
 | [],_,q,h=>by cases h
 | x::r,h,q,hq=>by
  unfold j9 at h
  rw [Bool.and_eq_true] at h
  rcases List.mem_cons.1 hq with rfl | hq
  · have h1:=h.1
    split at h1
    · rename_i u hu
      rw [Bool.and_eq_true,@ze zR,decide_eq_true_eq] at h1
      rw [hu]
      obtain ⟨a,b⟩:=u
      simp only at h1
      rw [h1.1,@wu zR _ _ h1.2]
    · cases h1
  · exact zGP h.2 q hq
def zCr (G:Nat) (ws:List (Key × Nat)) (Ts:List TS) (ok:kC→Bool) (K:zc) (t:kC) (tm:Tm) (ds:xd) (h:zC) (n:Key):Bool:=match ds with
 | []=>match nth Ts t.T with
  | some T=>zTS T fun T=>Nat.ble (Nat.succ n.ix) 65535&&zA6 T.sl tm h n fun tm h n=>ok t&&zIB G ws T t.ks t.θ K tm h
  | none=>false
 | _=>false
def kj (G:Nat) (ws:List (Key × Nat)) (Ts:List TS) (ok:kC→Bool) (K:zc) (fin:R→Bool):R→List kC→Option (List kC)
 | .ok .normal tm ds h n,t::r=>match zCr G ws Ts ok K t tm ds h n with
  | true=>some r
  | false=>none
 | .ok (.exit i) tm ds h n,r=>match fin (.ok (.exit i) tm ds h n) with
  | true=>some r
  | false=>none
 | .ok .ret tm ds h n,r=>match fin (.ok .ret tm ds h n) with
  | true=>some r
  | false=>none
 | .fork a b,r=>match kj G ws Ts ok K fin a r with
  | some r=>kj G ws Ts ok K fin b r
  | none=>none
 | _,_=>none
def ww (o:Option (List kC)):Bool:=match o with
 | some _=>true
 | none=>false
section
variable {G:Nat} {ws:List (Key × Nat)} {Ts:List TS} {ok:kC→Bool} {K:zc} {fin:R→Bool}
theorem kH (hf:∀ r,fin r=true→zb r):∀ {r:R} {l l':List kC},kj G ws Ts ok K fin r l=some l'→zb r
 | .ok .normal tm ds h n,[],_,hc=>by cases hc
 | .ok .normal tm ds h n,t::r,l',hc=>by
  unfold kj at hc
  split at hc
  · rename_i hl
    unfold zCr at hl
    split at hl
    · split at hl
      · rw [zLF,Bool.and_eq_true] at hl
        exact @zL zR _ _ hl.1
      · cases hl
    · cases hl
  · cases hc
 | .ok (.exit i) tm ds h n,l,l',hc=>by
  unfold kj at hc
  split at hc
  · rename_i h1; exact hf _ h1
  · cases hc
 | .ok .ret tm ds h n,l,l',hc=>by
  unfold kj at hc
  split at hc
  · rename_i h1; exact hf _ h1
  · cases hc
 | .ret ..,l,l',hc=>by cases hc
 | .err _,l,l',hc=>by cases hc
 | .fork a b,l,l',hc=>by
  unfold kj at hc
  split at hc
  · rename_i r hr
    exact ⟨kH hf hr,kH hf hc⟩
  · cases hc
def zTG (P:Program) (F N:Nat) (ψ₀:Psi) (g₀:Fam) (n₀:Key) (w₀:World) (G:Nat) (ws:List (Key × Nat)) (Ts:List TS) (ok:kC→Bool) (K:zc) (fin:R→Bool) (S:Sym) (e:Exit) (a:Act) (w:World):Prop:=
 (e=.normal∧∃ (tm:Tm) (h:zC) (n:Key) (ψ:Psi) (t:kC) (T:TS),@St S P F N ψ tm [] h n a w∧@zy S ψ₀ g₀ n₀ w₀ ψ (zC.fam h) n w∧nth Ts t.T=some T∧ok t=true∧zIB G ws T t.ks t.θ K tm h=true) ∨
 (e≠.normal∧∃ r,@xG S P F N ψ₀ g₀ n₀ w₀ r e a w∧fin r=true)
theorem vw {S:Sym} {F N:Nat} {ψ₀:Psi} {g₀:Fam} {n₀:Key} {w₀:World} {e:Exit} {a:Act} {w:World}:∀ {r:R} {l l':List kC},kj G ws Ts ok K fin r l=some l' →
 @xG S P F N ψ₀ g₀ n₀ w₀ r e a w→zTG P F N ψ₀ g₀ n₀ w₀ G ws Ts ok K fin S e a w
 | .ok .normal tm ds h n,[],_,hc,_=>by cases hc
 | .ok .normal tm ds h n,t::r,l',hc,⟨h1,ψ,h2,h3,h4⟩=>by
  unfold kj at hc
  split at hc
  · rename_i hl
    unfold zCr at hl
    split at hl
    · split at hl
      · rename_i T hT
        rw [zLF,Bool.and_eq_true] at hl
        cases e <;> first | exact h1.elim | skip
        obtain ⟨tm',h',n',ψ',k1,k2,k3⟩:=@zKE P S F N a w T.sl tm h n ψ _ h2 hl.2
        rw [Bool.and_eq_true] at k3
        exact Or.inl ⟨rfl,tm',h',n',ψ',t,T,k1,@zy.trans S _ _ _ _ _ _ _ _ _ _ _ _ h3 k2,hT,k3.1,k3.2⟩
      · cases hl
    · cases hl
  · cases hc
 | .ok (.exit i) tm ds h n,l,l',hc,ho=>by
  unfold kj at hc
  split at hc
  · rename_i hf
    refine Or.inr ⟨fun e1=>?_,_,ho,hf⟩
    subst e1; exact ho.1.elim
  · cases hc
 | .ok .ret tm ds h n,l,l',hc,ho=>by
  unfold kj at hc
  split at hc
  · rename_i hf
    refine Or.inr ⟨fun e1=>?_,_,ho,hf⟩
    subst e1; exact ho.1.elim
  · cases hc
 | .ret ..,l,l',hc,_=>by cases hc
 | .err _,l,l',hc,_=>by cases hc
 | .fork a b,l,l',hc,ho=>by
  unfold kj at hc
  split at hc
  · rename_i r hr
    rcases ho with ho | ho
    · exact vw hr ho
    · exact vw hc ho
  · cases hc
end
structure zPa (P:Program) (F N:Nat) (G:Nat) (A:Key→Option Value) (wins:List Win) (L:List (Key × Nat)) (w0:World) (T:TS) (σ:Nat→Int) (ψ:Psi) (a:Act) (w:World):Prop where
 bnd:yH σ 0 T.b
 fct:jb σ T.f
 rul:xy σ T.r
 len:LensAre wins L σ
 st:∀ σ' K',(∀ j,j<T.b.length→σ' j=σ j)→K'.arg=A→@St (linSym σ' K') P F N ψ (zCc T.locs) [] (mkH .nil T.objs) T.n a w
 own:∀ k o p,zC.fam (mkH .nil T.objs) k=some o→ψ k=some p→o.isRo=false∧w0.heap.size≤p.blk
 blw:Below w0.heap.size w0 w
 win:∀ k wn,findW wins k=some wn→zC.fam (mkH .nil T.objs) k=none→ψ k=some ⟨wn.B,wn.x+(σ 0).toNat*wn.esz,wn.sz,fun n=>n⟩
theorem zKd {S:Sym} {ψ ψ':Psi} {g g':Fam} {n n':Key} {w0 w w':World} (h:Below w0.heap.size w0 w) (hp:@zy S ψ g n w ψ' g' n' w') (hm:∀ k o p,g k=some o→o.isRo=false→ψ k=some p→w0.heap.size≤p.blk) :
 Below w0.heap.size w0 w':=by
 have h1:=@zy.os S _ _ _ _ _ _ _ _ hp
 have h2:=@zy.tape S _ _ _ _ _ _ _ _ hp
 have h3:=@zy.output S _ _ _ _ _ _ _ _ hp
 have h4:=@zy.size S _ _ _ _ _ _ _ _ hp
 have h5:=@zy.frame S _ _ _ _ _ _ _ _ hp
 refine ⟨h1.trans h.os,h2.trans h.tape,h3.trans h.output,Nat.le_trans h.size h4,fun k hk=>?_⟩
 rw [h5 k (Nat.lt_of_lt_of_le hk h.size) fun k' o p q1 q2 q3 e=>?_,h.block k hk]
 have:=hm k' o p q1 q2 q3
 omega
theorem zMX {h:zC}:∀ {objs:List (Key × CObj)} {j:Nat} {k:Key} {o:CObj},objs[j]? = some (k,o)→∃ o',zj k (mkH h objs)=some o'
 | [],j,k,o,hj=>by simp at hj
 | p::r,j,k,o,hj=>by
  show ∃ o',zj k (ya (some p.2) p.1 (mkH h r))=some o'
  rw [qw]
  split
  · exact ⟨_,rfl⟩
  · rename_i e
    cases j with
    | zero=>simp at hj; subst hj; exact absurd rfl e
    | succ j=>exact zMX (j:=j) (by simpa using hj)
theorem zPG {objs:List (Key × CObj)} {ks:List Key} {k:Key} (h:zC.fam (mkH .nil objs) k=none):zCt (ju objs ks) k=true:=by
 unfold zCt
 split
 · rfl
 · rename_i b hb
   obtain ⟨j,o,h1,h2⟩:=zF3 hb
   obtain ⟨o',h3⟩:=zMX (h:=.nil) h1
   have h:zj k (mkH .nil objs)=none:=h
   rw [h] at h3; cases h3
theorem zLv {L:List (Key × Nat)} {wins:List Win} {σs:Nat→Int} {Ks:zc} (hK:KnownOk σs Ks) (hlen:LensAre wins L σs) {θ:TH} {T:TS} {ks:List Key} {G F N:Nat} {ψ₀ ψ:Psi} {g₀:Fam} {n₀:Key} {w0 w₀:World} {tm:Tm} {h:zC} {n:Key} {a:Act} {w:World}
 (hst:@St (linSym σs Ks) P F N ψ tm [] h n a w) (hp:@zy (linSym σs Ks) ψ₀ g₀ n₀ w₀ ψ (zC.fam h) n w) (hG:P.globals.size≤G) (hA:ArgsAre Ks.arg wins) (hc:zIB G (wsOf wins) T ks θ Ks tm h=true)
 (h0:∃ q,nth θ 0=some q) (hL:j9 θ L=true) (hm:∀ k o p,g₀ k=some o→o.isRo=false→ψ₀ k=some p→w0.heap.size≤p.blk) (hb:Below w0.heap.size w0 w₀) :
 ∃ σ ψT,zPa P F N G Ks.arg wins L w0 T σ ψT a w∧∀ q,nth θ 0=some q→σ 0=evQ σs q:=by
 obtain ⟨σ,hσ⟩:∃ σ:Nat→Int,∀ j,σ j=match nth θ j with | some q=>evQ σs q | none=>0:=⟨_,fun _=>rfl⟩
 have hth:∀ j q,nth θ j=some q→σ j=evQ σs q:=fun j q hj=>by rw [hσ,hj]
 obtain ⟨q0,hq0⟩:=h0
 obtain ⟨ψT,c1,c2,c3⟩:=zQC hst hG hA hc (evQ σs q0) (fun q hq=>by rw [hq0] at hq; injection hq with hq; rw [hq]) ⟨q0,hq0⟩
 have hc':=hc
 unfold zIB at hc'
 simp only [Bool.and_eq_true] at hc'
 obtain ⟨⟨⟨⟨⟨⟨_,_⟩,c6⟩,c7⟩,_⟩,_⟩,c10⟩:=hc'
 obtain ⟨hlenb,hbd⟩:=zNM hK (σT:=σ) (k:=0) c6 (fun j q hj=>by rw [Nat.zero_add]; exact hth j q hj)
 have hout:=@zy.img (linSym σs Ks) _ _ _ _ _ _ _ _ hp
 have hsz:=@zy.size (linSym σs Ks) _ _ _ _ _ _ _ _ hp
 refine ⟨σ,ψT,⟨hbd,zNj hK (fun j q hj=>hth j q hj) c7,zD4 (fun j q hj=>hth j q hj) hK.rules c10,fun q hq=>?_,fun σ' K' hag hK'=>?_,fun k o p h1 h2=>?_,zKd hb hp hm,fun k wn hw hno=>?_⟩,fun q hq=>hth 0 q hq⟩
 · obtain ⟨wn,h1,h2⟩:=hlen q hq
   refine ⟨wn,h1,?_⟩
   rw [hth _ _ (zGP hL q hq)]
   show (0:Int)+(1*σs q.2+0)=_
   rw [h2]; omega
 · refine c1 σ' K' (fun j q hj=>?_) hK'
   have hlt:j<T.b.length:=by
    rw [hlenb]
    rw [@ye zR] at hj
    exact (List.getElem?_eq_some_iff.1 hj).1
   rw [hag j hlt]
   exact hth j q hj
 · obtain ⟨g1,k0,o0,p0,g2,g3,g4,g5⟩:=c2 k o p h1 h2
   refine ⟨g1,?_⟩
   rw [← g5]
   rcases hout k0 o0 p0 g2 g3 g4 with ⟨k1,o1,p1,r1,r2,r3,r4⟩ | r
   · rw [← r4]; exact hm k1 o1 p1 r1 r2 r3
   · exact Nat.le_trans hb.size (Nat.le_trans (by exact Nat.le_refl _) r)
 · rw [c3.1 k wn hw (zPG hno),hth 0 q0 hq0]
def zTR:CV→Option Key
 | .sl k _ _ _ _ _=>some k
 | .win k _ _ _=>some k
 | _=>none
def zQx (wins:List Win) (i:Int) (ψ:Psi) (c:CV):Prop:=∀ k wn,zTR c=some k→findW wins k=some wn→ψ k=some ⟨wn.B,wn.x+i.toNat*wn.esz,wn.sz,fun n=>n⟩
def zA8 (S:Sym) (wins:List Win) (w0:World) (i:Int) (q:Key × List CV):Prop:=
 ∃ wn arr elem fz,findW wins q.1=some wn∧w0.heap[wn.B]? = some (.cells arr elem fz)∧wn.x+i.toNat*wn.esz+q.2.length≤arr.size ∧
  ∀ (j:Nat) (c:CV),q.2[j]? = some c→∃ v,arr[wn.x+i.toNat*wn.esz+j]? = some v∧∀ ψ,zQx wins i ψ c→@zH S ψ c v
def zFt (l:List (Key × List CV)):List (Key × CObj):=l.map fun q=>(q.1,.ro q.2)
def zF8 (objs:List (Key × CObj)):List CV→Bool
 | []=>true
 | c::r=>(match zTR c with
  | none=>true
  | some k=>(match zj k (mkH .nil objs) with
   | none=>true
   | some _=>false))&&zF8 objs r
theorem zGQ {objs:List (Key × CObj)}:∀ {l:List CV},zF8 objs l=true→∀ (j:Nat) c k,l[j]? = some c→zTR c=some k→zj k (mkH .nil objs)=none
 | [],_,j,c,k,hj,_=>by simp at hj
 | x::r,h,j,c,k,hj,hk=>by
  unfold zF8 at h
  rw [Bool.and_eq_true] at h
  cases j with
  | zero=>
   simp at hj
   subst hj
   have h1:=h.1
   rw [hk] at h1
   simp only at h1
   split at h1
   · assumption
   · cases h1
  | succ j=>exact zGQ h.2 j c k (by simpa using hj) hk
def wZ (objs:List (Key × CObj)):List (Key × List CV)→Bool
 | []=>true
 | q::r=>zF8 objs q.2&&(match zj q.1 (mkH .nil objs) with
  | none=>true
  | some _=>false)&&(match zj q.1 (mkH .nil (zFt r)) with
  | none=>true
  | some _=>false)&&wZ objs r
theorem zQF {l:List (Key × List CV)} {j:Nat} {k:Key} {o:CObj} (h:(zFt l)[j]? = some (k,o)):∃ cs,(k,cs)∈l∧o=.ro cs:=by
 unfold zFt at h
 rw [List.getElem?_map] at h
 cases hq:l[j]? with
 | none=>rw [hq] at h; cases h
 | some q=>
  rw [hq] at h
  injection h with h
  injection h with h1 h2
  subst h1 h2
  exact ⟨q.2,List.mem_of_getElem? hq,rfl⟩
theorem zHM {objs:List (Key × CObj)}:∀ {l:List (Key × List CV)},wZ objs l=true→∀ q∈l,zj q.1 (mkH .nil objs)=none
 | [],_,q,hq=>by cases hq
 | x::r,h,q,hq=>by
  unfold wZ at h
  simp only [Bool.and_eq_true] at h
  rcases List.mem_cons.1 hq with rfl | hq
  · have h1:=h.1.1.2
    split at h1
    · assumption
    · cases h1
  · exact zHM h.2 q hq
theorem zF0 {objs:List (Key × CObj)}:∀ {l:List (Key × List CV)},wZ objs l=true→∀ q∈l,zF8 objs q.2=true
 | [],_,q,hq=>by cases hq
 | x::r,h,q,hq=>by
  unfold wZ at h
  simp only [Bool.and_eq_true] at h
  rcases List.mem_cons.1 hq with rfl | hq
  · exact h.1.1.1
  · exact zF0 h.2 q hq
theorem u5 {objs:List (Key × CObj)} {l:List (Key × List CV)} {k:Key} {o:CObj} (h:zC.fam (mkH (mkH .nil objs) (zFt l)) k=some o) :
 (∃ cs,(k,cs)∈l∧o=.ro cs)∨zC.fam (mkH .nil objs) k=some o:=by
 rcases qz h with ⟨j,hj⟩ | h
 · exact .inl (zQF hj)
 · exact .inr h
section
variable {F N G:Nat} {A:Key→Option Value} {wins:List Win} {L:List (Key × Nat)} {w0:World} {T:TS} {σ:Nat→Int} {ψ:Psi} {a:Act} {w:World}
theorem zRs (hi:zPa P F N G A wins L w0 T σ ψ a w) {σ':Nat→Int} {K':zc} (hag:∀ j,j<T.b.length→σ' j=σ j) (hA:K'.arg=A) {l:List (Key × List CV)}
 (hl:∀ q∈l,zA8 (linSym σ' K') wins w0 (σ 0) q) (hap:wZ T.objs l=true) :
 @St (linSym σ' K') P F N ψ (zCc T.locs) [] (mkH (mkH .nil T.objs) (zFt l)) T.n a w:=by
 have hst:=hi.st σ' K' hag hA
 have hR:@Rel (linSym σ' K') ψ (zC.fam (mkH .nil T.objs)) w:=@St.rel (linSym σ' K') _ _ _ _ _ _ _ _ _ _ hst
 have hTot:=@Rel.tot (linSym σ' K') _ _ _ hR
 have hOn:=@Rel.on (linSym σ' K') _ _ _ hR
 have hInj:=@Rel.inj (linSym σ' K') _ _ _ hR
 have hwin:∀ k cs,(k,cs)∈l→∃ wn arr elem fz,findW wins k=some wn∧ψ k=some ⟨wn.B,wn.x+(σ 0).toNat*wn.esz,wn.sz,fun n=>n⟩∧w.heap[wn.B]? = some (.cells arr elem fz)∧wn.B<w0.heap.size ∧
  wn.x+(σ 0).toNat*wn.esz+cs.length≤arr.size ∧
  ∀ (j:Nat) (c:CV),cs[j]? = some c→∃ v,arr[wn.x+(σ 0).toNat*wn.esz+j]? = some v∧@zH (linSym σ' K') ψ c v:=by
  intro k cs hm
  obtain ⟨wn,arr,elem,fz,h1,h2,h5,h6⟩:=hl _ hm
  have hlt:wn.B<w0.heap.size:=by
   rcases Nat.lt_or_ge wn.B w0.heap.size with h | h
   · exact h
   · rw [Array.getElem?_eq_none h] at h2; cases h2
  exact ⟨wn,arr,elem,fz,h1,hi.win k wn h1 (zHM hap _ hm),by rw [hi.blw.block _ hlt]; exact h2,hlt,h5,fun j c hj=>by
   obtain ⟨v,hv,hr⟩:=h6 j c hj
   exact ⟨v,hv,hr ψ fun k' wn' hk' hw'=>hi.win k' wn' hw' (zGQ (zF0 hap _ hm) j c k' hj hk')⟩⟩
 refine @St.mk (linSym σ' K') P F N _ _ _ _ _ _ _ (@St.frame (linSym σ' K') _ _ _ _ _ _ _ _ _ _ hst) (@St.dfr (linSym σ' K') _ _ _ _ _ _ _ _ _ _ hst) ?_ (@St.glob (linSym σ' K') _ _ _ _ _ _ _ _ _ _ hst) (@St.fresh (linSym σ' K') _ _ _ _ _ _ _ _ _ _ hst)
 refine @Rel.mk (linSym σ' K') _ _ _ ?_ ?_ ?_
 · intro k o p hk hp
   rcases u5 hk with ⟨cs,hm,rfl⟩ | hk
   · obtain ⟨wn,arr,elem,fz,h1,h2,h3,_,h6,h7⟩:=hwin k cs hm
     rw [h2] at hp
     injection hp with hp; subst hp
     exact ⟨arr,elem,fz,h3,h6,h7⟩
   · exact hOn k o p hk hp
 · intro k o hk
   rcases u5 hk with ⟨cs,hm,rfl⟩ | hk
   · obtain ⟨wn,arr,elem,fz,h1,h2,_⟩:=hwin k cs hm
     exact ⟨_,h2⟩
   · exact hTot k o hk
 · intro k₁ k₂ o₁ o₂ p₁ p₂ h1 h2 h3 h4 hr e
   rcases u5 h1 with ⟨cs1,m1,rfl⟩ | h1 <;> rcases u5 h2 with ⟨cs2,m2,rfl⟩ | h2
   · exact hr.elim (fun h=>by cases h) (fun h=>by cases h)
   · exfalso
     obtain ⟨w1,_,_,_,f1,g1,_,hlt,_⟩:=hwin k₁ cs1 m1
     rw [g1] at h3
     injection h3 with h3; subst h3
     have:=(hi.own _ _ _ h2 h4).2
     simp only at e
     omega
   · exfalso
     obtain ⟨w1,_,_,_,f1,g1,_,hlt,_⟩:=hwin k₂ cs2 m2
     rw [g1] at h4
     injection h4 with h4; subst h4
     have:=(hi.own _ _ _ h1 h3).2
     simp only at e
     omega
   · exact hInj k₁ k₂ o₁ o₂ p₁ p₂ h1 h2 h3 h4 hr e
end
def boundIs (m:Int):List TS→Bool
 | []=>true
 | T::r=>(match T.b with
  | q::_=>decide (q.2≤m)
  | []=>false)&&boundIs m r
theorem zBx {m:Int}:∀ {Ts:List TS} {t:Nat} {T:TS},boundIs m Ts=true→nth Ts t=some T→∃ q r,T.b=q::r∧q.2≤m
 | [],_,_,_,h=>by cases h
 | x::r,t,T,hb,h=>by
  unfold boundIs at hb
  rw [Bool.and_eq_true] at hb
  cases t with
  | zero=>
   injection h with h; subst h
   have h1:=hb.1
   split at h1
   · rename_i q l e
     exact ⟨q,l,e,of_decide_eq_true h1⟩
   · cases h1
  | succ t=>exact zBx hb.2 h
section
variable {code:FuncId→CFn} {nat:Nats} {fuel:Nat} {fn:Func} {c b:Code} {p:List Stp} {rs:List CRes} {G:Nat} {wins:List Win} {L:List (Key × Nat)} {A:Key→Option Value} {Ts:List TS} {bound:Int} {w0:World}
def zJf (P:Program) (code:FuncId→CFn) (nat:Nats) (fuel:Nat) (p:List Stp) (cc:CCode) (rs:List CRes) (S:Sym) (r:R):Bool:=
 jk (yt false (@ev S P code nat fuel) rs (@uq S P (@ev S P code nat fuel) p cc r))
def zTQ (P:Program) (code:FuncId→CFn) (nat:Nats) (fuel:Nat) (G:Nat) (ws L:List (Key × Nat)) (Ts:List TS) (p:List Stp) (cc:CCode) (rs:List CRes) (T:TS) (l:List (Key × List CV)) (S:Sym) (K:zc) (hs:List kC):Bool:=
 ww (kj G ws Ts (fun t=>zAI t.θ&&j9 t.θ L) K (zJf P code nat fuel p cc rs S) (@zp S P (@ev S P code nat fuel) (zDH p cc) (zCc T.locs) [] (mkH (mkH .nil T.objs) (zFt l)) T.n) hs)
def Passes (P:Program) (code:FuncId→CFn) (nat:Nats) (fuel:Nat) (G:Nat) (wins:List Win) (L:List (Key × Nat)) (A:Key→Option Value) (Ts:List TS) (p:List Stp) (cc:CCode) (rs:List CRes) (w0:World):Prop:=
 ∀ t T,nth Ts t=some T→∀ σ,yH σ 0 T.b→jb σ T.f→xy σ T.r→LensAre wins L σ→∃ σ' K' l hs,(∀ j,j<T.b.length→σ' j=σ j)∧(∀ q∈L,σ' q.2=σ q.2)∧K'.arg=A∧KnownOk σ' K'∧(∀ q∈l,zA8 (linSym σ' K') wins w0 (σ 0) q)∧wZ T.objs l=true ∧
  zTQ P code nat fuel G (wsOf wins) L Ts p cc rs T l (linSym σ' K') K' hs=true
theorem zGF {σ:Nat→Int} {K:zc} (hK:KnownOk σ K) (hm:P.follows .mixedOrders=true) (hcode:CodeOk P code) (hnat:∀ σ K,KnownOk σ K→@NatsOk (linSym σ K) P nat) {cc:CCode}:∀ r,zJf P code nat fuel p cc rs (linSym σ K) r=true→zb r:=by
 letI S:Sym:=linSym σ K
 haveI hS:SymFact P:=xX hK
 have hcall:ym P (ev P code nat fuel):=zA5 (fun call hcall F N=>x6 hm hcall) hcode (hnat _ _ hK) fuel
 intro r h
 have h:jk (yt false (ev P code nat fuel) rs (uq P (ev P code nat fuel) p cc r))=true:=h
 exact wl hcall.above p cc (xW hcall.above false rs (kV h))
abbrev zIX (P:Program) (fn:Func) (w0:World):Exit→Act→World→Prop:=bodyPostD P fn fun e w=>e=.returned (.bool true)∧Below w0.heap.size w0 w
theorem zNG {σ:Nat→Int} {K:zc} (hK:KnownOk σ K) (hm:P.follows .mixedOrders=true) (hcode:CodeOk P code) (hnat:∀ σ K,KnownOk σ K→@NatsOk (linSym σ K) P nat) {F N:Nat} (hsub:ue p c=some b) (hn:yS c=true)
 (hrs:xD (xc P F N) fn.results.toList=some rs) {ψ₀:Psi} {g₀:Fam} {n₀:Key} {w₀:World} {r:R} {e:Exit} {a:Act} {w:World}
 (ho:@xG (linSym σ K) P F N ψ₀ g₀ n₀ w₀ r e a w) (hf:zJf P code nat fuel p (zU P F N c) rs (linSym σ K) r=true)
 (hb:Below w0.heap.size w0 w₀) (ho0:∀ k o p,g₀ k=some o→o.isRo=false→ψ₀ k=some p→w0.heap.size≤p.blk):QH P p c (zIX P fn w0) e a w:=by
 letI S:Sym:=linSym σ K
 haveI hS:SymFact P:=xX hK
 have hcall:ym P (ev P code nat fuel):=zA5 (fun call hcall F N=>x6 hm hcall) hcode (hnat _ _ hK) fuel
 have hdraw:kT P F N (ev P code nat fuel):=x6 hm hcall
 have hf:jk (yt false (ev P code nat fuel) rs (uq P (ev P code nat fuel) p (zU P F N c) r))=true:=hf
 have hc:=kV hf
 have hc2:=xW hcall.above false rs hc
 refine zAv hcall hdraw p c hsub hn ho hc2 fun e a w ho=>?_
 refine wO false rs hc ho fun tm ds h' n' ψ' q1 q2 q3 q4 q5=>?_
 have hl:=zGV hcall hrs q2 q4
 have:Leaves P fn a.tmps (fun e w=>e=.returned (.bool true)∧Below w0.heap.size w0 w) a.defers .returning w:=by
  refine jn (fun e w'' ⟨v,he,hr⟩=>?_) _ _ _ hl
  obtain ⟨rfl,ψ'',g'',n'',hp⟩:=zAn hf (q5 _ _ (zl.trans q3 hr))
  exact ⟨he,zKd hb hp ho0⟩
 rcases q1 with rfl | rfl
 · exact this
 · exact this
end
end
end Go.Ev
namespace Go.Ev
open Go.RowKit
noncomputable section
variable {P:Program}
theorem zFJ {f:FuncId} {fn:Func} {c:Code} {cc:CCode} {rs:List CRes} (hf:P.funcs[f]? = some fn) (hb:fn.body=some c) (h:compFn P f=.mk cc rs) :
 xD (xc P (frameBits fn c) fn.ntmps) fn.results.toList=some rs∧yS c=true∧cc=zU P (frameBits fn c) fn.ntmps c:=by
 unfold compFn at h
 rw [@ye zR] at h
 have hf':P.funcs.toList[f]? = some fn:=by simpa using hf
 simp only [hf',hb] at h
 split at h
 · cases h
 · unfold zBF at h
   cases hrs:xD (xc P (frameBits fn c) fn.ntmps) fn.results.toList with
   | none=>simp only [hrs] at h; cases h
   | some r=>
    simp only [hrs] at h
    split at h
    · rename_i hn
      injection h with h1 h2
      subst h1 h2
      exact ⟨rfl,hn,rfl⟩
    · split at h
      · split at h <;> cases h
      · cases h
def psiW (G:Nat) (wins:List Win):Psi:=fun k=>match findW wins k with
 | some w=>some ⟨w.B,w.x+0*w.esz,w.sz,fun n=>n⟩
 | none=>zPp G k
theorem zN2 {G:Nat} {wins:List Win} {hi:Nat} (hG:P.globals.size≤G) (hw:zGv G hi (wsOf wins)=true):kK P (psiW G wins):=by
 intro g hg h4
 obtain ⟨sz,e⟩:=@zOL zR P zQk _ hG g hg h4
 have hix:(Key.ofNat g).ix=g:=@Key.ix_ofNat zR _ (by omega)
 have hnw:findW wins (Key.ofNat g)=none:=by
  cases hr:findW wins (Key.ofNat g) with
  | none=>rfl
  | some wn=>
   obtain ⟨hm,hk⟩:=kG hr
   have:=(zH4 hw wn hm).1
   rw [hk] at this; omega
 refine ⟨sz,?_⟩
 unfold psiW
 rw [hnw]
 exact e
theorem zLI {G:Nat} {wins:List Win} {n:Key} (hn:G≤n.ix) (hw:zGv G n.ix (wsOf wins)=true):xe (psiW G wins) n:=by
 intro k hk
 have hnw:findW wins k=none:=by
  cases hr:findW wins k with
  | none=>rfl
  | some wn=>
   obtain ⟨hm,hk'⟩:=kG hr
   have:=(zH4 hw wn hm).2
   rw [hk'] at this; omega
 unfold psiW
 rw [hnw]
 exact @zLM zR _ _ hn k hk
def startOf (P:Program) (code:FuncId→CFn) (nat:Nats) (fuel:Nat) (G:Nat) (ws L:List (Key × Nat)) (Ts:List TS) (p:List Stp) (cc:CCode) (args:List CV) (n:Key) (S:Sym) (K:zc) (hs:List kC):Bool:=
 ww (kj G ws Ts (fun t=>zCZ t.θ&&j9 t.θ L) K (fun _=>false) (@zEa S P (@ev S P code nat fuel) p cc (qY args 0 .nil) [] .nil n) hs)
end
end Go.Ev
