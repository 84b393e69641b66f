/- A verified evaluator for the model's code: EvCov, EvLoop, EvInv, EvTwo. -/
import Derived.Test.YtppmmlkamcclkaaGreatDoorEvSym
set_option linter.unusedSectionVars false
set_option linter.unusedVariables false
set_option linter.unusedSimpArgs false
namespace Go.Ev
noncomputable section
variable {P:Program}
abbrev TH:=List (Int × LL)
def uo (θ:TH):LL→Option (Int × LL)
 | []=>some (0,[])
 | p::r=>match nth θ p.1,uo θ r with
  | some q,some s=>some (p.2*q.1+s.1,zBX (uq p.2 q.2) s.2)
  | _,_=>none
def ji (σs σT:Nat→Int) (θ:TH):Prop:=∀ j q,nth θ j=some q→σT j=q.1+evL σs q.2
theorem zAN {σs σT:Nat→Int} {θ:TH} (hθ:ji σs σT θ):∀ {l:LL} {s:Int × LL},uo θ l=some s→evL σT l=s.1+evL σs s.2
 | [],s,h=>by
  injection h with h; subst h
  simp [evL]
 | p::r,s,h=>by
  unfold uo at h
  split at h
  · rename_i q u hq hu
    injection h with h; subst h
    have h1:=hθ _ _ hq
    have h2:=zAN hθ hu
    show p.2*σT p.1+evL σT r=_
    rw [h1,h2,zAq,w9,Int.mul_add]
    omega
  · cases h
def zAb (θ:TH) (e:SE) (v:CV):Bool:=match zBC v with
 | some (k,c,l)=>match uo θ e.l with
  | some s=>kEq e.k k&&yA (e.c+s.1) c&&vQ s.2 l
  | none=>false
 | none=>false
def zk (m:zC) (k:Key):Option Key:=match ze k m with
 | some (.cells (.ptr b _::_))=>some b
 | _=>none
def kr (ρ:zC) (k j:Key):Bool:=match zk ρ k with
 | some b=>Nat.beq b.ix j.ix
 | none=>false
def zH2 (k:IntKind) (v:CV):Bool:=match v with
 | .anyi j=>kEq k j
 | v=>match zBC v with
  | some (j,_,_)=>kEq k j
  | none=>false
def zIs:List (List Nat)→List (List Nat)→Bool
 | [],[]=>true
 | a::l,b::m=>xu a b&&zIs l m
 | _,_=>false
theorem zHI:∀ {a b:List (List Nat)},zIs a b=true→a=b
 | [],[],_=>rfl
 | [],_::_,h=>by cases h
 | _::_,[],h=>by cases h
 | a::l,b::m,h=>by
  unfold zIs at h
  rw [Bool.and_eq_true,@jz noSym,decide_eq_true_eq] at h
  rw [h.1,zHI h.2]
mutual
def z8 (ρ:zC) (θ:TH):CV→CV→Bool
 | .any,_=>true
 | .sym e,v=>zAb θ e v
 | .bool a,.bool b=>a == b
 | .nat a,.nat b=>Nat.beq a b
 | .int k a,.int j b=>kEq k j&&yA a b
 | .anyi k,v=>zH2 k v
 | .str a,.str b=>xu a b
 | .nilptr,.nilptr=>true
 | .ptr k o,.ptr j p=>kr ρ k j&&Nat.beq o p
 | .nilsl,.nilsl=>true
 | .sl k o l c e x,.sl k' o' l' c' e' x'=>kr ρ k k'&&Nat.beq o o'&&Nat.beq l l'&&Nat.beq e e'&&x == x'&&(Nat.beq c c' || (!x&&Nat.ble c c'))
 | .nilmap,.nilmap=>true
 | .map k,.map j=>kr ρ k j
 | .func f a b,.func g c d=>decide (f=g)&&wE ρ θ a c&&wE ρ θ b d
 | .nilfunc,.nilfunc=>true
 | .iface t v,.iface u w=>Nat.beq t u&&z8 ρ θ v w
 | .niliface,.niliface=>true
 | .agg a,.agg b=>wE ρ θ a b
 | .tup a,.tup b=>wE ρ θ a b
 | .sst a,.sst b=>wE ρ θ a b
 | .sst a,.str s=>wE ρ θ a (xo s)
 | .few i t,.str s=>match nth θ i with
  | some q=>match q.1,q.2 with
   | .ofNat c,[]=>match nth t c with
    | some x=>xu x s
    | none=>false
   | _,_=>false
  | none=>false
 | .few i t,.few j u=>match nth θ i with
  | some q=>yA q.1 0&&vQ q.2 [(j,1)]&&zIs t u
  | none=>false
 | _,_=>false
def wE (ρ:zC) (θ:TH):List CV→List CV→Bool
 | [],[]=>true
 | a::as,b::bs=>z8 ρ θ a b&&wE ρ θ as bs
 | _,_=>false
end
def zAQ (ρ:zC) (ψs ψT:Psi):Prop:=∀ k j p,kr ρ k j=true→ψs j=some p→∃ p',ψT k=some p'∧p'.blk=p.blk∧p'.off=p.off∧p'.sz=p.sz
section
variable {σs σT:Nat→Int} {Ks KT:za} {θ:TH} {ρ:zC} {ψs ψT:Psi}
theorem zNr (hθ:ji σs σT θ) {e:SE} {d:CV} (h:zAb θ e d=true) {v:Value} (hv:@zH (linSym σs Ks) ψs d v):v=.int e.k (evE σT e):=by
 unfold zAb at h
 split at h
 · rename_i k c l hf
   split at h
   · rename_i s hs
     rw [Bool.and_eq_true,Bool.and_eq_true,@y7 noSym,@zb noSym,decide_eq_true_eq,decide_eq_true_eq] at h
     have h1:=qf d hf hv
     have h2:=zAN hθ hs
     have h3:=@we noSym _ _ h.2
     rw [h1,h.1.1,← h.1.2]
     unfold evE
     rw [h2,h3,Int.add_assoc]
   · cases h
 · cases h
theorem zOf {k:IntKind} {d:CV} (h:zH2 k d=true) {v:Value} (hv:@zH (linSym σs Ks) ψs d v):∃ n,v=.int k n:=by
 unfold zH2 at h
 split at h
 · rename_i j
   rw [@y7 noSym,decide_eq_true_eq] at h
   subst h
   exact (@yW (linSym σs Ks) _ _ _).1 hv
 · split at h
   · rename_i j c l hf
     rw [@y7 noSym,decide_eq_true_eq] at h
     subst h
     exact ⟨_,qf d hf hv⟩
   · cases h
mutual
theorem qH (hθ:ji σs σT θ) (hψ:zAQ ρ ψs ψT):∀ (c d:CV) {v:Value},z8 ρ θ c d=true→@zH (linSym σs Ks) ψs d v→@zH (linSym σT KT) ψT c v
 | .any,_,_,_,_=>@qA (linSym σT KT) _ _
 | .sym e,d,v,h,hv=>by
  rw [z8] at h
  rw [@zq (linSym σT KT)]
  exact zNr hθ h hv
 | .anyi k,d,v,h,hv=>by
  rw [z8] at h
  rw [@yW (linSym σT KT)]
  exact zOf h hv
 | .bool a,d,v,h,hv=>by
  cases d <;> try (simp [z8] at h; done)
  simp only [z8,beq_iff_eq] at h
  subst h
  rw [@zJ (linSym σs Ks)] at hv
  rw [@zJ (linSym σT KT)]; exact hv
 | .nat a,d,v,h,hv=>by
  cases d <;> try (simp [z8] at h; done)
  simp only [z8] at h
  obtain rfl:=@zh noSym _ _ h
  rw [@zS (linSym σs Ks)] at hv
  rw [@zS (linSym σT KT)]; exact hv
 | .int k a,d,v,h,hv=>by
  cases d <;> try (simp [z8] at h; done)
  simp only [z8,Bool.and_eq_true,@y7 noSym,@zb noSym,decide_eq_true_eq] at h
  obtain ⟨rfl,rfl⟩:=h
  rw [@zd (linSym σs Ks)] at hv
  rw [@zd (linSym σT KT)]; exact hv
 | .str a,d,v,h,hv=>by
  cases d <;> try (simp [z8] at h; done)
  simp only [z8,@jz noSym,decide_eq_true_eq] at h
  subst h
  rw [@zf (linSym σs Ks)] at hv
  rw [@zf (linSym σT KT)]; exact hv
 | .nilptr,d,v,h,hv=>by
  cases d <;> try (simp [z8] at h; done)
  rw [@xN (linSym σs Ks)] at hv
  rw [@xN (linSym σT KT)]; exact hv
 | .ptr k o,d,v,h,hv=>by
  cases d <;> try (simp [z8] at h; done)
  simp only [z8,Bool.and_eq_true] at h
  obtain rfl:=@zh noSym _ _ h.2
  rw [@zn (linSym σs Ks)] at hv
  obtain ⟨p,hp,rfl⟩:=hv
  obtain ⟨p',h1,h2,h3,h4⟩:=hψ _ _ _ h.1 hp
  rw [@zn (linSym σT KT)]
  exact ⟨p',h1,by rw [h2,h3]⟩
 | .nilsl,d,v,h,hv=>by
  cases d <;> try (simp [z8] at h; done)
  rw [@zw (linSym σs Ks)] at hv
  rw [@zw (linSym σT KT)]; exact hv
 | .sl k o l c e x,d,v,h,hv=>by
  cases d <;> try (simp [z8] at h; done)
  rename_i k' o' l' c' e' x'
  simp only [z8,Bool.and_eq_true,beq_iff_eq] at h
  obtain ⟨⟨⟨⟨⟨hk,ho⟩,hl⟩,he⟩,hx⟩,hc⟩:=h
  obtain rfl:=@zh noSym _ _ ho
  obtain rfl:=@zh noSym _ _ hl
  obtain rfl:=@zh noSym _ _ he
  subst hx
  rw [@yC (linSym σs Ks)] at hv
  obtain ⟨p,y,cap',hp,rfl,h1,h2,h3,h4⟩:=hv
  obtain ⟨p',g1,g2,g3,g4⟩:=hψ _ _ _ hk hp
  rw [@yC (linSym σT KT)]
  refine ⟨p',y,cap',g1,by rw [g2],?_,h2,?_,?_⟩
  · rw [Bool.or_eq_true,Bool.and_eq_true] at hc
    rcases hc with hc | hc
    · rw [@zh noSym _ _ hc]; exact h1
    · have:=@zL noSym _ _ hc.2; omega
  · intro hx
    subst hx
    rw [Bool.or_eq_true,Bool.and_eq_true] at hc
    rcases hc with hc | hc
    · rw [@zh noSym _ _ hc]; exact h3 rfl
    · simp at hc
  · rw [g3,g4]; exact h4
 | .nilmap,d,v,h,hv=>by
  cases d <;> try (simp [z8] at h; done)
  rw [@yN (linSym σs Ks)] at hv
  rw [@yN (linSym σT KT)]; exact hv
 | .map k,d,v,h,hv=>by
  cases d <;> try (simp [z8] at h; done)
  simp only [z8] at h
  rw [@ye (linSym σs Ks)] at hv
  obtain ⟨p,hp,rfl⟩:=hv
  obtain ⟨p',h1,h2,h3,h4⟩:=hψ _ _ _ h hp
  rw [@ye (linSym σT KT)]
  exact ⟨p',h1,by rw [h2]⟩
 | .func f a b,d,v,h,hv=>by
  cases d <;> try (simp [z8] at h; done)
  simp only [z8,Bool.and_eq_true,decide_eq_true_eq] at h
  obtain ⟨⟨rfl,h1⟩,h2⟩:=h
  rw [@xC (linSym σs Ks)] at hv
  obtain ⟨a',b',rfl,g1,g2⟩:=hv
  rw [@xC (linSym σT KT)]
  exact ⟨a',b',rfl,kQ hθ hψ a _ h1 g1,kQ hθ hψ b _ h2 g2⟩
 | .nilfunc,d,v,h,hv=>by
  cases d <;> try (simp [z8] at h; done)
  rw [@xE (linSym σs Ks)] at hv
  rw [@xE (linSym σT KT)]; exact hv
 | .iface t x,d,v,h,hv=>by
  cases d <;> try (simp [z8] at h; done)
  simp only [z8,Bool.and_eq_true] at h
  obtain rfl:=@zh noSym _ _ h.1
  rw [@yU (linSym σs Ks)] at hv
  obtain ⟨y,rfl,g⟩:=hv
  rw [@yU (linSym σT KT)]
  exact ⟨y,rfl,qH hθ hψ x _ h.2 g⟩
 | .niliface,d,v,h,hv=>by
  cases d <;> try (simp [z8] at h; done)
  rw [@yV (linSym σs Ks)] at hv
  rw [@yV (linSym σT KT)]; exact hv
 | .agg a,d,v,h,hv=>by
  cases d <;> try (simp [z8] at h; done)
  simp only [z8] at h
  rw [@yi (linSym σs Ks)] at hv
  obtain ⟨a',rfl,g⟩:=hv
  rw [@yi (linSym σT KT)]
  exact ⟨a',rfl,kQ hθ hψ a _ h g⟩
 | .tup a,d,v,h,hv=>by
  cases d <;> try (simp [z8] at h; done)
  simp only [z8] at h
  rw [@yQ (linSym σs Ks)] at hv
  obtain ⟨a',rfl,g⟩:=hv
  rw [@yQ (linSym σT KT)]
  exact ⟨a',rfl,kQ hθ hψ a _ h g⟩
 | .sst a,d,v,h,hv=>by
  cases d with
  | sst c=>
   simp only [z8] at h
   rw [@yz (linSym σs Ks)] at hv
   obtain ⟨b,rfl,g⟩:=hv
   rw [@yz (linSym σT KT)]
   exact ⟨b,rfl,kQ hθ hψ a _ h g⟩
  | str s=>
   simp only [z8] at h
   rw [@zf (linSym σs Ks)] at hv
   obtain ⟨b,rfl,hb⟩:=hv
   rw [@yz (linSym σT KT)]
   refine ⟨b,rfl,kQ hθ hψ a _ h ?_⟩
   have:=@zAI (linSym σs Ks) ψs b
   rw [hb,Array.toList_map] at this
   exact this
  | _=>simp [z8] at h
 | .few i t,d,v,h,hv=>by
  have hval:∀ (σ:Nat→Int) (K:za) (i:Nat),@Sym.val (linSym σ K) ⟨.i64,0,[(i,1)]⟩=.int .i64 (σ i):=fun σ K i=>by
   show Value.int .i64 (0+(1*σ i+0))=_
   congr 1; omega
  cases d with
  | str s=>
   unfold z8 at h
   split at h
   · rename_i q hq
     obtain ⟨q1,q2⟩:=q
     simp only at h
     split at h
     · rename_i c
       split at h
       · rename_i x hx
         rw [@jz noSym,decide_eq_true_eq] at h
         subst h
         have h1:=hθ _ _ hq
         rw [@zf (linSym σs Ks)] at hv
         obtain ⟨b,rfl,hb⟩:=hv
         rw [@jS (linSym σT KT)]
         refine ⟨c,b,?_,rfl,?_⟩
         · rw [hval,h1]
           simp [evL]
         · rw [@nth_eq noSym] at hx
           rw [hx,hb]
       · cases h
     · cases h
   · cases h
  | few j u=>
   unfold z8 at h
   split at h
   · rename_i q hq
     rw [Bool.and_eq_true,Bool.and_eq_true,@zb noSym,decide_eq_true_eq] at h
     have h1:=hθ _ _ hq
     rw [h.1.1,@we noSym _ _ h.1.2] at h1
     have h2:=zHI h.2
     subst h2
     rw [@jS (linSym σs Ks)] at hv
     obtain ⟨m,b,g1,rfl,g3⟩:=hv
     rw [hval] at g1
     rw [@jS (linSym σT KT)]
     refine ⟨m,b,?_,rfl,g3⟩
     rw [hval,h1,← g1]
     congr 1
     show (0:Int)+(1*σs j+0)=_
     omega
   · cases h
  | _=>simp [z8] at h
 | .win ..,d,v,h,hv=>by
  cases d <;> simp [z8] at h
 | .elt ..,d,v,h,hv=>by
  cases d <;> simp [z8] at h
theorem kQ (hθ:ji σs σT θ) (hψ:zAQ ρ ψs ψT):∀ (cs ds:List CV) {l:List Value},wE ρ θ cs ds=true→@zT (linSym σs Ks) ψs ds l→@zT (linSym σT KT) ψT cs l
 | [],[],l,_,hl=>by
  rw [@zP (linSym σs Ks)] at hl
  rw [@zP (linSym σT KT)]; exact hl
 | [],_::_,_,h,_=>by simp [wE] at h
 | _::_,[],_,h,_=>by simp [wE] at h
 | c::cs,d::ds,l,h,hl=>by
  simp only [wE,Bool.and_eq_true] at h
  rw [@zY (linSym σs Ks)] at hl
  obtain ⟨v,r,rfl,h1,h2⟩:=hl
  exact (@zW (linSym σT KT) _ _ _ _ _).2 ⟨qH hθ hψ c d h.1 h1,kQ hθ hψ cs ds h.2 h2⟩
end
def qL (ρ:zC) (θ:TH):List CV→List CV→Bool
 | [],_=>true
 | a::as,b::bs=>z8 ρ θ a b&&qL ρ θ as bs
 | _::_,[]=>false
def zGW (ρ:zC) (θ:TH):List CE→List CE→Bool
 | [],[]=>true
 | a::as,b::bs=>z8 ρ θ a.key b.key&&z8 ρ θ a.val b.val&&zGW ρ θ as bs
 | _,_=>false
def zST:List Nat→List Nat→Bool
 | [],_=>true
 | _::_,[]=>false
 | a::x,b::y=>match Nat.beq a b with
  | true=>zST x y
  | false=>Nat.ble a b
def zUm (a b:CV):Bool:=match a,b with
 | .str x,.str y=>zST x y
 | .nat x,.nat y=>Nat.ble x y
 | _,_=>true
def zSy (e:CE):List CE→List CE
 | []=>[e]
 | c::l=>match zUm e.key c.key with
  | true=>e::c::l
  | false=>c::zSy e l
def vB:List CE→List CE
 | []=>[]
 | e::l=>zSy e (vB l)
theorem zHp {e:CE}:∀ {l:List CE},(zSy e l).Perm (e::l)
 | []=>List.Perm.refl _
 | c::l=>by
  unfold zSy
  split
  · exact List.Perm.refl _
  · exact (List.Perm.cons c zHp).trans (List.Perm.swap e c l)
theorem zHJ:∀ {l:List CE},(vB l).Perm l
 | []=>List.Perm.refl _
 | e::l=>zHp.trans (List.Perm.cons e zHJ)
def zD9 (b:Nat):List CE→Bool
 | []=>true
 | e::r=>!(Nat.beq b e.born)&&zD9 b r
def upB:List CE→Nat→Bool
 | [],_=>true
 | e::r,clock=>Nat.ble (Nat.succ e.born) clock&&zD9 e.born r&&upB r clock
def zSj:List CE→Nat→Nat→Bool
 | [],i,clock=>Nat.beq i clock
 | e::r,i,clock=>Nat.beq e.born i&&zSj r (Nat.succ i) clock
def zSi (ρ:zC) (θ:TH):List (CV × CV)→List (CV × CV)→Bool
 | [],[]=>true
 | a::as,b::bs=>z8 ρ θ a.1 b.1&&z8 ρ θ a.2 b.2&&zSi ρ θ as bs
 | _,_=>false
def zMH (ρ:zC) (θ:TH):List (CV × CV)→Bool
 | []=>true
 | a::as=>z8 ρ θ a.2 (.str [])&&zMH ρ θ as
def zBa (ρ:zC) (θ:TH):CObj→CObj→Bool
 | .cells a,.cells b=>qL ρ θ a b
 | .cells a,.full _ b=>qL ρ θ a b
 | .map es c,.map es' c'=>zGW ρ θ es (vB es')&&zSj es 0 c&&upB (vB es') c'
 | .mapz a,.mapz b=>zSi ρ θ a b
 | .mapz a,.map [] _=>zMH ρ θ a
 | _,_=>false
theorem zDj:∀ {as bs:List CV},qL ρ θ as bs=true→as.length≤bs.length∧∀ (i:Nat) (c:CV),as[i]? = some c→∃ d,bs[i]? = some d∧z8 ρ θ c d=true
 | [],bs,_=>⟨Nat.zero_le _,fun i c h=>by simp at h⟩
 | _::_,[],h=>by cases h
 | a::as,b::bs,h=>by
  unfold qL at h
  rw [Bool.and_eq_true] at h
  obtain ⟨h1,h2⟩:=zDj h.2
  refine ⟨by simp; exact h1,fun i c hc=>?_⟩
  cases i with
  | zero=>simp at hc; subst hc; exact ⟨b,rfl,h.1⟩
  | succ i=>exact h2 i c (by simpa using hc)
theorem kv (hθ:ji σs σT θ) (hψ:zAQ ρ ψs ψT) {as bs:List CV} (h:qL ρ θ as bs=true) {w:World} {p p':Pl} (h1:p'.blk=p.blk) (h2:p'.off=p.off) (h3:p'.sz=p.sz)
 (hc:@yS (linSym σs Ks) ψs w p bs):@yS (linSym σT KT) ψT w p' as:=by
 obtain ⟨arr,elem,fz,g1,g2,g3,g4,g5⟩:=hc
 obtain ⟨q1,q2⟩:=zDj h
 refine ⟨arr,elem,fz,by rw [h1]; exact g1,by rw [h3]; exact g2,by rw [h2,h3]; omega,by rw [h3]; exact g4,fun i c hi=>?_⟩
 obtain ⟨d,hd,hcd⟩:=q2 i c hi
 obtain ⟨x,hx,hr⟩:=g5 i d hd
 exact ⟨x,by rw [h2]; exact hx,qH hθ hψ c d hcd hr⟩
def xv (bs:List CE) (clock:Nat) (j:Nat):Nat:=match bs[j]? with
 | some e=>e.born
 | none=>clock+(j - bs.length)
theorem zIY:∀ {bs:List CE} {clock:Nat},upB bs clock=true→∀ (j:Nat) (e:CE),bs[j]? = some e→e.born<clock
 | [],clock,h,j,e,he=>by simp at he
 | b::bs,clock,h,j,e,he=>by
  unfold upB at h
  rw [Bool.and_eq_true,Bool.and_eq_true] at h
  have h1:=@zL noSym _ _ h.1.1
  cases j with
  | zero=>simp at he; subst he; omega
  | succ j=>exact zIY h.2 j e (by simpa using he)
theorem zGc {b:Nat}:∀ {l:List CE},zD9 b l=true→∀ e∈l,e.born≠b
 | [],_,e,he=>by cases he
 | x::l,h,e,he=>by
  unfold zD9 at h
  rw [Bool.and_eq_true] at h
  rcases List.mem_cons.1 he with rfl | he
  · intro q
    rw [← q,@qn noSym] at h; simp at h
  · exact zGc h.2 e he
theorem zPV:∀ {bs:List CE} {clock:Nat},upB bs clock=true→∀ (i j:Nat) (a b:CE),i<j→bs[i]? = some a→bs[j]? = some b→b.born≠a.born
 | [],clock,h,i,j,a,b,_,h1,_=>by simp at h1
 | c::bs,clock,h,i,j,a,b,hij,h1,h2=>by
  unfold upB at h
  rw [Bool.and_eq_true,Bool.and_eq_true] at h
  cases j with
  | zero=>omega
  | succ j=>
   have h2:bs[j]? = some b:=by simpa using h2
   cases i with
   | zero=>
    simp at h1; subst h1
    exact zGc h.1.2 b (List.mem_of_getElem? h2)
   | succ i=>exact zPV h.2 i j a b (by omega) (by simpa using h1) h2
theorem zNH {bs:List CE} {clock:Nat} (h:upB bs clock=true):∀ a b,xv bs clock a=xv bs clock b→a=b:=by
 have key:∀ a b,a<b→xv bs clock a≠xv bs clock b:=by
  intro a b hab
  unfold xv
  cases ha:bs[a]? with
  | none=>
   have hla:=List.getElem?_eq_none_iff.1 ha
   rw [List.getElem?_eq_none (by omega)]
   simp only; omega
  | some x=>
   cases hb:bs[b]? with
   | none=>
    have:=zIY h a x ha
    simp only; omega
   | some y=>
    have:=zPV h a b x y hab ha hb
    simp only; exact fun e=>this e.symm
 intro a b e
 rcases Nat.lt_trichotomy a b with q | q | q
 · exact absurd e (key a b q)
 · exact q
 · exact absurd e.symm (key b a q)
theorem vj {bs:List CE} {clock:Nat} (k:Nat):xv bs clock (bs.length+k)=clock+k:=by
 unfold xv
 rw [List.getElem?_eq_none (by omega)]
 simp only; omega
theorem zPN {bs:List CE} {clock:Nat} (h:upB bs clock=true) (k x:Nat):x<bs.length+k ↔ xv bs clock x<clock+k:=by
 unfold xv
 cases hx:bs[x]? with
 | none=>
  have:=List.getElem?_eq_none_iff.1 hx
  simp only; omega
 | some e=>
  have h1:=zIY h x e hx
  have h2:=(List.getElem?_eq_some_iff.1 hx).1
  simp only
  exact ⟨fun _=>by omega,fun _=>by omega⟩
theorem zRj {bs:List CE} {clock:Nat} (h:upB bs clock=true) {ck:Nat→Nat} (hc:wb ck clock):wb (fun j=>ck (xv bs clock j)) bs.length:=by
 refine ⟨fun a b hab=>zNH h a b (hc.one _ _ hab),fun k x=>?_,fun k=>?_⟩
 · show _ ↔ ck (xv bs clock x)<ck (xv bs clock (bs.length+k))
   rw [vj,zPN h k x]
   exact hc.cmp k _
 · show ck (xv bs clock (bs.length+k))=ck (xv bs clock bs.length)+k
   have h0:xv bs clock bs.length=clock:=vj 0
   rw [vj,h0,hc.run]
theorem zCd:∀ {as bs:List CE},zGW ρ θ as bs=true→as.length=bs.length
 | [],[],_=>rfl
 | [],_::_,h=>by cases h
 | _::_,[],h=>by cases h
 | a::as,b::bs,h=>by
  unfold zGW at h
  rw [Bool.and_eq_true] at h
  simp [zCd h.2]
theorem zHR:∀ {es:List CE} {i clock:Nat},zSj es i clock=true→clock=i+es.length∧∀ (j:Nat) (e:CE),es[j]? = some e→e.born=i+j
 | [],i,clock,h=>⟨by have:=@zh noSym _ _ h; simp; omega,fun j e he=>by simp at he⟩
 | a::es,i,clock,h=>by
  unfold zSj at h
  rw [Bool.and_eq_true] at h
  have h1:=@zh noSym _ _ h.1
  obtain ⟨h2,h3⟩:=zHR h.2
  refine ⟨by simp; omega,fun j e he=>?_⟩
  cases j with
  | zero=>simp at he; subst he; omega
  | succ j=>have:=h3 j e (by simpa using he); omega
theorem zI9 (hθ:ji σs σT θ) (hψ:zAQ ρ ψs ψT) {ck ck':Nat→Nat}:∀ {as bs:List CE} {l:List MapEntry},zGW ρ θ as bs=true →
 (∀ (j:Nat) (a b:CE),as[j]? = some a→bs[j]? = some b→ck' a.born=ck b.born)→@yE (linSym σs Ks) ψs ck bs l→@yE (linSym σT KT) ψT ck' as l
 | [],[],l,_,_,hl=>hl
 | [],_::_,_,h,_,_=>by cases h
 | _::_,[],_,h,_,_=>by cases h
 | a::as,b::bs,l,h,hb,hl=>by
  unfold zGW at h
  rw [Bool.and_eq_true,Bool.and_eq_true] at h
  obtain ⟨e,r,rfl,⟨h1,h2,h3⟩,h4⟩:=hl
  exact ⟨e,r,rfl,⟨qH hθ hψ _ _ h.1.1 h1,qH hθ hψ _ _ h.1.2 h2,by rw [h3]; exact (hb 0 a b rfl rfl).symm⟩,
   zI9 hθ hψ h.2 (fun j x y hx hy=>hb (j+1) x y (by simpa using hx) (by simpa using hy)) h4⟩
theorem zRV {S:Sym} {ψ:Psi} {ck:Nat→Nat} {cs ds:List CE} (hp:ds.Perm cs):∀ {l:List MapEntry},@yE S ψ ck cs l→∃ l',l'.Perm l∧@yE S ψ ck ds l':=by
 induction hp with
 | nil=>intro l h; exact ⟨l,List.Perm.refl _,h⟩
 | cons x _ ih=>
  rintro l ⟨e,r,rfl,hx,hr⟩
  obtain ⟨r',g1,g2⟩:=ih hr
  exact ⟨e::r',List.Perm.cons e g1,e,r',rfl,hx,g2⟩
 | swap x y m=>
  rintro l ⟨e,r,rfl,hx,e',r',rfl,hy,hr⟩
  exact ⟨e'::e::r',List.Perm.swap e e' r',e',_,rfl,hy,e,r',rfl,hx,hr⟩
 | trans _ _ ih1 ih2=>
  intro l h
  obtain ⟨l1,g1,g2⟩:=ih2 h
  obtain ⟨l2,g3,g4⟩:=ih1 g2
  exact ⟨l2,g3.trans g1,g4⟩
theorem zIz (hθ:ji σs σT θ) (hψ:zAQ ρ ψs ψT):∀ {as bs:List (CV × CV)} {l:List MapEntry},zSi ρ θ as bs=true→@kn (linSym σs Ks) ψs bs l→@kn (linSym σT KT) ψT as l
 | [],[],_,_,h=>h
 | [],_::_,_,h,_=>by cases h
 | _::_,[],_,h,_=>by cases h
 | a::as,b::bs,l,h,hz=>by
  unfold zSi at h
  rw [Bool.and_eq_true,Bool.and_eq_true] at h
  rcases hz with ⟨h1,h2⟩ | ⟨e,m,rfl,h1,h2,h3⟩
  · exact .inl ⟨qH hθ hψ _ _ h.1.2 h1,zIz hθ hψ h.2 h2⟩
  · exact .inr ⟨e,m,rfl,qH hθ hψ _ _ h.1.1 h1,qH hθ hψ _ _ h.1.2 h2,zIz hθ hψ h.2 h3⟩
theorem zJI (Ks:za) (hθ:ji σs σT θ) (hψ:zAQ ρ ψs ψT):∀ {as:List (CV × CV)},zMH ρ θ as=true→@kn (linSym σT KT) ψT as []
 | [],_=>rfl
 | a::as,h=>by
  unfold zMH at h
  rw [Bool.and_eq_true] at h
  exact .inl ⟨qH (Ks:=Ks) hθ hψ _ _ h.1 ((@zf (linSym σs Ks) _ _ _).2 ⟨.empty,rfl,rfl⟩),zJI Ks hθ hψ h.2⟩
def zCE (o:Option CObj) (ck:Nat→Nat):Nat→Nat:=match o with
 | some (.map es clock)=>fun j=>ck (xv (vB es) clock j)
 | _=>ck
theorem zMQ (hθ:ji σs σT θ) (hψ:zAQ ρ ψs ψT) {o o':CObj} (h:zBa ρ θ o o'=true) {w:World} {p p':Pl} (h1:p'.blk=p.blk) (h2:p'.off=p.off) (h3:p'.sz=p.sz) (h4:p'.ck=zCE (some o') p.ck)
 (ho:@xB (linSym σs Ks) ψs w p o'):@xB (linSym σT KT) ψT w p' o∧o.isRo=false∧o'.isRo=false:=by
 unfold zBa at h
 split at h
 · exact ⟨kv hθ hψ h h1 h2 h3 ho,rfl,rfl⟩
 · exact ⟨kv hθ hψ h h1 h2 h3 (@jE.toCells (linSym σs Ks) _ _ _ _ _ ho),rfl,rfl⟩
 · rename_i es c es' c'
   rw [Bool.and_eq_true,Bool.and_eq_true] at h
   refine ⟨?_,rfl,rfl⟩
   obtain ⟨arr,g1,⟨l0,gp,g2⟩,g3⟩:=ho
   have hlen:=zCd h.1.1
   obtain ⟨n1,n2⟩:=zHR h.1.2
   have hc:c=(vB es').length:=by omega
   have h4:p'.ck=fun j=>p.ck (xv (vB es') c' j):=h4
   obtain ⟨l1,gq,g2⟩:=zRV (zHJ (l:=es')) g2
   refine ⟨arr,?_,⟨l1,gq.trans gp,?_⟩,?_⟩
   · rw [h1,g1,h4,hc]
     show _=some (Obj.map arr (p.ck (xv (vB es') c' (vB es').length)))
     have h0:xv (vB es') c' (vB es').length=c':=vj 0
     rw [h0]
   · refine zI9 hθ hψ h.1.1 (fun j a b ha hb=>?_) g2
     rw [h4]
     show p.ck (xv (vB es') c' a.born)=_
     rw [n2 j a ha,Nat.zero_add]
     unfold xv
     rw [hb]
   · rw [h4,hc]
     exact zRj h.2 g3
 · obtain ⟨arr,c,g1,l,gp,g2⟩:=ho
   exact ⟨⟨arr,c,by rw [h1]; exact g1,l,gp,zIz hθ hψ h g2⟩,rfl,rfl⟩
 · obtain ⟨arr,g1,⟨l,gp,g2⟩,_⟩:=ho
   have g2:l=[]:=g2
   subst g2
   exact ⟨⟨arr,_,by rw [h1]; exact g1,[],gp,zJI Ks hθ hψ h⟩,rfl,rfl⟩
 · cases h
end
theorem zJL {ρ:zC} {θ:TH} {o o':CObj} (h:zBa ρ θ o o'=true):o'.isRo=false:=by
 unfold zBa at h
 split at h
 · rfl
 · rfl
 · rfl
 · rfl
 · rfl
 · cases h
structure Win where
 key:Key
 esz:Nat
 base:Option Addr
 B:Nat
 x:Nat
 len:Nat
 cap:Nat
 sz:Nat
structure TS where
 locs:List (Nat × CV)
 objs:List (Key × CObj)
 n:Key
 b:List (Int × Int)
 f:List (LL × Int × Int)
 r:List yr:=[]
def zN (n:Nat) (k:Nat→Bool):Bool:=match n with
 | 0=>k 0
 | m+1=>k (Nat.succ m)
theorem jM {n:Nat} {k:Nat→Bool}:zN n k=k n:=by cases n <;> rfl
def zI (z:Int) (k:Int→Bool):Bool:=match z with
 | .ofNat n=>zN n fun n=>k (.ofNat n)
 | .negSucc n=>zN n fun n=>k (.negSucc n)
theorem zDK {z:Int} {k:Int→Bool}:zI z k=k z:=by
 cases z with
 | ofNat n=>exact jM (k:=fun n=>k (.ofNat n))
 | negSucc n=>exact jM (k:=fun n=>k (.negSucc n))
def zDg (d:Dg) (k:Dg→Bool):Bool:=match d with
 | .d0=>k .d0
 | .d1=>k .d1
 | .d2=>k .d2
 | .d3=>k .d3
 | .d4=>k .d4
 | .d5=>k .d5
 | .d6=>k .d6
 | .d7=>k .d7
 | .d8=>k .d8
 | .d9=>k .d9
 | .d10=>k .d10
 | .d11=>k .d11
 | .d12=>k .d12
 | .d13=>k .d13
 | .d14=>k .d14
 | .d15=>k .d15
theorem zS8 {d:Dg} {k:Dg→Bool}:zDg d k=k d:=by cases d <;> rfl
def zK (b:Key) (k:Key→Bool):Bool:=match b with
 | .mk a b c d=>zDg a fun a=>zDg b fun b=>zDg c fun c=>zDg d fun d=>k (.mk a b c d)
theorem uh {b:Key} {k:Key→Bool}:zK b k=k b:=by
 cases b
 unfold zK
 simp only [zS8]
def zLL:LL→(LL→Bool)→Bool
 | [],k=>k []
 | (i,a)::l,k=>zN i fun i=>zI a fun a=>zLL l fun l=>k ((i,a)::l)
theorem zKW:∀ {l:LL} {k:LL→Bool},zLL l k=k l
 | [],_=>rfl
 | (i,a)::l,k=>by unfold zLL; rw [jM,zDK,zKW]
def zSE (e:SE) (k:SE→Bool):Bool:=match e with
 | ⟨j,c,l⟩=>zI c fun c=>zLL l fun l=>k ⟨j,c,l⟩
theorem zDk {e:SE} {k:SE→Bool}:zSE e k=k e:=by
 obtain ⟨j,c,l⟩:=e
 show (zI c fun c=>zLL l fun l=>k ⟨j,c,l⟩)=k ⟨j,c,l⟩
 rw [zDK,zKW]
mutual
def zV:CV→(CV→Bool)→Bool
 | .agg l,k=>zVs l fun l=>k (.agg l)
 | .tup l,k=>zVs l fun l=>k (.tup l)
 | .sst l,k=>zVs l fun l=>k (.sst l)
 | .iface t v,k=>zV v fun v=>k (.iface t v)
 | .func f a b,k=>zVs a fun a=>zVs b fun b=>k (.func f a b)
 | .sym e,k=>zSE e fun e=>k (.sym e)
 | .bool b,k=>k (.bool b)
 | .nat n,k=>zN n fun n=>k (.nat n)
 | .int j n,k=>zI n fun n=>k (.int j n)
 | .anyi j,k=>k (.anyi j)
 | .str s,k=>k (.str s)
 | .nilptr,k=>k .nilptr
 | .ptr b o,k=>zK b fun b=>zN o fun o=>k (.ptr b o)
 | .nilsl,k=>k .nilsl
 | .sl b o l c e x,k=>zK b fun b=>zN o fun o=>zN l fun l=>zN c fun c=>zN e fun e=>k (.sl b o l c e x)
 | .nilmap,k=>k .nilmap
 | .map b,k=>zK b fun b=>k (.map b)
 | .nilfunc,k=>k .nilfunc
 | .niliface,k=>k .niliface
 | .win a b c d,k=>zSE c fun c=>zSE d fun d=>k (.win a b c d)
 | .big n,k=>k (.big n)
 | .few i t,k=>zN i fun i=>k (.few i t)
 | .elt b o i m,k=>k (.elt b o i m)
 | .any,k=>k .any
def zVs:List CV→(List CV→Bool)→Bool
 | [],k=>k []
 | v::l,k=>zV v fun v=>zVs l fun l=>k (v::l)
end
mutual
theorem zEV:∀ (c:CV) (k:CV→Bool),zV c k=k c
 | .agg l,k=>by unfold zV; exact zBp l _
 | .tup l,k=>by unfold zV; exact zBp l _
 | .sst l,k=>by unfold zV; exact zBp l _
 | .iface t v,k=>by unfold zV; exact zEV v _
 | .func f a b,k=>by unfold zV; rw [zBp a,zBp b]
 | .sym e,k=>by unfold zV; exact zDk
 | .bool b,k=>by unfold zV; rfl
 | .nat n,k=>by unfold zV; exact jM
 | .int j n,k=>by unfold zV; exact zDK
 | .anyi j,k=>by unfold zV; rfl
 | .str s,k=>by unfold zV; rfl
 | .nilptr,k=>by unfold zV; rfl
 | .ptr b o,k=>by unfold zV; rw [uh,jM]
 | .nilsl,k=>by unfold zV; rfl
 | .sl b o l c e x,k=>by unfold zV; rw [uh,jM,jM,jM,jM]
 | .nilmap,k=>by unfold zV; rfl
 | .map b,k=>by unfold zV; exact uh
 | .nilfunc,k=>by unfold zV; rfl
 | .niliface,k=>by unfold zV; rfl
 | .win a b c d,k=>by unfold zV; rw [zDk,zDk]
 | .big n,k=>by unfold zV; rfl
 | .few i t,k=>by unfold zV; exact jM
 | .elt b o i m,k=>by unfold zV; rfl
 | .any,k=>by unfold zV; rfl
theorem zBp:∀ (l:List CV) (k:List CV→Bool),zVs l k=k l
 | [],k=>by unfold zVs; rfl
 | v::l,k=>by unfold zVs; rw [zEV v,zBp l]
end
def zEs:List CE→(List CE→Bool)→Bool
 | [],k=>k []
 | ⟨a,b,n⟩::l,k=>zV a fun a=>zV b fun b=>zN n fun n=>zEs l fun l=>k (⟨a,b,n⟩::l)
theorem zPL:∀ {l:List CE} {k:List CE→Bool},zEs l k=k l
 | [],_=>rfl
 | ⟨a,b,n⟩::l,k=>by unfold zEs; rw [zEV,zEV,jM,zPL]
def zZ:List (CV × CV)→(List (CV × CV)→Bool)→Bool
 | [],k=>k []
 | (a,b)::l,k=>zV a fun a=>zV b fun b=>zZ l fun l=>k ((a,b)::l)
theorem zSC:∀ {l:List (CV × CV)} {k:List (CV × CV)→Bool},zZ l k=k l
 | [],_=>rfl
 | (a,b)::l,k=>by unfold zZ; rw [zEV,zEV,zSC]
def zO (o:CObj) (k:CObj→Bool):Bool:=match o with
 | .cells l=>zVs l fun l=>k (.cells l)
 | .map es c=>zEs es fun es=>zN c fun c=>k (.map es c)
 | .mapz es=>zZ es fun es=>k (.mapz es)
 | o=>k o
theorem zEu {o:CObj} {k:CObj→Bool}:zO o k=k o:=by
 cases o with
 | cells l=>exact zBp l _
 | map es c=>
  show (zEs es fun es=>zN c fun c=>k (.map es c))=_
  rw [zPL,jM]
 | mapz es=>exact zSC
 | _=>rfl
def zOs:List (Key × CObj)→(List (Key × CObj)→Bool)→Bool
 | [],k=>k []
 | (j,o)::l,k=>zK j fun j=>zO o fun o=>zOs l fun l=>k ((j,o)::l)
theorem zQv:∀ {l:List (Key × CObj)} {k:List (Key × CObj)→Bool},zOs l k=k l
 | [],_=>rfl
 | (j,o)::l,k=>by unfold zOs; rw [uh,zEu,zQv]
def zLc:List (Nat × CV)→(List (Nat × CV)→Bool)→Bool
 | [],k=>k []
 | (j,o)::l,k=>zN j fun j=>zV o fun o=>zLc l fun l=>k ((j,o)::l)
theorem zLE:∀ {l:List (Nat × CV)} {k:List (Nat × CV)→Bool},zLc l k=k l
 | [],_=>rfl
 | (j,o)::l,k=>by unfold zLc; rw [jM,zEV,zLE]
def zB:List (Int × Int)→(List (Int × Int)→Bool)→Bool
 | [],k=>k []
 | (a,b)::l,k=>zI a fun a=>zI b fun b=>zB l fun l=>k ((a,b)::l)
theorem zMh:∀ {l:List (Int × Int)} {k:List (Int × Int)→Bool},zB l k=k l
 | [],_=>rfl
 | (a,b)::l,k=>by unfold zB; rw [zDK,zDK,zMh]
def zF:List (LL × Int × Int)→(List (LL × Int × Int)→Bool)→Bool
 | [],k=>k []
 | (m,a,b)::l,k=>zLL m fun m=>zI a fun a=>zI b fun b=>zF l fun l=>k ((m,a,b)::l)
theorem zQO:∀ {l:List (LL × Int × Int)} {k:List (LL × Int × Int)→Bool},zF l k=k l
 | [],_=>rfl
 | (m,a,b)::l,k=>by unfold zF; rw [zKW,zDK,zDK,zQO]
def zTS (T:TS) (k:TS→Bool):Bool:=match T with
 | ⟨l,o,n,b,f,r⟩=>zLc l fun l=>zOs o fun o=>zK n fun n=>zB b fun b=>zF f fun f=>k ⟨l,o,n,b,f,r⟩
theorem zLt {T:TS} {k:TS→Bool}:zTS T k=k T:=by
 obtain ⟨l,o,n,b,f,r⟩:=T
 show (zLc l fun l=>zOs o fun o=>zK n fun n=>zB b fun b=>zF f fun f=>k ⟨l,o,n,b,f,r⟩)=_
 rw [zLE,zQv,uh,zMh,zQO]
def uP:List (Nat × CV)→Tm
 | []=>.nil
 | p::r=>wF p.2 (Loc.ofNat p.1) (uP r)
def mkH (h:zC):List (Key × CObj)→zC
 | []=>h
 | p::r=>yj (some p.2) p.1 (mkH h r)
def je:List (Key × CObj)→List Key→zC
 | p::r,j::js=>yj (some (.cells [.ptr j 0])) p.1 (je r js)
 | _,_=>.nil
def jR:List (Key × CObj)→List Key→zC
 | p::r,j::js=>yj (some (.cells [.ptr p.1 0])) j (jR r js)
 | _,_=>.nil
def qI (ρ inv:zC) (θ:TH) (h:zC) (lo hi:Nat):List (Key × CObj)→List Key→Bool
 | [],[]=>true
 | p::r,j::js=>kr ρ p.1 j&&kr inv j p.1&&Nat.ble lo p.1.ix&&Nat.ble (Nat.succ p.1.ix) hi&&(match ze j h with
  | some o=>zBa ρ θ p.2 o
  | none=>false)&&qI ρ inv θ h lo hi r js
 | _,_=>false
def findW:List Win→Key→Option Win
 | [],_=>none
 | w::r,k=>match decide (w.key=k) with
  | true=>some w
  | false=>findW r k
def zLm:List (Key × Nat)→Key→Nat→Bool
 | [],_,_=>false
 | p::r,k,z=>match decide (p.1=k) with
  | true=>Nat.beq p.2 z
  | false=>zLm r k z
def zGs (lo hi:Nat):List (Key × Nat)→Bool
 | []=>true
 | p::r=>Nat.ble lo p.1.ix&&Nat.ble (Nat.succ p.1.ix) hi&&zGs lo hi r
def wsOf (l:List Win):List (Key × Nat):=l.map fun w=>(w.key,w.esz)
def zCk (ρ:zC) (k:Key):Bool:=match zk ρ k with
 | none=>true
 | some _=>false
def zS6 (ρ:zC) (θ:TH) (ws:List (Key × Nat)) (c d:CV):Bool:=match c with
 | .win k z e n=>match d with
  | .win k' z' _ n'=>decide (k=k')&&Nat.beq z z'&&(zJ2 e (sv 0)&&zLm ws k z || zJ2 e ⟨.i64,0,[]⟩&&zLm ws k 0&&Nat.beq z 1)&&zAb θ n (.sym n')&&zCk ρ k&&Nat.ble 1 z
  | _=>false
 | c=>z8 ρ θ c d
def zJi (ρ:zC) (θ:TH) (ws:List (Key × Nat)) (tm:Tm):List (Nat × CV)→Bool
 | []=>true
 | p::r=>Nat.ble p.1 271&&zS6 ρ θ ws p.2 (x7 (Loc.ofNat p.1) tm)&&zJi ρ θ ws tm r
def inQ (s:Int) (lo hi:Int):Option (Int × Int)→Bool
 | some u=>decide (lo≤s+u.1)&&decide (s+u.2≤hi)
 | none=>false
theorem zH3 {s lo hi:Int} {o:Option (Int × Int)} (h:inQ s lo hi o=true):∃ u,o=some u∧lo≤s+u.1∧s+u.2≤hi:=by
 unfold inQ at h
 split at h
 · rename_i u
   rw [Bool.and_eq_true,decide_eq_true_eq,decide_eq_true_eq] at h
   exact ⟨u,rfl,h.1,h.2⟩
 · cases h
def zQC (K:za):List (Int × Int)→TH→Bool
 | [],[]=>true
 | q::r,s::θ=>(inQ s.1 q.1 q.2 (zGn K.b s.2) || inQ s.1 q.1 q.2 (zKr K.b s.2 K.f))&&zQC K r θ
 | _,_=>false
def zPo (K:za) (θ:TH):List (LL × Int × Int)→Bool
 | []=>true
 | q::r=>(match uo θ q.1 with
  | some s=>inQ s.1 q.2.1 q.2.2 (zPl s.2 K.f) || inQ s.1 q.2.1 q.2.2 (zKr K.b s.2 K.f)
  | none=>false)&&zPo K θ r
def zKU (θ:TH) (r q:yr):Bool:=(match uo θ r.x.l with
 | some s=>decide (r.op=q.op)&&kEq r.x.k q.x.k&&Nat.beq r.c q.c&&yA (r.x.c+s.1) q.x.c&&vQ s.2 q.x.l
 | none=>false)&&(match r.v,q.v with
 | .sym e,.sym e'=>zAb θ e (.sym e')
 | _,_=>false)
def zEm (θ:TH) (r:yr):List yr→Bool
 | []=>false
 | q::l=>zKU θ r q || zEm θ r l
def u7 (θ:TH) (l:List yr):List yr→Bool
 | []=>true
 | r::rs=>zEm θ r l&&u7 θ l rs
theorem wk (k:IntKind) (n:Int) (e:SE):mkInt k n≠.sym e:=by
 cases n with
 | ofNat m=>cases m <;> cases k <;> (intro h; cases h)
 | negSucc m=>cases m <;> (intro h; cases h)
theorem zKJ (k:IntKind) (n:Nat) (e:SE):jP k n≠.sym e:=by
 cases n <;> cases k <;> (intro h; cases h)
theorem zJO {op:BinOp} {k:IntKind} {a b:Int} {e:SE} (h:yP op k a b=some (.sym e)):False:=by
 cases op <;> first
  | (have h:some (mkInt k _)=some (.sym e):=h
     injection h with h; exact wk _ _ _ h)
  | (have h:some (CV.bool _)=some (.sym e):=h
     injection h with h; cases h)
  | (have h:Bool.rec (motive:=fun _=>Option CV) (some (mkInt k _)) none (yA b (.ofNat 0))=some (.sym e):=h
     cases hb:yA b (.ofNat 0) <;> rw [hb] at h
     · injection h with h; exact wk _ _ _ h
     · cases h)
  | (cases b with
     | ofNat m=>
      first
       | (have h:some (mkInt k _)=some (.sym e):=h
          injection h with h; exact wk _ _ _ h)
       | (cases a with
          | ofNat x=>
           have h:some (jP k _)=some (.sym e):=h
           injection h with h; exact zKJ _ _ _ h
          | negSucc x=>
           have h:some (mkInt k _)=some (.sym e):=h
           injection h with h; exact wk _ _ _ h)
     | negSucc m=>cases h)
theorem zOT {σs σT:Nat→Int} {θ:TH} (hθ:ji σs σT θ) {r q:yr} (h:zKU θ r q=true) (hq:qE σs q):qE σT r:=by
 unfold zKU at h
 rw [Bool.and_eq_true] at h
 obtain ⟨h1,h2⟩:=h
 split at h1
 · rename_i s hs
   simp only [Bool.and_eq_true,decide_eq_true_eq] at h1
   obtain ⟨⟨⟨⟨a1,a2⟩,a3⟩,a4⟩,a5⟩:=h1
   rw [@y7 noSym,decide_eq_true_eq] at a2
   have a3:=@zh noSym _ _ a3
   rw [@zb noSym,decide_eq_true_eq] at a4
   have a5:=@we noSym _ _ a5
   obtain ⟨u,b1,b2,b3⟩:=hq
   have ex:evE σT r.x=evE σs q.x:=by
    unfold evE
    rw [zAN hθ hs,← a4,a5]
    omega
   refine ⟨u,by rw [a1,a2]; exact b1,by rw [a1,a2,a3,ex]; exact b2,?_⟩
   split at h2
   · rename_i e e' he he'
     refine .inr ⟨e,he,?_⟩
     unfold zAb at h2
     split at h2
     · rename_i k c l hf
       split at h2
       · rename_i s' hs'
         simp only [Bool.and_eq_true] at h2
         obtain ⟨⟨c1,c2⟩,c3⟩:=h2
         rw [@y7 noSym,decide_eq_true_eq] at c1
         rw [@zb noSym,decide_eq_true_eq] at c2
         have c3:=@we noSym _ _ c3
         injection hf with hf
         injection hf with d1 hf
         injection hf with d2 d3
         rcases b3 with b3 | ⟨e2,b4,b5⟩
         · rw [he'] at b3
           rw [← b3] at b2
           exact (zJO b2).elim
         · rw [he'] at b4
           injection b4 with b4
           subst b4
           rw [b5,c1,← d1]
           congr 1
           unfold evE
           rw [zAN hθ hs',c3,← d3,d2,← c2]
           omega
       · cases h2
     · cases h2
   · cases h2
 · cases h1
theorem zDV {σs σT:Nat→Int} {θ:TH} (hθ:ji σs σT θ) {l:List yr} (hl:∀ q∈l,qE σs q):∀ {rs:List yr},u7 θ l rs=true→xd σT rs
 | [],_=>trivial
 | r::rs,h=>by
  unfold u7 at h
  rw [Bool.and_eq_true] at h
  refine ⟨?_,zDV hθ hl h.2⟩
  have:∀ {m:List yr},zEm θ r m=true→(∀ q∈m,qE σs q)→qE σT r:=by
   intro m
   induction m with
   | nil=>intro h _; cases h
   | cons q m ih=>
    intro h hm
    unfold zEm at h
    rw [Bool.or_eq_true] at h
    rcases h with h | h
    · exact zOT hθ h (hm q (by simp))
    · exact ih h fun q' hq'=>hm q' (by simp [hq'])
  exact this h.1 hl
def zJ3 (G:Nat) (ws:List (Key × Nat)) (T:TS) (ks:List Key) (θ:TH) (K:za) (tm:Tm) (h:zC):Bool:=
 qI (je T.objs ks) (jR T.objs ks) θ h G T.n.ix T.objs ks&&zJi (je T.objs ks) θ ws tm T.locs&&zQC K T.b θ&&zPo K θ T.f&&zGs G T.n.ix ws&&Nat.ble G T.n.ix&&u7 θ K.rules T.r
theorem zTQ (p:Loc):x7 p Tm.nil=.any:=@zEz noSym p
theorem zSn (v:CV) (p:Loc) (t:Tm):x7 p (wF v p t)=v:=@jg noSym v p t
theorem zPd (v:CV) (p q:Loc) (t:Tm) (h:q≠p):x7 q (wF v p t)=x7 q t:=@xT noSym v p q t h
theorem kY (o:Option CObj) (k j:Key) (h:zC):ze j (yj o k h)=if j=k then o else ze j h:=@zCO noSym o k j h
theorem jH (k:Key):ze k (.nil:zC)=none:=@zAE noSym k
theorem zC7 (t:Nat):∀ {locs:List (Nat × CV)},x7 (Loc.ofNat t) (uP locs)=.any∨∃ p∈locs,Loc.ofNat p.1=Loc.ofNat t∧x7 (Loc.ofNat t) (uP locs)=p.2
 | []=>.inl (zTQ _)
 | p::r=>by
  by_cases e:Loc.ofNat p.1=Loc.ofNat t
  · refine .inr ⟨p,by simp,e,?_⟩
    show x7 _ (wF p.2 _ _)=_
    rw [e,zSn]
  · have h:x7 (Loc.ofNat t) (uP (p::r))=x7 (Loc.ofNat t) (uP r):=zPd _ _ _ _ (fun q=>e q.symm)
    rcases zC7 t (locs:=r) with h' | ⟨q,hq,h1,h2⟩
    · exact .inl (h.trans h')
    · exact .inr ⟨q,by simp [hq],h1,h.trans h2⟩
theorem x9 {h:zC} {k:Key} {o:CObj}:∀ {objs:List (Key × CObj)},ze k (mkH h objs)=some o→(∃ j:Nat,objs[j]? = some (k,o))∨ze k h=some o
 | [],hh=>.inr hh
 | p::r,hh=>by
  have hh:ze k (yj (some p.2) p.1 (mkH h r))=some o:=hh
  rw [kY] at hh
  split at hh
  · rename_i e
    injection hh with h1
    exact .inl ⟨0,by subst e; subst h1; rfl⟩
  · rcases x9 hh with ⟨j,hj⟩ | h'
    · exact .inl ⟨j+1,by simpa using hj⟩
    · exact .inr h'
theorem zF0 {k b:Key}:∀ {objs:List (Key × CObj)} {ks:List Key},zk (je objs ks) k=some b→∃ (j:Nat) (o:CObj),objs[j]? = some (k,o)∧ks[j]? = some b
 | [],_,h=>by
  have h:zk .nil k=some b:=h
  unfold zk at h
  rw [jH] at h; cases h
 | _::_,[],h=>by
  have h:zk .nil k=some b:=h
  unfold zk at h
  rw [jH] at h; cases h
 | p::r,j::js,h=>by
  by_cases e:k=p.1
  · have h:zk (yj (some (.cells [.ptr j 0])) p.1 (je r js)) k=some b:=h
    unfold zk at h
    rw [kY,if_pos e] at h
    injection h with h
    exact ⟨0,p.2,by subst e; rfl,by subst h; rfl⟩
  · have h':zk (je r js) k=some b:=by
     have h:zk (yj (some (.cells [.ptr j 0])) p.1 (je r js)) k=some b:=h
     unfold zk at h ⊢
     rw [kY,if_neg e] at h
     exact h
    obtain ⟨i,o,h1,h2⟩:=zF0 h'
    exact ⟨i+1,o,by simpa using h1,by simpa using h2⟩
theorem qj {ρ:zC} {k j:Key} (h:kr ρ k j=true):zk ρ k=some j:=by
 unfold kr at h
 split at h
 · rename_i b hb
   rw [hb,@Key.ix_inj noSym _ _ (Nat.eq_of_beq_eq_true h)]
 · cases h
theorem j3 {ρ inv:zC} {θ:TH} {h:zC} {lo hi:Nat}:∀ {objs:List (Key × CObj)} {ks:List Key},qI ρ inv θ h lo hi objs ks=true→∀ (j:Nat) (k:Key) (o:CObj),objs[j]? = some (k,o) →
 ∃ i o',ks[j]? = some i∧zk ρ k=some i∧zk inv i=some k∧lo≤k.ix∧k.ix<hi∧ze i h=some o'∧zBa ρ θ o o'=true
 | [],_,_,j,k,o,hj=>by simp at hj
 | _::_,[],hc,_,_,_,_=>by cases hc
 | p::r,i::is,hc,j,k,o,hj=>by
  unfold qI at hc
  simp only [Bool.and_eq_true] at hc
  obtain ⟨⟨⟨⟨⟨c1,c2⟩,c3⟩,c4⟩,c5⟩,c6⟩:=hc
  cases j with
  | zero=>
   simp at hj
   subst hj
   split at c5
   · rename_i o' ho
     exact ⟨i,o',rfl,qj c1,qj c2,@zL noSym _ _ c3,@zL noSym _ _ c4,ho,c5⟩
   · cases c5
  | succ j=>
   obtain ⟨i',o',h1,h2⟩:=j3 c6 j k o (by simpa using hj)
   exact ⟨i',o',by simpa using h1,h2⟩
theorem j0 {l:List Win} {k:Key} {w:Win} (h:findW l k=some w):w∈l∧w.key=k:=by
 induction l with
 | nil=>cases h
 | cons x l ih=>
  unfold findW at h
  split at h
  · rename_i e
    injection h with h; subst h
    exact ⟨by simp,of_decide_eq_true e⟩
  · have:=ih h
    exact ⟨by simp [this.1],this.2⟩
theorem zRB {l:List Win} {k:Key} {z:Nat} (h:zLm (wsOf l) k z=true):∃ w,findW l k=some w∧w.esz=z:=by
 induction l with
 | nil=>cases h
 | cons x l ih=>
  have h:zLm ((x.key,x.esz)::wsOf l) k z=true:=h
  unfold zLm at h
  unfold findW
  split at h
  · rename_i e
    simp only at e
    rw [e]
    exact ⟨x,rfl,@zh noSym _ _ h⟩
  · rename_i e
    simp only at e
    rw [e]
    exact ih h
theorem zHX {lo hi:Nat} {l:List Win} (h:zGs lo hi (wsOf l)=true):∀ w∈l,lo≤w.key.ix∧w.key.ix<hi:=by
 induction l with
 | nil=>intro w hw; cases hw
 | cons x l ih=>
  have h:zGs lo hi ((x.key,x.esz)::wsOf l)=true:=h
  unfold zGs at h
  rw [Bool.and_eq_true,Bool.and_eq_true] at h
  intro w hw
  rcases List.mem_cons.1 hw with rfl | hw
  · exact ⟨@zL noSym _ _ h.1.1,@zL noSym _ _ h.1.2⟩
  · exact ih h.2 w hw
theorem zJS {ρ:zC} {θ:TH} {ws:List (Key × Nat)} {tm:Tm}:∀ {locs:List (Nat × CV)},zJi ρ θ ws tm locs=true→∀ p∈locs,p.1≤271∧zS6 ρ θ ws p.2 (x7 (Loc.ofNat p.1) tm)=true
 | [],_,p,hp=>by cases hp
 | q::r,h,p,hp=>by
  unfold zJi at h
  rw [Bool.and_eq_true,Bool.and_eq_true] at h
  rcases List.mem_cons.1 hp with rfl | hp
  · exact ⟨@zL noSym _ _ h.1.1,h.1.2⟩
  · exact zJS h.2 p hp
def qJ (ρ h:zC) (wins:List Win) (ψ:Psi) (G:Nat) (i:Int):Psi:=fun k=>match zk ρ k with
 | some j=>(ψ j).map fun p=>⟨p.blk,p.off,p.sz,zCE (ze j h) p.ck⟩
 | none=>match findW wins k with
  | some w=>some ⟨w.B,w.x+i.toNat*w.esz,w.sz,fun n=>n⟩
  | none=>if k.ix<G then ψ k else none
def evQ (σ:Nat→Int) (q:Int × LL):Int:=q.1+evL σ q.2
def ArgsAre (A:Key→Option Value) (wins:List Win):Prop:=∀ w∈wins,A w.key=some (.slice w.base w.len w.cap)∧(0<w.len→w.base=some ⟨w.B,w.x,none⟩)∧(w.sz=w.x+w.cap*(max 1 w.esz))∧w.len≤w.cap
section
variable {σs:Nat→Int} {Ks:za} {θ:TH} {T:TS} {ks:List Key} {wins:List Win} {G:Nat} {F N:Nat} {ψ:Psi} {tm:Tm} {h:zC} {n:Key} {a:Act} {w:World}
theorem zNs {σs:Nat→Int} {Ks:za} (hK:KnownOk σs Ks) {σT:Nat→Int}:∀ {b:List (Int × Int)} {θ:TH} {k:Nat},zQC Ks b θ=true→(∀ j q,nth θ j=some q→σT (k+j)=evQ σs q) →
 b.length=θ.length∧zt σT k b
 | [],[],_,_,_=>⟨rfl,trivial⟩
 | [],_::_,_,h,_=>by cases h
 | _::_,[],_,h,_=>by cases h
 | q::r,s::θ,k,h,hθ=>by
  unfold zQC at h
  rw [Bool.and_eq_true] at h
  obtain ⟨h1,h2⟩:=h
  obtain ⟨g1,g2⟩:=zNs hK (σT:=σT) (k:=k+1) h2 (fun j q hj=>by
   have:=hθ (j+1) q hj
   rw [show k+1+j=k+(j+1) from by omega]; exact this)
  refine ⟨by simp [g1],?_,g2⟩
  have h0:σT k=evQ σs s:=hθ 0 s rfl
  rw [Bool.or_eq_true] at h1
  obtain ⟨u,r,l1,l2⟩:∃ u:Int × Int,(u.1≤evL σs s.2∧evL σs s.2≤u.2)∧q.1≤s.1+u.1∧s.1+u.2≤q.2:=by
   rcases h1 with h1 | h1
   · obtain ⟨u,hu,l⟩:=zH3 h1
     exact ⟨u,ky hK.b hu,l⟩
   · obtain ⟨u,hu,l⟩:=zH3 h1
     exact ⟨u,zAL hK.b hK.f hu,l⟩
  rw [h0]
  unfold evQ
  constructor <;> omega
theorem zM5 {σs σT:Nat→Int} {Ks:za} (hK:KnownOk σs Ks) {θ:TH} (hθ:ji σs σT θ):∀ {f:List (LL × Int × Int)},zPo Ks θ f=true→qu σT f
 | [],_=>trivial
 | q::r,h=>by
  unfold zPo at h
  rw [Bool.and_eq_true] at h
  refine ⟨?_,zM5 hK hθ h.2⟩
  have h1:=h.1
  split at h1
  · rename_i s hs
    rw [Bool.or_eq_true] at h1
    obtain ⟨u,r,l1,l2⟩:∃ u:Int × Int,(u.1≤evL σs s.2∧evL σs s.2≤u.2)∧q.2.1≤s.1+u.1∧s.1+u.2≤q.2.2:=by
     rcases h1 with h1 | h1
     · obtain ⟨u,hu,l⟩:=zH3 h1
       exact ⟨u,zGa hK.f hu,l⟩
     · obtain ⟨u,hu,l⟩:=zH3 h1
       exact ⟨u,zAL hK.b hK.f hu,l⟩
    rw [zAN hθ hs]
    constructor <;> omega
  · cases h1
theorem zQk (hst:@St (linSym σs Ks) P F N ψ tm [] h n a w) (hG:P.globals.size≤G) (hA:ArgsAre Ks.arg wins) (hc:zJ3 G (wsOf wins) T ks θ Ks tm h=true) (i:Int) (hi:∀ q,nth θ 0=some q→evQ σs q=i) (h0:∃ q,nth θ 0=some q) :
 ∃ ψT,(∀ σT KT,ji σs σT θ→KT.arg=Ks.arg→@St (linSym σT KT) P F N ψT (uP T.locs) [] (mkH .nil T.objs) T.n a w) ∧
  (∀ k o p,zC.fam (mkH .nil T.objs) k=some o→ψT k=some p→o.isRo=false∧∃ k0 o0 p0,zC.fam h k0=some o0∧o0.isRo=false∧ψ k0=some p0∧p0.blk=p.blk) ∧
  (∀ k wn,findW wins k=some wn→zCk (je T.objs ks) k=true→ψT k=some ⟨wn.B,wn.x+i.toNat*wn.esz,wn.sz,fun n=>n⟩)∧zAQ (je T.objs ks) ψ ψT:=by
 have hR:@Rel (linSym σs Ks) ψ (zC.fam h) w:=@St.rel (linSym σs Ks) _ _ _ _ _ _ _ _ _ _ hst
 have hTot:∀ k o,zC.fam h k=some o→∃ p,ψ k=some p:=@Rel.tot (linSym σs Ks) _ _ _ hR
 have hOn:∀ k o p,zC.fam h k=some o→ψ k=some p→@xB (linSym σs Ks) ψ w p o:=@Rel.on (linSym σs Ks) _ _ _ hR
 have hInj:=@Rel.inj (linSym σs Ks) _ _ _ hR
 have hGl:wd P ψ:=@St.glob (linSym σs Ks) _ _ _ _ _ _ _ _ _ _ hst
 have hDf:=@St.dfr (linSym σs Ks) _ _ _ _ _ _ _ _ _ _ hst
 have hFr:@yx (linSym σs Ks) ψ F N tm a:=@St.frame (linSym σs Ks) _ _ _ _ _ _ _ _ _ _ hst
 have hTmp:=@yx.tmp (linSym σs Ks) _ _ _ _ _ hFr
 have hSz:=@yx.size (linSym σs Ks) _ _ _ _ _ hFr
 unfold zJ3 at hc
 simp only [Bool.and_eq_true] at hc
 obtain ⟨⟨⟨⟨⟨⟨c1,c2⟩,c3⟩,c4⟩,c5⟩,c6⟩,_⟩:=hc
 have c6:=@zL noSym _ _ c6
 generalize hρ:je T.objs ks=ρ at c1 c2
 generalize hinv:jR T.objs ks=inv at c1
 have hobj:=j3 c1
 have hwb:=zHX c5
 have hrho:∀ k b,zk ρ k=some b→G≤k.ix∧k.ix<T.n.ix∧∃ (o o':CObj) (j:Nat),T.objs[j]? = some (k,o)∧zk inv b=some k∧ze b h=some o'∧zBa ρ θ o o'=true:=by
  intro k b hk
  have hk':=hk
  rw [← hρ] at hk'
  obtain ⟨j,o,h1,h2⟩:=zF0 hk'
  obtain ⟨i',o',g1,g2,g3,g4,g5,g6,g7⟩:=hobj j k o h1
  rw [hk] at g2
  injection g2 with g2
  subst g2
  exact ⟨g4,g5,o,o',j,h1,g3,g6,g7⟩
 have hps:∀ k j p,zk ρ k=some j→ψ j=some p→qJ ρ h wins ψ G i k=some ⟨p.blk,p.off,p.sz,zCE (ze j h) p.ck⟩:=by
  intro k j p hk hp
  unfold qJ
  rw [hk]
  simp only
  rw [hp]; rfl
 have hPs:zAQ ρ ψ (qJ ρ h wins ψ G i):=fun k j p hk hp=>⟨_,hps k j p (qj hk) hp,rfl,rfl,rfl⟩
 have hwin:∀ k wn,findW wins k=some wn→zCk ρ k=true→qJ ρ h wins ψ G i k=some ⟨wn.B,wn.x+i.toNat*wn.esz,wn.sz,fun n=>n⟩:=by
  intro k wn hw hno
  have hno:zk ρ k=none:=by
   unfold zCk at hno
   split at hno
   · assumption
   · cases hno
  unfold qJ
  rw [hno]
  simp only
  rw [hw]
 have hfam:∀ k o p,zC.fam (mkH .nil T.objs) k=some o→qJ ρ h wins ψ G i k=some p→∃ b o' p0,zk ρ k=some b∧zk inv b=some k∧zC.fam h b=some o'∧ψ b=some p0∧zBa ρ θ o o'=true ∧
  p=⟨p0.blk,p0.off,p0.sz,zCE (some o') p0.ck⟩:=by
  intro k o p hk hp
  rcases x9 hk with ⟨j,hj⟩ | hn
  · obtain ⟨b,o',g1,g2,g3,g4,g5,g6,g7⟩:=hobj j k o hj
    obtain ⟨p0,hp0⟩:=hTot b o' g6
    rw [hps k b p0 g2 hp0,g6] at hp
    injection hp with hp
    exact ⟨b,o',p0,g2,g3,g6,hp0,g7,hp.symm⟩
  · rw [jH] at hn; cases hn
 refine ⟨qJ ρ h wins ψ G i,fun σT KT hθ hKT=>?_,?_,hwin,by first | exact hPs | (rw [hρ]; exact hPs)⟩
 · refine @St.mk (linSym σT KT) P F N _ _ _ _ _ _ _ ?_ ?_ ?_ ?_ ?_
   · refine @yx.mk (linSym σT KT) _ _ _ _ _ hSz fun t h1 h2 h3=>?_
     rcases zC7 t (locs:=T.locs) with e | ⟨p,hp,e1,e2⟩
     · rw [e]; exact @qA (linSym σT KT) _ _
     · obtain ⟨q1,q2⟩:=zJS c2 p hp
       have e1:p.1=t:=@Loc.ofNat_inj noSym _ _ q1 h2 e1
       rw [e2]
       rw [e1] at q2
       have hv:=hTmp t h1 h2 h3
       unfold zS6 at q2
       split at q2
       · rename_i k z e nn heq
         split at q2
         · rename_i k' z' e' n' heq'
           simp only [Bool.and_eq_true,decide_eq_true_eq] at q2
           obtain ⟨⟨⟨⟨⟨rfl,hz⟩,hew⟩,hn⟩,hno⟩,h1z⟩:=q2
           have h1z:=@zL noSym _ _ h1z
           obtain rfl:=@zh noSym _ _ hz
           rw [heq',@xq (linSym σs Ks)] at hv
           obtain ⟨ha,base,len,cap,iv,hv',hn',he',_⟩:=hv
           have ha:Ks.arg k=some (a.tmps.getD t undef):=ha
           have hn2:=zNr (Ks:=Ks) (ψs:=ψ) hθ hn (v:=.int .i64 len) ((@zq (linSym σs Ks) _ _ _).2 hn'.symm)
           have key:∀ zz,zLm (wsOf wins) k zz=true→∃ wn,findW wins k=some wn∧wn.esz=zz∧a.tmps.getD t undef=.slice wn.base wn.len wn.cap∧(0<wn.len→wn.base=some ⟨wn.B,wn.x,none⟩)∧wn.sz=wn.x+wn.cap*(max 1 wn.esz)∧wn.len≤wn.cap∧len=wn.len:=by
            intro zz hw
            obtain ⟨wn,hwn,hez⟩:=zRB hw
            obtain ⟨hmem,hkey⟩:=j0 hwn
            obtain ⟨hA',hbase,hsz,hlc⟩:=hA wn hmem
            rw [hkey] at hA'
            rw [ha] at hA'
            injection hA' with hA'
            refine ⟨wn,hwn,hez,hA',hbase,hsz,hlc,?_⟩
            rw [hv'] at hA'
            injection hA' with _ h2 _
           rw [heq,@xq (linSym σT KT)]
           rw [Bool.or_eq_true,Bool.and_eq_true,Bool.and_eq_true,Bool.and_eq_true] at hew
           rcases hew with ⟨he,hw⟩ | ⟨⟨he,hw⟩,hz1⟩
           · obtain rfl:=@zAo noSym _ _ he
             obtain ⟨wn,hwn,hez,hA',hbase,hsz,hlc,hlen⟩:=key z hw
             obtain ⟨q0,hq0⟩:=h0
             refine ⟨by show KT.arg k=_; rw [hKT]; exact ha,wn.base,wn.len,wn.cap,i,hA',?_,?_,fun q1 q2=>⟨_,wn.x,hwin k wn hwn hno,hbase (by omega),?_⟩⟩
             · rw [← hlen]; exact hn2.symm
             · show Value.int .i64 (evE σT (sv 0))=.int .i64 i
               rw [ja,hθ 0 q0 hq0]
               have:=hi q0 hq0
               unfold evQ at this
               rw [this]
             · rw [← hez]
               refine ⟨rfl,?_,hlc⟩
               rw [hsz,show max 1 wn.esz=wn.esz from by omega]
           · obtain rfl:=@zAo noSym _ _ he
             obtain rfl:=@zh noSym _ _ hz1
             obtain ⟨wn,hwn,hez,hA',hbase,hsz,hlc,hlen⟩:=key 0 hw
             refine ⟨by show KT.arg k=_; rw [hKT]; exact ha,wn.base,wn.len,wn.cap,0,hA',?_,?_,fun q1 q2=>⟨_,wn.x,hwin k wn hwn hno,hbase (by omega),?_⟩⟩
             · rw [← hlen]; exact hn2.symm
             · rfl
             · refine ⟨?_,?_,hlc⟩
               · show wn.x+i.toNat*wn.esz=wn.x+(0:Int).toNat*1
                 rw [hez]; simp
               · rw [hsz,hez]; rfl
         · cases q2
       · exact qH hθ hPs _ _ q2 hv
   · exact hDf
   · refine @Rel.mk (linSym σT KT) _ _ _ ?_ ?_ ?_
     · intro k o p hk hp
       obtain ⟨b,o',p0,g1,g2,g3,g4,g5,rfl⟩:=hfam k o p hk hp
       exact (zMQ (p:=p0) (p':=⟨p0.blk,p0.off,p0.sz,zCE (some o') p0.ck⟩) hθ hPs g5 rfl rfl rfl rfl (hOn b o' p0 g3 g4)).1
     · intro k o hk
       rcases x9 hk with ⟨j,hj⟩ | hn
       · obtain ⟨b,o',g1,g2,g3,g4,g5,g6,g7⟩:=hobj j k o hj
         obtain ⟨p0,hp0⟩:=hTot b o' g6
         exact ⟨_,hps k b p0 g2 hp0⟩
       · rw [jH] at hn; cases hn
     · intro k₁ k₂ o₁ o₂ p₁ p₂ h1 h2 h3 h4 hr e
       obtain ⟨b1,o1',q1,g1,g2,g3,g4,g5,rfl⟩:=hfam _ _ _ h1 h3
       obtain ⟨b2,o2',q2,f1,f2,f3,f4,f5,rfl⟩:=hfam _ _ _ h2 h4
       have:=hInj b1 b2 _ _ _ _ g3 f3 g4 f4 (.inl (zJL g5)) e
       subst this
       rw [g2] at f2
       injection f2
   · intro g hg h4
     obtain ⟨sz,e⟩:=hGl g hg h4
     have hix:(Key.ofNat g).ix=g:=@Key.ix_ofNat noSym _ (by omega)
     refine ⟨sz,?_⟩
     have hno:zk ρ (Key.ofNat g)=none:=by
      cases hr:zk ρ (Key.ofNat g) with
      | none=>rfl
      | some b=>have:=(hrho _ _ hr).1; omega
     have hnw:findW wins (Key.ofNat g)=none:=by
      cases hr:findW wins (Key.ofNat g) with
      | none=>rfl
      | some wn=>
       obtain ⟨hm,hk⟩:=j0 hr
       have:=(hwb wn hm).1
       rw [hk] at this; omega
     unfold qJ
     rw [hno]
     simp only
     rw [hnw]
     simp only
     rw [if_pos (by omega)]
     exact e
   · intro k hk
     have hno:zk ρ k=none:=by
      cases hr:zk ρ k with
      | none=>rfl
      | some b=>have:=(hrho _ _ hr).2.1; omega
     have hnw:findW wins k=none:=by
      cases hr:findW wins k with
      | none=>rfl
      | some wn=>
       obtain ⟨hm,hk⟩:=j0 hr
       have:=(hwb wn hm).2
       rw [hk] at this; omega
     unfold qJ
     rw [hno]
     simp only
     rw [hnw]
     simp only
     split
     · rename_i hlt
       omega
     · rfl
 · intro k o p hk hp
   obtain ⟨b,o',p0,g1,g2,g3,g4,g5,rfl⟩:=hfam k o p hk hp
   have hro:o.isRo=false∧o'.isRo=false:=by
    unfold zBa at g5
    split at g5
    · exact ⟨rfl,rfl⟩
    · exact ⟨rfl,rfl⟩
    · exact ⟨rfl,rfl⟩
    · exact ⟨rfl,rfl⟩
    · exact ⟨rfl,rfl⟩
    · cases g5
   exact ⟨hro.1,b,o',p0,g3,hro.2,g4,rfl⟩
end
end
end Go.Ev
namespace Go.Ev
variable [Sym]
noncomputable section
variable {P:Program}
variable [SymFact P]
inductive Stp where
 | l | r | b
def zD3 (P:Program) (call:yX):List Stp→CCode→K
 | [],_=>fun tm ds h n=>.ok .normal tm ds h n
 | .l::p,.seq a _=>zD3 P call p a
 | .r::p,.seq a b=>fun tm ds h n=>x8 (zD3 P call p b) (zi P call a tm ds h n)
 | .b::p,.block _ x=>zD3 P call p x
 | _,_=>fun _ _ _ _=>.err 330
def uk (P:Program) (call:yX):List Stp→CCode→R→R
 | [],_=>fun r=>r
 | .l::p,.seq a b=>fun r=>x8 (zi P call b) (uk P call p a r)
 | .r::p,.seq _ b=>uk P call p b
 | .b::p,.block id x=>fun r=>uc id (uk P call p x r)
 | _,_=>fun _=>.err 331
def uz:List Stp→CCode→CCode
 | [],.loop b=>b
 | .l::p,.seq a _=>uz p a
 | .r::p,.seq _ b=>uz p b
 | .b::p,.block _ x=>uz p x
 | _,_=>.bad 50
def bodyF:CFn→CCode
 | .mk b _=>b
 | _=>.bad 51
def resF:CFn→List CRes
 | .mk _ r=>r
 | _=>[]
def subC:List Stp→Code→Option Code
 | [],.loop b=>some b
 | .l::p,.seq x _=>subC p x
 | .r::p,.seq _ y=>subC p y
 | .b::p,.block _ x=>subC p x
 | _,_=>none
def QH (P:Program):List Stp→Code→(Exit→Act→World→Prop)→Exit→Act→World→Prop
 | .l::p,.seq x y,Q=>QH P p x (Exit.then (y.wp P Q) Q)
 | .r::p,.seq _ y,Q=>QH P p y Q
 | .b::p,.block id x,Q=>QH P p x (Exit.inBlock id Q)
 | _,_,Q=>Q
omit [SymFact P] in
theorem wA {F N:Nat}:∀ {p:List Stp} {c b:Code},subC p c=some b→uz p (zR P F N c)=zR P F N b
 | [],c,b,h=>by
  cases c <;> first | (injection h with h; subst h; rfl) | cases h
 | .l::p,c,b,h=>by
  cases c <;> first | exact wA (p:=p) h | cases h
 | .r::p,c,b,h=>by
  cases c <;> first | exact wA (p:=p) h | cases h
 | .b::p,c,b,h=>by
  cases c <;> first | exact wA (p:=p) h | cases h
section
variable {F N:Nat} {call:yX}
theorem j7 (hcall:yt call):∀ (p:List Stp) (c:CCode) (tm:Tm) (ds:xP) (h:zC) (n:Key),zj n (zD3 P call p c tm ds h n)
 | [],_,_,_,_,_=>Nat.le_refl _
 | .l::p,c,tm,ds,h,n=>by
  cases c <;> first | exact j7 hcall p _ tm ds h n | trivial
 | .r::p,c,tm,ds,h,n=>by
  cases c <;> first | exact qM (fun tm ds h n=>j7 hcall p _ tm ds h n) (ym hcall _ tm ds h n) | trivial
 | .b::p,c,tm,ds,h,n=>by
  cases c <;> first | exact j7 hcall p _ tm ds h n | trivial
theorem zBD (hcall:yY P call) (hdraw:qv P F N call):∀ (p:List Stp) (c:Code) {b:Code} {Q:Exit→Act→World→Prop} {ψ:Psi} {tm:Tm} {ds:xP} {h:zC} {n:Key} {a:Act} {w:World},
 subC p c=some b→zu c=true→St P F N ψ tm ds h n a w→zX (zD3 P call p (zR P F N c) tm ds h n) →
 (∀ e a' w',xA P F N ψ (zC.fam h) n w (zD3 P call p (zR P F N c) tm ds h n) e a' w'→e=.normal∧vN P b (QH P p c Q) a' w')→c.wp P Q a w
 | [],c,b,Q,ψ,tm,ds,h,n,a,w,hs,hn,hst,hc,hq=>by
  cases c <;> try (cases hs; done)
  rename_i b'
  injection hs with hs; subst hs
  exact zFr (hq .normal a w ⟨trivial,ψ,hst,yF.refl hst.rel,hc⟩).2
 | .l::p,c,b,Q,ψ,tm,ds,h,n,a,w,hs,hn,hst,hc,hq=>by
  cases c <;> try (cases hs; done)
  rename_i x y
  have hnr:zu x=true∧zu y=true:=by simpa [zu] using hn
  exact wp_seq (zBD hcall hdraw p x (Q:=Exit.then (y.wp P Q) Q) hs hnr.1 hst hc hq)
 | .r::p,c,b,Q,ψ,tm,ds,h,n,a,w,hs,hn,hst,hc,hq=>by
  cases c <;> try (cases hs; done)
  rename_i x y
  have hnr:zu x=true∧zu y=true:=by simpa [zu] using hn
  have hc:zX (x8 (zD3 P call p (zR P F N y)) (zi P call (zR P F N x) tm ds h n)):=hc
  have hab:=fun tm ds h n=>j7 (P:=P) hcall.above p (zR P F N y) tm ds h n
  refine wp_seq (wp_mono (kO hcall hdraw x hnr.1 hst (xc hab hc)) fun e a' w' ho=>?_)
  rcases j4 hc ho with ⟨rfl,tm',ds',h',n',ψ',h2,h3,h4,h5⟩ | ⟨h1,h2⟩
  · refine zBD hcall hdraw p y (Q:=Q) hs hnr.2 h2 h4 fun e'' a'' w'' ho'=>?_
    exact hq e'' a'' w'' (h5 e'' a'' w'' (xA.trans h3 ho'))
  · exact absurd (hq e a' w' h2).1 h1
 | .b::p,c,b,Q,ψ,tm,ds,h,n,a,w,hs,hn,hst,hc,hq=>by
  cases c <;> try (cases hs; done)
  rename_i id x
  exact wp_block (zBD hcall hdraw p x (Q:=Exit.inBlock id Q) hs hn hst hc hq)
theorem wZ (hcall:yt call):∀ (p:List Stp) (c:CCode) {r:R},zX (uk P call p c r)→zX r
 | [],_,_,h=>h
 | .l::p,c,r,h=>by
  cases c <;> first | exact wZ hcall p _ (xc (fun tm ds h n=>ym hcall _ tm ds h n) h) | exact h.elim
 | .r::p,c,r,h=>by
  cases c <;> first | exact wZ hcall p _ h | exact h.elim
 | .b::p,c,r,h=>by
  cases c <;> first | exact wZ hcall p _ (jZ _ h) | exact h.elim
theorem zAm (hcall:yY P call) (hdraw:qv P F N call) {ψ₀:Psi} {g₀:Fam} {n₀:Key} {w₀:World}:∀ (p:List Stp) (c:Code) {b:Code} {Q:Exit→Act→World→Prop} {r:R} {e:Exit} {a:Act} {w:World},
 subC p c=some b→zu c=true→xA P F N ψ₀ g₀ n₀ w₀ r e a w→zX (uk P call p (zR P F N c) r) →
 (∀ e a w,xA P F N ψ₀ g₀ n₀ w₀ (uk P call p (zR P F N c) r) e a w→Q e a w)→QH P p c Q e a w
 | [],c,b,Q,r,e,a,w,hs,hn,ho,hc,hq=>by
  cases c <;> first | exact hq e a w ho | cases hs
 | .l::p,c,b,Q,r,e,a,w,hs,hn,ho,hc,hq=>by
  cases c <;> try (cases hs; done)
  rename_i x y
  have hnr:zu x=true∧zu y=true:=by simpa [zu] using hn
  have hc:zX (x8 (zi P call (zR P F N y)) (uk P call p (zR P F N x) r)):=hc
  have hab:=fun tm ds h n=>ym (P:=P) hcall.above (zR P F N y) tm ds h n
  refine zAm hcall hdraw p x (Q:=Exit.then (y.wp P Q) Q) hs hnr.1 ho (xc hab hc) fun e a w ho=>?_
  rcases j4 hc ho with ⟨rfl,tm',ds',h',n',ψ',h2,h3,h4,h5⟩ | ⟨h1,h2⟩
  · exact wp_mono (kO hcall hdraw y hnr.2 h2 h4) fun e'' a'' w'' ho'=>hq e'' a'' w'' (h5 e'' a'' w'' (xA.trans h3 ho'))
  · cases e <;> first | exact absurd rfl h1 | exact hq _ _ _ h2
 | .r::p,c,b,Q,r,e,a,w,hs,hn,ho,hc,hq=>by
  cases c <;> try (cases hs; done)
  rename_i x y
  have hnr:zu x=true∧zu y=true:=by simpa [zu] using hn
  exact zAm hcall hdraw p y (Q:=Q) hs hnr.2 ho hc hq
 | .b::p,c,b,Q,r,e,a,w,hs,hn,ho,hc,hq=>by
  cases c <;> try (cases hs; done)
  rename_i id x
  have hc:zX (uc id (uk P call p (zR P F N x) r)):=hc
  refine zAm hcall hdraw p x (Q:=Exit.inBlock id Q) hs hn ho (jZ id hc) fun e a w ho=>?_
  exact uV (fun e a w h=>hq e a w h) ho
end
end
end Go.Ev
namespace Go.Ev
open Go.RowKit
noncomputable section
variable {P:Program}
structure kP where
 T:Nat
 ks:List Key
 θ:TH
def zAx (θ:TH):Bool:=match θ with
 | q::_=>yA q.1 1&&vQ q.2 [(0,1)]
 | []=>false
def zCR (θ:TH):Bool:=match θ with
 | _::_=>true
 | []=>false
def jv (θ:TH):List (Key × Nat)→Bool
 | []=>true
 | q::r=>(match nth θ q.2 with
  | some u=>yA u.1 0&&vQ u.2 [(q.2,1)]
  | none=>false)&&jv θ r
def LensAre (wins:List Win) (L:List (Key × Nat)) (σ:Nat→Int):Prop:=∀ q∈L,∃ wn,findW wins q.1=some wn∧σ q.2=wn.len
theorem zGN {θ:TH}:∀ {L:List (Key × Nat)},jv θ L=true→∀ q∈L,nth θ q.2=some (0,[(q.2,1)])
 | [],_,q,h=>by cases h
 | x::r,h,q,hq=>by
  unfold jv at h
  rw [Bool.and_eq_true] at h
  rcases List.mem_cons.1 hq with rfl | hq
  · have h1:=h.1
    split at h1
    · rename_i u hu
      rw [Bool.and_eq_true,@zb noSym,decide_eq_true_eq] at h1
      rw [hu]
      obtain ⟨a,b⟩:=u
      simp only at h1
      rw [h1.1,@we noSym _ _ h1.2]
    · cases h1
  · exact zGN h.2 q hq
def zCi (G:Nat) (ws:List (Key × Nat)) (Ts:List TS) (ok:kP→Bool) (K:za) (t:kP) (tm:Tm) (ds:xP) (h:zC) (n:Key):Bool:=match ds with
 | []=>match nth Ts t.T with
  | some T=>zTS T fun T=>ok t&&zJ3 G ws T t.ks t.θ K tm h&&Nat.ble (Nat.succ n.ix) 65535
  | none=>false
 | _=>false
def jx (G:Nat) (ws:List (Key × Nat)) (Ts:List TS) (ok:kP→Bool) (K:za) (fin:R→Bool):R→List kP→Option (List kP)
 | .ok .normal tm ds h n,t::r=>match zCi G ws Ts ok K t tm ds h n with
  | true=>some r
  | false=>none
 | .ok (.exit i) tm ds h n,r=>match fin (.ok (.exit i) tm ds h n) with
  | true=>some r
  | false=>none
 | .ok .ret tm ds h n,r=>match fin (.ok .ret tm ds h n) with
  | true=>some r
  | false=>none
 | .fork a b,r=>match jx G ws Ts ok K fin a r with
  | some r=>jx G ws Ts ok K fin b r
  | none=>none
 | _,_=>none
def ko (o:Option (List kP)):Bool:=match o with
 | some _=>true
 | none=>false
section
variable {G:Nat} {ws:List (Key × Nat)} {Ts:List TS} {ok:kP→Bool} {K:za} {fin:R→Bool}
theorem jC (hf:∀ r,fin r=true→zX r):∀ {r:R} {l l':List kP},jx G ws Ts ok K fin r l=some l'→zX r
 | .ok .normal tm ds h n,[],_,hc=>by cases hc
 | .ok .normal tm ds h n,t::r,l',hc=>by
  unfold jx at hc
  split at hc
  · rename_i hl
    unfold zCi at hl
    split at hl
    · split at hl
      · rw [zLt,Bool.and_eq_true] at hl
        exact @zL noSym _ _ hl.2
      · cases hl
    · cases hl
  · cases hc
 | .ok (.exit i) tm ds h n,l,l',hc=>by
  unfold jx at hc
  split at hc
  · rename_i h1; exact hf _ h1
  · cases hc
 | .ok .ret tm ds h n,l,l',hc=>by
  unfold jx at hc
  split at hc
  · rename_i h1; exact hf _ h1
  · cases hc
 | .ret ..,l,l',hc=>by cases hc
 | .err _,l,l',hc=>by cases hc
 | .fork a b,l,l',hc=>by
  unfold jx at hc
  split at hc
  · rename_i r hr
    exact ⟨jC hf hr,jC hf hc⟩
  · cases hc
def zTo (P:Program) (F N:Nat) (ψ₀:Psi) (g₀:Fam) (n₀:Key) (w₀:World) (G:Nat) (ws:List (Key × Nat)) (Ts:List TS) (ok:kP→Bool) (K:za) (fin:R→Bool) (S:Sym) (e:Exit) (a:Act) (w:World):Prop:=
 (e=.normal∧∃ (tm:Tm) (h:zC) (n:Key) (ψ:Psi) (t:kP) (T:TS),@St S P F N ψ tm [] h n a w∧@yF S ψ₀ g₀ n₀ w₀ ψ (zC.fam h) n w∧nth Ts t.T=some T∧ok t=true∧zJ3 G ws T t.ks t.θ K tm h=true) ∨
 (e≠.normal∧∃ r,@xA S P F N ψ₀ g₀ n₀ w₀ r e a w∧fin r=true)
theorem wX {S:Sym} {F N:Nat} {ψ₀:Psi} {g₀:Fam} {n₀:Key} {w₀:World} {e:Exit} {a:Act} {w:World}:∀ {r:R} {l l':List kP},jx G ws Ts ok K fin r l=some l' →
 @xA S P F N ψ₀ g₀ n₀ w₀ r e a w→zTo P F N ψ₀ g₀ n₀ w₀ G ws Ts ok K fin S e a w
 | .ok .normal tm ds h n,[],_,hc,_=>by cases hc
 | .ok .normal tm ds h n,t::r,l',hc,⟨h1,ψ,h2,h3,h4⟩=>by
  unfold jx at hc
  split at hc
  · rename_i hl
    unfold zCi at hl
    split at hl
    · split at hl
      · rename_i T hT
        rw [zLt,Bool.and_eq_true,Bool.and_eq_true] at hl
        cases e <;> first | exact h1.elim | skip
        exact Or.inl ⟨rfl,tm,h,n,ψ,t,T,h2,h3,hT,hl.1.1,hl.1.2⟩
      · cases hl
    · cases hl
  · cases hc
 | .ok (.exit i) tm ds h n,l,l',hc,ho=>by
  unfold jx at hc
  split at hc
  · rename_i hf
    refine Or.inr ⟨fun e1=>?_,_,ho,hf⟩
    subst e1; exact ho.1.elim
  · cases hc
 | .ok .ret tm ds h n,l,l',hc,ho=>by
  unfold jx at hc
  split at hc
  · rename_i hf
    refine Or.inr ⟨fun e1=>?_,_,ho,hf⟩
    subst e1; exact ho.1.elim
  · cases hc
 | .ret ..,l,l',hc,_=>by cases hc
 | .err _,l,l',hc,_=>by cases hc
 | .fork a b,l,l',hc,ho=>by
  unfold jx at hc
  split at hc
  · rename_i r hr
    rcases ho with ho | ho
    · exact wX hr ho
    · exact wX hc ho
  · cases hc
end
structure zOV (P:Program) (F N:Nat) (G:Nat) (A:Key→Option Value) (wins:List Win) (L:List (Key × Nat)) (w0:World) (T:TS) (σ:Nat→Int) (ψ:Psi) (a:Act) (w:World):Prop where
 bnd:zt σ 0 T.b
 fct:qu σ T.f
 rul:xd σ T.r
 len:LensAre wins L σ
 st:∀ σ' K',(∀ j,j<T.b.length→σ' j=σ j)→K'.arg=A→@St (linSym σ' K') P F N ψ (uP T.locs) [] (mkH .nil T.objs) T.n a w
 own:∀ k o p,zC.fam (mkH .nil T.objs) k=some o→ψ k=some p→o.isRo=false∧w0.heap.size≤p.blk
 blw:Below w0.heap.size w0 w
 win:∀ k wn,findW wins k=some wn→zC.fam (mkH .nil T.objs) k=none→ψ k=some ⟨wn.B,wn.x+(σ 0).toNat*wn.esz,wn.sz,fun n=>n⟩
theorem zFk {S:Sym} {ψ ψ':Psi} {g g':Fam} {n n':Key} {w0 w w':World} (h:Below w0.heap.size w0 w) (hp:@yF S ψ g n w ψ' g' n' w') (hm:∀ k o p,g k=some o→o.isRo=false→ψ k=some p→w0.heap.size≤p.blk) :
 Below w0.heap.size w0 w':=by
 have h1:=@yF.os S _ _ _ _ _ _ _ _ hp
 have h2:=@yF.tape S _ _ _ _ _ _ _ _ hp
 have h3:=@yF.output S _ _ _ _ _ _ _ _ hp
 have h4:=@yF.size S _ _ _ _ _ _ _ _ hp
 have h5:=@yF.frame S _ _ _ _ _ _ _ _ hp
 refine ⟨h1.trans h.os,h2.trans h.tape,h3.trans h.output,Nat.le_trans h.size h4,fun k hk=>?_⟩
 rw [h5 k (Nat.lt_of_lt_of_le hk h.size) fun k' o p q1 q2 q3 e=>?_,h.block k hk]
 have:=hm k' o p q1 q2 q3
 omega
theorem zMK {h:zC}:∀ {objs:List (Key × CObj)} {j:Nat} {k:Key} {o:CObj},objs[j]? = some (k,o)→∃ o',ze k (mkH h objs)=some o'
 | [],j,k,o,hj=>by simp at hj
 | p::r,j,k,o,hj=>by
  show ∃ o',ze k (yj (some p.2) p.1 (mkH h r))=some o'
  rw [kY]
  split
  · exact ⟨_,rfl⟩
  · rename_i e
    cases j with
    | zero=>simp at hj; subst hj; exact absurd rfl e
    | succ j=>exact zMK (j:=j) (by simpa using hj)
theorem zPu {objs:List (Key × CObj)} {ks:List Key} {k:Key} (h:zC.fam (mkH .nil objs) k=none):zCk (je objs ks) k=true:=by
 unfold zCk
 split
 · rfl
 · rename_i b hb
   obtain ⟨j,o,h1,h2⟩:=zF0 hb
   obtain ⟨o',h3⟩:=zMK (h:=.nil) h1
   have h:ze k (mkH .nil objs)=none:=h
   rw [h] at h3; cases h3
theorem zLj {L:List (Key × Nat)} {wins:List Win} {σs:Nat→Int} {Ks:za} (hK:KnownOk σs Ks) (hlen:LensAre wins L σs) {θ:TH} {T:TS} {ks:List Key} {G F N:Nat} {ψ₀ ψ:Psi} {g₀:Fam} {n₀:Key} {w0 w₀:World} {tm:Tm} {h:zC} {n:Key} {a:Act} {w:World}
 (hst:@St (linSym σs Ks) P F N ψ tm [] h n a w) (hp:@yF (linSym σs Ks) ψ₀ g₀ n₀ w₀ ψ (zC.fam h) n w) (hG:P.globals.size≤G) (hA:ArgsAre Ks.arg wins) (hc:zJ3 G (wsOf wins) T ks θ Ks tm h=true)
 (h0:∃ q,nth θ 0=some q) (hL:jv θ L=true) (hm:∀ k o p,g₀ k=some o→o.isRo=false→ψ₀ k=some p→w0.heap.size≤p.blk) (hb:Below w0.heap.size w0 w₀) :
 ∃ σ ψT,zOV P F N G Ks.arg wins L w0 T σ ψT a w∧∀ q,nth θ 0=some q→σ 0=evQ σs q:=by
 obtain ⟨σ,hσ⟩:∃ σ:Nat→Int,∀ j,σ j=match nth θ j with | some q=>evQ σs q | none=>0:=⟨_,fun _=>rfl⟩
 have hth:∀ j q,nth θ j=some q→σ j=evQ σs q:=fun j q hj=>by rw [hσ,hj]
 obtain ⟨q0,hq0⟩:=h0
 obtain ⟨ψT,c1,c2,c3⟩:=zQk hst hG hA hc (evQ σs q0) (fun q hq=>by rw [hq0] at hq; injection hq with hq; rw [hq]) ⟨q0,hq0⟩
 have hc':=hc
 unfold zJ3 at hc'
 simp only [Bool.and_eq_true] at hc'
 obtain ⟨⟨⟨⟨⟨⟨_,_⟩,c6⟩,c7⟩,_⟩,_⟩,c10⟩:=hc'
 obtain ⟨hlenb,hbd⟩:=zNs hK (σT:=σ) (k:=0) c6 (fun j q hj=>by rw [Nat.zero_add]; exact hth j q hj)
 have hout:=@yF.img (linSym σs Ks) _ _ _ _ _ _ _ _ hp
 have hsz:=@yF.size (linSym σs Ks) _ _ _ _ _ _ _ _ hp
 refine ⟨σ,ψT,⟨hbd,zM5 hK (fun j q hj=>hth j q hj) c7,zDV (fun j q hj=>hth j q hj) hK.rules c10,fun q hq=>?_,fun σ' K' hag hK'=>?_,fun k o p h1 h2=>?_,zFk hb hp hm,fun k wn hw hno=>?_⟩,fun q hq=>hth 0 q hq⟩
 · obtain ⟨wn,h1,h2⟩:=hlen q hq
   refine ⟨wn,h1,?_⟩
   rw [hth _ _ (zGN hL q hq)]
   show (0:Int)+(1*σs q.2+0)=_
   rw [h2]; omega
 · refine c1 σ' K' (fun j q hj=>?_) hK'
   have hlt:j<T.b.length:=by
    rw [hlenb]
    rw [@nth_eq noSym] at hj
    exact (List.getElem?_eq_some_iff.1 hj).1
   rw [hag j hlt]
   exact hth j q hj
 · obtain ⟨g1,k0,o0,p0,g2,g3,g4,g5⟩:=c2 k o p h1 h2
   refine ⟨g1,?_⟩
   rw [← g5]
   rcases hout k0 o0 p0 g2 g3 g4 with ⟨k1,o1,p1,r1,r2,r3,r4⟩ | r
   · rw [← r4]; exact hm k1 o1 p1 r1 r2 r3
   · exact Nat.le_trans hb.size (Nat.le_trans (by exact Nat.le_refl _) r)
 · rw [c3.1 k wn hw (zPu hno),hth 0 q0 hq0]
def zSa:CV→Option Key
 | .sl k _ _ _ _ _=>some k
 | .win k _ _ _=>some k
 | _=>none
def zQf (wins:List Win) (i:Int) (ψ:Psi) (c:CV):Prop:=∀ k wn,zSa c=some k→findW wins k=some wn→ψ k=some ⟨wn.B,wn.x+i.toNat*wn.esz,wn.sz,fun n=>n⟩
def zAX (S:Sym) (wins:List Win) (w0:World) (i:Int) (q:Key × List CV):Prop:=
 ∃ wn arr elem fz,findW wins q.1=some wn∧w0.heap[wn.B]? = some (.cells arr elem fz)∧wn.x+i.toNat*wn.esz+q.2.length≤arr.size ∧
  ∀ (j:Nat) (c:CV),q.2[j]? = some c→∃ v,arr[wn.x+i.toNat*wn.esz+j]? = some v∧∀ ψ,zQf wins i ψ c→@zH S ψ c v
def zAS (l:List (Key × List CV)):List (Key × CObj):=l.map fun q=>(q.1,.ro q.2)
def zF5 (objs:List (Key × CObj)):List CV→Bool
 | []=>true
 | c::r=>(match zSa c with
  | none=>true
  | some k=>(match ze k (mkH .nil objs) with
   | none=>true
   | some _=>false))&&zF5 objs r
theorem zGO {objs:List (Key × CObj)}:∀ {l:List CV},zF5 objs l=true→∀ (j:Nat) c k,l[j]? = some c→zSa c=some k→ze k (mkH .nil objs)=none
 | [],_,j,c,k,hj,_=>by simp at hj
 | x::r,h,j,c,k,hj,hk=>by
  unfold zF5 at h
  rw [Bool.and_eq_true] at h
  cases j with
  | zero=>
   simp at hj
   subst hj
   have h1:=h.1
   rw [hk] at h1
   simp only at h1
   split at h1
   · assumption
   · cases h1
  | succ j=>exact zGO h.2 j c k (by simpa using hj) hk
def jU (objs:List (Key × CObj)):List (Key × List CV)→Bool
 | []=>true
 | q::r=>zF5 objs q.2&&(match ze q.1 (mkH .nil objs) with
  | none=>true
  | some _=>false)&&(match ze q.1 (mkH .nil (zAS r)) with
  | none=>true
  | some _=>false)&&jU objs r
theorem zQn {l:List (Key × List CV)} {j:Nat} {k:Key} {o:CObj} (h:(zAS l)[j]? = some (k,o)):∃ cs,(k,cs)∈l∧o=.ro cs:=by
 unfold zAS at h
 rw [List.getElem?_map] at h
 cases hq:l[j]? with
 | none=>rw [hq] at h; cases h
 | some q=>
  rw [hq] at h
  injection h with h
  injection h with h1 h2
  subst h1 h2
  exact ⟨q.2,List.mem_of_getElem? hq,rfl⟩
theorem zDm {objs:List (Key × CObj)}:∀ {l:List (Key × List CV)},jU objs l=true→∀ q∈l,ze q.1 (mkH .nil objs)=none
 | [],_,q,hq=>by cases hq
 | x::r,h,q,hq=>by
  unfold jU at h
  simp only [Bool.and_eq_true] at h
  rcases List.mem_cons.1 hq with rfl | hq
  · have h1:=h.1.1.2
    split at h1
    · assumption
    · cases h1
  · exact zDm h.2 q hq
theorem zFV {objs:List (Key × CObj)}:∀ {l:List (Key × List CV)},jU objs l=true→∀ q∈l,zF5 objs q.2=true
 | [],_,q,hq=>by cases hq
 | x::r,h,q,hq=>by
  unfold jU at h
  simp only [Bool.and_eq_true] at h
  rcases List.mem_cons.1 hq with rfl | hq
  · exact h.1.1.1
  · exact zFV h.2 q hq
theorem vW {objs:List (Key × CObj)} {l:List (Key × List CV)} {k:Key} {o:CObj} (h:zC.fam (mkH (mkH .nil objs) (zAS l)) k=some o) :
 (∃ cs,(k,cs)∈l∧o=.ro cs)∨zC.fam (mkH .nil objs) k=some o:=by
 rcases x9 h with ⟨j,hj⟩ | h
 · exact .inl (zQn hj)
 · exact .inr h
section
variable {F N G:Nat} {A:Key→Option Value} {wins:List Win} {L:List (Key × Nat)} {w0:World} {T:TS} {σ:Nat→Int} {ψ:Psi} {a:Act} {w:World}
theorem zKw (hi:zOV P F N G A wins L w0 T σ ψ a w) {σ':Nat→Int} {K':za} (hag:∀ j,j<T.b.length→σ' j=σ j) (hA:K'.arg=A) {l:List (Key × List CV)}
 (hl:∀ q∈l,zAX (linSym σ' K') wins w0 (σ 0) q) (hap:jU T.objs l=true) :
 @St (linSym σ' K') P F N ψ (uP T.locs) [] (mkH (mkH .nil T.objs) (zAS l)) T.n a w:=by
 have hst:=hi.st σ' K' hag hA
 have hR:@Rel (linSym σ' K') ψ (zC.fam (mkH .nil T.objs)) w:=@St.rel (linSym σ' K') _ _ _ _ _ _ _ _ _ _ hst
 have hTot:=@Rel.tot (linSym σ' K') _ _ _ hR
 have hOn:=@Rel.on (linSym σ' K') _ _ _ hR
 have hInj:=@Rel.inj (linSym σ' K') _ _ _ hR
 have hwin:∀ k cs,(k,cs)∈l→∃ wn arr elem fz,findW wins k=some wn∧ψ k=some ⟨wn.B,wn.x+(σ 0).toNat*wn.esz,wn.sz,fun n=>n⟩∧w.heap[wn.B]? = some (.cells arr elem fz)∧wn.B<w0.heap.size ∧
  wn.x+(σ 0).toNat*wn.esz+cs.length≤arr.size ∧
  ∀ (j:Nat) (c:CV),cs[j]? = some c→∃ v,arr[wn.x+(σ 0).toNat*wn.esz+j]? = some v∧@zH (linSym σ' K') ψ c v:=by
  intro k cs hm
  obtain ⟨wn,arr,elem,fz,h1,h2,h5,h6⟩:=hl _ hm
  have hlt:wn.B<w0.heap.size:=by
   rcases Nat.lt_or_ge wn.B w0.heap.size with h | h
   · exact h
   · rw [Array.getElem?_eq_none h] at h2; cases h2
  exact ⟨wn,arr,elem,fz,h1,hi.win k wn h1 (zDm hap _ hm),by rw [hi.blw.block _ hlt]; exact h2,hlt,h5,fun j c hj=>by
   obtain ⟨v,hv,hr⟩:=h6 j c hj
   exact ⟨v,hv,hr ψ fun k' wn' hk' hw'=>hi.win k' wn' hw' (zGO (zFV hap _ hm) j c k' hj hk')⟩⟩
 refine @St.mk (linSym σ' K') P F N _ _ _ _ _ _ _ (@St.frame (linSym σ' K') _ _ _ _ _ _ _ _ _ _ hst) (@St.dfr (linSym σ' K') _ _ _ _ _ _ _ _ _ _ hst) ?_ (@St.glob (linSym σ' K') _ _ _ _ _ _ _ _ _ _ hst) (@St.fresh (linSym σ' K') _ _ _ _ _ _ _ _ _ _ hst)
 refine @Rel.mk (linSym σ' K') _ _ _ ?_ ?_ ?_
 · intro k o p hk hp
   rcases vW hk with ⟨cs,hm,rfl⟩ | hk
   · obtain ⟨wn,arr,elem,fz,h1,h2,h3,_,h6,h7⟩:=hwin k cs hm
     rw [h2] at hp
     injection hp with hp; subst hp
     exact ⟨arr,elem,fz,h3,h6,h7⟩
   · exact hOn k o p hk hp
 · intro k o hk
   rcases vW hk with ⟨cs,hm,rfl⟩ | hk
   · obtain ⟨wn,arr,elem,fz,h1,h2,_⟩:=hwin k cs hm
     exact ⟨_,h2⟩
   · exact hTot k o hk
 · intro k₁ k₂ o₁ o₂ p₁ p₂ h1 h2 h3 h4 hr e
   rcases vW h1 with ⟨cs1,m1,rfl⟩ | h1 <;> rcases vW h2 with ⟨cs2,m2,rfl⟩ | h2
   · exact hr.elim (fun h=>by cases h) (fun h=>by cases h)
   · exfalso
     obtain ⟨w1,_,_,_,f1,g1,_,hlt,_⟩:=hwin k₁ cs1 m1
     rw [g1] at h3
     injection h3 with h3; subst h3
     have:=(hi.own _ _ _ h2 h4).2
     simp only at e
     omega
   · exfalso
     obtain ⟨w1,_,_,_,f1,g1,_,hlt,_⟩:=hwin k₂ cs2 m2
     rw [g1] at h4
     injection h4 with h4; subst h4
     have:=(hi.own _ _ _ h1 h3).2
     simp only at e
     omega
   · exact hInj k₁ k₂ o₁ o₂ p₁ p₂ h1 h2 h3 h4 hr e
end
def boundIs (m:Int):List TS→Bool
 | []=>true
 | T::r=>(match T.b with
  | q::_=>decide (q.2≤m)
  | []=>false)&&boundIs m r
theorem zBl {m:Int}:∀ {Ts:List TS} {t:Nat} {T:TS},boundIs m Ts=true→nth Ts t=some T→∃ q r,T.b=q::r∧q.2≤m
 | [],_,_,_,h=>by cases h
 | x::r,t,T,hb,h=>by
  unfold boundIs at hb
  rw [Bool.and_eq_true] at hb
  cases t with
  | zero=>
   injection h with h; subst h
   have h1:=hb.1
   split at h1
   · rename_i q l e
     exact ⟨q,l,e,of_decide_eq_true h1⟩
   · cases h1
  | succ t=>exact zBl hb.2 h
section
variable {code:FuncId→CFn} {nat:Nats} {fuel:Nat} {fn:Func} {c b:Code} {p:List Stp} {rs:List CRes} {G:Nat} {wins:List Win} {L:List (Key × Nat)} {A:Key→Option Value} {Ts:List TS} {bound:Int} {w0:World}
def zGF (P:Program) (code:FuncId→CFn) (nat:Nats) (fuel:Nat) (p:List Stp) (cc:CCode) (rs:List CRes) (S:Sym) (r:R):Bool:=
 allTrue (yk false (@ev S P code nat fuel) rs (@uk S P (@ev S P code nat fuel) p cc r))
def zTy (P:Program) (code:FuncId→CFn) (nat:Nats) (fuel:Nat) (G:Nat) (ws L:List (Key × Nat)) (Ts:List TS) (p:List Stp) (cc:CCode) (rs:List CRes) (T:TS) (l:List (Key × List CV)) (S:Sym) (K:za) (hs:List kP):Bool:=
 ko (jx G ws Ts (fun t=>zAx t.θ&&jv t.θ L) K (zGF P code nat fuel p cc rs S) (@zi S P (@ev S P code nat fuel) (uz p cc) (uP T.locs) [] (mkH (mkH .nil T.objs) (zAS l)) T.n) hs)
def Passes (P:Program) (code:FuncId→CFn) (nat:Nats) (fuel:Nat) (G:Nat) (wins:List Win) (L:List (Key × Nat)) (A:Key→Option Value) (Ts:List TS) (p:List Stp) (cc:CCode) (rs:List CRes) (w0:World):Prop:=
 ∀ t T,nth Ts t=some T→∀ σ,zt σ 0 T.b→qu σ T.f→xd σ T.r→LensAre wins L σ→∃ σ' K' l hs,(∀ j,j<T.b.length→σ' j=σ j)∧(∀ q∈L,σ' q.2=σ q.2)∧K'.arg=A∧KnownOk σ' K'∧(∀ q∈l,zAX (linSym σ' K') wins w0 (σ 0) q)∧jU T.objs l=true ∧
  zTy P code nat fuel G (wsOf wins) L Ts p cc rs T l (linSym σ' K') K' hs=true
theorem zCI {σ:Nat→Int} {K:za} (hK:KnownOk σ K) (hm:P.follows .mixedOrders=true) (hcode:CodeOk P code) (hnat:∀ σ K,KnownOk σ K→@NatsOk (linSym σ K) P nat) {cc:CCode}:∀ r,zGF P code nat fuel p cc rs (linSym σ K) r=true→zX r:=by
 letI S:Sym:=linSym σ K
 haveI hS:SymFact P:=linSym_ok hK
 have hcall:yY P (ev P code nat fuel):=ww (fun call hcall F N=>yy hm hcall) hcode (hnat _ _ hK) fuel
 intro r h
 have h:allTrue (yk false (ev P code nat fuel) rs (uk P (ev P code nat fuel) p cc r))=true:=h
 exact wZ hcall.above p cc (xO hcall.above false rs (qo h))
abbrev zGv (P:Program) (fn:Func) (w0:World):Exit→Act→World→Prop:=bodyPostD P fn fun e w=>e=.returned (.bool true)∧Below w0.heap.size w0 w
theorem zIP {σ:Nat→Int} {K:za} (hK:KnownOk σ K) (hm:P.follows .mixedOrders=true) (hcode:CodeOk P code) (hnat:∀ σ K,KnownOk σ K→@NatsOk (linSym σ K) P nat) {F N:Nat} (hsub:subC p c=some b) (hn:zu c=true)
 (hrs:yn (xI P F N) fn.results.toList=some rs) {ψ₀:Psi} {g₀:Fam} {n₀:Key} {w₀:World} {r:R} {e:Exit} {a:Act} {w:World}
 (ho:@xA (linSym σ K) P F N ψ₀ g₀ n₀ w₀ r e a w) (hf:zGF P code nat fuel p (zR P F N c) rs (linSym σ K) r=true)
 (hb:Below w0.heap.size w0 w₀) (ho0:∀ k o p,g₀ k=some o→o.isRo=false→ψ₀ k=some p→w0.heap.size≤p.blk):QH P p c (zGv P fn w0) e a w:=by
 letI S:Sym:=linSym σ K
 haveI hS:SymFact P:=linSym_ok hK
 have hcall:yY P (ev P code nat fuel):=ww (fun call hcall F N=>yy hm hcall) hcode (hnat _ _ hK) fuel
 have hdraw:qv P F N (ev P code nat fuel):=yy hm hcall
 have hf:allTrue (yk false (ev P code nat fuel) rs (uk P (ev P code nat fuel) p (zR P F N c) r))=true:=hf
 have hc:=qo hf
 have hc2:=xO hcall.above false rs hc
 refine zAm hcall hdraw p c hsub hn ho hc2 fun e a w ho=>?_
 refine wB false rs hc ho fun tm ds h' n' ψ' q1 q2 q3 q4 q5=>?_
 have hl:=zGU hcall hrs q2 q4
 have:Leaves P fn a.tmps (fun e w=>e=.returned (.bool true)∧Below w0.heap.size w0 w) a.defers .returning w:=by
  refine jX (fun e w'' ⟨v,he,hr⟩=>?_) _ _ _ hl
  obtain ⟨rfl,ψ'',g'',n'',hp⟩:=w4 hf (q5 _ _ (zo.trans q3 hr))
  exact ⟨he,zFk hb hp ho0⟩
 rcases q1 with rfl | rfl
 · exact this
 · exact this
end
end
end Go.Ev
namespace Go.Ev
open Go.RowKit
noncomputable section
variable {P:Program}
theorem zBr {f:FuncId} {fn:Func} {c:Code} {cc:CCode} {rs:List CRes} (hf:P.funcs[f]? = some fn) (hb:fn.body=some c) (h:compFn P f=.mk cc rs) :
 yn (xI P (frameBits fn c) fn.ntmps) fn.results.toList=some rs∧zu c=true∧cc=zR P (frameBits fn c) fn.ntmps c:=by
 unfold compFn at h
 rw [@nth_eq noSym] at h
 have hf':P.funcs.toList[f]? = some fn:=by simpa using hf
 simp only [hf',hb] at h
 split at h
 · cases h
 · unfold zBt at h
   cases hrs:yn (xI P (frameBits fn c) fn.ntmps) fn.results.toList with
   | none=>simp only [hrs] at h; cases h
   | some r=>
    simp only [hrs] at h
    split at h
    · rename_i hn
      injection h with h1 h2
      subst h1 h2
      exact ⟨rfl,hn,rfl⟩
    · split at h
      · split at h <;> cases h
      · cases h
def psiW (G:Nat) (wins:List Win):Psi:=fun k=>match findW wins k with
 | some w=>some ⟨w.B,w.x+0*w.esz,w.sz,fun n=>n⟩
 | none=>zGi G k
theorem zNI {G:Nat} {wins:List Win} {hi:Nat} (hG:P.globals.size≤G) (hw:zGs G hi (wsOf wins)=true):wd P (psiW G wins):=by
 intro g hg h4
 obtain ⟨sz,e⟩:=@zDb noSym P zP5 _ hG g hg h4
 have hix:(Key.ofNat g).ix=g:=@Key.ix_ofNat noSym _ (by omega)
 have hnw:findW wins (Key.ofNat g)=none:=by
  cases hr:findW wins (Key.ofNat g) with
  | none=>rfl
  | some wn=>
   obtain ⟨hm,hk⟩:=j0 hr
   have:=(zHX hw wn hm).1
   rw [hk] at this; omega
 refine ⟨sz,?_⟩
 unfold psiW
 rw [hnw]
 exact e
theorem zLw {G:Nat} {wins:List Win} {n:Key} (hn:G≤n.ix) (hw:zGs G n.ix (wsOf wins)=true):qW (psiW G wins) n:=by
 intro k hk
 have hnw:findW wins k=none:=by
  cases hr:findW wins k with
  | none=>rfl
  | some wn=>
   obtain ⟨hm,hk'⟩:=j0 hr
   have:=(zHX hw wn hm).2
   rw [hk'] at this; omega
 unfold psiW
 rw [hnw]
 exact @zBn noSym _ _ hn k hk
def startOf (P:Program) (code:FuncId→CFn) (nat:Nats) (fuel:Nat) (G:Nat) (ws L:List (Key × Nat)) (Ts:List TS) (p:List Stp) (cc:CCode) (args:List CV) (n:Key) (S:Sym) (K:za) (hs:List kP):Bool:=
 ko (jx G ws Ts (fun t=>zCR t.θ&&jv t.θ L) K (fun _=>false) (@zD3 S P (@ev S P code nat fuel) p cc (qQ args 0 .nil) [] .nil n) hs)
end
end Go.Ev
