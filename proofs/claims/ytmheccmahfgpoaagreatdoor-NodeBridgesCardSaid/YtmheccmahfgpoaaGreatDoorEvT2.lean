/- A verified evaluator for the model's code: EvCov, EvLoop, EvInv, EvTwo. -/
import Derived.Test.YtmheccmahfgpoaaGreatDoorEvSym
set_option linter.unusedSectionVars false
set_option linter.unusedVariables false
set_option linter.unusedSimpArgs false
namespace Go.Ev
noncomputable section
variable {P:Program}
abbrev TH:=List (Int × LL)
def uR (θ:TH):LL→Option (Int × LL)
 | []=>some (0,[])
 | p::r=>match nth θ p.1,uR θ r with
  | some q,some s=>some (p.2*q.1+s.1,zBu (uT p.2 q.2) s.2)
  | _,_=>none
def jc (σs σT:Nat→Int) (θ:TH):Prop:=∀ j q,nth θ j=some q→σT j=q.1+evL σs q.2
theorem zAp {σs σT:Nat→Int} {θ:TH} (hθ:jc σs σT θ):∀ {l:LL} {s:Int × LL},uR θ l=some s→evL σT l=s.1+evL σs s.2
 | [],s,h=>by
  injection h with h; subst h
  simp [evL]
 | p::r,s,h=>by
  unfold uR at h
  split at h
  · rename_i q u hq hu
    injection h with h; subst h
    have h1:=hθ _ _ hq
    have h2:=zAp hθ hu
    show p.2*σT p.1+evL σT r=_
    rw [h1,h2,u0,wq,Int.mul_add]
    omega
  · cases h
def ui (θ:TH) (e:SE) (v:CV):Bool:=match zA9 v with
 | some (k,c,l)=>match uR θ e.l with
  | some s=>kEq e.k k&&zx (e.c+s.1) c&&vA s.2 l
  | none=>false
 | none=>false
def zg (m:Heap) (k:Key):Option Key:=match getH k m with
 | some (.cells (.ptr b _::_))=>some b
 | _=>none
def kg (ρ:Heap) (k j:Key):Bool:=match zg ρ k with
 | some b=>Nat.beq b.ix j.ix
 | none=>false
def zHp (k:IntKind) (v:CV):Bool:=match v with
 | .anyi j=>kEq k j
 | v=>match zA9 v with
  | some (j,_,_)=>kEq k j
  | none=>false
def zHP:List (List Nat)→List (List Nat)→Bool
 | [],[]=>true
 | a::l,b::m=>xq a b&&zHP l m
 | _,_=>false
theorem zG6:∀ {a b:List (List Nat)},zHP a b=true→a=b
 | [],[],_=>rfl
 | [],_::_,h=>by cases h
 | _::_,[],h=>by cases h
 | a::l,b::m,h=>by
  unfold zHP at h
  rw [Bool.and_eq_true,@jq noSym,decide_eq_true_eq] at h
  rw [h.1,zG6 h.2]
mutual
def zw (ρ:Heap) (θ:TH):CV→CV→Bool
 | .any,_=>true
 | .sym e,v=>ui θ e v
 | .bool a,.bool b=>a == b
 | .nat a,.nat b=>Nat.beq a b
 | .int k a,.int j b=>kEq k j&&zx a b
 | .anyi k,v=>zHp k v
 | .str a,.str b=>xq a b
 | .nilptr,.nilptr=>true
 | .ptr k o,.ptr j p=>kg ρ k j&&Nat.beq o p
 | .nilsl,.nilsl=>true
 | .sl k o l c e x,.sl k' o' l' c' e' x'=>kg ρ k k'&&Nat.beq o o'&&Nat.beq l l'&&Nat.beq e e'&&x == x'&&(Nat.beq c c' || (!x&&Nat.ble c c'))
 | .nilmap,.nilmap=>true
 | .map k,.map j=>kg ρ k j
 | .func f a b,.func g c d=>decide (f=g)&&k7 ρ θ a c&&k7 ρ θ b d
 | .nilfunc,.nilfunc=>true
 | .iface t v,.iface u w=>Nat.beq t u&&zw ρ θ v w
 | .niliface,.niliface=>true
 | .agg a,.agg b=>k7 ρ θ a b
 | .tup a,.tup b=>k7 ρ θ a b
 | .sst a,.sst b=>k7 ρ θ a b
 | .sst a,.str s=>k7 ρ θ a (xk s)
 | .few i t,.str s=>match nth θ i with
  | some q=>match q.1,q.2 with
   | .ofNat c,[]=>match nth t c with
    | some x=>xq x s
    | none=>false
   | _,_=>false
  | none=>false
 | .few i t,.few j u=>match nth θ i with
  | some q=>zx q.1 0&&vA q.2 [(j,1)]&&zHP t u
  | none=>false
 | _,_=>false
def k7 (ρ:Heap) (θ:TH):List CV→List CV→Bool
 | [],[]=>true
 | a::as,b::bs=>zw ρ θ a b&&k7 ρ θ as bs
 | _,_=>false
end
def zAr (ρ:Heap) (ψs ψT:Psi):Prop:=∀ k j p,kg ρ k j=true→ψs j=some p→∃ p',ψT k=some p'∧p'.blk=p.blk∧p'.off=p.off∧p'.sz=p.sz
section
variable {σs σT:Nat→Int} {Ks KT:zc} {θ:TH} {ρ:Heap} {ψs ψT:Psi}
theorem zMD (hθ:jc σs σT θ) {e:SE} {d:CV} (h:ui θ e d=true) {v:Value} (hv:@zG (linSym σs Ks) ψs d v):v=.int e.k (evE σT e):=by
 unfold ui at h
 split at h
 · rename_i k c l hf
   split at h
   · rename_i s hs
     rw [Bool.and_eq_true,Bool.and_eq_true,@yx noSym,@za noSym,decide_eq_true_eq,decide_eq_true_eq] at h
     have h1:=qb d hf hv
     have h2:=zAp hθ hs
     have h3:=@wT noSym _ _ h.2
     rw [h1,h.1.1,← h.1.2]
     unfold evE
     rw [h2,h3,Int.add_assoc]
   · cases h
 · cases h
theorem zNi {k:IntKind} {d:CV} (h:zHp k d=true) {v:Value} (hv:@zG (linSym σs Ks) ψs d v):∃ n,v=.int k n:=by
 unfold zHp at h
 split at h
 · rename_i j
   rw [@yx noSym,decide_eq_true_eq] at h
   subst h
   exact (@yV (linSym σs Ks) _ _ _).1 hv
 · split at h
   · rename_i j c l hf
     rw [@yx noSym,decide_eq_true_eq] at h
     subst h
     exact ⟨_,qb d hf hv⟩
   · cases h
mutual
theorem qA (hθ:jc σs σT θ) (hψ:zAr ρ ψs ψT):∀ (c d:CV) {v:Value},zw ρ θ c d=true→@zG (linSym σs Ks) ψs d v→@zG (linSym σT KT) ψT c v
 | .any,_,_,_,_=>@qK (linSym σT KT) _ _
 | .sym e,d,v,h,hv=>by
  rw [zw] at h
  rw [@z8 (linSym σT KT)]
  exact zMD hθ h hv
 | .anyi k,d,v,h,hv=>by
  rw [zw] at h
  rw [@yV (linSym σT KT)]
  exact zNi h hv
 | .bool a,d,v,h,hv=>by
  cases d <;> try (simp [zw] at h; done)
  simp only [zw,beq_iff_eq] at h
  subst h
  rw [@zH (linSym σs Ks)] at hv
  rw [@zH (linSym σT KT)]; exact hv
 | .nat a,d,v,h,hv=>by
  cases d <;> try (simp [zw] at h; done)
  simp only [zw] at h
  obtain rfl:=@zu noSym _ _ h
  rw [@zW (linSym σs Ks)] at hv
  rw [@zW (linSym σT KT)]; exact hv
 | .int k a,d,v,h,hv=>by
  cases d <;> try (simp [zw] at h; done)
  simp only [zw,Bool.and_eq_true,@yx noSym,@za noSym,decide_eq_true_eq] at h
  obtain ⟨rfl,rfl⟩:=h
  rw [@zb (linSym σs Ks)] at hv
  rw [@zb (linSym σT KT)]; exact hv
 | .str a,d,v,h,hv=>by
  cases d <;> try (simp [zw] at h; done)
  simp only [zw,@jq noSym,decide_eq_true_eq] at h
  subst h
  rw [@ze (linSym σs Ks)] at hv
  rw [@ze (linSym σT KT)]; exact hv
 | .nilptr,d,v,h,hv=>by
  cases d <;> try (simp [zw] at h; done)
  rw [@xK (linSym σs Ks)] at hv
  rw [@xK (linSym σT KT)]; exact hv
 | .ptr k o,d,v,h,hv=>by
  cases d <;> try (simp [zw] at h; done)
  simp only [zw,Bool.and_eq_true] at h
  obtain rfl:=@zu noSym _ _ h.2
  rw [@zl (linSym σs Ks)] at hv
  obtain ⟨p,hp,rfl⟩:=hv
  obtain ⟨p',h1,h2,h3,h4⟩:=hψ _ _ _ h.1 hp
  rw [@zl (linSym σT KT)]
  exact ⟨p',h1,by rw [h2,h3]⟩
 | .nilsl,d,v,h,hv=>by
  cases d <;> try (simp [zw] at h; done)
  rw [@zp (linSym σs Ks)] at hv
  rw [@zp (linSym σT KT)]; exact hv
 | .sl k o l c e x,d,v,h,hv=>by
  cases d <;> try (simp [zw] at h; done)
  rename_i k' o' l' c' e' x'
  simp only [zw,Bool.and_eq_true,beq_iff_eq] at h
  obtain ⟨⟨⟨⟨⟨hk,ho⟩,hl⟩,he⟩,hx⟩,hc⟩:=h
  obtain rfl:=@zu noSym _ _ ho
  obtain rfl:=@zu noSym _ _ hl
  obtain rfl:=@zu noSym _ _ he
  subst hx
  rw [@zz (linSym σs Ks)] at hv
  obtain ⟨p,y,cap',hp,rfl,h1,h2,h3,h4⟩:=hv
  obtain ⟨p',g1,g2,g3,g4⟩:=hψ _ _ _ hk hp
  rw [@zz (linSym σT KT)]
  refine ⟨p',y,cap',g1,by rw [g2],?_,h2,?_,?_⟩
  · rw [Bool.or_eq_true,Bool.and_eq_true] at hc
    rcases hc with hc | hc
    · rw [@zu noSym _ _ hc]; exact h1
    · have:=@zJ noSym _ _ hc.2; omega
  · intro hx
    subst hx
    rw [Bool.or_eq_true,Bool.and_eq_true] at hc
    rcases hc with hc | hc
    · rw [@zu noSym _ _ hc]; exact h3 rfl
    · simp at hc
  · rw [g3,g4]; exact h4
 | .nilmap,d,v,h,hv=>by
  cases d <;> try (simp [zw] at h; done)
  rw [@yK (linSym σs Ks)] at hv
  rw [@yK (linSym σT KT)]; exact hv
 | .map k,d,v,h,hv=>by
  cases d <;> try (simp [zw] at h; done)
  simp only [zw] at h
  rw [@yY (linSym σs Ks)] at hv
  obtain ⟨p,hp,rfl⟩:=hv
  obtain ⟨p',h1,h2,h3,h4⟩:=hψ _ _ _ h hp
  rw [@yY (linSym σT KT)]
  exact ⟨p',h1,by rw [h2]⟩
 | .func f a b,d,v,h,hv=>by
  cases d <;> try (simp [zw] at h; done)
  simp only [zw,Bool.and_eq_true,decide_eq_true_eq] at h
  obtain ⟨⟨rfl,h1⟩,h2⟩:=h
  rw [@yy (linSym σs Ks)] at hv
  obtain ⟨a',b',rfl,g1,g2⟩:=hv
  rw [@yy (linSym σT KT)]
  exact ⟨a',b',rfl,kN hθ hψ a _ h1 g1,kN hθ hψ b _ h2 g2⟩
 | .nilfunc,d,v,h,hv=>by
  cases d <;> try (simp [zw] at h; done)
  rw [@xA (linSym σs Ks)] at hv
  rw [@xA (linSym σT KT)]; exact hv
 | .iface t x,d,v,h,hv=>by
  cases d <;> try (simp [zw] at h; done)
  simp only [zw,Bool.and_eq_true] at h
  obtain rfl:=@zu noSym _ _ h.1
  rw [@yP (linSym σs Ks)] at hv
  obtain ⟨y,rfl,g⟩:=hv
  rw [@yP (linSym σT KT)]
  exact ⟨y,rfl,qA hθ hψ x _ h.2 g⟩
 | .niliface,d,v,h,hv=>by
  cases d <;> try (simp [zw] at h; done)
  rw [@yR (linSym σs Ks)] at hv
  rw [@yR (linSym σT KT)]; exact hv
 | .agg a,d,v,h,hv=>by
  cases d <;> try (simp [zw] at h; done)
  simp only [zw] at h
  rw [@yc (linSym σs Ks)] at hv
  obtain ⟨a',rfl,g⟩:=hv
  rw [@yc (linSym σT KT)]
  exact ⟨a',rfl,kN hθ hψ a _ h g⟩
 | .tup a,d,v,h,hv=>by
  cases d <;> try (simp [zw] at h; done)
  simp only [zw] at h
  rw [@yM (linSym σs Ks)] at hv
  obtain ⟨a',rfl,g⟩:=hv
  rw [@yM (linSym σT KT)]
  exact ⟨a',rfl,kN hθ hψ a _ h g⟩
 | .sst a,d,v,h,hv=>by
  cases d with
  | sst c=>
   simp only [zw] at h
   rw [@yi (linSym σs Ks)] at hv
   obtain ⟨b,rfl,g⟩:=hv
   rw [@yi (linSym σT KT)]
   exact ⟨b,rfl,kN hθ hψ a _ h g⟩
  | str s=>
   simp only [zw] at h
   rw [@ze (linSym σs Ks)] at hv
   obtain ⟨b,rfl,hb⟩:=hv
   rw [@yi (linSym σT KT)]
   refine ⟨b,rfl,kN hθ hψ a _ h ?_⟩
   have:=@zAl (linSym σs Ks) ψs b
   rw [hb,Array.toList_map] at this
   exact this
  | _=>simp [zw] at h
 | .few i t,d,v,h,hv=>by
  have hval:∀ (σ:Nat→Int) (K:zc) (i:Nat),@Sym.val (linSym σ K) ⟨.i64,0,[(i,1)]⟩=.int .i64 (σ i):=fun σ K i=>by
   show Value.int .i64 (0+(1*σ i+0))=_
   congr 1; omega
  cases d with
  | str s=>
   unfold zw at h
   split at h
   · rename_i q hq
     obtain ⟨q1,q2⟩:=q
     simp only at h
     split at h
     · rename_i c
       split at h
       · rename_i x hx
         rw [@jq noSym,decide_eq_true_eq] at h
         subst h
         have h1:=hθ _ _ hq
         rw [@ze (linSym σs Ks)] at hv
         obtain ⟨b,rfl,hb⟩:=hv
         rw [@jL (linSym σT KT)]
         refine ⟨c,b,?_,rfl,?_⟩
         · rw [hval,h1]
           simp [evL]
         · rw [@nth_eq noSym] at hx
           rw [hx,hb]
       · cases h
     · cases h
   · cases h
  | few j u=>
   unfold zw at h
   split at h
   · rename_i q hq
     rw [Bool.and_eq_true,Bool.and_eq_true,@za noSym,decide_eq_true_eq] at h
     have h1:=hθ _ _ hq
     rw [h.1.1,@wT noSym _ _ h.1.2] at h1
     have h2:=zG6 h.2
     subst h2
     rw [@jL (linSym σs Ks)] at hv
     obtain ⟨m,b,g1,rfl,g3⟩:=hv
     rw [hval] at g1
     rw [@jL (linSym σT KT)]
     refine ⟨m,b,?_,rfl,g3⟩
     rw [hval,h1,← g1]
     congr 1
     show (0:Int)+(1*σs j+0)=_
     omega
   · cases h
  | _=>simp [zw] at h
 | .win ..,d,v,h,hv=>by
  cases d <;> simp [zw] at h
 | .elt ..,d,v,h,hv=>by
  cases d <;> simp [zw] at h
theorem kN (hθ:jc σs σT θ) (hψ:zAr ρ ψs ψT):∀ (cs ds:List CV) {l:List Value},k7 ρ θ cs ds=true→@zS (linSym σs Ks) ψs ds l→@zS (linSym σT KT) ψT cs l
 | [],[],l,_,hl=>by
  rw [@zM (linSym σs Ks)] at hl
  rw [@zM (linSym σT KT)]; exact hl
 | [],_::_,_,h,_=>by simp [k7] at h
 | _::_,[],_,h,_=>by simp [k7] at h
 | c::cs,d::ds,l,h,hl=>by
  simp only [k7,Bool.and_eq_true] at h
  rw [@zY (linSym σs Ks)] at hl
  obtain ⟨v,r,rfl,h1,h2⟩:=hl
  exact (@zT (linSym σT KT) _ _ _ _ _).2 ⟨qA hθ hψ c d h.1 h1,kN hθ hψ cs ds h.2 h2⟩
end
def qE (ρ:Heap) (θ:TH):List CV→List CV→Bool
 | [],_=>true
 | a::as,b::bs=>zw ρ θ a b&&qE ρ θ as bs
 | _::_,[]=>false
def zGk (ρ:Heap) (θ:TH):List CE→List CE→Bool
 | [],[]=>true
 | a::as,b::bs=>zw ρ θ a.key b.key&&zw ρ θ a.val b.val&&zGk ρ θ as bs
 | _,_=>false
def zRM:List Nat→List Nat→Bool
 | [],_=>true
 | _::_,[]=>false
 | a::x,b::y=>match Nat.beq a b with
  | true=>zRM x y
  | false=>Nat.ble a b
def zS8 (a b:CV):Bool:=match a,b with
 | .str x,.str y=>zRM x y
 | .nat x,.nat y=>Nat.ble x y
 | _,_=>true
def zRq (e:CE):List CE→List CE
 | []=>[e]
 | c::l=>match zS8 e.key c.key with
  | true=>e::c::l
  | false=>c::zRq e l
def wu:List CE→List CE
 | []=>[]
 | e::l=>zRq e (wu l)
theorem zGM {e:CE}:∀ {l:List CE},(zRq e l).Perm (e::l)
 | []=>List.Perm.refl _
 | c::l=>by
  unfold zRq
  split
  · exact List.Perm.refl _
  · exact (List.Perm.cons c zGM).trans (List.Perm.swap e c l)
theorem zG7:∀ {l:List CE},(wu l).Perm l
 | []=>List.Perm.refl _
 | e::l=>zGM.trans (List.Perm.cons e zG7)
def zDC (b:Nat):List CE→Bool
 | []=>true
 | e::r=>!(Nat.beq b e.born)&&zDC b r
def upB:List CE→Nat→Bool
 | [],_=>true
 | e::r,clock=>Nat.ble (Nat.succ e.born) clock&&zDC e.born r&&upB r clock
def zRa:List CE→Nat→Nat→Bool
 | [],i,clock=>Nat.beq i clock
 | e::r,i,clock=>Nat.beq e.born i&&zRa r (Nat.succ i) clock
def zQ9 (ρ:Heap) (θ:TH):List (CV × CV)→List (CV × CV)→Bool
 | [],[]=>true
 | a::as,b::bs=>zw ρ θ a.1 b.1&&zw ρ θ a.2 b.2&&zQ9 ρ θ as bs
 | _,_=>false
def zLS (ρ:Heap) (θ:TH):List (CV × CV)→Bool
 | []=>true
 | a::as=>zw ρ θ a.2 (.str [])&&zLS ρ θ as
def zAM (ρ:Heap) (θ:TH):CObj→CObj→Bool
 | .cells a,.cells b=>qE ρ θ a b
 | .cells a,.full _ b=>qE ρ θ a b
 | .map es c,.map es' c'=>zGk ρ θ es (wu es')&&zRa es 0 c&&upB (wu es') c'
 | .mapz a,.mapz b=>zQ9 ρ θ a b
 | .mapz a,.map [] _=>zLS ρ θ a
 | _,_=>false
theorem zCN:∀ {as bs:List CV},qE ρ θ as bs=true→as.length≤bs.length∧∀ (i:Nat) (c:CV),as[i]? = some c→∃ d,bs[i]? = some d∧zw ρ θ c d=true
 | [],bs,_=>⟨Nat.zero_le _,fun i c h=>by simp at h⟩
 | _::_,[],h=>by cases h
 | a::as,b::bs,h=>by
  unfold qE at h
  rw [Bool.and_eq_true] at h
  obtain ⟨h1,h2⟩:=zCN h.2
  refine ⟨by simp; exact h1,fun i c hc=>?_⟩
  cases i with
  | zero=>simp at hc; subst hc; exact ⟨b,rfl,h.1⟩
  | succ i=>exact h2 i c (by simpa using hc)
theorem km (hθ:jc σs σT θ) (hψ:zAr ρ ψs ψT) {as bs:List CV} (h:qE ρ θ as bs=true) {w:World} {p p':Pl} (h1:p'.blk=p.blk) (h2:p'.off=p.off) (h3:p'.sz=p.sz)
 (hc:@yN (linSym σs Ks) ψs w p bs):@yN (linSym σT KT) ψT w p' as:=by
 obtain ⟨arr,elem,fz,g1,g2,g3,g4,g5⟩:=hc
 obtain ⟨q1,q2⟩:=zCN h
 refine ⟨arr,elem,fz,by rw [h1]; exact g1,by rw [h3]; exact g2,by rw [h2,h3]; omega,by rw [h3]; exact g4,fun i c hi=>?_⟩
 obtain ⟨d,hd,hcd⟩:=q2 i c hi
 obtain ⟨x,hx,hr⟩:=g5 i d hd
 exact ⟨x,by rw [h2]; exact hx,qA hθ hψ c d hcd hr⟩
def xr (bs:List CE) (clock:Nat) (j:Nat):Nat:=match bs[j]? with
 | some e=>e.born
 | none=>clock+(j - bs.length)
theorem zIk:∀ {bs:List CE} {clock:Nat},upB bs clock=true→∀ (j:Nat) (e:CE),bs[j]? = some e→e.born<clock
 | [],clock,h,j,e,he=>by simp at he
 | b::bs,clock,h,j,e,he=>by
  unfold upB at h
  rw [Bool.and_eq_true,Bool.and_eq_true] at h
  have h1:=@zJ noSym _ _ h.1.1
  cases j with
  | zero=>simp at he; subst he; omega
  | succ j=>exact zIk h.2 j e (by simpa using he)
theorem zFC {b:Nat}:∀ {l:List CE},zDC b l=true→∀ e∈l,e.born≠b
 | [],_,e,he=>by cases he
 | x::l,h,e,he=>by
  unfold zDC at h
  rw [Bool.and_eq_true] at h
  rcases List.mem_cons.1 he with rfl | he
  · intro q
    rw [← q,@ql noSym] at h; simp at h
  · exact zFC h.2 e he
theorem zOT:∀ {bs:List CE} {clock:Nat},upB bs clock=true→∀ (i j:Nat) (a b:CE),i<j→bs[i]? = some a→bs[j]? = some b→b.born≠a.born
 | [],clock,h,i,j,a,b,_,h1,_=>by simp at h1
 | c::bs,clock,h,i,j,a,b,hij,h1,h2=>by
  unfold upB at h
  rw [Bool.and_eq_true,Bool.and_eq_true] at h
  cases j with
  | zero=>omega
  | succ j=>
   have h2:bs[j]? = some b:=by simpa using h2
   cases i with
   | zero=>
    simp at h1; subst h1
    exact zFC h.1.2 b (List.mem_of_getElem? h2)
   | succ i=>exact zOT h.2 i j a b (by omega) (by simpa using h1) h2
theorem zMP {bs:List CE} {clock:Nat} (h:upB bs clock=true):∀ a b,xr bs clock a=xr bs clock b→a=b:=by
 have key:∀ a b,a<b→xr bs clock a≠xr bs clock b:=by
  intro a b hab
  unfold xr
  cases ha:bs[a]? with
  | none=>
   have hla:=List.getElem?_eq_none_iff.1 ha
   rw [List.getElem?_eq_none (by omega)]
   simp only; omega
  | some x=>
   cases hb:bs[b]? with
   | none=>
    have:=zIk h a x ha
    simp only; omega
   | some y=>
    have:=zOT h a b x y hab ha hb
    simp only; exact fun e=>this e.symm
 intro a b e
 rcases Nat.lt_trichotomy a b with q | q | q
 · exact absurd e (key a b q)
 · exact q
 · exact absurd e.symm (key b a q)
theorem vO {bs:List CE} {clock:Nat} (k:Nat):xr bs clock (bs.length+k)=clock+k:=by
 unfold xr
 rw [List.getElem?_eq_none (by omega)]
 simp only; omega
theorem zOL {bs:List CE} {clock:Nat} (h:upB bs clock=true) (k x:Nat):x<bs.length+k ↔ xr bs clock x<clock+k:=by
 unfold xr
 cases hx:bs[x]? with
 | none=>
  have:=List.getElem?_eq_none_iff.1 hx
  simp only; omega
 | some e=>
  have h1:=zIk h x e hx
  have h2:=(List.getElem?_eq_some_iff.1 hx).1
  simp only
  exact ⟨fun _=>by omega,fun _=>by omega⟩
theorem zQd {bs:List CE} {clock:Nat} (h:upB bs clock=true) {ck:Nat→Nat} (hc:wP ck clock):wP (fun j=>ck (xr bs clock j)) bs.length:=by
 refine ⟨fun a b hab=>zMP h a b (hc.one _ _ hab),fun k x=>?_,fun k=>?_⟩
 · show _ ↔ ck (xr bs clock x)<ck (xr bs clock (bs.length+k))
   rw [vO,zOL h k x]
   exact hc.cmp k _
 · show ck (xr bs clock (bs.length+k))=ck (xr bs clock bs.length)+k
   have h0:xr bs clock bs.length=clock:=vO 0
   rw [vO,h0,hc.run]
theorem zBM:∀ {as bs:List CE},zGk ρ θ as bs=true→as.length=bs.length
 | [],[],_=>rfl
 | [],_::_,h=>by cases h
 | _::_,[],h=>by cases h
 | a::as,b::bs,h=>by
  unfold zGk at h
  rw [Bool.and_eq_true] at h
  simp [zBM h.2]
theorem zHf:∀ {es:List CE} {i clock:Nat},zRa es i clock=true→clock=i+es.length∧∀ (j:Nat) (e:CE),es[j]? = some e→e.born=i+j
 | [],i,clock,h=>⟨by have:=@zu noSym _ _ h; simp; omega,fun j e he=>by simp at he⟩
 | a::es,i,clock,h=>by
  unfold zRa at h
  rw [Bool.and_eq_true] at h
  have h1:=@zu noSym _ _ h.1
  obtain ⟨h2,h3⟩:=zHf h.2
  refine ⟨by simp; omega,fun j e he=>?_⟩
  cases j with
  | zero=>simp at he; subst he; omega
  | succ j=>have:=h3 j e (by simpa using he); omega
theorem zIu (hθ:jc σs σT θ) (hψ:zAr ρ ψs ψT) {ck ck':Nat→Nat}:∀ {as bs:List CE} {l:List MapEntry},zGk ρ θ as bs=true →
 (∀ (j:Nat) (a b:CE),as[j]? = some a→bs[j]? = some b→ck' a.born=ck b.born)→@yB (linSym σs Ks) ψs ck bs l→@yB (linSym σT KT) ψT ck' as l
 | [],[],l,_,_,hl=>hl
 | [],_::_,_,h,_,_=>by cases h
 | _::_,[],_,h,_,_=>by cases h
 | a::as,b::bs,l,h,hb,hl=>by
  unfold zGk at h
  rw [Bool.and_eq_true,Bool.and_eq_true] at h
  obtain ⟨e,r,rfl,⟨h1,h2,h3⟩,h4⟩:=hl
  exact ⟨e,r,rfl,⟨qA hθ hψ _ _ h.1.1 h1,qA hθ hψ _ _ h.1.2 h2,by rw [h3]; exact (hb 0 a b rfl rfl).symm⟩,
   zIu hθ hψ h.2 (fun j x y hx hy=>hb (j+1) x y (by simpa using hx) (by simpa using hy)) h4⟩
theorem zQP {S:Sym} {ψ:Psi} {ck:Nat→Nat} {cs ds:List CE} (hp:ds.Perm cs):∀ {l:List MapEntry},@yB S ψ ck cs l→∃ l',l'.Perm l∧@yB S ψ ck ds l':=by
 induction hp with
 | nil=>intro l h; exact ⟨l,List.Perm.refl _,h⟩
 | cons x _ ih=>
  rintro l ⟨e,r,rfl,hx,hr⟩
  obtain ⟨r',g1,g2⟩:=ih hr
  exact ⟨e::r',List.Perm.cons e g1,e,r',rfl,hx,g2⟩
 | swap x y m=>
  rintro l ⟨e,r,rfl,hx,e',r',rfl,hy,hr⟩
  exact ⟨e'::e::r',List.Perm.swap e e' r',e',_,rfl,hy,e,r',rfl,hx,hr⟩
 | trans _ _ ih1 ih2=>
  intro l h
  obtain ⟨l1,g1,g2⟩:=ih2 h
  obtain ⟨l2,g3,g4⟩:=ih1 g2
  exact ⟨l2,g3.trans g1,g4⟩
theorem zHW (hθ:jc σs σT θ) (hψ:zAr ρ ψs ψT):∀ {as bs:List (CV × CV)} {l:List MapEntry},zQ9 ρ θ as bs=true→@wj (linSym σs Ks) ψs bs l→@wj (linSym σT KT) ψT as l
 | [],[],_,_,h=>h
 | [],_::_,_,h,_=>by cases h
 | _::_,[],_,h,_=>by cases h
 | a::as,b::bs,l,h,hz=>by
  unfold zQ9 at h
  rw [Bool.and_eq_true,Bool.and_eq_true] at h
  rcases hz with ⟨h1,h2⟩ | ⟨e,m,rfl,h1,h2,h3⟩
  · exact .inl ⟨qA hθ hψ _ _ h.1.2 h1,zHW hθ hψ h.2 h2⟩
  · exact .inr ⟨e,m,rfl,qA hθ hψ _ _ h.1.1 h1,qA hθ hψ _ _ h.1.2 h2,zHW hθ hψ h.2 h3⟩
theorem zI5 (Ks:zc) (hθ:jc σs σT θ) (hψ:zAr ρ ψs ψT):∀ {as:List (CV × CV)},zLS ρ θ as=true→@wj (linSym σT KT) ψT as []
 | [],_=>rfl
 | a::as,h=>by
  unfold zLS at h
  rw [Bool.and_eq_true] at h
  exact .inl ⟨qA (Ks:=Ks) hθ hψ _ _ h.1 ((@ze (linSym σs Ks) _ _ _).2 ⟨.empty,rfl,rfl⟩),zI5 Ks hθ hψ h.2⟩
def zCc (o:Option CObj) (ck:Nat→Nat):Nat→Nat:=match o with
 | some (.map es clock)=>fun j=>ck (xr (wu es) clock j)
 | _=>ck
theorem zL1 (hθ:jc σs σT θ) (hψ:zAr ρ ψs ψT) {o o':CObj} (h:zAM ρ θ o o'=true) {w:World} {p p':Pl} (h1:p'.blk=p.blk) (h2:p'.off=p.off) (h3:p'.sz=p.sz) (h4:p'.ck=zCc (some o') p.ck)
 (ho:@xC (linSym σs Ks) ψs w p o'):@xC (linSym σT KT) ψT w p' o∧o.isRo=false∧o'.isRo=false:=by
 unfold zAM at h
 split at h
 · exact ⟨km hθ hψ h h1 h2 h3 ho,rfl,rfl⟩
 · exact ⟨km hθ hψ h h1 h2 h3 (@qx.toCells (linSym σs Ks) _ _ _ _ _ ho),rfl,rfl⟩
 · rename_i es c es' c'
   rw [Bool.and_eq_true,Bool.and_eq_true] at h
   refine ⟨?_,rfl,rfl⟩
   obtain ⟨arr,g1,⟨l0,gp,g2⟩,g3⟩:=ho
   have hlen:=zBM h.1.1
   obtain ⟨n1,n2⟩:=zHf h.1.2
   have hc:c=(wu es').length:=by omega
   have h4:p'.ck=fun j=>p.ck (xr (wu es') c' j):=h4
   obtain ⟨l1,gq,g2⟩:=zQP (zG7 (l:=es')) g2
   refine ⟨arr,?_,⟨l1,gq.trans gp,?_⟩,?_⟩
   · rw [h1,g1,h4,hc]
     show _=some (Obj.map arr (p.ck (xr (wu es') c' (wu es').length)))
     have h0:xr (wu es') c' (wu es').length=c':=vO 0
     rw [h0]
   · refine zIu hθ hψ h.1.1 (fun j a b ha hb=>?_) g2
     rw [h4]
     show p.ck (xr (wu es') c' a.born)=_
     rw [n2 j a ha,Nat.zero_add]
     unfold xr
     rw [hb]
   · rw [h4,hc]
     exact zQd h.2 g3
 · obtain ⟨arr,c,g1,l,gp,g2⟩:=ho
   exact ⟨⟨arr,c,by rw [h1]; exact g1,l,gp,zHW hθ hψ h g2⟩,rfl,rfl⟩
 · obtain ⟨arr,g1,⟨l,gp,g2⟩,_⟩:=ho
   have g2:l=[]:=g2
   subst g2
   exact ⟨⟨arr,_,by rw [h1]; exact g1,[],gp,zI5 Ks hθ hψ h⟩,rfl,rfl⟩
 · cases h
end
theorem zI8 {ρ:Heap} {θ:TH} {o o':CObj} (h:zAM ρ θ o o'=true):o'.isRo=false:=by
 unfold zAM at h
 split at h
 · rfl
 · rfl
 · rfl
 · rfl
 · rfl
 · cases h
structure Win where
 key:Key
 esz:Nat
 base:Option Addr
 B:Nat
 x:Nat
 len:Nat
 cap:Nat
 sz:Nat
structure TS where
 locs:List (Nat × CV)
 objs:List (Key × CObj)
 n:Key
 b:List (Int × Int)
 f:List (LL × Int × Int)
 r:List xD:=[]
def zN (n:Nat) (k:Nat→Bool):Bool:=match n with
 | 0=>k 0
 | m+1=>k (Nat.succ m)
theorem jE {n:Nat} {k:Nat→Bool}:zN n k=k n:=by cases n <;> rfl
def zI (z:Int) (k:Int→Bool):Bool:=match z with
 | .ofNat n=>zN n fun n=>k (.ofNat n)
 | .negSucc n=>zN n fun n=>k (.negSucc n)
theorem zDd {z:Int} {k:Int→Bool}:zI z k=k z:=by
 cases z with
 | ofNat n=>exact jE (k:=fun n=>k (.ofNat n))
 | negSucc n=>exact jE (k:=fun n=>k (.negSucc n))
def zDg (d:Dg) (k:Dg→Bool):Bool:=match d with
 | .d0=>k .d0
 | .d1=>k .d1
 | .d2=>k .d2
 | .d3=>k .d3
 | .d4=>k .d4
 | .d5=>k .d5
 | .d6=>k .d6
 | .d7=>k .d7
 | .d8=>k .d8
 | .d9=>k .d9
 | .d10=>k .d10
 | .d11=>k .d11
 | .d12=>k .d12
 | .d13=>k .d13
 | .d14=>k .d14
 | .d15=>k .d15
theorem zR1 {d:Dg} {k:Dg→Bool}:zDg d k=k d:=by cases d <;> rfl
def zK (b:Key) (k:Key→Bool):Bool:=match b with
 | .mk a b c d=>zDg a fun a=>zDg b fun b=>zDg c fun c=>zDg d fun d=>k (.mk a b c d)
theorem zAv {b:Key} {k:Key→Bool}:zK b k=k b:=by
 cases b
 unfold zK
 simp only [zR1]
def zLL:LL→(LL→Bool)→Bool
 | [],k=>k []
 | (i,a)::l,k=>zN i fun i=>zI a fun a=>zLL l fun l=>k ((i,a)::l)
theorem zKd:∀ {l:LL} {k:LL→Bool},zLL l k=k l
 | [],_=>rfl
 | (i,a)::l,k=>by unfold zLL; rw [jE,zDd,zKd]
def zSE (e:SE) (k:SE→Bool):Bool:=match e with
 | ⟨j,c,l⟩=>zI c fun c=>zLL l fun l=>k ⟨j,c,l⟩
theorem zCO {e:SE} {k:SE→Bool}:zSE e k=k e:=by
 obtain ⟨j,c,l⟩:=e
 show (zI c fun c=>zLL l fun l=>k ⟨j,c,l⟩)=k ⟨j,c,l⟩
 rw [zDd,zKd]
mutual
def zV:CV→(CV→Bool)→Bool
 | .agg l,k=>zVs l fun l=>k (.agg l)
 | .tup l,k=>zVs l fun l=>k (.tup l)
 | .sst l,k=>zVs l fun l=>k (.sst l)
 | .iface t v,k=>zV v fun v=>k (.iface t v)
 | .func f a b,k=>zVs a fun a=>zVs b fun b=>k (.func f a b)
 | .sym e,k=>zSE e fun e=>k (.sym e)
 | .bool b,k=>k (.bool b)
 | .nat n,k=>zN n fun n=>k (.nat n)
 | .int j n,k=>zI n fun n=>k (.int j n)
 | .anyi j,k=>k (.anyi j)
 | .str s,k=>k (.str s)
 | .nilptr,k=>k .nilptr
 | .ptr b o,k=>zK b fun b=>zN o fun o=>k (.ptr b o)
 | .nilsl,k=>k .nilsl
 | .sl b o l c e x,k=>zK b fun b=>zN o fun o=>zN l fun l=>zN c fun c=>zN e fun e=>k (.sl b o l c e x)
 | .nilmap,k=>k .nilmap
 | .map b,k=>zK b fun b=>k (.map b)
 | .nilfunc,k=>k .nilfunc
 | .niliface,k=>k .niliface
 | .win a b c d,k=>zSE c fun c=>zSE d fun d=>k (.win a b c d)
 | .big n,k=>k (.big n)
 | .few i t,k=>zN i fun i=>k (.few i t)
 | .elt b o i m,k=>k (.elt b o i m)
 | .any,k=>k .any
def zVs:List CV→(List CV→Bool)→Bool
 | [],k=>k []
 | v::l,k=>zV v fun v=>zVs l fun l=>k (v::l)
end
mutual
theorem zEq:∀ (c:CV) (k:CV→Bool),zV c k=k c
 | .agg l,k=>by unfold zV; exact zAZ l _
 | .tup l,k=>by unfold zV; exact zAZ l _
 | .sst l,k=>by unfold zV; exact zAZ l _
 | .iface t v,k=>by unfold zV; exact zEq v _
 | .func f a b,k=>by unfold zV; rw [zAZ a,zAZ b]
 | .sym e,k=>by unfold zV; exact zCO
 | .bool b,k=>by unfold zV; rfl
 | .nat n,k=>by unfold zV; exact jE
 | .int j n,k=>by unfold zV; exact zDd
 | .anyi j,k=>by unfold zV; rfl
 | .str s,k=>by unfold zV; rfl
 | .nilptr,k=>by unfold zV; rfl
 | .ptr b o,k=>by unfold zV; rw [zAv,jE]
 | .nilsl,k=>by unfold zV; rfl
 | .sl b o l c e x,k=>by unfold zV; rw [zAv,jE,jE,jE,jE]
 | .nilmap,k=>by unfold zV; rfl
 | .map b,k=>by unfold zV; exact zAv
 | .nilfunc,k=>by unfold zV; rfl
 | .niliface,k=>by unfold zV; rfl
 | .win a b c d,k=>by unfold zV; rw [zCO,zCO]
 | .big n,k=>by unfold zV; rfl
 | .few i t,k=>by unfold zV; exact jE
 | .elt b o i m,k=>by unfold zV; rfl
 | .any,k=>by unfold zV; rfl
theorem zAZ:∀ (l:List CV) (k:List CV→Bool),zVs l k=k l
 | [],k=>by unfold zVs; rfl
 | v::l,k=>by unfold zVs; rw [zEq v,zAZ l]
end
def zEs:List CE→(List CE→Bool)→Bool
 | [],k=>k []
 | ⟨a,b,n⟩::l,k=>zV a fun a=>zV b fun b=>zN n fun n=>zEs l fun l=>k (⟨a,b,n⟩::l)
theorem zOK:∀ {l:List CE} {k:List CE→Bool},zEs l k=k l
 | [],_=>rfl
 | ⟨a,b,n⟩::l,k=>by unfold zEs; rw [zEq,zEq,jE,zOK]
def zZ:List (CV × CV)→(List (CV × CV)→Bool)→Bool
 | [],k=>k []
 | (a,b)::l,k=>zV a fun a=>zV b fun b=>zZ l fun l=>k ((a,b)::l)
theorem zRw:∀ {l:List (CV × CV)} {k:List (CV × CV)→Bool},zZ l k=k l
 | [],_=>rfl
 | (a,b)::l,k=>by unfold zZ; rw [zEq,zEq,zRw]
def zO (o:CObj) (k:CObj→Bool):Bool:=match o with
 | .cells l=>zVs l fun l=>k (.cells l)
 | .map es c=>zEs es fun es=>zN c fun c=>k (.map es c)
 | .mapz es=>zZ es fun es=>k (.mapz es)
 | o=>k o
theorem zDX {o:CObj} {k:CObj→Bool}:zO o k=k o:=by
 cases o with
 | cells l=>exact zAZ l _
 | map es c=>
  show (zEs es fun es=>zN c fun c=>k (.map es c))=_
  rw [zOK,jE]
 | mapz es=>exact zRw
 | _=>rfl
def zOs:List (Key × CObj)→(List (Key × CObj)→Bool)→Bool
 | [],k=>k []
 | (j,o)::l,k=>zK j fun j=>zO o fun o=>zOs l fun l=>k ((j,o)::l)
theorem zPv:∀ {l:List (Key × CObj)} {k:List (Key × CObj)→Bool},zOs l k=k l
 | [],_=>rfl
 | (j,o)::l,k=>by unfold zOs; rw [zAv,zDX,zPv]
def zLc:List (Nat × CV)→(List (Nat × CV)→Bool)→Bool
 | [],k=>k []
 | (j,o)::l,k=>zN j fun j=>zV o fun o=>zLc l fun l=>k ((j,o)::l)
theorem zKR:∀ {l:List (Nat × CV)} {k:List (Nat × CV)→Bool},zLc l k=k l
 | [],_=>rfl
 | (j,o)::l,k=>by unfold zLc; rw [jE,zEq,zKR]
def zB:List (Int × Int)→(List (Int × Int)→Bool)→Bool
 | [],k=>k []
 | (a,b)::l,k=>zI a fun a=>zI b fun b=>zB l fun l=>k ((a,b)::l)
theorem zLv:∀ {l:List (Int × Int)} {k:List (Int × Int)→Bool},zB l k=k l
 | [],_=>rfl
 | (a,b)::l,k=>by unfold zB; rw [zDd,zDd,zLv]
def zF:List (LL × Int × Int)→(List (LL × Int × Int)→Bool)→Bool
 | [],k=>k []
 | (m,a,b)::l,k=>zLL m fun m=>zI a fun a=>zI b fun b=>zF l fun l=>k ((m,a,b)::l)
theorem zPL:∀ {l:List (LL × Int × Int)} {k:List (LL × Int × Int)→Bool},zF l k=k l
 | [],_=>rfl
 | (m,a,b)::l,k=>by unfold zF; rw [zKd,zDd,zDd,zPL]
def zTS (T:TS) (k:TS→Bool):Bool:=match T with
 | ⟨l,o,n,b,f,r⟩=>zLc l fun l=>zOs o fun o=>zK n fun n=>zB b fun b=>zF f fun f=>k ⟨l,o,n,b,f,r⟩
theorem zKF {T:TS} {k:TS→Bool}:zTS T k=k T:=by
 obtain ⟨l,o,n,b,f,r⟩:=T
 show (zLc l fun l=>zOs o fun o=>zK n fun n=>zB b fun b=>zF f fun f=>k ⟨l,o,n,b,f,r⟩)=_
 rw [zKR,zPv,zAv,zLv,zPL]
def zAQ:List (Nat × CV)→Tm
 | []=>.nil
 | p::r=>k8 p.2 (Loc.ofNat p.1) (zAQ r)
def mkH (h:Heap):List (Key × CObj)→Heap
 | []=>h
 | p::r=>yl (some p.2) p.1 (mkH h r)
def jZ:List (Key × CObj)→List Key→Heap
 | p::r,j::js=>yl (some (.cells [.ptr j 0])) p.1 (jZ r js)
 | _,_=>.nil
def jK:List (Key × CObj)→List Key→Heap
 | p::r,j::js=>yl (some (.cells [.ptr p.1 0])) j (jK r js)
 | _,_=>.nil
def qB (ρ inv:Heap) (θ:TH) (h:Heap) (lo hi:Nat):List (Key × CObj)→List Key→Bool
 | [],[]=>true
 | p::r,j::js=>kg ρ p.1 j&&kg inv j p.1&&Nat.ble lo p.1.ix&&Nat.ble (Nat.succ p.1.ix) hi&&(match getH j h with
  | some o=>zAM ρ θ p.2 o
  | none=>false)&&qB ρ inv θ h lo hi r js
 | _,_=>false
def findW:List Win→Key→Option Win
 | [],_=>none
 | w::r,k=>match decide (w.key=k) with
  | true=>some w
  | false=>findW r k
def zO4:List (Key × Nat)→Key→Nat→Bool
 | [],_,_=>false
 | p::r,k,z=>match decide (p.1=k) with
  | true=>Nat.beq p.2 z
  | false=>zO4 r k z
def zFR (lo hi:Nat):List (Key × Nat)→Bool
 | []=>true
 | p::r=>Nat.ble lo p.1.ix&&Nat.ble (Nat.succ p.1.ix) hi&&zFR lo hi r
def wsOf (l:List Win):List (Key × Nat):=l.map fun w=>(w.key,w.esz)
def zBT (ρ:Heap) (k:Key):Bool:=match zg ρ k with
 | none=>true
 | some _=>false
def zRZ (ρ:Heap) (θ:TH) (ws:List (Key × Nat)) (c d:CV):Bool:=match c with
 | .win k z e n=>match d with
  | .win k' z' _ n'=>decide (k=k')&&Nat.beq z z'&&zQ5 e (sv 0)&&ui θ n (.sym n')&&zO4 ws k z&&zBT ρ k&&Nat.ble 1 z
  | _=>false
 | c=>zw ρ θ c d
def zIE (ρ:Heap) (θ:TH) (ws:List (Key × Nat)) (tm:Tm):List (Nat × CV)→Bool
 | []=>true
 | p::r=>Nat.ble p.1 271&&zRZ ρ θ ws p.2 (qf (Loc.ofNat p.1) tm)&&zIE ρ θ ws tm r
def inQ (s:Int) (lo hi:Int):Option (Int × Int)→Bool
 | some u=>decide (lo≤s+u.1)&&decide (s+u.2≤hi)
 | none=>false
theorem zHq {s lo hi:Int} {o:Option (Int × Int)} (h:inQ s lo hi o=true):∃ u,o=some u∧lo≤s+u.1∧s+u.2≤hi:=by
 unfold inQ at h
 split at h
 · rename_i u
   rw [Bool.and_eq_true,decide_eq_true_eq,decide_eq_true_eq] at h
   exact ⟨u,rfl,h.1,h.2⟩
 · cases h
def zPB (K:zc):List (Int × Int)→TH→Bool
 | [],[]=>true
 | q::r,s::θ=>(inQ s.1 q.1 q.2 (zFM K.b s.2) || inQ s.1 q.1 q.2 (zJK K.b s.2 K.f))&&zPB K r θ
 | _,_=>false
def zOm (K:zc) (θ:TH):List (LL × Int × Int)→Bool
 | []=>true
 | q::r=>(match uR θ q.1 with
  | some s=>inQ s.1 q.2.1 q.2.2 (zOj s.2 K.f) || inQ s.1 q.2.1 q.2.2 (zJK K.b s.2 K.f)
  | none=>false)&&zOm K θ r
def zKb (θ:TH) (r q:xD):Bool:=(match uR θ r.x.l with
 | some s=>decide (r.op=q.op)&&kEq r.x.k q.x.k&&Nat.beq r.c q.c&&zx (r.x.c+s.1) q.x.c&&vA s.2 q.x.l
 | none=>false)&&(match r.v,q.v with
 | .sym e,.sym e'=>ui θ e (.sym e')
 | _,_=>false)
def zDR (θ:TH) (r:xD):List xD→Bool
 | []=>false
 | q::l=>zKb θ r q || zDR θ r l
def ug (θ:TH) (l:List xD):List xD→Bool
 | []=>true
 | r::rs=>zDR θ r l&&ug θ l rs
theorem wZ (k:IntKind) (n:Int) (e:SE):zU k n≠.sym e:=by
 cases n with
 | ofNat m=>cases m <;> cases k <;> (intro h; cases h)
 | negSucc m=>cases m <;> (intro h; cases h)
theorem zJ0 (k:IntKind) (n:Nat) (e:SE):jH k n≠.sym e:=by
 cases n <;> cases k <;> (intro h; cases h)
theorem zJb {op:BinOp} {k:IntKind} {a b:Int} {e:SE} (h:yO op k a b=some (.sym e)):False:=by
 cases op <;> first
  | (have h:some (zU k _)=some (.sym e):=h
     injection h with h; exact wZ _ _ _ h)
  | (have h:some (CV.bool _)=some (.sym e):=h
     injection h with h; cases h)
  | (have h:Bool.rec (motive:=fun _=>Option CV) (some (zU k _)) none (zx b (.ofNat 0))=some (.sym e):=h
     cases hb:zx b (.ofNat 0) <;> rw [hb] at h
     · injection h with h; exact wZ _ _ _ h
     · cases h)
  | (cases b with
     | ofNat m=>
      first
       | (have h:some (zU k _)=some (.sym e):=h
          injection h with h; exact wZ _ _ _ h)
       | (cases a with
          | ofNat x=>
           have h:some (jH k _)=some (.sym e):=h
           injection h with h; exact zJ0 _ _ _ h
          | negSucc x=>
           have h:some (zU k _)=some (.sym e):=h
           injection h with h; exact wZ _ _ _ h)
     | negSucc m=>cases h)
theorem zNT {σs σT:Nat→Int} {θ:TH} (hθ:jc σs σT θ) {r q:xD} (h:zKb θ r q=true) (hq:qg σs q):qg σT r:=by
 unfold zKb at h
 rw [Bool.and_eq_true] at h
 obtain ⟨h1,h2⟩:=h
 split at h1
 · rename_i s hs
   simp only [Bool.and_eq_true,decide_eq_true_eq] at h1
   obtain ⟨⟨⟨⟨a1,a2⟩,a3⟩,a4⟩,a5⟩:=h1
   rw [@yx noSym,decide_eq_true_eq] at a2
   have a3:=@zu noSym _ _ a3
   rw [@za noSym,decide_eq_true_eq] at a4
   have a5:=@wT noSym _ _ a5
   obtain ⟨u,b1,b2,b3⟩:=hq
   have ex:evE σT r.x=evE σs q.x:=by
    unfold evE
    rw [zAp hθ hs,← a4,a5]
    omega
   refine ⟨u,by rw [a1,a2]; exact b1,by rw [a1,a2,a3,ex]; exact b2,?_⟩
   split at h2
   · rename_i e e' he he'
     refine .inr ⟨e,he,?_⟩
     unfold ui at h2
     split at h2
     · rename_i k c l hf
       split at h2
       · rename_i s' hs'
         simp only [Bool.and_eq_true] at h2
         obtain ⟨⟨c1,c2⟩,c3⟩:=h2
         rw [@yx noSym,decide_eq_true_eq] at c1
         rw [@za noSym,decide_eq_true_eq] at c2
         have c3:=@wT noSym _ _ c3
         injection hf with hf
         injection hf with d1 hf
         injection hf with d2 d3
         rcases b3 with b3 | ⟨e2,b4,b5⟩
         · rw [he'] at b3
           rw [← b3] at b2
           exact (zJb b2).elim
         · rw [he'] at b4
           injection b4 with b4
           subst b4
           rw [b5,c1,← d1]
           congr 1
           unfold evE
           rw [zAp hθ hs',c3,← d3,d2,← c2]
           omega
       · cases h2
     · cases h2
   · cases h2
 · cases h1
theorem zDp {σs σT:Nat→Int} {θ:TH} (hθ:jc σs σT θ) {l:List xD} (hl:∀ q∈l,qg σs q):∀ {rs:List xD},ug θ l rs=true→qC σT rs
 | [],_=>trivial
 | r::rs,h=>by
  unfold ug at h
  rw [Bool.and_eq_true] at h
  refine ⟨?_,zDp hθ hl h.2⟩
  have:∀ {m:List xD},zDR θ r m=true→(∀ q∈m,qg σs q)→qg σT r:=by
   intro m
   induction m with
   | nil=>intro h _; cases h
   | cons q m ih=>
    intro h hm
    unfold zDR at h
    rw [Bool.or_eq_true] at h
    rcases h with h | h
    · exact zNT hθ h (hm q (by simp))
    · exact ih h fun q' hq'=>hm q' (by simp [hq'])
  exact this h.1 hl
def zJo (G:Nat) (ws:List (Key × Nat)) (T:TS) (ks:List Key) (θ:TH) (K:zc) (tm:Tm) (h:Heap):Bool:=
 qB (jZ T.objs ks) (jK T.objs ks) θ h G T.n.ix T.objs ks&&zIE (jZ T.objs ks) θ ws tm T.locs&&zPB K T.b θ&&zOm K θ T.f&&zFR G T.n.ix ws&&Nat.ble G T.n.ix&&ug θ K.rules T.r
theorem zSH (p:Loc):qf p Tm.nil=.any:=@zD2 noSym p
theorem zRd (v:CV) (p:Loc) (t:Tm):qf p (k8 v p t)=v:=@jb noSym v p t
theorem zOc (v:CV) (p q:Loc) (t:Tm) (h:q≠p):qf q (k8 v p t)=qf q t:=@xQ noSym v p q t h
theorem wv (o:Option CObj) (k j:Key) (h:Heap):getH j (yl o k h)=if j=k then o else getH j h:=@zCl noSym o k j h
theorem jX (k:Key):getH k (.nil:Heap)=none:=@zDP noSym k
theorem zGI (t:Nat):∀ {locs:List (Nat × CV)},qf (Loc.ofNat t) (zAQ locs)=.any∨∃ p∈locs,Loc.ofNat p.1=Loc.ofNat t∧qf (Loc.ofNat t) (zAQ locs)=p.2
 | []=>.inl (zSH _)
 | p::r=>by
  by_cases e:Loc.ofNat p.1=Loc.ofNat t
  · refine .inr ⟨p,by simp,e,?_⟩
    show qf _ (k8 p.2 _ _)=_
    rw [e,zRd]
  · have h:qf (Loc.ofNat t) (zAQ (p::r))=qf (Loc.ofNat t) (zAQ r):=zOc _ _ _ _ (fun q=>e q.symm)
    rcases zGI t (locs:=r) with h' | ⟨q,hq,h1,h2⟩
    · exact .inl (h.trans h')
    · exact .inr ⟨q,by simp [hq],h1,h.trans h2⟩
theorem qj {h:Heap} {k:Key} {o:CObj}:∀ {objs:List (Key × CObj)},getH k (mkH h objs)=some o→(∃ j:Nat,objs[j]? = some (k,o))∨getH k h=some o
 | [],hh=>.inr hh
 | p::r,hh=>by
  have hh:getH k (yl (some p.2) p.1 (mkH h r))=some o:=hh
  rw [wv] at hh
  split at hh
  · rename_i e
    injection hh with h1
    exact .inl ⟨0,by subst e; subst h1; rfl⟩
  · rcases qj hh with ⟨j,hj⟩ | h'
    · exact .inl ⟨j+1,by simpa using hj⟩
    · exact .inr h'
theorem zFr {k b:Key}:∀ {objs:List (Key × CObj)} {ks:List Key},zg (jZ objs ks) k=some b→∃ (j:Nat) (o:CObj),objs[j]? = some (k,o)∧ks[j]? = some b
 | [],_,h=>by
  have h:zg .nil k=some b:=h
  unfold zg at h
  rw [jX] at h; cases h
 | _::_,[],h=>by
  have h:zg .nil k=some b:=h
  unfold zg at h
  rw [jX] at h; cases h
 | p::r,j::js,h=>by
  by_cases e:k=p.1
  · have h:zg (yl (some (.cells [.ptr j 0])) p.1 (jZ r js)) k=some b:=h
    unfold zg at h
    rw [wv,if_pos e] at h
    injection h with h
    exact ⟨0,p.2,by subst e; rfl,by subst h; rfl⟩
  · have h':zg (jZ r js) k=some b:=by
     have h:zg (yl (some (.cells [.ptr j 0])) p.1 (jZ r js)) k=some b:=h
     unfold zg at h ⊢
     rw [wv,if_neg e] at h
     exact h
    obtain ⟨i,o,h1,h2⟩:=zFr h'
    exact ⟨i+1,o,by simpa using h1,by simpa using h2⟩
theorem qe {ρ:Heap} {k j:Key} (h:kg ρ k j=true):zg ρ k=some j:=by
 unfold kg at h
 split at h
 · rename_i b hb
   rw [hb,@Key.ix_inj noSym _ _ (Nat.eq_of_beq_eq_true h)]
 · cases h
theorem ju {ρ inv:Heap} {θ:TH} {h:Heap} {lo hi:Nat}:∀ {objs:List (Key × CObj)} {ks:List Key},qB ρ inv θ h lo hi objs ks=true→∀ (j:Nat) (k:Key) (o:CObj),objs[j]? = some (k,o) →
 ∃ i o',ks[j]? = some i∧zg ρ k=some i∧zg inv i=some k∧lo≤k.ix∧k.ix<hi∧getH i h=some o'∧zAM ρ θ o o'=true
 | [],_,_,j,k,o,hj=>by simp at hj
 | _::_,[],hc,_,_,_,_=>by cases hc
 | p::r,i::is,hc,j,k,o,hj=>by
  unfold qB at hc
  simp only [Bool.and_eq_true] at hc
  obtain ⟨⟨⟨⟨⟨c1,c2⟩,c3⟩,c4⟩,c5⟩,c6⟩:=hc
  cases j with
  | zero=>
   simp at hj
   subst hj
   split at c5
   · rename_i o' ho
     exact ⟨i,o',rfl,qe c1,qe c2,@zJ noSym _ _ c3,@zJ noSym _ _ c4,ho,c5⟩
   · cases c5
  | succ j=>
   obtain ⟨i',o',h1,h2⟩:=ju c6 j k o (by simpa using hj)
   exact ⟨i',o',by simpa using h1,h2⟩
theorem jr {l:List Win} {k:Key} {w:Win} (h:findW l k=some w):w∈l∧w.key=k:=by
 induction l with
 | nil=>cases h
 | cons x l ih=>
  unfold findW at h
  split at h
  · rename_i e
    injection h with h; subst h
    exact ⟨by simp,of_decide_eq_true e⟩
  · have:=ih h
    exact ⟨by simp [this.1],this.2⟩
theorem zQt {l:List Win} {k:Key} {z:Nat} (h:zO4 (wsOf l) k z=true):∃ w,findW l k=some w∧w.esz=z:=by
 induction l with
 | nil=>cases h
 | cons x l ih=>
  have h:zO4 ((x.key,x.esz)::wsOf l) k z=true:=h
  unfold zO4 at h
  unfold findW
  split at h
  · rename_i e
    simp only at e
    rw [e]
    exact ⟨x,rfl,@zu noSym _ _ h⟩
  · rename_i e
    simp only at e
    rw [e]
    exact ih h
theorem zHm {lo hi:Nat} {l:List Win} (h:zFR lo hi (wsOf l)=true):∀ w∈l,lo≤w.key.ix∧w.key.ix<hi:=by
 induction l with
 | nil=>intro w hw; cases hw
 | cons x l ih=>
  have h:zFR lo hi ((x.key,x.esz)::wsOf l)=true:=h
  unfold zFR at h
  rw [Bool.and_eq_true,Bool.and_eq_true] at h
  intro w hw
  rcases List.mem_cons.1 hw with rfl | hw
  · exact ⟨@zJ noSym _ _ h.1.1,@zJ noSym _ _ h.1.2⟩
  · exact ih h.2 w hw
theorem zJf {ρ:Heap} {θ:TH} {ws:List (Key × Nat)} {tm:Tm}:∀ {locs:List (Nat × CV)},zIE ρ θ ws tm locs=true→∀ p∈locs,p.1≤271∧zRZ ρ θ ws p.2 (qf (Loc.ofNat p.1) tm)=true
 | [],_,p,hp=>by cases hp
 | q::r,h,p,hp=>by
  unfold zIE at h
  rw [Bool.and_eq_true,Bool.and_eq_true] at h
  rcases List.mem_cons.1 hp with rfl | hp
  · exact ⟨@zJ noSym _ _ h.1.1,h.1.2⟩
  · exact zJf h.2 p hp
def qV (ρ h:Heap) (wins:List Win) (ψ:Psi) (G:Nat) (i:Int):Psi:=fun k=>match zg ρ k with
 | some j=>(ψ j).map fun p=>⟨p.blk,p.off,p.sz,zCc (getH j h) p.ck⟩
 | none=>match findW wins k with
  | some w=>some ⟨w.B,w.x+i.toNat*w.esz,w.sz,fun n=>n⟩
  | none=>if k.ix<G then ψ k else none
def evQ (σ:Nat→Int) (q:Int × LL):Int:=q.1+evL σ q.2
def ArgsAre (A:Key→Option Value) (wins:List Win):Prop:=∀ w∈wins,A w.key=some (.slice w.base w.len w.cap)∧(0<w.len→w.base=some ⟨w.B,w.x,none⟩)∧(w.esz=0∨w.sz=w.x+w.cap*w.esz)∧w.len≤w.cap
section
variable {σs:Nat→Int} {Ks:zc} {θ:TH} {T:TS} {ks:List Key} {wins:List Win} {G:Nat} {F N:Nat} {ψ:Psi} {tm:Tm} {h:Heap} {n:Key} {a:Act} {w:World}
theorem zME {σs:Nat→Int} {Ks:zc} (hK:KnownOk σs Ks) {σT:Nat→Int}:∀ {b:List (Int × Int)} {θ:TH} {k:Nat},zPB Ks b θ=true→(∀ j q,nth θ j=some q→σT (k+j)=evQ σs q) →
 b.length=θ.length∧yF σT k b
 | [],[],_,_,_=>⟨rfl,trivial⟩
 | [],_::_,_,h,_=>by cases h
 | _::_,[],_,h,_=>by cases h
 | q::r,s::θ,k,h,hθ=>by
  unfold zPB at h
  rw [Bool.and_eq_true] at h
  obtain ⟨h1,h2⟩:=h
  obtain ⟨g1,g2⟩:=zME hK (σT:=σT) (k:=k+1) h2 (fun j q hj=>by
   have:=hθ (j+1) q hj
   rw [show k+1+j=k+(j+1) from by omega]; exact this)
  refine ⟨by simp [g1],?_,g2⟩
  have h0:σT k=evQ σs s:=hθ 0 s rfl
  rw [Bool.or_eq_true] at h1
  obtain ⟨u,r,l1,l2⟩:∃ u:Int × Int,(u.1≤evL σs s.2∧evL σs s.2≤u.2)∧q.1≤s.1+u.1∧s.1+u.2≤q.2:=by
   rcases h1 with h1 | h1
   · obtain ⟨u,hu,l⟩:=zHq h1
     exact ⟨u,kq hK.b hu,l⟩
   · obtain ⟨u,hu,l⟩:=zHq h1
     exact ⟨u,zAn hK.b hK.f hu,l⟩
  rw [h0]
  unfold evQ
  constructor <;> omega
theorem zMg {σs σT:Nat→Int} {Ks:zc} (hK:KnownOk σs Ks) {θ:TH} (hθ:jc σs σT θ):∀ {f:List (LL × Int × Int)},zOm Ks θ f=true→jJ σT f
 | [],_=>trivial
 | q::r,h=>by
  unfold zOm at h
  rw [Bool.and_eq_true] at h
  refine ⟨?_,zMg hK hθ h.2⟩
  have h1:=h.1
  split at h1
  · rename_i s hs
    rw [Bool.or_eq_true] at h1
    obtain ⟨u,r,l1,l2⟩:∃ u:Int × Int,(u.1≤evL σs s.2∧evL σs s.2≤u.2)∧q.2.1≤s.1+u.1∧s.1+u.2≤q.2.2:=by
     rcases h1 with h1 | h1
     · obtain ⟨u,hu,l⟩:=zHq h1
       exact ⟨u,zFB hK.f hu,l⟩
     · obtain ⟨u,hu,l⟩:=zHq h1
       exact ⟨u,zAn hK.b hK.f hu,l⟩
    rw [zAp hθ hs]
    constructor <;> omega
  · cases h1
theorem zPl (hst:@St (linSym σs Ks) P F N ψ tm [] h n a w) (hG:P.globals.size≤G) (hA:ArgsAre Ks.arg wins) (hc:zJo G (wsOf wins) T ks θ Ks tm h=true) (i:Int) (hi:∀ q,nth θ 0=some q→evQ σs q=i) (h0:∃ q,nth θ 0=some q) :
 ∃ ψT,(∀ σT KT,jc σs σT θ→KT.arg=Ks.arg→@St (linSym σT KT) P F N ψT (zAQ T.locs) [] (mkH .nil T.objs) T.n a w) ∧
  (∀ k o p,Heap.fam (mkH .nil T.objs) k=some o→ψT k=some p→o.isRo=false∧∃ k0 o0 p0,Heap.fam h k0=some o0∧o0.isRo=false∧ψ k0=some p0∧p0.blk=p.blk) ∧
  (∀ k wn,findW wins k=some wn→zBT (jZ T.objs ks) k=true→ψT k=some ⟨wn.B,wn.x+i.toNat*wn.esz,wn.sz,fun n=>n⟩)∧zAr (jZ T.objs ks) ψ ψT:=by
 have hR:@Rel (linSym σs Ks) ψ (Heap.fam h) w:=@St.rel (linSym σs Ks) _ _ _ _ _ _ _ _ _ _ hst
 have hTot:∀ k o,Heap.fam h k=some o→∃ p,ψ k=some p:=@Rel.tot (linSym σs Ks) _ _ _ hR
 have hOn:∀ k o p,Heap.fam h k=some o→ψ k=some p→@xC (linSym σs Ks) ψ w p o:=@Rel.on (linSym σs Ks) _ _ _ hR
 have hInj:=@Rel.inj (linSym σs Ks) _ _ _ hR
 have hGl:wS P ψ:=@St.glob (linSym σs Ks) _ _ _ _ _ _ _ _ _ _ hst
 have hDf:=@St.dfr (linSym σs Ks) _ _ _ _ _ _ _ _ _ _ hst
 have hFr:@xH (linSym σs Ks) ψ F N tm a:=@St.frame (linSym σs Ks) _ _ _ _ _ _ _ _ _ _ hst
 have hTmp:=@xH.tmp (linSym σs Ks) _ _ _ _ _ hFr
 have hSz:=@xH.size (linSym σs Ks) _ _ _ _ _ hFr
 unfold zJo at hc
 simp only [Bool.and_eq_true] at hc
 obtain ⟨⟨⟨⟨⟨⟨c1,c2⟩,c3⟩,c4⟩,c5⟩,c6⟩,_⟩:=hc
 have c6:=@zJ noSym _ _ c6
 generalize hρ:jZ T.objs ks=ρ at c1 c2
 generalize hinv:jK T.objs ks=inv at c1
 have hobj:=ju c1
 have hwb:=zHm c5
 have hrho:∀ k b,zg ρ k=some b→G≤k.ix∧k.ix<T.n.ix∧∃ (o o':CObj) (j:Nat),T.objs[j]? = some (k,o)∧zg inv b=some k∧getH b h=some o'∧zAM ρ θ o o'=true:=by
  intro k b hk
  have hk':=hk
  rw [← hρ] at hk'
  obtain ⟨j,o,h1,h2⟩:=zFr hk'
  obtain ⟨i',o',g1,g2,g3,g4,g5,g6,g7⟩:=hobj j k o h1
  rw [hk] at g2
  injection g2 with g2
  subst g2
  exact ⟨g4,g5,o,o',j,h1,g3,g6,g7⟩
 have hps:∀ k j p,zg ρ k=some j→ψ j=some p→qV ρ h wins ψ G i k=some ⟨p.blk,p.off,p.sz,zCc (getH j h) p.ck⟩:=by
  intro k j p hk hp
  unfold qV
  rw [hk]
  simp only
  rw [hp]; rfl
 have hPs:zAr ρ ψ (qV ρ h wins ψ G i):=fun k j p hk hp=>⟨_,hps k j p (qe hk) hp,rfl,rfl,rfl⟩
 have hwin:∀ k wn,findW wins k=some wn→zBT ρ k=true→qV ρ h wins ψ G i k=some ⟨wn.B,wn.x+i.toNat*wn.esz,wn.sz,fun n=>n⟩:=by
  intro k wn hw hno
  have hno:zg ρ k=none:=by
   unfold zBT at hno
   split at hno
   · assumption
   · cases hno
  unfold qV
  rw [hno]
  simp only
  rw [hw]
 have hfam:∀ k o p,Heap.fam (mkH .nil T.objs) k=some o→qV ρ h wins ψ G i k=some p→∃ b o' p0,zg ρ k=some b∧zg inv b=some k∧Heap.fam h b=some o'∧ψ b=some p0∧zAM ρ θ o o'=true ∧
  p=⟨p0.blk,p0.off,p0.sz,zCc (some o') p0.ck⟩:=by
  intro k o p hk hp
  rcases qj hk with ⟨j,hj⟩ | hn
  · obtain ⟨b,o',g1,g2,g3,g4,g5,g6,g7⟩:=hobj j k o hj
    obtain ⟨p0,hp0⟩:=hTot b o' g6
    rw [hps k b p0 g2 hp0,g6] at hp
    injection hp with hp
    exact ⟨b,o',p0,g2,g3,g6,hp0,g7,hp.symm⟩
  · rw [jX] at hn; cases hn
 refine ⟨qV ρ h wins ψ G i,fun σT KT hθ hKT=>?_,?_,hwin,by first | exact hPs | (rw [hρ]; exact hPs)⟩
 · refine @St.mk (linSym σT KT) P F N _ _ _ _ _ _ _ ?_ ?_ ?_ ?_ ?_
   · refine @xH.mk (linSym σT KT) _ _ _ _ _ hSz fun t h1 h2 h3=>?_
     rcases zGI t (locs:=T.locs) with e | ⟨p,hp,e1,e2⟩
     · rw [e]; exact @qK (linSym σT KT) _ _
     · obtain ⟨q1,q2⟩:=zJf c2 p hp
       have e1:p.1=t:=@Loc.ofNat_inj noSym _ _ q1 h2 e1
       rw [e2]
       rw [e1] at q2
       have hv:=hTmp t h1 h2 h3
       unfold zRZ at q2
       split at q2
       · rename_i k z e nn heq
         split at q2
         · rename_i k' z' e' n' heq'
           simp only [Bool.and_eq_true,decide_eq_true_eq] at q2
           obtain ⟨⟨⟨⟨⟨⟨rfl,hz⟩,he⟩,hn⟩,hw⟩,hno⟩,h1z⟩:=q2
           have h1z:=@zJ noSym _ _ h1z
           obtain rfl:=@zu noSym _ _ hz
           obtain rfl:=@zLm noSym _ _ he
           rw [heq',@xo (linSym σs Ks)] at hv
           obtain ⟨ha,base,len,cap,iv,hv',hn',he',_⟩:=hv
           obtain ⟨wn,hwn,hez⟩:=zQt hw
           obtain ⟨hmem,hkey⟩:=jr hwn
           obtain ⟨hA',hbase,hsz,hlc⟩:=hA wn hmem
           rw [hkey] at hA'
           have ha:Ks.arg k=some (a.tmps.getD t undef):=ha
           rw [ha] at hA'
           injection hA' with hA'
           rw [heq,@xo (linSym σT KT)]
           obtain ⟨q0,hq0⟩:=h0
           have hn2:=zMD (Ks:=Ks) (ψs:=ψ) hθ hn (v:=.int .i64 len) ((@z8 (linSym σs Ks) _ _ _).2 hn'.symm)
           have hlen:len=wn.len:=by
            rw [hv'] at hA'
            injection hA' with _ h2 _
           refine ⟨by show KT.arg k=_; rw [hKT]; exact ha,wn.base,wn.len,wn.cap,i,hA',?_,?_,fun q1 q2=>⟨_,wn.x,hwin k wn hwn hno,hbase (by omega),?_⟩⟩
           · rw [← hlen]; exact hn2.symm
           · show Value.int .i64 (evE σT (sv 0))=.int .i64 i
             rw [jx,hθ 0 q0 hq0]
             have:=hi q0 hq0
             unfold evQ at this
             rw [this]
           · rw [← hez]
             refine ⟨rfl,?_,hlc⟩
             rcases hsz with e0 | e0
             · omega
             · exact e0
         · cases q2
       · exact qA hθ hPs _ _ q2 hv
   · exact hDf
   · refine @Rel.mk (linSym σT KT) _ _ _ ?_ ?_ ?_
     · intro k o p hk hp
       obtain ⟨b,o',p0,g1,g2,g3,g4,g5,rfl⟩:=hfam k o p hk hp
       exact (zL1 (p:=p0) (p':=⟨p0.blk,p0.off,p0.sz,zCc (some o') p0.ck⟩) hθ hPs g5 rfl rfl rfl rfl (hOn b o' p0 g3 g4)).1
     · intro k o hk
       rcases qj hk with ⟨j,hj⟩ | hn
       · obtain ⟨b,o',g1,g2,g3,g4,g5,g6,g7⟩:=hobj j k o hj
         obtain ⟨p0,hp0⟩:=hTot b o' g6
         exact ⟨_,hps k b p0 g2 hp0⟩
       · rw [jX] at hn; cases hn
     · intro k₁ k₂ o₁ o₂ p₁ p₂ h1 h2 h3 h4 hr e
       obtain ⟨b1,o1',q1,g1,g2,g3,g4,g5,rfl⟩:=hfam _ _ _ h1 h3
       obtain ⟨b2,o2',q2,f1,f2,f3,f4,f5,rfl⟩:=hfam _ _ _ h2 h4
       have:=hInj b1 b2 _ _ _ _ g3 f3 g4 f4 (.inl (zI8 g5)) e
       subst this
       rw [g2] at f2
       injection f2
   · intro g hg h4
     obtain ⟨sz,e⟩:=hGl g hg h4
     have hix:(Key.ofNat g).ix=g:=@Key.ix_ofNat noSym _ (by omega)
     refine ⟨sz,?_⟩
     have hno:zg ρ (Key.ofNat g)=none:=by
      cases hr:zg ρ (Key.ofNat g) with
      | none=>rfl
      | some b=>have:=(hrho _ _ hr).1; omega
     have hnw:findW wins (Key.ofNat g)=none:=by
      cases hr:findW wins (Key.ofNat g) with
      | none=>rfl
      | some wn=>
       obtain ⟨hm,hk⟩:=jr hr
       have:=(hwb wn hm).1
       rw [hk] at this; omega
     unfold qV
     rw [hno]
     simp only
     rw [hnw]
     simp only
     rw [if_pos (by omega)]
     exact e
   · intro k hk
     have hno:zg ρ k=none:=by
      cases hr:zg ρ k with
      | none=>rfl
      | some b=>have:=(hrho _ _ hr).2.1; omega
     have hnw:findW wins k=none:=by
      cases hr:findW wins k with
      | none=>rfl
      | some wn=>
       obtain ⟨hm,hk⟩:=jr hr
       have:=(hwb wn hm).2
       rw [hk] at this; omega
     unfold qV
     rw [hno]
     simp only
     rw [hnw]
     simp only
     split
     · rename_i hlt
       omega
     · rfl
 · intro k o p hk hp
   obtain ⟨b,o',p0,g1,g2,g3,g4,g5,rfl⟩:=hfam k o p hk hp
   have hro:o.isRo=false∧o'.isRo=false:=by
    unfold zAM at g5
    split at g5
    · exact ⟨rfl,rfl⟩
    · exact ⟨rfl,rfl⟩
    · exact ⟨rfl,rfl⟩
    · exact ⟨rfl,rfl⟩
    · exact ⟨rfl,rfl⟩
    · cases g5
   exact ⟨hro.1,b,o',p0,g3,hro.2,g4,rfl⟩
end
end
end Go.Ev
namespace Go.Ev
variable [Sym]
noncomputable section
variable {P:Program}
variable [SymFact P]
inductive Stp where
 | l | r | b
def zDv (P:Program) (call:yT):List Stp→CCode→K
 | [],_=>fun tm ds h n=>.ok .normal tm ds h n
 | .l::p,.seq a _=>zDv P call p a
 | .r::p,.seq a b=>fun tm ds h n=>xz (zDv P call p b) (zi P call a tm ds h n)
 | .b::p,.block _ x=>zDv P call p x
 | _,_=>fun _ _ _ _=>.err 330
def uO (P:Program) (call:yT):List Stp→CCode→R→R
 | [],_=>fun r=>r
 | .l::p,.seq a b=>fun r=>xz (zi P call b) (uO P call p a r)
 | .r::p,.seq _ b=>uO P call p b
 | .b::p,.block id x=>fun r=>uI id (uO P call p x r)
 | _,_=>fun _=>.err 331
def zBg:List Stp→CCode→CCode
 | [],.loop b=>b
 | .l::p,.seq a _=>zBg p a
 | .r::p,.seq _ b=>zBg p b
 | .b::p,.block _ x=>zBg p x
 | _,_=>.bad 50
def bodyF:CFn→CCode
 | .mk b _=>b
 | _=>.bad 51
def resF:CFn→List CRes
 | .mk _ r=>r
 | _=>[]
def uF:List Stp→Code→Option Code
 | [],.loop b=>some b
 | .l::p,.seq x _=>uF p x
 | .r::p,.seq _ y=>uF p y
 | .b::p,.block _ x=>uF p x
 | _,_=>none
def QH (P:Program):List Stp→Code→(Exit→Act→World→Prop)→Exit→Act→World→Prop
 | .l::p,.seq x y,Q=>QH P p x (Exit.then (y.wp P Q) Q)
 | .r::p,.seq _ y,Q=>QH P p y Q
 | .b::p,.block id x,Q=>QH P p x (Exit.inBlock id Q)
 | _,_,Q=>Q
omit [SymFact P] in
theorem zAg {F N:Nat}:∀ {p:List Stp} {c b:Code},uF p c=some b→zBg p (zR P F N c)=zR P F N b
 | [],c,b,h=>by
  cases c <;> first | (injection h with h; subst h; rfl) | cases h
 | .l::p,c,b,h=>by
  cases c <;> first | exact zAg (p:=p) h | cases h
 | .r::p,c,b,h=>by
  cases c <;> first | exact zAg (p:=p) h | cases h
 | .b::p,c,b,h=>by
  cases c <;> first | exact zAg (p:=p) h | cases h
section
variable {F N:Nat} {call:yT}
theorem jz (hcall:ym call):∀ (p:List Stp) (c:CCode) (tm:Tm) (ds:xP) (h:Heap) (n:Key),zh n (zDv P call p c tm ds h n)
 | [],_,_,_,_,_=>Nat.le_refl _
 | .l::p,c,tm,ds,h,n=>by
  cases c <;> first | exact jz hcall p _ tm ds h n | trivial
 | .r::p,c,tm,ds,h,n=>by
  cases c <;> first | exact qF (fun tm ds h n=>jz hcall p _ tm ds h n) (yg hcall _ tm ds h n) | trivial
 | .b::p,c,tm,ds,h,n=>by
  cases c <;> first | exact jz hcall p _ tm ds h n | trivial
theorem zBa (hcall:yW P call) (hdraw:j6 P F N call):∀ (p:List Stp) (c:Code) {b:Code} {Q:Exit→Act→World→Prop} {ψ:Psi} {tm:Tm} {ds:xP} {h:Heap} {n:Key} {a:Act} {w:World},
 uF p c=some b→yH c=true→St P F N ψ tm ds h n a w→zX (zDv P call p (zR P F N c) tm ds h n) →
 (∀ e a' w',yw P F N ψ (Heap.fam h) n w (zDv P call p (zR P F N c) tm ds h n) e a' w'→e=.normal∧uH P b (QH P p c Q) a' w')→c.wp P Q a w
 | [],c,b,Q,ψ,tm,ds,h,n,a,w,hs,hn,hst,hc,hq=>by
  cases c <;> try (cases hs; done)
  rename_i b'
  injection hs with hs; subst hs
  exact zEU (hq .normal a w ⟨trivial,ψ,hst,z7.refl hst.rel,hc⟩).2
 | .l::p,c,b,Q,ψ,tm,ds,h,n,a,w,hs,hn,hst,hc,hq=>by
  cases c <;> try (cases hs; done)
  rename_i x y
  have hnr:yH x=true∧yH y=true:=by simpa [yH] using hn
  exact wp_seq (zBa hcall hdraw p x (Q:=Exit.then (y.wp P Q) Q) hs hnr.1 hst hc hq)
 | .r::p,c,b,Q,ψ,tm,ds,h,n,a,w,hs,hn,hst,hc,hq=>by
  cases c <;> try (cases hs; done)
  rename_i x y
  have hnr:yH x=true∧yH y=true:=by simpa [yH] using hn
  have hc:zX (xz (zDv P call p (zR P F N y)) (zi P call (zR P F N x) tm ds h n)):=hc
  have hab:=fun tm ds h n=>jz (P:=P) hcall.above p (zR P F N y) tm ds h n
  refine wp_seq (wp_mono (vL hcall hdraw x hnr.1 hst (xW hab hc)) fun e a' w' ho=>?_)
  rcases jv hc ho with ⟨rfl,tm',ds',h',n',ψ',h2,h3,h4,h5⟩ | ⟨h1,h2⟩
  · refine zBa hcall hdraw p y (Q:=Q) hs hnr.2 h2 h4 fun e'' a'' w'' ho'=>?_
    exact hq e'' a'' w'' (h5 e'' a'' w'' (yw.trans h3 ho'))
  · exact absurd (hq e a' w' h2).1 h1
 | .b::p,c,b,Q,ψ,tm,ds,h,n,a,w,hs,hn,hst,hc,hq=>by
  cases c <;> try (cases hs; done)
  rename_i id x
  exact wp_block (zBa hcall hdraw p x (Q:=Exit.inBlock id Q) hs hn hst hc hq)
theorem wN (hcall:ym call):∀ (p:List Stp) (c:CCode) {r:R},zX (uO P call p c r)→zX r
 | [],_,_,h=>h
 | .l::p,c,r,h=>by
  cases c <;> first | exact wN hcall p _ (xW (fun tm ds h n=>yg hcall _ tm ds h n) h) | exact h.elim
 | .r::p,c,r,h=>by
  cases c <;> first | exact wN hcall p _ h | exact h.elim
 | .b::p,c,r,h=>by
  cases c <;> first | exact wN hcall p _ (jU _ h) | exact h.elim
theorem ux (hcall:yW P call) (hdraw:j6 P F N call) {ψ₀:Psi} {g₀:Fam} {n₀:Key} {w₀:World}:∀ (p:List Stp) (c:Code) {b:Code} {Q:Exit→Act→World→Prop} {r:R} {e:Exit} {a:Act} {w:World},
 uF p c=some b→yH c=true→yw P F N ψ₀ g₀ n₀ w₀ r e a w→zX (uO P call p (zR P F N c) r) →
 (∀ e a w,yw P F N ψ₀ g₀ n₀ w₀ (uO P call p (zR P F N c) r) e a w→Q e a w)→QH P p c Q e a w
 | [],c,b,Q,r,e,a,w,hs,hn,ho,hc,hq=>by
  cases c <;> first | exact hq e a w ho | cases hs
 | .l::p,c,b,Q,r,e,a,w,hs,hn,ho,hc,hq=>by
  cases c <;> try (cases hs; done)
  rename_i x y
  have hnr:yH x=true∧yH y=true:=by simpa [yH] using hn
  have hc:zX (xz (zi P call (zR P F N y)) (uO P call p (zR P F N x) r)):=hc
  have hab:=fun tm ds h n=>yg (P:=P) hcall.above (zR P F N y) tm ds h n
  refine ux hcall hdraw p x (Q:=Exit.then (y.wp P Q) Q) hs hnr.1 ho (xW hab hc) fun e a w ho=>?_
  rcases jv hc ho with ⟨rfl,tm',ds',h',n',ψ',h2,h3,h4,h5⟩ | ⟨h1,h2⟩
  · exact wp_mono (vL hcall hdraw y hnr.2 h2 h4) fun e'' a'' w'' ho'=>hq e'' a'' w'' (h5 e'' a'' w'' (yw.trans h3 ho'))
  · cases e <;> first | exact absurd rfl h1 | exact hq _ _ _ h2
 | .r::p,c,b,Q,r,e,a,w,hs,hn,ho,hc,hq=>by
  cases c <;> try (cases hs; done)
  rename_i x y
  have hnr:yH x=true∧yH y=true:=by simpa [yH] using hn
  exact ux hcall hdraw p y (Q:=Q) hs hnr.2 ho hc hq
 | .b::p,c,b,Q,r,e,a,w,hs,hn,ho,hc,hq=>by
  cases c <;> try (cases hs; done)
  rename_i id x
  have hc:zX (uI id (uO P call p (zR P F N x) r)):=hc
  refine ux hcall hdraw p x (Q:=Exit.inBlock id Q) hs hn ho (jU id hc) fun e a w ho=>?_
  exact uD (fun e a w h=>hq e a w h) ho
end
end
end Go.Ev
namespace Go.Ev
open Go.RowKit
noncomputable section
variable {P:Program}
structure kM where
 T:Nat
 ks:List Key
 θ:TH
def vt (θ:TH):Bool:=match θ with
 | q::_=>zx q.1 1&&vA q.2 [(0,1)]
 | []=>false
def zCo (θ:TH):Bool:=match θ with
 | _::_=>true
 | []=>false
def jN (θ:TH):List (Key × Nat)→Bool
 | []=>true
 | q::r=>(match nth θ q.2 with
  | some u=>zx u.1 0&&vA u.2 [(q.2,1)]
  | none=>false)&&jN θ r
def LensAre (wins:List Win) (L:List (Key × Nat)) (σ:Nat→Int):Prop:=∀ q∈L,∃ wn,findW wins q.1=some wn∧σ q.2=wn.len
theorem zGc {θ:TH}:∀ {L:List (Key × Nat)},jN θ L=true→∀ q∈L,nth θ q.2=some (0,[(q.2,1)])
 | [],_,q,h=>by cases h
 | x::r,h,q,hq=>by
  unfold jN at h
  rw [Bool.and_eq_true] at h
  rcases List.mem_cons.1 hq with rfl | hq
  · have h1:=h.1
    split at h1
    · rename_i u hu
      rw [Bool.and_eq_true,@za noSym,decide_eq_true_eq] at h1
      rw [hu]
      obtain ⟨a,b⟩:=u
      simp only at h1
      rw [h1.1,@wT noSym _ _ h1.2]
    · cases h1
  · exact zGc h.2 q hq
def zBR (G:Nat) (ws:List (Key × Nat)) (Ts:List TS) (ok:kM→Bool) (K:zc) (t:kM) (tm:Tm) (ds:xP) (h:Heap) (n:Key):Bool:=match ds with
 | []=>match nth Ts t.T with
  | some T=>zTS T fun T=>ok t&&zJo G ws T t.ks t.θ K tm h&&Nat.ble (Nat.succ n.ix) 65535
  | none=>false
 | _=>false
def kK (G:Nat) (ws:List (Key × Nat)) (Ts:List TS) (ok:kM→Bool) (K:zc) (fin:R→Bool):R→List kM→Option (List kM)
 | .ok .normal tm ds h n,t::r=>match zBR G ws Ts ok K t tm ds h n with
  | true=>some r
  | false=>none
 | .ok (.exit i) tm ds h n,r=>match fin (.ok (.exit i) tm ds h n) with
  | true=>some r
  | false=>none
 | .ok .ret tm ds h n,r=>match fin (.ok .ret tm ds h n) with
  | true=>some r
  | false=>none
 | .fork a b,r=>match kK G ws Ts ok K fin a r with
  | some r=>kK G ws Ts ok K fin b r
  | none=>none
 | _,_=>none
def wV (o:Option (List kM)):Bool:=match o with
 | some _=>true
 | none=>false
section
variable {G:Nat} {ws:List (Key × Nat)} {Ts:List TS} {ok:kM→Bool} {K:zc} {fin:R→Bool}
theorem jt (hf:∀ r,fin r=true→zX r):∀ {r:R} {l l':List kM},kK G ws Ts ok K fin r l=some l'→zX r
 | .ok .normal tm ds h n,[],_,hc=>by cases hc
 | .ok .normal tm ds h n,t::r,l',hc=>by
  unfold kK at hc
  split at hc
  · rename_i hl
    unfold zBR at hl
    split at hl
    · split at hl
      · rw [zKF,Bool.and_eq_true] at hl
        exact @zJ noSym _ _ hl.2
      · cases hl
    · cases hl
  · cases hc
 | .ok (.exit i) tm ds h n,l,l',hc=>by
  unfold kK at hc
  split at hc
  · rename_i h1; exact hf _ h1
  · cases hc
 | .ok .ret tm ds h n,l,l',hc=>by
  unfold kK at hc
  split at hc
  · rename_i h1; exact hf _ h1
  · cases hc
 | .ret ..,l,l',hc=>by cases hc
 | .err _,l,l',hc=>by cases hc
 | .fork a b,l,l',hc=>by
  unfold kK at hc
  split at hc
  · rename_i r hr
    exact ⟨jt hf hr,jt hf hc⟩
  · cases hc
def zSd (P:Program) (F N:Nat) (ψ₀:Psi) (g₀:Fam) (n₀:Key) (w₀:World) (G:Nat) (ws:List (Key × Nat)) (Ts:List TS) (ok:kM→Bool) (K:zc) (fin:R→Bool) (S:Sym) (e:Exit) (a:Act) (w:World):Prop:=
 (e=.normal∧∃ (tm:Tm) (h:Heap) (n:Key) (ψ:Psi) (t:kM) (T:TS),@St S P F N ψ tm [] h n a w∧@z7 S ψ₀ g₀ n₀ w₀ ψ (Heap.fam h) n w∧nth Ts t.T=some T∧ok t=true∧zJo G ws T t.ks t.θ K tm h=true) ∨
 (e≠.normal∧∃ r,@yw S P F N ψ₀ g₀ n₀ w₀ r e a w∧fin r=true)
theorem vS {S:Sym} {F N:Nat} {ψ₀:Psi} {g₀:Fam} {n₀:Key} {w₀:World} {e:Exit} {a:Act} {w:World}:∀ {r:R} {l l':List kM},kK G ws Ts ok K fin r l=some l' →
 @yw S P F N ψ₀ g₀ n₀ w₀ r e a w→zSd P F N ψ₀ g₀ n₀ w₀ G ws Ts ok K fin S e a w
 | .ok .normal tm ds h n,[],_,hc,_=>by cases hc
 | .ok .normal tm ds h n,t::r,l',hc,⟨h1,ψ,h2,h3,h4⟩=>by
  unfold kK at hc
  split at hc
  · rename_i hl
    unfold zBR at hl
    split at hl
    · split at hl
      · rename_i T hT
        rw [zKF,Bool.and_eq_true,Bool.and_eq_true] at hl
        cases e <;> first | exact h1.elim | skip
        exact Or.inl ⟨rfl,tm,h,n,ψ,t,T,h2,h3,hT,hl.1.1,hl.1.2⟩
      · cases hl
    · cases hl
  · cases hc
 | .ok (.exit i) tm ds h n,l,l',hc,ho=>by
  unfold kK at hc
  split at hc
  · rename_i hf
    refine Or.inr ⟨fun e1=>?_,_,ho,hf⟩
    subst e1; exact ho.1.elim
  · cases hc
 | .ok .ret tm ds h n,l,l',hc,ho=>by
  unfold kK at hc
  split at hc
  · rename_i hf
    refine Or.inr ⟨fun e1=>?_,_,ho,hf⟩
    subst e1; exact ho.1.elim
  · cases hc
 | .ret ..,l,l',hc,_=>by cases hc
 | .err _,l,l',hc,_=>by cases hc
 | .fork a b,l,l',hc,ho=>by
  unfold kK at hc
  split at hc
  · rename_i r hr
    rcases ho with ho | ho
    · exact vS hr ho
    · exact vS hc ho
  · cases hc
end
structure zNV (P:Program) (F N:Nat) (G:Nat) (A:Key→Option Value) (wins:List Win) (L:List (Key × Nat)) (w0:World) (T:TS) (σ:Nat→Int) (ψ:Psi) (a:Act) (w:World):Prop where
 bnd:yF σ 0 T.b
 fct:jJ σ T.f
 rul:qC σ T.r
 len:LensAre wins L σ
 st:∀ σ' K',(∀ j,j<T.b.length→σ' j=σ j)→K'.arg=A→@St (linSym σ' K') P F N ψ (zAQ T.locs) [] (mkH .nil T.objs) T.n a w
 own:∀ k o p,Heap.fam (mkH .nil T.objs) k=some o→ψ k=some p→o.isRo=false∧w0.heap.size≤p.blk
 blw:Below w0.heap.size w0 w
 win:∀ k wn,findW wins k=some wn→Heap.fam (mkH .nil T.objs) k=none→ψ k=some ⟨wn.B,wn.x+(σ 0).toNat*wn.esz,wn.sz,fun n=>n⟩
theorem zJp {S:Sym} {ψ ψ':Psi} {g g':Fam} {n n':Key} {w0 w w':World} (h:Below w0.heap.size w0 w) (hp:@z7 S ψ g n w ψ' g' n' w') (hm:∀ k o p,g k=some o→o.isRo=false→ψ k=some p→w0.heap.size≤p.blk) :
 Below w0.heap.size w0 w':=by
 have h1:=@z7.os S _ _ _ _ _ _ _ _ hp
 have h2:=@z7.tape S _ _ _ _ _ _ _ _ hp
 have h3:=@z7.output S _ _ _ _ _ _ _ _ hp
 have h4:=@z7.size S _ _ _ _ _ _ _ _ hp
 have h5:=@z7.frame S _ _ _ _ _ _ _ _ hp
 refine ⟨h1.trans h.os,h2.trans h.tape,h3.trans h.output,Nat.le_trans h.size h4,fun k hk=>?_⟩
 rw [h5 k (Nat.lt_of_lt_of_le hk h.size) fun k' o p q1 q2 q3 e=>?_,h.block k hk]
 have:=hm k' o p q1 q2 q3
 omega
theorem zLV {h:Heap}:∀ {objs:List (Key × CObj)} {j:Nat} {k:Key} {o:CObj},objs[j]? = some (k,o)→∃ o',getH k (mkH h objs)=some o'
 | [],j,k,o,hj=>by simp at hj
 | p::r,j,k,o,hj=>by
  show ∃ o',getH k (yl (some p.2) p.1 (mkH h r))=some o'
  rw [wv]
  split
  · exact ⟨_,rfl⟩
  · rename_i e
    cases j with
    | zero=>simp at hj; subst hj; exact absurd rfl e
    | succ j=>exact zLV (j:=j) (by simpa using hj)
theorem zOt {objs:List (Key × CObj)} {ks:List Key} {k:Key} (h:Heap.fam (mkH .nil objs) k=none):zBT (jZ objs ks) k=true:=by
 unfold zBT
 split
 · rfl
 · rename_i b hb
   obtain ⟨j,o,h1,h2⟩:=zFr hb
   obtain ⟨o',h3⟩:=zLV (h:=.nil) h1
   have h:getH k (mkH .nil objs)=none:=h
   rw [h] at h3; cases h3
theorem zKw {L:List (Key × Nat)} {wins:List Win} {σs:Nat→Int} {Ks:zc} (hK:KnownOk σs Ks) (hlen:LensAre wins L σs) {θ:TH} {T:TS} {ks:List Key} {G F N:Nat} {ψ₀ ψ:Psi} {g₀:Fam} {n₀:Key} {w0 w₀:World} {tm:Tm} {h:Heap} {n:Key} {a:Act} {w:World}
 (hst:@St (linSym σs Ks) P F N ψ tm [] h n a w) (hp:@z7 (linSym σs Ks) ψ₀ g₀ n₀ w₀ ψ (Heap.fam h) n w) (hG:P.globals.size≤G) (hA:ArgsAre Ks.arg wins) (hc:zJo G (wsOf wins) T ks θ Ks tm h=true)
 (h0:∃ q,nth θ 0=some q) (hL:jN θ L=true) (hm:∀ k o p,g₀ k=some o→o.isRo=false→ψ₀ k=some p→w0.heap.size≤p.blk) (hb:Below w0.heap.size w0 w₀) :
 ∃ σ ψT,zNV P F N G Ks.arg wins L w0 T σ ψT a w∧∀ q,nth θ 0=some q→σ 0=evQ σs q:=by
 obtain ⟨σ,hσ⟩:∃ σ:Nat→Int,∀ j,σ j=match nth θ j with | some q=>evQ σs q | none=>0:=⟨_,fun _=>rfl⟩
 have hth:∀ j q,nth θ j=some q→σ j=evQ σs q:=fun j q hj=>by rw [hσ,hj]
 obtain ⟨q0,hq0⟩:=h0
 obtain ⟨ψT,c1,c2,c3⟩:=zPl hst hG hA hc (evQ σs q0) (fun q hq=>by rw [hq0] at hq; injection hq with hq; rw [hq]) ⟨q0,hq0⟩
 have hc':=hc
 unfold zJo at hc'
 simp only [Bool.and_eq_true] at hc'
 obtain ⟨⟨⟨⟨⟨⟨_,_⟩,c6⟩,c7⟩,_⟩,_⟩,c10⟩:=hc'
 obtain ⟨hlenb,hbd⟩:=zME hK (σT:=σ) (k:=0) c6 (fun j q hj=>by rw [Nat.zero_add]; exact hth j q hj)
 have hout:=@z7.img (linSym σs Ks) _ _ _ _ _ _ _ _ hp
 have hsz:=@z7.size (linSym σs Ks) _ _ _ _ _ _ _ _ hp
 refine ⟨σ,ψT,⟨hbd,zMg hK (fun j q hj=>hth j q hj) c7,zDp (fun j q hj=>hth j q hj) hK.rules c10,fun q hq=>?_,fun σ' K' hag hK'=>?_,fun k o p h1 h2=>?_,zJp hb hp hm,fun k wn hw hno=>?_⟩,fun q hq=>hth 0 q hq⟩
 · obtain ⟨wn,h1,h2⟩:=hlen q hq
   refine ⟨wn,h1,?_⟩
   rw [hth _ _ (zGc hL q hq)]
   show (0:Int)+(1*σs q.2+0)=_
   rw [h2]; omega
 · refine c1 σ' K' (fun j q hj=>?_) hK'
   have hlt:j<T.b.length:=by
    rw [hlenb]
    rw [@nth_eq noSym] at hj
    exact (List.getElem?_eq_some_iff.1 hj).1
   rw [hag j hlt]
   exact hth j q hj
 · obtain ⟨g1,k0,o0,p0,g2,g3,g4,g5⟩:=c2 k o p h1 h2
   refine ⟨g1,?_⟩
   rw [← g5]
   rcases hout k0 o0 p0 g2 g3 g4 with ⟨k1,o1,p1,r1,r2,r3,r4⟩ | r
   · rw [← r4]; exact hm k1 o1 p1 r1 r2 r3
   · exact Nat.le_trans hb.size (Nat.le_trans (by exact Nat.le_refl _) r)
 · rw [c3.1 k wn hw (zOt hno),hth 0 q0 hq0]
def zSn:CV→Option Key
 | .sl k _ _ _ _ _=>some k
 | .win k _ _ _=>some k
 | _=>none
def zPf (wins:List Win) (i:Int) (ψ:Psi) (c:CV):Prop:=∀ k wn,zSn c=some k→findW wins k=some wn→ψ k=some ⟨wn.B,wn.x+i.toNat*wn.esz,wn.sz,fun n=>n⟩
def zAA (S:Sym) (wins:List Win) (w0:World) (i:Int) (q:Key × List CV):Prop:=
 ∃ wn arr elem fz,findW wins q.1=some wn∧w0.heap[wn.B]? = some (.cells arr elem fz)∧wn.x+i.toNat*wn.esz+q.2.length≤arr.size ∧
  ∀ (j:Nat) (c:CV),q.2[j]? = some c→∃ v,arr[wn.x+i.toNat*wn.esz+j]? = some v∧∀ ψ,zPf wins i ψ c→@zG S ψ c v
def zDx (l:List (Key × List CV)):List (Key × CObj):=l.map fun q=>(q.1,.ro q.2)
def zFw (objs:List (Key × CObj)):List CV→Bool
 | []=>true
 | c::r=>(match zSn c with
  | none=>true
  | some k=>(match getH k (mkH .nil objs) with
   | none=>true
   | some _=>false))&&zFw objs r
theorem zGd {objs:List (Key × CObj)}:∀ {l:List CV},zFw objs l=true→∀ (j:Nat) c k,l[j]? = some c→zSn c=some k→getH k (mkH .nil objs)=none
 | [],_,j,c,k,hj,_=>by simp at hj
 | x::r,h,j,c,k,hj,hk=>by
  unfold zFw at h
  rw [Bool.and_eq_true] at h
  cases j with
  | zero=>
   simp at hj
   subst hj
   have h1:=h.1
   rw [hk] at h1
   simp only at h1
   split at h1
   · assumption
   · cases h1
  | succ j=>exact zGd h.2 j c k (by simpa using hj) hk
def wF (objs:List (Key × CObj)):List (Key × List CV)→Bool
 | []=>true
 | q::r=>zFw objs q.2&&(match getH q.1 (mkH .nil objs) with
  | none=>true
  | some _=>false)&&(match getH q.1 (mkH .nil (zDx r)) with
  | none=>true
  | some _=>false)&&wF objs r
theorem zPo {l:List (Key × List CV)} {j:Nat} {k:Key} {o:CObj} (h:(zDx l)[j]? = some (k,o)):∃ cs,(k,cs)∈l∧o=.ro cs:=by
 unfold zDx at h
 rw [List.getElem?_map] at h
 cases hq:l[j]? with
 | none=>rw [hq] at h; cases h
 | some q=>
  rw [hq] at h
  injection h with h
  injection h with h1 h2
  subst h1 h2
  exact ⟨q.2,List.mem_of_getElem? hq,rfl⟩
theorem zG5 {objs:List (Key × CObj)}:∀ {l:List (Key × List CV)},wF objs l=true→∀ q∈l,getH q.1 (mkH .nil objs)=none
 | [],_,q,hq=>by cases hq
 | x::r,h,q,hq=>by
  unfold wF at h
  simp only [Bool.and_eq_true] at h
  rcases List.mem_cons.1 hq with rfl | hq
  · have h1:=h.1.1.2
    split at h1
    · assumption
    · cases h1
  · exact zG5 h.2 q hq
theorem zFo {objs:List (Key × CObj)}:∀ {l:List (Key × List CV)},wF objs l=true→∀ q∈l,zFw objs q.2=true
 | [],_,q,hq=>by cases hq
 | x::r,h,q,hq=>by
  unfold wF at h
  simp only [Bool.and_eq_true] at h
  rcases List.mem_cons.1 hq with rfl | hq
  · exact h.1.1.1
  · exact zFo h.2 q hq
theorem uW {objs:List (Key × CObj)} {l:List (Key × List CV)} {k:Key} {o:CObj} (h:Heap.fam (mkH (mkH .nil objs) (zDx l)) k=some o) :
 (∃ cs,(k,cs)∈l∧o=.ro cs)∨Heap.fam (mkH .nil objs) k=some o:=by
 rcases qj h with ⟨j,hj⟩ | h
 · exact .inl (zPo hj)
 · exact .inr h
section
variable {F N G:Nat} {A:Key→Option Value} {wins:List Win} {L:List (Key × Nat)} {w0:World} {T:TS} {σ:Nat→Int} {ψ:Psi} {a:Act} {w:World}
theorem zP5 (hi:zNV P F N G A wins L w0 T σ ψ a w) {σ':Nat→Int} {K':zc} (hag:∀ j,j<T.b.length→σ' j=σ j) (hA:K'.arg=A) {l:List (Key × List CV)}
 (hl:∀ q∈l,zAA (linSym σ' K') wins w0 (σ 0) q) (hap:wF T.objs l=true) :
 @St (linSym σ' K') P F N ψ (zAQ T.locs) [] (mkH (mkH .nil T.objs) (zDx l)) T.n a w:=by
 have hst:=hi.st σ' K' hag hA
 have hR:@Rel (linSym σ' K') ψ (Heap.fam (mkH .nil T.objs)) w:=@St.rel (linSym σ' K') _ _ _ _ _ _ _ _ _ _ hst
 have hTot:=@Rel.tot (linSym σ' K') _ _ _ hR
 have hOn:=@Rel.on (linSym σ' K') _ _ _ hR
 have hInj:=@Rel.inj (linSym σ' K') _ _ _ hR
 have hwin:∀ k cs,(k,cs)∈l→∃ wn arr elem fz,findW wins k=some wn∧ψ k=some ⟨wn.B,wn.x+(σ 0).toNat*wn.esz,wn.sz,fun n=>n⟩∧w.heap[wn.B]? = some (.cells arr elem fz)∧wn.B<w0.heap.size ∧
  wn.x+(σ 0).toNat*wn.esz+cs.length≤arr.size ∧
  ∀ (j:Nat) (c:CV),cs[j]? = some c→∃ v,arr[wn.x+(σ 0).toNat*wn.esz+j]? = some v∧@zG (linSym σ' K') ψ c v:=by
  intro k cs hm
  obtain ⟨wn,arr,elem,fz,h1,h2,h5,h6⟩:=hl _ hm
  have hlt:wn.B<w0.heap.size:=by
   rcases Nat.lt_or_ge wn.B w0.heap.size with h | h
   · exact h
   · rw [Array.getElem?_eq_none h] at h2; cases h2
  exact ⟨wn,arr,elem,fz,h1,hi.win k wn h1 (zG5 hap _ hm),by rw [hi.blw.block _ hlt]; exact h2,hlt,h5,fun j c hj=>by
   obtain ⟨v,hv,hr⟩:=h6 j c hj
   exact ⟨v,hv,hr ψ fun k' wn' hk' hw'=>hi.win k' wn' hw' (zGd (zFo hap _ hm) j c k' hj hk')⟩⟩
 refine @St.mk (linSym σ' K') P F N _ _ _ _ _ _ _ (@St.frame (linSym σ' K') _ _ _ _ _ _ _ _ _ _ hst) (@St.dfr (linSym σ' K') _ _ _ _ _ _ _ _ _ _ hst) ?_ (@St.glob (linSym σ' K') _ _ _ _ _ _ _ _ _ _ hst) (@St.fresh (linSym σ' K') _ _ _ _ _ _ _ _ _ _ hst)
 refine @Rel.mk (linSym σ' K') _ _ _ ?_ ?_ ?_
 · intro k o p hk hp
   rcases uW hk with ⟨cs,hm,rfl⟩ | hk
   · obtain ⟨wn,arr,elem,fz,h1,h2,h3,_,h6,h7⟩:=hwin k cs hm
     rw [h2] at hp
     injection hp with hp; subst hp
     exact ⟨arr,elem,fz,h3,h6,h7⟩
   · exact hOn k o p hk hp
 · intro k o hk
   rcases uW hk with ⟨cs,hm,rfl⟩ | hk
   · obtain ⟨wn,arr,elem,fz,h1,h2,_⟩:=hwin k cs hm
     exact ⟨_,h2⟩
   · exact hTot k o hk
 · intro k₁ k₂ o₁ o₂ p₁ p₂ h1 h2 h3 h4 hr e
   rcases uW h1 with ⟨cs1,m1,rfl⟩ | h1 <;> rcases uW h2 with ⟨cs2,m2,rfl⟩ | h2
   · exact hr.elim (fun h=>by cases h) (fun h=>by cases h)
   · exfalso
     obtain ⟨w1,_,_,_,f1,g1,_,hlt,_⟩:=hwin k₁ cs1 m1
     rw [g1] at h3
     injection h3 with h3; subst h3
     have:=(hi.own _ _ _ h2 h4).2
     simp only at e
     omega
   · exfalso
     obtain ⟨w1,_,_,_,f1,g1,_,hlt,_⟩:=hwin k₂ cs2 m2
     rw [g1] at h4
     injection h4 with h4; subst h4
     have:=(hi.own _ _ _ h1 h3).2
     simp only at e
     omega
   · exact hInj k₁ k₂ o₁ o₂ p₁ p₂ h1 h2 h3 h4 hr e
end
def boundIs (m:Int):List TS→Bool
 | []=>true
 | T::r=>(match T.b with
  | q::_=>decide (q.2≤m)
  | []=>false)&&boundIs m r
theorem zAW {m:Int}:∀ {Ts:List TS} {t:Nat} {T:TS},boundIs m Ts=true→nth Ts t=some T→∃ q r,T.b=q::r∧q.2≤m
 | [],_,_,_,h=>by cases h
 | x::r,t,T,hb,h=>by
  unfold boundIs at hb
  rw [Bool.and_eq_true] at hb
  cases t with
  | zero=>
   injection h with h; subst h
   have h1:=hb.1
   split at h1
   · rename_i q l e
     exact ⟨q,l,e,of_decide_eq_true h1⟩
   · cases h1
  | succ t=>exact zAW hb.2 h
section
variable {code:FuncId→CFn} {nat:Nats} {fuel:Nat} {fn:Func} {c b:Code} {p:List Stp} {rs:List CRes} {G:Nat} {wins:List Win} {L:List (Key × Nat)} {A:Key→Option Value} {Ts:List TS} {bound:Int} {w0:World}
def zIt (P:Program) (code:FuncId→CFn) (nat:Nats) (fuel:Nat) (p:List Stp) (cc:CCode) (rs:List CRes) (S:Sym) (r:R):Bool:=
 jR (ye false (@ev S P code nat fuel) rs (@uO S P (@ev S P code nat fuel) p cc r))
def zSm (P:Program) (code:FuncId→CFn) (nat:Nats) (fuel:Nat) (G:Nat) (ws L:List (Key × Nat)) (Ts:List TS) (p:List Stp) (cc:CCode) (rs:List CRes) (T:TS) (l:List (Key × List CV)) (S:Sym) (K:zc) (hs:List kM):Bool:=
 wV (kK G ws Ts (fun t=>vt t.θ&&jN t.θ L) K (zIt P code nat fuel p cc rs S) (@zi S P (@ev S P code nat fuel) (zBg p cc) (zAQ T.locs) [] (mkH (mkH .nil T.objs) (zDx l)) T.n) hs)
def Passes (P:Program) (code:FuncId→CFn) (nat:Nats) (fuel:Nat) (G:Nat) (wins:List Win) (L:List (Key × Nat)) (A:Key→Option Value) (Ts:List TS) (p:List Stp) (cc:CCode) (rs:List CRes) (w0:World):Prop:=
 ∀ t T,nth Ts t=some T→∀ σ,yF σ 0 T.b→jJ σ T.f→qC σ T.r→LensAre wins L σ→∃ σ' K' l hs,(∀ j,j<T.b.length→σ' j=σ j)∧(∀ q∈L,σ' q.2=σ q.2)∧K'.arg=A∧KnownOk σ' K'∧(∀ q∈l,zAA (linSym σ' K') wins w0 (σ 0) q)∧wF T.objs l=true ∧
  zSm P code nat fuel G (wsOf wins) L Ts p cc rs T l (linSym σ' K') K' hs=true
theorem zF3 {σ:Nat→Int} {K:zc} (hK:KnownOk σ K) (hm:P.follows .mixedOrders=true) (hcode:CodeOk P code) (hnat:∀ σ K,KnownOk σ K→@NatsOk (linSym σ K) P nat) {cc:CCode}:∀ r,zIt P code nat fuel p cc rs (linSym σ K) r=true→zX r:=by
 letI S:Sym:=linSym σ K
 haveI hS:SymFact P:=xg hK
 have hcall:yW P (ev P code nat fuel):=zAx (fun call hcall F N=>xf hm hcall) hcode (hnat _ _ hK) fuel
 intro r h
 have h:jR (ye false (ev P code nat fuel) rs (uO P (ev P code nat fuel) p cc r))=true:=h
 exact wN hcall.above p cc (xL hcall.above false rs (j7 h))
abbrev zId (P:Program) (fn:Func) (w0:World):Exit→Act→World→Prop:=bodyPostD P fn fun e w=>e=.returned (.bool true)∧Below w0.heap.size w0 w
theorem zMy {σ:Nat→Int} {K:zc} (hK:KnownOk σ K) (hm:P.follows .mixedOrders=true) (hcode:CodeOk P code) (hnat:∀ σ K,KnownOk σ K→@NatsOk (linSym σ K) P nat) {F N:Nat} (hsub:uF p c=some b) (hn:yH c=true)
 (hrs:yu (xO P F N) fn.results.toList=some rs) {ψ₀:Psi} {g₀:Fam} {n₀:Key} {w₀:World} {r:R} {e:Exit} {a:Act} {w:World}
 (ho:@yw (linSym σ K) P F N ψ₀ g₀ n₀ w₀ r e a w) (hf:zIt P code nat fuel p (zR P F N c) rs (linSym σ K) r=true)
 (hb:Below w0.heap.size w0 w₀) (ho0:∀ k o p,g₀ k=some o→o.isRo=false→ψ₀ k=some p→w0.heap.size≤p.blk):QH P p c (zId P fn w0) e a w:=by
 letI S:Sym:=linSym σ K
 haveI hS:SymFact P:=xg hK
 have hcall:yW P (ev P code nat fuel):=zAx (fun call hcall F N=>xf hm hcall) hcode (hnat _ _ hK) fuel
 have hdraw:j6 P F N (ev P code nat fuel):=xf hm hcall
 have hf:jR (ye false (ev P code nat fuel) rs (uO P (ev P code nat fuel) p (zR P F N c) r))=true:=hf
 have hc:=j7 hf
 have hc2:=xL hcall.above false rs hc
 refine ux hcall hdraw p c hsub hn ho hc2 fun e a w ho=>?_
 refine ky false rs hc ho fun tm ds h' n' ψ' q1 q2 q3 q4 q5=>?_
 have hl:=zGi hcall hrs q2 q4
 have:Leaves P fn a.tmps (fun e w=>e=.returned (.bool true)∧Below w0.heap.size w0 w) a.defers .returning w:=by
  refine jS (fun e w'' ⟨v,he,hr⟩=>?_) _ _ _ hl
  obtain ⟨rfl,ψ'',g'',n'',hp⟩:=up hf (q5 _ _ (zn.trans q3 hr))
  exact ⟨he,zJp hb hp ho0⟩
 rcases q1 with rfl | rfl
 · exact this
 · exact this
end
end
end Go.Ev
namespace Go.Ev
open Go.RowKit
noncomputable section
variable {P:Program}
theorem zE7 {f:FuncId} {fn:Func} {c:Code} {cc:CCode} {rs:List CRes} (hf:P.funcs[f]? = some fn) (hb:fn.body=some c) (h:compFn P f=.mk cc rs) :
 yu (xO P (frameBits fn c) fn.ntmps) fn.results.toList=some rs∧yH c=true∧cc=zR P (frameBits fn c) fn.ntmps c:=by
 unfold compFn at h
 rw [@nth_eq noSym] at h
 have hf':P.funcs.toList[f]? = some fn:=by simpa using hf
 simp only [hf',hb] at h
 split at h
 · cases h
 · unfold zA1 at h
   cases hrs:yu (xO P (frameBits fn c) fn.ntmps) fn.results.toList with
   | none=>simp only [hrs] at h; cases h
   | some r=>
    simp only [hrs] at h
    split at h
    · rename_i hn
      injection h with h1 h2
      subst h1 h2
      exact ⟨rfl,hn,rfl⟩
    · split at h
      · split at h <;> cases h
      · cases h
def psiW (G:Nat) (wins:List Win):Psi:=fun k=>match findW wins k with
 | some w=>some ⟨w.B,w.x+0*w.esz,w.sz,fun n=>n⟩
 | none=>zOa G k
theorem zMQ {G:Nat} {wins:List Win} {hi:Nat} (hG:P.globals.size≤G) (hw:zFR G hi (wsOf wins)=true):wS P (psiW G wins):=by
 intro g hg h4
 obtain ⟨sz,e⟩:=@zNx noSym P zO5 _ hG g hg h4
 have hix:(Key.ofNat g).ix=g:=@Key.ix_ofNat noSym _ (by omega)
 have hnw:findW wins (Key.ofNat g)=none:=by
  cases hr:findW wins (Key.ofNat g) with
  | none=>rfl
  | some wn=>
   obtain ⟨hm,hk⟩:=jr hr
   have:=(zHm hw wn hm).1
   rw [hk] at this; omega
 refine ⟨sz,?_⟩
 unfold psiW
 rw [hnw]
 exact e
theorem zKI {G:Nat} {wins:List Win} {n:Key} (hn:G≤n.ix) (hw:zFR G n.ix (wsOf wins)=true):qR (psiW G wins) n:=by
 intro k hk
 have hnw:findW wins k=none:=by
  cases hr:findW wins k with
  | none=>rfl
  | some wn=>
   obtain ⟨hm,hk'⟩:=jr hr
   have:=(zHm hw wn hm).2
   rw [hk'] at this; omega
 unfold psiW
 rw [hnw]
 exact @zKL noSym _ _ hn k hk
def startOf (P:Program) (code:FuncId→CFn) (nat:Nats) (fuel:Nat) (G:Nat) (ws L:List (Key × Nat)) (Ts:List TS) (p:List Stp) (cc:CCode) (args:List CV) (n:Key) (S:Sym) (K:zc) (hs:List kM):Bool:=
 wV (kK G ws Ts (fun t=>zCo t.θ&&jN t.θ L) K (fun _=>false) (@zDv S P (@ev S P code nat fuel) p cc (qJ args 0 .nil) [] .nil n) hs)
end
end Go.Ev
