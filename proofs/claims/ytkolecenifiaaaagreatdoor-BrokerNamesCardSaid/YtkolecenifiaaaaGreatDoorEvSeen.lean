/- A verified evaluator for the model's code: EvSeen, EvItoa. -/
import Derived.Test.YtkolecenifiaaaaGreatDoorEvFrame
set_option linter.unusedSectionVars false
set_option linter.unusedVariables false
set_option linter.unusedSimpArgs false
namespace Go.Ev
open Go.RowKit
noncomputable section
variable {P:Program}
def yA:Key:=.mk .d0 .d1 .d0 .d0
def yB:Key:=.mk .d0 .d1 .d0 .d1
def yC:Key:=.mk .d0 .d1 .d0 .d2
def yE:Key:=.mk .d8 .d0 .d0 .d0
def zSF:Nat→List CV
 | 0=>[]
 | n+1=>.nat 1::.anyi .i64::zSF n
def zUb:List CV:=[.ptr yA 0,.agg [.nat 1,.anyi .i64]]
def zVD (v:CV) (k:Key) (n:Nat):Po:=⟨v,[(yA,.cells [.sl k 0 n n 2 false]),(k,.cells (zSF n))]⟩
def zWU:Fs:=⟨zUb,[(yA,.cells [.nilsl])],[],257,yE,[(0,0)],[zVD .any yB 1],[],0,[]⟩
def seE (n:Nat):Fs:=⟨zUb,[(yA,.cells [.sl yB 0 n n 2 false]),(yB,.cells (zSF n))],[],258,yE,[(0,0)],[zVD .any yC (Nat.min (Nat.succ n) 32),zVD .any yB n],[],0,[]⟩
structure zW1 (P:Program) (f:FuncId):Prop where
 glob:P.globals.size≤100
 none:FsOk P f zWU
 some:∀ n,1≤n→n≤32→FsOk P f (seE n)
section
variable [Sym]
end
section
variable {σ:Nat→Int} {K:zY}
def zRp (ψ:Psi) (pa:Pl) (qb:Option Pl):Psi:=fun k=>if k=yA then some pa else if k=yB then qb else if k.ix<256 then ψ k else none
theorem zOR {ψ:Psi} {pa:Pl} {qb:Option Pl} (hG:P.globals.size≤100) (h:kR P ψ):kR P (zRp ψ pa qb):=by
 intro g h1 h2
 obtain ⟨sz,e⟩:=h g h1 h2
 have hix:(Key.ofNat g).ix=g:=@Key.ix_ofNat (linSym (fun _=>0) kno) g (by omega)
 have hA:yA.ix=256:=by decide
 have hB:yB.ix=257:=by decide
 refine ⟨sz,?_⟩
 unfold zRp
 rw [if_neg (fun e=>by rw [e,hA] at hix; omega),if_neg (fun e=>by rw [e,hB] at hix; omega),if_pos (by omega)]
 exact e
theorem zMb {ψ:Psi} {pa:Pl} {qb:Option Pl}:xc (zRp ψ pa qb) yE:=by
 intro k hk
 have hE:yE.ix=32768:=by decide
 have hA:yA.ix=256:=by decide
 have hB:yB.ix=257:=by decide
 unfold zRp
 rw [if_neg (fun e=>by rw [e,hA] at hk; omega),if_neg (fun e=>by rw [e,hB] at hk; omega),if_neg (by omega)]
def zV4 (x:Int × Int):List Value:=[.int .i64 x.1,.int .i64 x.2]
structure zW5 (P:Program) (f:FuncId):Prop where
 enter:∀ args w,(callFunc f args).run P w=.ok (.enter f args) w
 has:∀ (b off n c:Nat) (zs:List (Int × Int)) (x:Int × Int) (w:World),n≤zs.length→n≤9223372036854775807→(∀ j,j<zs.length→∀ (i:Nat) v,(zV4 zs[j]!)[i]? = some v→w.cell? ⟨b,off+j*2+i,none⟩=some v) →
  Calls P f #[.slice (some ⟨b,off,none⟩) n c,.agg (zV4 x).toArray] w fun e w'=>(∃ bl,e=.returned (.bool bl))∧Below w.heap.size w w'
section
variable [Sym]
end
def zOh (P:Program) (code:FuncId→CFn) (nat:Nats) (fuel:Nat) (f:FuncId) (sel:List CV→Bool) (q:NatF):NatF:=fun S d args h n=>match u9 d&&sel args with
 | true=>q S false args h n
 | false=>@ev S P code nat fuel d f args h n
def natP (P:Program) (code:FuncId→CFn) (fuel:Nat) (f:FuncId) (sel:List CV→Bool) (q:NatF) (nat:Nats):Nats:=fun g=>Bool.rec (motive:=fun _=>Option NatF) (nat g) (some (zOh P code nat fuel f sel q)) (Nat.beq g f)
theorem zTb {code:FuncId→CFn} {fuel:Nat} {f:FuncId} {sel:List CV→Bool} {q:NatF} {nat:Nats} (hm:P.follows .mixedOrders=true) (hcode:CodeOk P code)
 (ha:∀ S args h n,zk n (q S false args h n))
 (hq:∀ (σ:Nat→Int) (K:zY),KnownOk σ K→∀ (args:List CV) (h:zC) (n:Key) (ψ:Psi) (w:World) (args':Array Value),@zS (linSym σ K) ψ args args'.toList→kR P ψ→@Rel (linSym σ K) ψ (zC.fam h) w→xc ψ n→zf (q (linSym σ K) false args h n) →
   yR P f args' w (@zl (linSym σ K) ψ (zC.fam h) n w (q (linSym σ K) false args h n)))
 (hn:∀ σ K,KnownOk σ K→@NatsOk (linSym σ K) P nat):∀ σ K,KnownOk σ K→@NatsOk (linSym σ K) P (natP P code fuel f sel q nat):=by
 intro σ K hK
 have hc:@yP (linSym σ K) P (@ev (linSym σ K) P code nat fuel):=by
  letI S:Sym:=linSym σ K
  haveI hS:SymFact P:=yx hK
  exact vu (fun call hcall F N=>xS hm hcall) hcode (hn _ _ hK) fuel
 have hn:=hn σ K hK
 have key:∀ g r,natP P code fuel f sel q nat g=some r→(g=f∧r=zOh P code nat fuel f sel q)∨nat g=some r:=by
  intro g r h
  unfold natP at h
  cases e:Nat.beq g f with
  | true=>
   rw [e] at h
   injection h with h
   exact .inl ⟨Nat.eq_of_beq_eq_true e,h.symm⟩
  | false=>rw [e] at h; exact .inr h
 refine @NatsOk.mk (linSym σ K) P _ (fun g r hg d args h n=>?_) (fun g r hg args h n ψ w args' h1 h2 h3 h4 hcl=>?_) (fun g r hg args h n ψ w args' h1 h2 h3 h4 hcl=>?_)
 · rcases key g r hg with ⟨rfl,rfl⟩ | hg
   · unfold zOh
     split
     · exact ha _ _ _ _
     · exact @yP.above (linSym σ K) _ _ hc d g args h n
   · exact @NatsOk.above (linSym σ K) _ _ hn g r hg d args h n
 · rcases key g r hg with ⟨rfl,rfl⟩ | hg
   · unfold zOh at hcl ⊢
     split at hcl
     · exact hq σ K hK args h n ψ w args' h1 h2 h3 h4 hcl
     · exact @yP.calls (linSym σ K) _ _ hc g args h n ψ w args' h1 h2 h3 h4 hcl
   · exact @NatsOk.calls (linSym σ K) _ _ hn g r hg args h n ψ w args' h1 h2 h3 h4 hcl
 · rcases key g r hg with ⟨rfl,rfl⟩ | hg
   · exact @yP.defers (linSym σ K) _ _ hc g args h n ψ w args' h1 h2 h3 h4 hcl
   · exact @NatsOk.defers (linSym σ K) _ _ hn g r hg args h n ψ w args' h1 h2 h3 h4 hcl
end
end
end Go.Ev
namespace Go.Ev
open Go.RowKit
noncomputable section
variable {P:Program}
def zGG (x:Nat):List Nat:=if x<10 then [48+x] else [48+x / 10,48+x % 10]
structure ItoaFn (P:Program) (f:FuncId):Prop where
 glob:P.globals.size≤100
 dig:∀ x:Nat,x≤99→FsOk P f (zTH .i64 256 yE x (zGG x))
def zOg:Nat→List Fs
 | 0=>[zTH .i64 256 yE (0:Nat) (zGG 0)]
 | n+1=>zTH .i64 256 yE (Nat.succ n:Nat) (zGG (Nat.succ n))::zOg n
theorem zH5:∀ {m n:Nat},n≤m→zTH .i64 256 yE (n:Nat) (zGG n)∈zOg m
 | 0,n,h=>by
  obtain rfl:n=0:=by omega
  exact List.mem_singleton.2 rfl
 | m+1,n,h=>by
  unfold zOg
  by_cases e:n=m+1
  · subst e; exact List.mem_cons_self
  · exact List.mem_cons_of_mem _ (zH5 (by omega))
theorem itoaFn_of {f:FuncId} (hg:P.globals.size≤100) (h:∀ s∈zOg 99,FsOk P f s):ItoaFn P f:=⟨hg,fun x hx=>h _ (zH5 hx)⟩
section
variable [Sym]
def inR (v:CV) (lo hi:Nat):Bool:=match Sym.bin .geq v (.nat lo),Sym.bin .leq v (.nat hi) with
 | some [.bool true],some [.bool true]=>true
 | _,_=>false
def di1 (c:Int) (l:LL):CV:=.sym ⟨.u8,c+48,l⟩
def dgt (v:CV):Option CV:=match v with
 | .nat m=>match Nat.ble m 9 with
  | true=>some (.int .u8 (.ofNat (48+m)))
  | false=>none
 | .sym e=>match kEq e.k .i64&&inR (.sym e) 0 9 with
  | true=>some (di1 e.c e.l)
  | false=>none
 | _=>none
def uy (d:Bool) (args:List CV) (h:zC) (n:Key):R:=match d with
 | true=>.err 442
 | false=>match args with
  | [.nat x]=>match Nat.ble x 9 with
   | true=>.ret (.str [48+x]) h n
   | false=>match Nat.ble x 99 with
    | true=>.ret (.str [48+x / 10,48+x % 10]) h n
    | false=>.err 444
  | [.sym e]=>match kEq e.k .i64 with
   | true=>match inR (.sym e) 0 9 with
    | true=>.ret (.sst [di1 e.c e.l]) h n
    | false=>match inR (.sym e) 10 99 with
     | true=>match Sym.bin .quo (.sym e) (.nat 10),Sym.bin .rem (.sym e) (.nat 10) with
      | some [q],some [r]=>match dgt q,dgt r with
       | some a,some b=>.ret (.sst [a,b]) h n
       | _,_=>.err 443
      | _,_=>.err 446
     | false=>.err 445
   | false=>.err 447
  | _=>.err 441
def itoaN:NatF:=fun S=>@uy S
theorem zMa (d:Bool) (args:List CV) (h:zC) (n:Key):zk n (uy d args h n):=by
 unfold uy
 repeat' split
 all_goals first
  | trivial
  | exact Nat.le_refl _
end
theorem zSA (P:Program) {σ:Nat→Int} {K:zY} (hK:KnownOk σ K) {e:SE} (he:e.k=.i64) {lo hi:Nat} (h:@inR (linSym σ K) (.sym e) lo hi=true):(lo:Int)≤evE σ e∧evE σ e≤hi:=by
 letI S:Sym:=linSym σ K
 haveI hS:SymFact P:=yx hK
 have hv:zH (fun _=>none) (.sym e) (.int .i64 (evE σ e)):=zq.2 (by rw [← he]; rfl)
 unfold inR at h
 split at h
 · rename_i h1 h2
   have g1:=(vo P (u:=.int .i64 (evE σ e)) (v:=.int .i64 (Int.ofNat lo)) default h1 hv (zX.2 rfl)).2
   have g2:=(vo P (u:=.int .i64 (evE σ e)) (v:=.int .i64 (Int.ofNat hi)) default h2 hv (zX.2 rfl)).2
   exact ⟨by simpa [binOp,Op.intCmp] using g1,by simpa [binOp,Op.intCmp] using g2⟩
 · cases h
theorem zR1 {σ:Nat→Int} {K:zY} {ψ:Psi} {b:ByteArray} {cs:List CV} (h:@zS (linSym σ K) ψ cs ((zo b).map fun x=>Value.int .u8 (Int.ofNat x))):@zH (linSym σ K) ψ (.sst cs) (.string b):=by
 refine (@zy (linSym σ K) _ _ _).2 ⟨b,rfl,?_⟩
 unfold zo at h
 rw [List.map_map] at h
 exact h
theorem zNc {σ:Nat→Int} {K:zY} {ψ:Psi} {c:Int} {l:LL} {x:Nat} (h:c+evL σ l=(x:Int)):@zH (linSym σ K) ψ (di1 c l) (.int .u8 (Int.ofNat (48+x))):=by
 unfold di1
 rw [@zq (linSym σ K)]
 show Value.int .u8 _=Value.int .u8 (c+48+evL σ l)
 congr 1
 show ((48+x:Nat):Int)=_
 omega
theorem zOp (P:Program) {σ:Nat→Int} {K:zY} (hK:KnownOk σ K) (op:BinOp) {x y:CV} {c:CV} {u v:Value} {ψ:Psi} (m:Nat) (hz:∀ w,(binOp op 0 u v).run P w=.ok (.int .i64 (m:Int)) w) (h:@Sym.bin (linSym σ K) op x y=some [c]) (hx:@zH (linSym σ K) ψ x u) (hy:@zH (linSym σ K) ψ y v) :
 @zH (linSym σ K) ψ c (.int .i64 (m:Int)):=by
 letI S:Sym:=linSym σ K
 haveI hS:SymFact P:=yx hK
 obtain ⟨h1,z,h2,c',h3,h4⟩:=(SymFact.ok (P:=P)).1 op x y _ h ψ 0 u v default hx hy
 obtain rfl:c'=c:=by simpa using h3
 rw [hz] at h2
 injection h2 with h2
 subst h2
 exact h4
theorem zVC (P:Program) (x:Nat) (hx:x≤99) (w:World):(binOp .quo 0 (.int .i64 (x:Int)) (.int .i64 10)).run P w=.ok (.int .i64 ((x / 10:Nat):Int)) w:=by
 have h:IntKind.i64.wrap ((x:Int) / 10)=(x:Int) / 10:=by
  rw [← @yz zP,jO .i64 (by show (-9223372036854775808:Int)≤_; omega) (by show _≤(9223372036854775807:Int); omega)]
 simp [binOp,Op.intDiv,h]
theorem zVg (P:Program) (x:Nat) (w:World):(binOp .rem 0 (.int .i64 (x:Int)) (.int .i64 10)).run P w=.ok (.int .i64 ((x % 10:Nat):Int)) w:=by
 simp [binOp,Op.intDiv]
 exact Int.tmod_eq_emod_of_nonneg (by omega)
theorem zN9 (P:Program) {σ:Nat→Int} {K:zY} (hK:KnownOk σ K) {v c:CV} {m:Nat} (h:@dgt (linSym σ K) v=some c) (hv:@zH (linSym σ K) (fun _=>none) v (.int .i64 (m:Int))) {ψ:Psi}:@zH (linSym σ K) ψ c (.int .u8 (Int.ofNat (48+m))):=by
 unfold dgt at h
 split at h
 · rename_i y
   split at h
   · injection h with h; subst h
     rw [@zX (linSym σ K)] at hv
     injection hv with _ hv
     have:m=y:=by have:(m:Int)=(y:Int):=hv; omega
     subst this
     rw [@zg (linSym σ K)]
   · cases h
 · rename_i e
   split at h
   · rename_i hb
     injection h with h; subst h
     rw [Bool.and_eq_true,@yo zP,decide_eq_true_eq] at hb
     rw [@zq (linSym σ K)] at hv
     have hv:Value.int .i64 (m:Int)=.int e.k (evE σ e):=hv
     injection hv with _ hv
     refine zNc ?_
     exact hv.symm
   · cases h
 · cases h
theorem zRk {σ:Nat→Int} {K:zY} (hK:KnownOk σ K) {f:FuncId} (hf:ItoaFn P f) {args:List CV} {h:zC} {n:Key} {ψ:Psi} {w:World} {args':Array Value} (ha:@zS (linSym σ K) ψ args args'.toList) (hglob:kR P ψ) (hrel:@Rel (linSym σ K) ψ (zC.fam h) w)
 (hc:zf (@uy (linSym σ K) false args h n)):yR P f args' w (@zl (linSym σ K) ψ (zC.fam h) n w (@uy (linSym σ K) false args h n)):=by
 have key:∀ (x:Nat) (c:CV),x≤99→args'=#[.int .i64 (x:Int)]→(∀ b,zo b=zGG x→@zH (linSym σ K) ψ c (.string b))→@uy (linSym σ K) false args h n=.ret c h n →
  yR P f args' w (@zl (linSym σ K) ψ (zC.fam h) n w (@uy (linSym σ K) false args h n)):=by
  intro x c hx hargs hb e
  rw [e,hargs]
  refine uZ (hf.dig x hx (fun _=>0) ⟨⟨Int.le_refl _,Int.le_refl _⟩,trivial⟩ (zRp ψ ⟨0,0,0,fun n=>n⟩ none) w _ (fun σ' K' _ _=>⟨?_,zRh⟩) (zOR hf.glob hglob) zMb) fun v w' ⟨po,hpo,ψ',hok⟩=>?_
  · exact (@zW (linSym σ' K') _ _ _ _ _).2 ⟨(@zg (linSym σ' K') _ _ _ _).2 rfl,(@zM (linSym σ' K') _ _).2 rfl⟩
  · obtain rfl:po=⟨.str (zGG x),[]⟩:=List.mem_singleton.1 hpo
    obtain ⟨b,rfl,hb'⟩:=(@ze (linSym (fun _=>0) kno) _ _ _).1 hok.val
    refine ⟨ψ,@qj (linSym σ K) _ _ _ _ _ hrel ⟨hok.lft.os,hok.lft.tape,hok.lft.output,hok.lft.size,fun B hB=>hok.lft.block B fun ho=>?_⟩,hb b hb'⟩
    rcases ho with ⟨k,o,p,q1,_⟩ | ho
    · have q1:zn k .nil=some o:=q1
      rw [jZ] at q1; cases q1
    · omega
 have one:∀ {v:CV},args=[v]→∃ u,args'=#[u]∧@zH (linSym σ K) ψ v u:=by
  intro v e
  rw [e,@zd (linSym σ K)] at ha
  obtain ⟨u,r,h1,h2,h3⟩:=ha
  rw [@zM (linSym σ K)] at h3
  subst h3
  exact ⟨u,by cases args'; simp_all,h2⟩
 have sym1:∀ {e:SE},args=[.sym e]→e.k=.i64→args'=#[.int .i64 (evE σ e)]:=by
  intro e h1 h2
  obtain ⟨u,h3,h4⟩:=one h1
  rw [@zq (linSym σ K)] at h4
  subst h4
  rw [h3,← h2]; rfl
 unfold uy at hc
 simp only at hc
 split at hc
 · rename_i x
   obtain ⟨u,h1,h2⟩:=one rfl
   rw [@zX (linSym σ K)] at h2
   subst h2
   split at hc
   · rename_i hx
     have hx9:=@zL zP _ _ hx
     refine key x (.str [48+x]) (by omega) h1 (fun b hb=>(@ze (linSym σ K) _ _ _).2 ⟨b,rfl,?_⟩) (by unfold uy; simp only [hx])
     rw [hb]; unfold zGG; rw [if_pos (by omega)]
   · rename_i hx
     split at hc
     · rename_i hx2
       have hx9:=@zL zP _ _ hx2
       have hx8:¬ x≤9:=fun q=>by
        rw [Nat.ble_eq_true_of_le q] at hx; cases hx
       refine key x (.str [48+x / 10,48+x % 10]) (by omega) h1 (fun b hb=>(@ze (linSym σ K) _ _ _).2 ⟨b,rfl,?_⟩) (by unfold uy; simp only [hx,hx2])
       rw [hb]; unfold zGG; rw [if_neg (by omega)]
     · exact hc.elim
 · rename_i e
   split at hc
   · rename_i hk0
     have hk:=hk0
     rw [@yo zP,decide_eq_true_eq] at hk
     split at hc
     · rename_i h9
       have g:=zSA P hK hk h9
       have e1:evE σ e=e.c+evL σ e.l:=rfl
       refine key (evE σ e).toNat _ (by omega) (by rw [sym1 rfl hk,Int.toNat_of_nonneg (by omega)]) (fun b hb=>zR1 ?_) (by unfold uy; simp only; rw [hk0]; simp only; rw [h9])
       rw [hb]
       unfold zGG
       rw [if_pos (by omega)]
       exact (@zW (linSym σ K) _ _ _ _ _).2 ⟨zNc (by rw [Int.toNat_of_nonneg (by omega),e1]),(@zM (linSym σ K) _ _).2 rfl⟩
     · rename_i h9
       split at hc
       · rename_i h99
         have g:=zSA P hK hk h99
         split at hc
         · rename_i q r hq hr
           split at hc
           · rename_i a b ha' hb'
             have hv:@zH (linSym σ K) (fun _=>none) (.sym e) (.int .i64 (evE σ e)):=(@zq (linSym σ K) _ _ _).2 (by rw [← hk]; rfl)
             have h10:@zH (linSym σ K) (fun _=>none) (.nat 10) (.int .i64 10):=(@zX (linSym σ K) _ _ _).2 rfl
             obtain ⟨x,hx⟩:∃ x:Nat,evE σ e=(x:Int):=⟨(evE σ e).toNat,(Int.toNat_of_nonneg (by omega)).symm⟩
             rw [hx] at hv g
             have vq:=zOp P hK .quo (x / 10) (zVC P x (by omega)) hq hv h10
             have vr:=zOp P hK .rem (x % 10) (zVg P x) hr hv h10
             refine key x _ (by omega) (by rw [sym1 rfl hk,hx]) (fun b hb=>zR1 ?_) (by unfold uy; simp only; rw [hk0]; simp only; rw [h9]; simp only; rw [h99]; simp only; rw [hq,hr]; simp only; rw [ha',hb'])
             rw [hb]
             unfold zGG
             rw [if_neg (by omega)]
             exact (@zW (linSym σ K) _ _ _ _ _).2 ⟨zN9 P hK ha' vq,(@zW (linSym σ K) _ _ _ _ _).2 ⟨zN9 P hK hb' vr,(@zM (linSym σ K) _ _).2 rfl⟩⟩
           · exact hc.elim
         · exact hc.elim
       · exact hc.elim
   · exact hc.elim
 · exact hc.elim
def itoaSel (args:List CV):Bool:=match args with
 | [.sym _]=>true
 | _=>false
theorem natI10_ok {code:FuncId→CFn} {fuel:Nat} {f:FuncId} {nat:Nats} (hm:P.follows .mixedOrders=true) (hcode:CodeOk P code) (hf:ItoaFn P f) (hn:∀ σ K,KnownOk σ K→@NatsOk (linSym σ K) P nat) :
 ∀ σ K,KnownOk σ K→@NatsOk (linSym σ K) P (natP P code fuel f itoaSel itoaN nat):=
 zTb hm hcode (fun S args h n=>@zMa S false args h n) (fun _ _ hK _ _ _ _ _ _ h1 h2 h3 _ h5=>zRk hK hf h1 h2 h3 h5) hn
end
end Go.Ev
