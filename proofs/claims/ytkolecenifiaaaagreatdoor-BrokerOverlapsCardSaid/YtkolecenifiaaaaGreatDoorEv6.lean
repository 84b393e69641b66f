/- A verified evaluator for the model's code: EvZe, EvZf, EvZg, EvZh, EvZi, EvZj, EvZk, EvZl. -/
import Derived.Test.YtkolecenifiaaaaGreatDoorEv5
set_option linter.unusedSectionVars false
set_option linter.unusedVariables false
set_option linter.unusedSimpArgs false
namespace Go.Ev
variable[Sym]
noncomputable section
variable{P:Program}
variable[SymFact P]
structure GS where
 es:List CV
 hs:List zC
 tm:Tm
 ds:xz
 h:zC
 n:Key
section
variable(P:Program)(F N:Nat)(call:yw)(L:List Oper)(anc:List Nat)
def kY(r:List Nat)(dl:List (Option Nat))(effs:List Nat)(s:GS):R:=evD P call (ka P F N L anc dl effs r) s.es s.hs s.tm s.ds s.h s.n
def qn(o:Oper)(dl:List (Option Nat))(s:GS):Option Bool:=match o.guard with
 |none=>some true|some (j,wnt)=>match(nth L j).bind (·.dst)with
  |none=>none|some t=>match zn P ⟨F,N,dl⟩ (.tmp t)with
   |none=>none|some x=>match kS wnt (aV s.es s.tm x)with
    |true=>some true|false=>match we (aV s.es s.tm x)with
     |true=>some false|false=>none
abbrev zHE(o:Oper)(dl:List (Option Nat))(s:GS):OR:=yX P (zj P ⟨F,N,dl⟩ o.op) s.es s.tm s.h s.n
def GS.put(s:GS)(d:Option Loc)(v:CV)(ob:Option CObj):GS:=match ob with
 |none=>{ s with es:=v::s.es,tm:=zMR d v s.tm }
 |some ob=>{ s with es:=v::s.es,tm:=zMR d v s.tm,h:=yy (some ob) s.n s.h,n:=s.n.succ }
def zNu(o:Oper)(dl:List (Option Nat))(chk:Nat)(s:GS)(v:CV)(ob:Option CObj):Prop:=
 (qn P F N L o dl s=some false/\v=.undef/\ob=none) \/
 (qn P F N L o dl s=some true/\((zHE P F N o dl s=.val v/\ob=none) \/
   (zHE P F N o dl s=.read v/\ob=none/\ja P (zj P ⟨F,N,dl⟩ o.op) s.es s.tm s.n v chk s.hs=true) \/
   ∃ob',zHE P F N o dl s=.alloc ob' v/\ob=some ob'))
def uO:R->CV->zC->Key->Prop
 |.ret v h n,v',h',n'=>v'=v/\h'=h/\n'=n|.fork a b,v',h',n'=>uO a v' h' n'\/uO b v' h' n'|_,_,_,_=>False
def GS.eff(s:GS)(d:Option Loc)(v:CV)(h:zC)(n:Key):GS:={ s with es:=v::s.es,hs:=s.h::s.hs,tm:=zMR d v s.tm,h:=h,n:=n }
def qB(o:Oper)(d:Option Loc)(dl:List (Option Nat))(s s':GS):Prop:=
 (qn P F N L o dl s=some false/\s'=s.eff d .undef s.h s.n) \/
 (qn P F N L o dl s=some true/\match zHE P F N o dl s with
   |.val v=>s'=s.eff d v s.h s.n|.read v=>s'=s.eff d v s.h s.n|.alloc ob v=>s'=s.eff d v (yy (some ob) s.n s.h) s.n.succ|.eff v h n=>s'=s.eff d v h n|.call f args=>∃v h n,uO (call false f args s.h s.n) v h n/\s'=s.eff d v h n|_=>False)
def zDe(o:Oper)(dl:List (Option Nat))(s:GS):Prop:=qn P F N L o dl s=some true->∀f args,zHE P F N o dl s=.call f args->zd (call false f args s.h s.n)
end
structure Rec where
 x:Value
 al:Option Pl
def x6(P:Program)(F N:Nat)(call:yw)(L:List Oper)(anc:List Nat)(E:Nat->Option Rec)(w:World):List Nat->List (Option Nat)->List Nat->GS->Psi->Prop
 | [],_,_,s,_=>s.n.room|i::r,dl,effs,s,Y=>∃o d,nth L i=some o/\xp F N o.dst=some d/\(match qm P o.op with
  |true=>zDe P F N call L o dl s/\(∃s',qB P F N call L o d dl s s')/\∀s',qB P F N call L o d dl s s'->x6 P F N call L anc E w r (o.dst::dl) (i::effs) s' Y|false=>∃v ob,zNu P F N L o dl (zFq ((nth anc i).getD 0) effs) s v ob/\(match E i,ob with
   |none,_=>x6 P F N call L anc E w r (o.dst::dl) effs (s.put d v ob) Y|some rc,none=>zG Y v rc.x/\x6 P F N call L anc E w r (o.dst::dl) effs (s.put d v none) Y|some rc,some ob=>∃pl,rc.al=some pl/\zG (Y.upd s.n pl) v rc.x/\xQ (Y.upd s.n pl) w pl ob/\x6 P F N call L anc E w r (o.dst::dl) effs (s.put d v (some ob)) (Y.upd s.n pl)))
section
variable{F N:Nat}{call:yw}{L:List Oper}{anc:List Nat}
theorem zCs{n:Key}{v:CV}{h:zC}{n':Key}:∀{r:R},zo n r->uO r v h n'->n.ix<=n'.ix
 |.ok ..,_,hl=>hl.elim|.err _,_,hl=>hl.elim|.ret ..,ha,⟨_,_,e⟩=>by subst e; exact ha|.fork _ _,ha,hl=>hl.elim (zCs ha.1) (zCs ha.2)
def zFT:R->Prop
 |.ret ..=>True|.fork a b=>zFT a/\zFT b|_=>False
theorem zCt{k:CV->zC->Key->R}:∀{r:R},zd (jf k r)->zFT r
 |.ok ..,h=>h.elim|.err _,h=>h.elim|.ret ..,_=>trivial|.fork _ _,h=>⟨zCt h.1,zCt h.2⟩
theorem zQI:∀{r:R},zFT r->∃v h n,uO r v h n
 |.ok ..,h=>h.elim|.err _,h=>h.elim|.ret v h n,_=>⟨v,h,n,rfl,rfl,rfl⟩
 |.fork _ _,h=>by obtain⟨v,h',n,hl⟩:=zQI h.1;exact⟨v,h',n,.inl hl⟩
theorem zCd{k:CV->zC->Key->R}{v:CV}{h:zC}{n:Key}:∀{r:R},zd (jf k r)->uO r v h n->zd (k v h n)
 |.ok ..,hc,_=>hc.elim|.err _,hc,_=>hc.elim|.ret ..,hc,⟨h1,h2,h3⟩=>by subst h1 h2 h3; exact hc|.fork _ _,hc,hl=>hl.elim (zCd hc.1) (zCd hc.2)
theorem zOd{k:CV->zC->Key->R}{v:CV}{h:zC}{n:Key}{O:R->Prop}(f1:∀x y,O x->O (.fork x y))(f2:∀x y,O y->O (.fork x y))(ho:O (k v h n)):∀{r:R},uO r v h n->O (jf k r)
 |.ok ..,hl=>hl.elim|.err _,hl=>hl.elim|.ret ..,⟨h1,h2,h3⟩=>by subst h1 h2 h3; exact ho|.fork _ _,hl=>hl.elim (λq=>f1 _ _ (zOd f1 f2 ho q)) (λq=>f2 _ _ (zOd f1 f2 ho q))
theorem zJl(hcall:xP call){o:Oper}{d:Option Loc}{dl:List (Option Nat)}{s s':GS}(hn:qB P F N call L o d dl s s'):s.n.ix<=s'.n.ix:=by
 rcases hn with⟨_,rfl⟩ |⟨_,hn⟩
 . exact Nat.le_refl _
 . have ho:=vj (P:=P) (es:=s.es) (tm:=s.tm) (h:=s.h) (n:=s.n) (zj P ⟨F,N,dl⟩ o.op);unfold zHE at hn;generalize yX P (zj P ⟨F,N,dl⟩ o.op) s.es s.tm s.h s.n=r at hn ho;cases r <;> simp only at hn
   case val=>subst hn; exact Nat.le_refl _
   case read=>subst hn; exact Nat.le_refl _
   case alloc=>subst hn; exact Key.ix_le_succ _
   case eff=>subst hn; exact ho
   case call f args=>obtain⟨v,h,n,hl,rfl⟩:=hn;exact zCs (hcall false f args s.h s.n) hl
theorem x6.room(hcall:xP call){E:Nat->Option Rec}{w:World}:∀{r:List Nat} {dl:List (Option Nat)} {effs:List Nat} {s:GS} {Y:Psi},x6 P F N call L anc E w r dl effs s Y->s.n.room
 | [],_,_,_,_,h=>h|i::r,dl,effs,s,Y,⟨o,d,_,_,h⟩=>by
  have le:∀{s':GS},s.n.ix<=s'.n.ix->s'.n.room->s.n.room:=λh1 h2=>Nat.lt_of_le_of_lt h1 h2;split at h
  . obtain⟨_,⟨s',hs'⟩,h⟩:=h;exact le (zJl hcall hs') (x6.room hcall (h s' hs'))
  . obtain⟨v,ob,_,h⟩:=h;have hput:∀ob,s.n.ix<=(s.put d v ob).n.ix:=by
     intro ob;cases ob with
     |none=>exact Nat.le_refl _|some ob=>exact Key.ix_le_succ _
    split at h
    . exact le (hput _) (x6.room hcall h)
    . exact le (hput _) (x6.room hcall h.2)
    . obtain⟨pl,_,_,_,h⟩:=h;exact le (hput _) (x6.room hcall h)
theorem Psi.upd_le{Y Y':Psi}(hle:Y.le Y')(k:Key)(p:Pl):(Y.upd k p).le (Y'.upd k p):=by
 intro j q hj;by_cases e:j=k
 . subst e; rw[Psi.upd_same]at hj ⊢; exact hj
 . rw[Psi.upd_other _ _ e]at hj ⊢; exact hle _ _ hj
theorem x6.mono{E:Nat->Option Rec}{w w':World}:∀{r:List Nat} {dl:List (Option Nat)} {effs:List Nat} {s:GS} {Y Y':Psi},Y.le Y' ->
 (∀i∈r,∀rc pl,E i=some rc->rc.al=some pl->w'.heap[pl.blk]? = w.heap[pl.blk]?)->x6 P F N call L anc E w r dl effs s Y->x6 P F N call L anc E w' r dl effs s Y'
 | [],_,_,_,_,_,_,_,h=>h|i::r,dl,effs,s,Y,Y',hle,hw,⟨o,d,h1,h2,h⟩=>by
  have hw':∀j∈r,∀rc pl,E j=some rc->rc.al=some pl->w'.heap[pl.blk]? = w.heap[pl.blk]?:=λj hj=>hw j (by simp[hj]);refine⟨o,d,h1,h2,?_⟩;split at h
  . exact⟨h.1,h.2.1,λs' hs'=>x6.mono hle hw' (h.2.2 s' hs')⟩
  . obtain⟨v,ob,h3,h⟩:=h;refine⟨v,ob,h3,?_⟩;split at h
    . exact x6.mono hle hw' h
    . exact⟨h.1.mono hle,x6.mono hle hw' h.2⟩
    . rename_i rc ob hE;obtain⟨pl,g1,g2,g3,g4⟩:=h;exact⟨pl,g1,g2.mono (Psi.upd_le hle _ _),xQ.congr (hw i (by simp) rc pl hE g1) (g3.mono (Psi.upd_le hle _ _)),x6.mono (Psi.upd_le hle _ _) hw' g4⟩
theorem zXN{op:COp}{d:Option Loc}{chk:Nat}{k:KD}{s:GS}(hc:zd (dOp P call op d false chk k s.es s.hs s.tm s.ds s.h s.n)) :
 ∃v ob,((yX P op s.es s.tm s.h s.n=.val v/\ob=none)\/(yX P op s.es s.tm s.h s.n=.read v/\ob=none/\ja P op s.es s.tm s.n v chk s.hs=true)\/∃ob',yX P op s.es s.tm s.h s.n=.alloc ob' v/\ob=some ob') /\
  dOp P call op d false chk k s.es s.hs s.tm s.ds s.h s.n=k (s.put d v ob).es (s.put d v ob).hs (s.put d v ob).tm (s.put d v ob).ds (s.put d v ob).h (s.put d v ob).n:=by
 have hc':zd (dNo P op d chk k (yX P op s.es s.tm s.h s.n) s.es s.hs s.tm s.ds s.h s.n):=hc;show ∃v ob,_/\dNo P op d chk k (yX P op s.es s.tm s.h s.n) s.es s.hs s.tm s.ds s.h s.n=_;cases hr:yX P op s.es s.tm s.h s.n with
 |val v=>exact⟨v,none,.inl ⟨rfl,rfl⟩,by show yN _ _ _ _=_; rw[yL]; rfl⟩|read v=>
  rw[hr]at hc';have hc':zd (match ja P op s.es s.tm s.n v chk s.hs with
   |true=>yN d v s.tm λtm=>k (v::s.es) s.hs tm s.ds s.h s.n
   |false=>.err 311):=hc'
  cases hsr:ja P op s.es s.tm s.n v chk s.hs with
  |false=>rw[hsr]at hc'; exact hc'.elim|true=>
   refine⟨v,none,.inr (.inl ⟨rfl,rfl,hsr⟩),?_⟩;show(match ja P op s.es s.tm s.n v chk s.hs with
    |true=>yN d v s.tm λtm=>k (v::s.es) s.hs tm s.ds s.h s.n
    |false=>.err 311)=_
   rw[hsr];simp only[yL];rfl
 |alloc ob v=>exact⟨v,some ob,.inr (.inr ⟨ob,rfl,rfl⟩),by show yN _ _ _ _=_; rw[yL]; rfl⟩|eff v h n=>rw[hr]at hc'; exact hc'.elim|call f a=>rw[hr]at hc'; exact hc'.elim|dfr f a=>rw[hr]at hc'; exact hc'.elim|recov=>rw[hr]at hc'; exact hc'.elim|err c=>rw[hr]at hc'; exact hc'.elim|fork a b=>rw[hr]at hc'; exact hc'.elim
theorem zOL{i:Nat}{r:List Nat}{dl:List (Option Nat)}{effs:List Nat}{o:Oper}(ho:nth L i=some o):ka P F N L anc dl effs (i::r) =
 ⟨zAN P F N L dl o,qm P o.op,zFq ((nth anc i).getD 0) effs⟩::ka P F N L anc (o.dst::dl) (if qm P o.op then i::effs else effs) r:=by
 rw[ka]; simp only[ho]
theorem zSH(i:zRM)(l:List zRM)(es:List CV)(hs:List zC)(tm:Tm)(ds:xz)(h:zC)(n:Key):evD P call (i::l) es hs tm ds h n=(match i.ins with
 |.i op=>dOp P call op none i.eff i.chk (evD P call l) es hs tm ds h n|.o op d=>dOp P call op (some d) i.eff i.chk (evD P call l) es hs tm ds h n|.g x w op d=>match kS w (aV es tm x)with
  |true=>dOp P call op d i.eff i.chk (evD P call l) es hs tm ds h n|false=>match we (aV es tm x)with
   |true=>zGf d i.eff (evD P call l) es hs tm ds h n|false=>.err 299):=by rw[evD]; rfl
theorem zKm{c:Nat}{d:Option Loc}{e:Bool}{chk:Nat}{k:KD}{es:List CV}{hs:List zC}{tm:Tm}{ds:xz}{h:zC}{n:Key}(hc:zd (dOp P call (.bad c) d e chk k es hs tm ds h n)):False:=by cases e <;> exact hc
theorem zJq{i:Nat}{r:List Nat}{dl:List (Option Nat)}{effs:List Nat}{s:GS}{o:Oper}(ho:nth L i=some o)(hc:zd (kY P F N call L anc (i::r) dl effs s)) :
 ∃d,xp F N o.dst=some d/\((qn P F N L o dl s=some true/\kY P F N call L anc (i::r) dl effs s =
  dOp P call (zj P ⟨F,N,dl⟩ o.op) d (qm P o.op) (zFq ((nth anc i).getD 0) effs)
   (evD P call (ka P F N L anc (o.dst::dl) (if qm P o.op then i::effs else effs) r)) s.es s.hs s.tm s.ds s.h s.n) \/
  (qn P F N L o dl s=some false/\kY P F N call L anc (i::r) dl effs s =
    zGf d (qm P o.op) (evD P call (ka P F N L anc (o.dst::dl) (if qm P o.op then i::effs else effs) r)) s.es s.hs s.tm s.ds s.h s.n)):=by
 unfold kY at hc ⊢;rw[zOL ho,zSH]at hc ⊢;unfold zAN at hc ⊢;unfold qn;cases hd:xp F N o.dst with
 |none=>simp only[hd]at hc;exact(zKm hc).elim|some d=>
  refine⟨d,rfl,?_⟩;simp only[hd]at hc ⊢;cases hg:o.guard with
  |none=>left;refine⟨rfl,?_⟩;cases d <;> rfl|some jw=>
   obtain⟨j,wnt⟩:=jw;simp only[hg]at hc ⊢;cases ht:(nth L j).bind (·.dst)with
   |none=>simp only[ht]at hc;exact(zKm hc).elim|some t=>
    simp only[ht]at hc ⊢;cases hx:zn P ⟨F,N,dl⟩ (.tmp t)with
    |none=>simp only[hx]at hc;exact(zKm hc).elim|some x=>
     simp only[hx]at hc ⊢;cases hb:kS wnt (aV s.es s.tm x)with
     |true=>left; simp|false=>
      simp only[hb]at hc;cases hn:we (aV s.es s.tm x)with
      |true=>right; simp|false=>rw[hn]at hc; exact hc.elim
theorem zP6{i:Nat}{r:List Nat}{dl:List (Option Nat)}{effs:List Nat}{s:GS}{o:Oper}(ho:nth L i=some o)(he:qm P o.op=false)(hc:zd (kY P F N call L anc (i::r) dl effs s)) :
 ∃d v ob,xp F N o.dst=some d/\zNu P F N L o dl (zFq ((nth anc i).getD 0) effs) s v ob /\
  kY P F N call L anc (i::r) dl effs s=kY P F N call L anc r (o.dst::dl) effs (s.put d v ob):=by
 obtain⟨d,hd,⟨hg,e⟩ |⟨hg,e⟩⟩:=zJq ho hc
 . rw[e,he]at hc;rw[e,he];obtain⟨v,ob,h1,h2⟩:=zXN hc;exact⟨d,v,ob,hd,.inr ⟨hg,h1⟩,h2⟩
 . rw[e,he];refine⟨d,.undef,none,hd,.inl ⟨hg,rfl,rfl⟩,?_⟩;unfold zGf;rw[yL];rfl
theorem zMe(hcall:xP call){i:Nat}{r:List Nat}{dl:List (Option Nat)}{effs:List Nat}{s:GS}{o:Oper}(ho:nth L i=some o)(he:qm P o.op=true)(hc:zd (kY P F N call L anc (i::r) dl effs s)) :
 ∃d,xp F N o.dst=some d/\zDe P F N call L o dl s/\(∃s',qB P F N call L o d dl s s')/\∀s',qB P F N call L o d dl s s'->zd (kY P F N call L anc r (o.dst::dl) (i::effs) s') /\
  ∀(O:R->Prop),(∀x y,O x->O (.fork x y))->(∀x y,O y->O (.fork x y))->O (kY P F N call L anc r (o.dst::dl) (i::effs) s')->O (kY P F N call L anc (i::r) dl effs s):=by
 obtain⟨d,hd,⟨hg,e⟩ |⟨hg,e⟩⟩:=zJq ho hc
 . rw[e,he]at hc;rw[e,he];simp only[if_true]at hc ⊢;have hab:=λes hs tm ds h n=>zKE (P:=P) hcall (ka P F N L anc (o.dst::dl) (i::effs) r) es hs tm ds h n;have hc:zd (zOB call d (evD P call (ka P F N L anc (o.dst::dl) (i::effs) r)) (zHE P F N o dl s) s.es s.hs s.tm s.ds s.h s.n):=hc;have key:∀(X:OR),zHE P F N o dl s=X->zd (zOB call d (evD P call (ka P F N L anc (o.dst::dl) (i::effs) r)) X s.es s.hs s.tm s.ds s.h s.n) ->
    zDe P F N call L o dl s/\(∃s',qB P F N call L o d dl s s')/\∀s',qB P F N call L o d dl s s'->zd (kY P F N call L anc r (o.dst::dl) (i::effs) s') /\
     ∀(O:R->Prop),(∀x y,O x->O (.fork x y))->(∀x y,O y->O (.fork x y))->O (kY P F N call L anc r (o.dst::dl) (i::effs) s') ->
      O (zOB call d (evD P call (ka P F N L anc (o.dst::dl) (i::effs) r)) X s.es s.hs s.tm s.ds s.h s.n):=by
    intro X hX hc;have one:∀(v:CV) (h':zC) (n':Key),(∀s',qB P F N call L o d dl s s' ↔ s'=s.eff d v h' n')->(∀f args,X≠.call f args) ->
     zOB call d (evD P call (ka P F N L anc (o.dst::dl) (i::effs) r)) X s.es s.hs s.tm s.ds s.h s.n=kY P F N call L anc r (o.dst::dl) (i::effs) (s.eff d v h' n') ->
     zDe P F N call L o dl s/\(∃s',qB P F N call L o d dl s s')/\∀s',qB P F N call L o d dl s s'->zd (kY P F N call L anc r (o.dst::dl) (i::effs) s') /\
     ∀(O:R->Prop),(∀x y,O x->O (.fork x y))->(∀x y,O y->O (.fork x y))->O (kY P F N call L anc r (o.dst::dl) (i::effs) s') ->
      O (zOB call d (evD P call (ka P F N L anc (o.dst::dl) (i::effs) r)) X s.es s.hs s.tm s.ds s.h s.n):=by
     intro v h' n' hiff hnc heq;refine⟨λ_ f args hf=>absurd (hX.symm.trans hf) (hnc f args),⟨_,(hiff _).2 rfl⟩,λs' hs'=>?_⟩;rw[(hiff s').1 hs'];rw[heq]at hc ⊢;exact⟨hc,λO _ _ h=>h⟩
    have hgt:qn P F N L o dl s≠some false:=by rw[hg]; simp
    have iff1:∀(v:CV) (h':zC) (n':Key),(∀s',(match X with
     |.val v=>s'=s.eff d v s.h s.n|.read v=>s'=s.eff d v s.h s.n|.alloc ob v=>s'=s.eff d v (yy (some ob) s.n s.h) s.n.succ|.eff v h n=>s'=s.eff d v h n|.call f args=>∃v h n,uO (call false f args s.h s.n) v h n/\s'=s.eff d v h n|_=>False) ↔ s'=s.eff d v h' n')->∀s',qB P F N call L o d dl s s' ↔ s'=s.eff d v h' n':=by
     intro v h' n' hh s';unfold qB;rw[hX];constructor
     . rintro(⟨h1,_⟩ |⟨_,h2⟩)
       . exact absurd h1 hgt
       . exact(hh s').1 h2
     . exact λh=>.inr ⟨hg,(hh s').2 h⟩
    cases X with
    |val v=>exact one v s.h s.n (iff1 v s.h s.n λs'=>Iff.rfl) (by simp) (by show yN _ _ _ _=_; rw[yL]; rfl)|read v=>exact one v s.h s.n (iff1 v s.h s.n λs'=>Iff.rfl) (by simp) (by show yN _ _ _ _=_; rw[yL]; rfl)|alloc ob v=>exact one v (yy (some ob) s.n s.h) s.n.succ (iff1 v _ _ λs'=>Iff.rfl) (by simp) (by show yN _ _ _ _=_; rw[yL]; rfl)|eff v h n=>exact one v h n (iff1 v h n λs'=>Iff.rfl) (by simp) (by show yN _ _ _ _=_; rw[yL]; rfl)|call f args=>
     have hc':zd (jf (λv h' n'=>yN d v s.tm λtm=>evD P call (ka P F N L anc (o.dst::dl) (i::effs) r) (v::s.es) (s.h::s.hs) tm s.ds h' n') (call false f args s.h s.n)):=hc;have hcl:=jW (λv h n=>by rw[yL]; exact hab _ _ _ _ _ _) hc';refine⟨λ_ f' args' hf=>?_,?_,λs' hs'=>?_⟩
     . have:=hX.symm.trans hf
       injection this with e1 e2;subst e1 e2;exact hcl
     . obtain⟨v,h,n,hl⟩:=zQI (zCt hc');exact⟨_,.inr ⟨hg,by rw[hX]; exact⟨v,h,n,hl,rfl⟩⟩⟩
     . rcases hs' with⟨h1,_⟩ |⟨_,h2⟩
       . exact absurd h1 hgt
       . rw[hX]at h2;obtain⟨v,h,n,hl,rfl⟩:=h2;have hk:(yN d v s.tm λtm=>evD P call (ka P F N L anc (o.dst::dl) (i::effs) r) (v::s.es) (s.h::s.hs) tm s.ds h n)=kY P F N call L anc r (o.dst::dl) (i::effs) (s.eff d v h n):=by rw[yL]; rfl
         have hcl':=zCd hc' hl;rw[hk]at hcl';refine⟨hcl',λO f1 f2 ho'=>?_⟩;exact zOd (k:=λv h' n'=>yN d v s.tm λtm=>evD P call (ka P F N L anc (o.dst::dl) (i::effs) r) (v::s.es) (s.h::s.hs) tm s.ds h' n') f1 f2 (by rw[hk]; exact ho') hl
    |dfr f a=>exact hc.elim|recov=>exact hc.elim|err c=>exact hc.elim|fork a b=>exact hc.elim
   obtain⟨h1,h2,h3⟩:=key _ rfl hc;exact⟨d,hd,h1,h2,h3⟩
 . rw[e,he]at hc;rw[e,he];simp only[if_true]at hc ⊢;have hgt:qn P F N L o dl s≠some true:=by rw[hg]; simp
   have heq:zGf d true (evD P call (ka P F N L anc (o.dst::dl) (i::effs) r)) s.es s.hs s.tm s.ds s.h s.n=kY P F N call L anc r (o.dst::dl) (i::effs) (s.eff d .undef s.h s.n):=by unfold zGf; rw[yL]; rfl
   refine⟨d,hd,λh=>absurd h hgt,⟨_,.inl ⟨hg,rfl⟩⟩,λs' hs'=>?_⟩;rcases hs' with⟨_,rfl⟩ |⟨h1,_⟩
   . rw[heq]at hc ⊢;exact⟨hc,λO _ _ h=>h⟩
   . exact absurd h1 hgt
theorem uF(hcall:xP call){E:Nat->Option Rec}{w:World}:∀{r:List Nat} {dl:List (Option Nat)} {effs:List Nat} {s:GS} {Y:Psi},(∀i∈r,E i=none)->(∀i∈r,i<L.length) ->
 zd (kY P F N call L anc r dl effs s)->x6 P F N call L anc E w r dl effs s Y
 | [],_,_,_,_,_,_,hc=>hc|i::r,dl,effs,s,Y,hE,hL,hc=>by
  have ho:∃o,nth L i=some o:=by rw[nth_eq]; exact⟨_,List.getElem?_eq_getElem (hL i (by simp))⟩
  obtain⟨o,ho⟩:=ho;cases he:qm P o.op with
  |true=>obtain⟨d,hd,h1,h2,h3⟩:=zMe hcall ho he hc;refine⟨o,d,ho,hd,?_⟩;rw[he];exact⟨h1,h2,λs' hs'=>uF hcall (λj hj=>hE j (by simp[hj])) (λj hj=>hL j (by simp[hj])) (h3 s' hs').1⟩
  |false=>obtain⟨d,v,ob,hd,h1,h2⟩:=zP6 ho he hc;refine⟨o,d,ho,hd,?_⟩;rw[he];refine⟨v,ob,h1,?_⟩;simp only[hE i (by simp)];rw[h2]at hc;exact uF hcall (λj hj=>hE j (by simp[hj])) (λj hj=>hL j (by simp[hj])) hc
end
end
end Go.Ev
namespace Go.Ev
variable[Sym]
noncomputable section
variable{P:Program}
variable[SymFact P]
def j5(F N:Nat)(Y:Psi)(dl:List (Option Nat))(es:List CV)(tm:Tm)(a:Act)(t:Nat):Prop:=
 (∀i,xZ t dl 0=some i->zG Y (zUl es i) (a.tmps.getD t undef)) /\
 (z8 F t=true->t<=271->t<N->zG Y (qC (Loc.ofNat t) tm) (a.tmps.getD t undef))
theorem j5.mono{F N:Nat}{Y Y':Psi}(hle:Y.le Y'){dl:List (Option Nat)}{es:List CV}{tm:Tm}{a:Act}{t:Nat}(h:j5 F N Y dl es tm a t):j5 F N Y' dl es tm a t:=
 ⟨λi hi=>(h.1 i hi).mono hle,λh1 h2 h3=>(h.2 h1 h2 h3).mono hle⟩
theorem zKQ{F N:Nat}{Y:Psi}{dl:List (Option Nat)}{es:List CV}{tm:Tm}{a:Act}(hg:vU P Y){l:List Operand}(hl:∀t,.tmp t∈l->j5 F N Y dl es tm a t):yG P Y es tm ⟨F,N,dl⟩ a.eval l:=by
 intro x hx c hc;unfold zn at hc;split at hc
 . rename_i t;have ht:=hl t hx;split at hc
   . rename_i i hi;injection hc with hc; subst hc;exact ht.1 i hi
   . split at hc
     . rename_i hb;injection hc with hc; subst hc;rw[Bool.and_eq_true,Bool.and_eq_true]at hb;exact ht.2 hb.1.1 (zH hb.1.2) (zH hb.2)
     . cases hc
 . rename_i v;cases hv:zAS 20 v with
   |none=>rw[hv]at hc; cases hc|some c'=>rw[hv]at hc; injection hc with hc; subst hc; exact kc 20 hv
 . rename_i g;split at hc
   . rename_i hb;injection hc with hc; subst hc;rw[Bool.and_eq_true]at hb;obtain⟨sz,e⟩:=hg g (zH hb.1) (zH hb.2);exact zx.2 ⟨_,e,rfl⟩
   . cases hc
 . rename_i f;injection hc with hc; subst hc;exact xW.2 ⟨#[],#[],rfl,zM.2 rfl,zM.2 rfl⟩
theorem zO9{L:List Oper}{o:Oper}{t:Nat}(h:Operand.tmp t∈o.op.operands.toList):t∈zAs L o:=by unfold zAs;refine List.mem_append_left _ (List.mem_filterMap.2 ⟨.tmp t,h,rfl⟩)
theorem zNF{L:List Oper}{o:Oper}{j t:Nat}{wnt:Bool}(hg:o.guard=some (j,wnt))(ht:(nth L j).bind (·.dst)=some t):t∈zAs L o:=by unfold zAs;refine List.mem_append_right _ ?_;simp[hg,ht]
theorem zBM{F N:Nat}{Y:Psi}{dl:List (Option Nat)}{s:GS}{a:Act}{ops:Array Oper}{o:Oper}{b:Bool}(hg:vU P Y)(ha:∀t∈zAs ops.toList o,j5 F N Y dl s.es s.tm a t)
 (h:qn P F N ops.toList o dl s=some b):Region.wanted o (yielded ops a.tmps)=b:=by
 unfold qn at h;split at h
 . rename_i hgd;injection h with h;unfold Region.wanted; rw[hgd]; exact h
 . rename_i j wnt hgd;split at h
   . cases h
   . rename_i t ht;split at h
     . cases h
     . rename_i x hx;have hv:zG Y (aV s.es s.tm x) (a.tmps.getD t undef):=zKQ (a:=a) hg (l:=[.tmp t]) (λu hu=>by
        have:u=t:=by simpa using hu
        subst this;exact ha u (zNF hgd ht)) (.tmp t) (by simp) x hx
       have ht':(ops[j]?).bind (·.dst)=some t:=by rw[<- zPV]; exact ht
       obtain⟨w1,w2⟩:=zIO hgd ht' hv;split at h
       . rename_i hb;injection h with h;rw[w1 hb]; exact h
       . rename_i hb;split at h
         . rename_i hn;injection h with h;rw[w2 hb hn]; exact h
         . cases h
def zRA(P:Program)(ops:Array Oper)(o:Oper)(a:Act)(w:World)(x:Value)(w':World)(al:Option Pl):Prop:=
 (Region.wanted o (yielded ops a.tmps)=false/\x=undef/\w'=w/\al=none) \/
 (Region.wanted o (yielded ops a.tmps)=true/\kz P a.eval o.op o.type w w' x/\((w'=w/\al=none)\/(New w w'/\al=some ⟨w.heap.size,0,zG0 w' w.heap.size,λn=>n⟩)))
theorem zRA.unique{ops:Array Oper}{o:Oper}{a:Act}{w:World}{x y:Value}{w' w'':World}{al bl:Option Pl}(h:zRA P ops o a w x w' al)(h':zRA P ops o a w y w'' bl):x=y/\w'=w''/\al=bl:=by
 rcases h with⟨h1,h2,h3,h4⟩ |⟨h1,⟨nx,h2,h3⟩,h4⟩
 . rcases h' with⟨g1,g2,g3,g4⟩ |⟨g1,_,_⟩
   . exact⟨h2.trans g2.symm,h3.trans g3.symm,h4.trans g4.symm⟩
   . rw[h1]at g1; cases g1
 . rcases h' with⟨g1,_⟩ |⟨g1,⟨ny,g2,g3⟩,g4⟩
   . rw[h1]at g1; cases g1
   . rw[h2]at g2;injection g2 with e1 e2;subst e1 e2;have hx:x=y:=by
      rcases h3 with h3 |⟨h3,h3'⟩
      . rcases g3 with g3 |⟨g3,_⟩
        . rw[h3]at g3; injection g3
        . rw[h3]at g3; cases g3
      . rcases g3 with g3 |⟨_,g3'⟩
        . rw[h3]at g3; cases g3
        . exact h3'.trans g3'.symm
     refine⟨hx,rfl,?_⟩;rcases h4 with⟨e1,e2⟩ |⟨e1,e2⟩
     . rcases g4 with⟨_,e4⟩ |⟨e3,_⟩
       . exact e2.trans e4.symm
       . have:=e3.size; rw[e1]at this; omega
     . rcases g4 with⟨e3,_⟩ |⟨_,e4⟩
       . have:=e1.size; rw[e3]at this; omega
       . exact e2.trans e4.symm
theorem zL2:∀{l m:List (Nat × Int)},j9 l m=true->l=m
 | [],[],_=>rfl|(i,a)::l,(j,b)::m,h=>by simp only[j9,Bool.and_eq_true,zX,decide_eq_true_eq]at h;rw[ze h.1.1,h.1.2,zL2 h.2]| [],_::_,h=>by cases h|_::_,[],h=>by cases h
mutual
theorem CV.beq_eq:∀(a b:CV),CV.beq a b=true->a=b
 |.bool a,b,h=>by cases b <;> simp_all [CV.beq]
 |.nat a,b,h=>by cases b <;> simp_all [CV.beq]
 |.int k a,b,h=>by cases b <;> simp_all [CV.beq,yj,zX]
 |.anyi k,b,h=>by cases b <;> simp_all [CV.beq]
 |.sym k,b,h=>by
  cases b <;> try (simp[CV.beq]at h; done)
  rename_i j;simp only[CV.beq,Bool.and_eq_true,yj,zX,decide_eq_true_eq]at h;obtain⟨k1,c1,l1⟩:=k;obtain⟨k2,c2,l2⟩:=j;simp only at h;rw[h.1.1,h.1.2,zL2 h.2]
 |.str a,b,h=>by cases b <;> simp_all [CV.beq,kr]
 |.nilptr,b,h=>by cases b <;> simp_all [CV.beq]
 |.ptr _ _,b,h=>by cases b <;> simp_all [CV.beq]
 |.nilsl,b,h=>by cases b <;> simp_all [CV.beq]
 |.sl ..,b,h=>by cases b <;> simp_all [CV.beq]
 |.nilmap,b,h=>by cases b <;> simp_all [CV.beq]
 |.map _,b,h=>by cases b <;> simp_all [CV.beq]
 |.func f x y,b,h=>by
  cases b <;> try (simp[CV.beq]at h; done)
  rename_i g z u;simp only[CV.beq,Bool.and_eq_true,decide_eq_true_eq]at h;rw[h.1.1,CV.beqs_eq x z h.1.2,CV.beqs_eq y u h.2]
 |.nilfunc,b,h=>by cases b <;> simp_all [CV.beq]
 |.iface t v,b,h=>by
  cases b <;> try (simp[CV.beq]at h; done)
  rename_i u w;simp only[CV.beq,Bool.and_eq_true]at h;rw[ze h.1,CV.beq_eq v w h.2]
 |.niliface,b,h=>by cases b <;> simp_all [CV.beq]
 |.agg x,b,h=>by
  cases b <;> try (simp[CV.beq]at h; done)
  rename_i y;simp only[CV.beq]at h;rw[CV.beqs_eq x y h]
 |.tup x,b,h=>by
  cases b <;> try (simp[CV.beq]at h; done)
  rename_i y;simp only[CV.beq]at h;rw[CV.beqs_eq x y h]
 |.sst x,b,h=>by
  cases b <;> try (simp[CV.beq]at h; done)
  rename_i y;simp only[CV.beq]at h;rw[CV.beqs_eq x y h]
 |.win ..,b,h=>by cases b <;> simp_all [CV.beq]
 |.few ..,b,h=>by cases b <;> simp_all [CV.beq]
 |.elt ..,b,h=>by cases b <;> simp_all [CV.beq]
 |.any,b,h=>by cases b <;> simp_all [CV.beq]
theorem CV.beqs_eq:∀(a b:List CV),CV.beqs a b=true->a=b
 | [],[],_=>rfl| [],_::_,h=>by simp[CV.beqs]at h|_::_,[],h=>by simp[CV.beqs]at h|x::a,y::b,h=>by simp only[CV.beqs,Bool.and_eq_true]at h;rw[CV.beq_eq x y h.1,CV.beqs_eq a b h.2]
end
theorem zC1{op:COp}{es:List CV}{tm:Tm}{n:Key}{v:CV}:∀{c:Nat} {hs:List zC},ja P op es tm n v c hs=true->∀{k:Nat} {hb:zC},k<c->hs[k]? = some hb->yX P op es tm hb n=.read v
 | 0,_,_,k,_,hk,_=>by omega|c+1,[],_,k,hb,_,hh=>by cases hh|c+1,h::hs,hsr,k,hb,hk,hh=>by
  unfold ja at hsr;split at hsr
  . rename_i u hu;rw[Bool.and_eq_true]at hsr;cases k with
    |zero=>injection hh with hh; subst hh;rw[hu,CV.beq_eq v u hsr.1]
    |succ k=>exact zC1 hsr.2 (k:=k) (by omega) (by simpa using hh)
  . cases hsr
end
end Go.Ev
namespace Go.Ev
variable[Sym]
noncomputable section
variable{P:Program}
variable[SymFact P]
theorem zER{F N:Nat}{Y:Psi}{dl:List (Option Nat)}{es:List CV}{tm:Tm}{a:Act}{t:Nat}{dst:Option Nat}{d:Option Loc}{v:CV}(h:j5 F N Y dl es tm a t)(hne:dst≠some t)
 (hd:xp F N dst=some d):j5 F N Y (dst::dl) (v::es) (zMR d v tm) a t:=by
 have hw:xZ t (dst::dl) 0=(xZ t dl 0).map (· + 1):=by
  rw[<- ww];cases dst with
  |none=>rfl|some u=>
   have:Nat.beq u t=false:=vG λe=>hne (by rw[e])
   show(match Nat.beq u t with |true=>some 0 |false=>xZ t dl (0+1))=_;rw[this]
 constructor
 . intro i hi;rw[hw]at hi;cases hq:xZ t dl 0 with
   |none=>rw[hq]at hi; cases hi|some j=>rw[hq]at hi;injection hi with hi; subst hi;exact h.1 j hq
 . intro h1 h2 h3
   have:=h.2 h1 h2 h3
   rcases jP hd with⟨_,rfl⟩ |⟨u,rfl,hu,⟨hb,rfl⟩ |⟨hb,hle,rfl⟩⟩
   . exact this
   . exact this
   . show zG Y (qC _ (wP v _ tm)) _;rw[x9 _ _ _ _ (λe=>hne (by rw[Loc.ofNat_inj hle h2 e.symm]))];exact this
theorem zHf{F N:Nat}{Y:Psi}{dl:List (Option Nat)}{es:List CV}{tm:Tm}{a:Act}{t:Nat}{d:Option Loc}{v:CV}(h:zG Y v (a.tmps.getD t undef))(hd:xp F N (some t)=some d) :
 j5 F N Y (some t::dl) (v::es) (zMR d v tm) a t:=by
 have hw:xZ t (some t::dl) 0=some 0:=by show(match Nat.beq t t with |true=>some 0 |false=>xZ t dl (0+1))=_;rw[qw]
 constructor
 . intro i hi;rw[hw]at hi;injection hi with hi; subst hi;exact h
 . intro h1 h2 h3;rcases jP hd with⟨e,_⟩ |⟨u,e,hu,⟨hb,rfl⟩ |⟨hb,hle,rfl⟩⟩
   . cases e
   . injection e with e; subst e;rw[hb]at h1; cases h1
   . injection e with e; subst e;show zG Y (qC _ (wP v _ tm)) _;rw[kV];exact h
def zHs(E:Nat->Option Rec)(i:Nat)(rc:Rec):Nat->Option Rec:=λj=>if j=i then some rc else E j
theorem j0(E:Nat->Option Rec)(i:Nat)(rc:Rec):zHs E i rc i=some rc:=by simp[zHs]
theorem x7(E:Nat->Option Rec){i j:Nat}(rc:Rec)(h:j≠i):zHs E i rc j=E j:=by simp[zHs,h]
theorem x6.congrE{F N:Nat}{call:yw}{L:List Oper}{anc:List Nat}{E E':Nat->Option Rec}{w:World}:∀{r:List Nat} {dl:List (Option Nat)} {effs:List Nat} {s:GS} {Y:Psi},(∀i∈r,E' i=E i) ->
 x6 P F N call L anc E w r dl effs s Y->x6 P F N call L anc E' w r dl effs s Y
 | [],_,_,_,_,_,h=>h|i::r,dl,effs,s,Y,he,⟨o,d,h1,h2,h⟩=>by
  have he':∀j∈r,E' j=E j:=λj hj=>he j (by simp[hj]);refine⟨o,d,h1,h2,?_⟩;rw[he i (by simp)];split at h
  . exact⟨h.1,h.2.1,λs' hs'=>x6.congrE he' (h.2.2 s' hs')⟩
  . obtain⟨v,ob,h3,h⟩:=h;refine⟨v,ob,h3,?_⟩;split at h
    . exact x6.congrE he' h
    . exact⟨h.1,x6.congrE he' h.2⟩
    . obtain⟨pl,g1,g2,g3,g4⟩:=h;exact⟨pl,g1,g2,g3,x6.congrE he' g4⟩
theorem zTN{m:Nat}:∀{effs:List Nat} {k:Nat},(∀q,q<k->∃e,effs[q]? = some e/\z8 m e=false)->k<=zFq m effs
 |_,0,_=>Nat.zero_le _| [],k+1,h=>by obtain⟨e,he,_⟩:=h 0 (by omega); cases he
 |e::effs,k+1,h=>by obtain⟨e',he',hb⟩:=h 0 (by omega);injection he' with he'; subst he';unfold zFq;rw[if_neg (by rw[hb]; simp)];exact Nat.succ_le_succ (zTN λq hq=>by obtain⟨e',h1,h2⟩:=h (q+1) (by omega); exact⟨e',by simpa using h1,h2⟩)
end
end Go.Ev
namespace Go.Ev
variable[Sym]
noncomputable section
variable{P:Program}{F N:Nat}{call:yw}{ops:Array Oper}{anc:List Nat}
variable[SymFact P]
structure zL0(L:List Oper)(anc:List Nat)(E:Nat->Option Rec)(i:Nat)(o:Oper)(r:List Nat):Prop where
 done:∀j∈r,z8 ((nth anc i).getD 0) j=true->E j≠none
 after:∀pre suf,r=pre++i::suf->∀j∈suf,z8 ((nth anc i).getD 0) j=false
 ahead:∀pre suf,r=pre++i::suf->∀j∈pre,z8 ((nth anc j).getD 0) i=false
theorem zL0.tail{L:List Oper}{E:Nat->Option Rec}{i j:Nat}{o:Oper}{r:List Nat}(h:zL0 L anc E i o (j::r)):zL0 L anc E i o r:=
 ⟨λq hq=>h.done q (by simp[hq]),λpre suf e=>h.after (j::pre) suf (by rw[e]; rfl),λpre suf e q hq=>h.ahead (j::pre) suf (by rw[e]; rfl) q (by simp[hq])⟩
section
variable{E:Nat->Option Rec}{i:Nat}{o:Oper}{a:Act}{w:World}
 (hcall:xP call) (hoi:nth ops.toList i=some o) (hne:qm P o.op=false) (hEi:E i=none)
 (hrec:∀j rc pl,E j=some rc->rc.al=some pl->pl.blk<w.heap.size)
 (htm:∀j o',nth ops.toList j=some o'->∀t,o'.dst=some t->t∈zAs ops.toList o->z8 ((nth anc i).getD 0) j=true\/z8 ((nth anc j).getD 0) i=true)
 (hT1:∀j rc o' t,E j=some rc->nth ops.toList j=some o'->o'.dst=some t->a.tmps.getD t undef=rc.x)
 (hEff:∀j o',nth ops.toList j=some o'->qm P o'.op=true->E j=none)
include hcall hoi hne hEi hrec htm hT1 hEff
theorem u5:∀{r:List Nat} {dl:List (Option Nat)} {effs:List Nat} {s:GS} {Y:Psi} {hb:zC} {k:Nat},x6 P F N call ops.toList anc E w r dl effs s Y->i∈r->r.Nodup->zL0 ops.toList anc E i o r ->
 vU P Y->qN Y s.n->(∀t∈zAs ops.toList o,j5 F N Y dl s.es s.tm a t\/∃j∈r,z8 ((nth anc i).getD 0) j=true/\E j≠none/\∃o',nth ops.toList j=some o'/\o'.dst=some t) ->
 ((k=0/\hb=s.h)\/(0<k/\s.hs[k - 1]? = some hb))->(∀q,q<k->∃e,effs[q]? = some e/\z8 ((nth anc i).getD 0) e=false) ->
 (∀q,zC.fam hb q≠none->q.ix<s.n.ix)->jC Y (zC.fam hb) w ->
 ∃x w' al,zRA P ops o a w x w' al/\x6 P F N call ops.toList anc (zHs E i ⟨x,al⟩) w' r dl effs s Y
 | [],_,_,_,_,_,_,_,hi,_,_,_,_,_,_,_,_,_=>by cases hi|j::r,dl,effs,s,Y,hb,k,hgood,hi,hnd,hord,hg,hfr,htmp,hbase,hk,hsup,hrel=>by
  obtain⟨o',d,ho',hd,hG⟩:=hgood;rw[List.nodup_cons]at hnd;by_cases hji:j=i
  . -- here it is
    subst hji;rw[hoi]at ho';injection ho' with ho'; subst ho';rw[hne]at hG;obtain⟨v,ob,hno,hG⟩:=hG;simp only[hEi]at hG;have hask:∀t∈zAs ops.toList o,j5 F N Y dl s.es s.tm a t:=by
     intro t ht;rcases htmp t ht with h |⟨q,hq,hb',hE,_⟩
     . exact h
     . rcases List.mem_cons.1 hq with rfl |hq
       . exact absurd hEi hE
       . have:=hord.after [] r rfl q hq
         rw[this]at hb'; cases hb'
    have hE':∀x al,∀q∈r,zHs E j ⟨x,al⟩ q=E q:=λx al q hq=>x7 E _ λe=>hnd.1 (e ▸ hq);have same:∀x,zG Y v x->ob=none->x6 P F N call ops.toList anc (zHs E j ⟨x,none⟩) w (j::r) dl effs s Y:=by intro x hx hob;refine⟨o,d,hoi,hd,?_⟩;rw[hne];refine⟨v,ob,hno,?_⟩;subst hob;simp only[j0];exact⟨hx,x6.congrE (hE' x none) hG⟩
    have hargs:=zKQ (P:=P) (F:=F) (N:=N) (dl:=dl) hg (l:=o.op.operands.toList) λt ht=>hask t (zO9 ht);rcases hno with⟨hgu,hv,hob⟩ |⟨hgu,hno'⟩
    . refine⟨undef,w,none,.inl ⟨zBM hg hask hgu,rfl,rfl,rfl⟩,?_⟩;exact same undef (by rw[hv]; exact qb) hob
    . have hw:=zBM hg hask hgu;have hsim:=λ(hp:zC)=>zN6 (P:=P) (Y:=Y) (h:=hp) (n:=s.n) (es:=s.es) (tm:=s.tm) (ty:=o.type) (w:=w) (zKw a) o.op hargs;rcases hno' with⟨he,hob⟩ |⟨he,hob,hsr⟩ |⟨ob',he,hob⟩
      . have:=hsim s.h
        rw[show yX P (zj P ⟨F,N,dl⟩ o.op) s.es s.tm s.h s.n=.val v from he]at this;obtain⟨x,h1,h2⟩:=this;exact⟨x,w,none,.inr ⟨hw,h1,.inl ⟨rfl,rfl⟩⟩,same x h2 hob⟩
      . have hex:yX P (zj P ⟨F,N,dl⟩ o.op) s.es s.tm hb s.n=.read v:=by
         rcases hbase with⟨_,rfl⟩ |⟨hpos,hhs⟩
         . exact he
         . refine zC1 hsr ?_ hhs;have hchk:=zTN hk;omega
        have:=hsim hb
        rw[hex]at this;obtain⟨x,h1,h2⟩:=this hrel;exact⟨x,w,none,.inr ⟨hw,h1,.inl ⟨rfl,rfl⟩⟩,same x h2 hob⟩
      . have:=hsim s.h
        rw[show yX P (zj P ⟨F,N,dl⟩ o.op) s.es s.tm s.h s.n=.alloc ob' v from he]at this;obtain⟨w',x,sz,h1,h2,h3,h4⟩:=this;have hnone:=hfr s.n (Nat.le_refl _);have hle:=Psi.le_upd (Y:=Y) (k:=s.n) ⟨w.heap.size,0,sz,λn=>n⟩ hnone;obtain⟨h5,h6⟩:=h3 _ hle (Psi.upd_same _ _ _);refine⟨x,w',some ⟨w.heap.size,0,sz,λn=>n⟩,.inr ⟨hw,h1,.inr ⟨h2,by rw[h4]⟩⟩,?_⟩;refine⟨o,d,hoi,hd,?_⟩;rw[hne];refine⟨v,ob,.inr ⟨hgu,.inr (.inr ⟨ob',he,hob⟩)⟩,?_⟩;subst hob;simp only[j0];refine⟨_,rfl,h5,h6,x6.congrE (hE' x _) (x6.mono hle (λq _ rc pl hq hpl=>h2.old _ (hrec q rc pl hq hpl)) hG)⟩
  . have hi':i∈r:=by rcases List.mem_cons.1 hi with h |h; exact absurd h.symm hji; exact h
    obtain⟨pre,suf,hr⟩:=List.append_of_mem hi';have hahead:z8 ((nth anc j).getD 0) i=false:=hord.ahead (j::pre) suf (by rw[hr]; rfl) j (by simp);have hundone:E j=none->∀t∈zAs ops.toList o,o'.dst≠some t:=by
     intro hE t ht e;rcases htm j o' ho' t e ht with h |h
     . exact hord.done j (by simp) h hE
     . rw[h]at hahead; cases hahead
    have hexp:∀k':Key,s.n.ix<=k'.ix->qN Y k':=λk' hk' q hq=>hfr q (by omega);have htmp':∀(Y':Psi) (v:CV),Y.le Y'->(∀rc,E j=some rc->zG Y' v rc.x)->∀t∈zAs ops.toList o,
     j5 F N Y' (o'.dst::dl) (v::s.es) (zMR d v s.tm) a t\/∃q∈r,z8 ((nth anc i).getD 0) q=true/\E q≠none/\∃o'',nth ops.toList q=some o''/\o''.dst=some t:=by
     intro Y' v hle hv t ht;by_cases hdt:o'.dst=some t
     . cases hE:E j with
       |none=>exact absurd hdt (hundone hE t ht)|some rc=>left;rw[hdt]at hd ⊢;refine zHf ?_ hd;rw[hT1 j rc o' t hE ho' hdt];exact hv rc hE
     . rcases htmp t ht with h |⟨q,hq,h1,h2,o'',h3,h4⟩
       . exact .inl (zER (h.mono hle) hdt hd)
       . right;rcases List.mem_cons.1 hq with rfl |hq
         . rw[ho']at h3; injection h3 with h3; subst h3; exact absurd h4 hdt
         . exact⟨q,hq,h1,h2,o'',h3,h4⟩
    cases he:qm P o'.op with
    |true=>
     have hEj:=hEff j o' ho' he;rw[he]at hG;obtain⟨g1,⟨s1,hs1⟩,g3⟩:=hG;have hform:∀s',qB P F N call ops.toList o' d dl s s'->∃v h' n',s'=s.eff d v h' n':=by
      intro s' hs';rcases hs' with⟨_,rfl⟩ |⟨_,hs'⟩
      . exact⟨_,_,_,rfl⟩
      . split at hs' <;> first |exact⟨_,_,_,hs'⟩ |(obtain⟨v,h,n,_,hs'⟩:=hs'; exact⟨_,_,_,hs'⟩) |exact hs'.elim
     have step:∀s',qB P F N call ops.toList o' d dl s s'->∃x w' al,zRA P ops o a w x w' al/\x6 P F N call ops.toList anc (zHs E i ⟨x,al⟩) w' r (o'.dst::dl) (j::effs) s' Y:=by
      intro s' hs';have hmono:=zJl hcall hs';obtain⟨v,h',n',rfl⟩:=hform s' hs';refine u5 (k:=k+1) (hb:=hb) (g3 _ hs') hi' hnd.2 hord.tail hg (hexp _ hmono) (htmp' Y v (Psi.le_refl _) (by rw[hEj]; simp)) (.inr ⟨by omega,?_⟩) ?_ (λq hq=>Nat.lt_of_lt_of_le (hsup q hq) hmono) hrel
      . rcases hbase with⟨rfl,rfl⟩ |⟨hpos,hh⟩
        . rfl
        . show(s.h::s.hs)[k+1 - 1]? = some hb;rw[show k+1 - 1=(k - 1)+1 from by omega];exact hh
      . intro q hq;cases q with
        |zero=>
         refine⟨j,rfl,?_⟩;cases hb':z8 ((nth anc i).getD 0) j with
         |false=>rfl|true=>exact absurd hEj (hord.done j (by simp) hb')
        |succ q=>obtain⟨e,h1,h2⟩:=hk q (by omega);exact⟨e,by simpa using h1,h2⟩
     obtain⟨x,w',al,hconc,hgood1⟩:=step s1 hs1;refine⟨x,w',al,hconc,o',d,ho',hd,?_⟩;rw[he];refine⟨g1,⟨s1,hs1⟩,λs' hs'=>?_⟩;obtain⟨x',w'',al',hconc',hgood'⟩:=step s' hs';obtain⟨e1,e2,e3⟩:=hconc.unique hconc';subst e1 e2 e3;exact hgood'
    |false=>
     rw[he]at hG;obtain⟨v,ob,hno,hG⟩:=hG;have hold:∀{x:Value} {w':World} {al:Option Pl},zRA P ops o a w x w' al->∀B,B<w.heap.size->w'.heap[B]? = w.heap[B]?:=by
      intro x w' al hc B hB;rcases hc with⟨_,_,rfl,_⟩ |⟨_,_,⟨rfl,_⟩ |⟨hn,_⟩⟩
      . rfl
      . rfl
      . exact hn.old B hB
     have hEj:∀x al,zHs E i ⟨x,al⟩ j=E j:=λx al=>x7 E _ hji;have hk':∀q,q<k->∃e,effs[q]? = some e/\z8 ((nth anc i).getD 0) e=false:=hk;cases ob with
     |none=>
      have hg2:x6 P F N call ops.toList anc E w r (o'.dst::dl) effs (s.put d v none) Y/\∀rc,E j=some rc->zG Y v rc.x:=by
       cases hE:E j with
       |none=>rw[hE]at hG; exact⟨hG,by simp⟩|some rc=>rw[hE]at hG; exact⟨hG.2,λrc' h=>by injection h with h; subst h; exact hG.1⟩
      obtain⟨x,w',al,hconc,hgood⟩:=u5 (k:=k) (hb:=hb) hg2.1 hi' hnd.2 hord.tail hg hfr (htmp' Y v (Psi.le_refl _) hg2.2) hbase hk hsup hrel;refine⟨x,w',al,hconc,o',d,ho',hd,?_⟩;rw[he];refine⟨v,none,hno,?_⟩;rw[hEj];cases hE:E j with
      |none=>exact hgood|some rc=>exact⟨hg2.2 rc hE,hgood⟩
     |some ob=>
      have hbase':(k=0/\(if k=0 then yy (some ob) s.n s.h else hb)=(s.put d v (some ob)).h)\/(0<k/\(s.put d v (some ob)).hs[k - 1]? = some (if k=0 then yy (some ob) s.n s.h else hb)):=by
       rcases hbase with⟨h0,_⟩ |⟨h0,h1⟩
       . exact .inl ⟨h0,by rw[if_pos h0]; rfl⟩
       . exact .inr ⟨h0,by rw[if_neg (by omega)]; exact h1⟩
      have hfam:∀q,q≠s.n->zC.fam (if k=0 then yy (some ob) s.n s.h else hb) q=zC.fam hb q:=by
       intro q hq;rcases hbase with⟨h0,h1⟩ |⟨h0,_⟩
       . rw[if_pos h0,z7,Fam.upd_other _ _ hq,h1]
       . rw[if_neg (by omega)]
      cases hE:E j with
      |none=>
       simp only[hE]at hG;have hG:x6 P F N call ops.toList anc E w r (o'.dst::dl) effs (s.put d v (some ob)) Y:=hG;have hroom0:(s.put d v (some ob)).n.room:=x6.room hcall hG;have hroom:s.n.room:=Key.room_of_succ (k:=s.n) hroom0;have hix:=Key.ix_succ hroom;obtain⟨x,w',al,hconc,hgood⟩:=u5 (k:=k) (hb:=if k=0 then yy (some ob) s.n s.h else hb) hG hi' hnd.2 hord.tail hg (hexp s.n.succ (by omega)) (htmp' Y v (Psi.le_refl _) (by rw[hE]; simp)) hbase' hk
        (λq hq=>by
          show q.ix<s.n.succ.ix;by_cases e:q=s.n
          . subst e; omega
          . rw[hfam q e]at hq
            have:=hsup q hq
            omega)
        (λq ob' p hq hp=>by
          by_cases e:q=s.n
          . subst e; rw[hfr s.n (Nat.le_refl _)]at hp; cases hp
          . rw[hfam q e]at hq;exact hrel q ob' p hq hp)
       refine⟨x,w',al,hconc,o',d,ho',hd,?_⟩;rw[he];refine⟨v,some ob,hno,?_⟩;rw[hEj,hE];exact hgood
      |some rc=>
       simp only[hE]at hG;obtain⟨pl,g1,g2,g3,g4⟩:=hG;have hroom0:(s.put d v (some ob)).n.room:=x6.room hcall g4;have hroom:s.n.room:=Key.room_of_succ (k:=s.n) hroom0;have hix:=Key.ix_succ hroom;have hle:=Psi.le_upd (Y:=Y) (k:=s.n) pl (hfr s.n (Nat.le_refl _));obtain⟨x,w',al,hconc,hgood⟩:=u5 (k:=k) (hb:=if k=0 then yy (some ob) s.n s.h else hb) g4 hi' hnd.2 hord.tail (hg.mono hle)
        (λq hq=>by
          have hq:s.n.succ.ix<=q.ix:=hq
          have:q≠s.n:=λe=>by subst e; omega
          rw[Psi.upd_other _ _ this];exact hfr q (by omega))
        (htmp' _ v hle (λrc' h=>by rw[hE]at h; injection h with h; subst h; exact g2)) hbase' hk
        (λq hq=>by
          show q.ix<s.n.succ.ix;by_cases e:q=s.n
          . subst e; omega
          . rw[hfam q e]at hq
            have:=hsup q hq
            omega)
        (λq ob' p hq hp=>by
          by_cases e:q=s.n
          . subst e;rw[Psi.upd_same]at hp;injection hp with hp; subst hp;rcases hbase with⟨h0,h1⟩ |⟨h0,_⟩
            . rw[if_pos h0,z7,Fam.upd_same]at hq;injection hq with hq; subst hq;exact g3
            . rw[if_neg (by omega)]at hq
              have:=hsup s.n (by rw[hq]; simp)
              omega
          . rw[hfam q e]at hq;rw[Psi.upd_other _ _ e]at hp;exact(hrel q ob' p hq hp).mono hle)
       refine⟨x,w',al,hconc,o',d,ho',hd,?_⟩;rw[he];refine⟨v,some ob,hno,?_⟩;rw[hEj,hE];exact⟨pl,g1,g2,xQ.congr (hold hconc _ (hrec j rc pl hE g1)) g3,hgood⟩
end
end
end Go.Ev
namespace Go.Ev
variable[Sym]
noncomputable section
variable{P:Program}{F N:Nat}{call:yw}{L:List Oper}{anc:List Nat}
variable[SymFact P]
theorem zNu.unique{o:Oper}{dl:List (Option Nat)}{chk:Nat}{s:GS}{v v':CV}{ob ob':Option CObj}(h:zNu P F N L o dl chk s v ob)(h':zNu P F N L o dl chk s v' ob'):v=v'/\ob=ob':=by
 rcases h with⟨g,e1,e2⟩ |⟨g,h⟩
 . rcases h' with⟨_,e3,e4⟩ |⟨g',_⟩
   . exact⟨e1.trans e3.symm,e2.trans e4.symm⟩
   . rw[g]at g'; cases g'
 . rcases h' with⟨g',_⟩ |⟨_,h'⟩
   . rw[g]at g'; cases g'
   . rcases h with⟨e,rfl⟩ |⟨e,rfl,_⟩ |⟨x,e,rfl⟩ <;> rcases h' with⟨e',rfl⟩ |⟨e',rfl,_⟩ |⟨y,e',rfl⟩ <;> rw[e]at e' <;> first |cases e' |skip
     . exact⟨rfl,rfl⟩
     . exact⟨rfl,rfl⟩
     . exact⟨rfl,rfl⟩
structure Inv(P:Program)(F N:Nat)(call:yw)(L:List Oper)(anc:List Nat)(Y₀:Psi)(g₀:Fam)(n₀:Key)(w₀:World)(R₀:R)(E:Nat->Option Rec)(r:List Nat)(dl:List (Option Nat))(effs:List Nat)
 (s:GS) (Y:Psi) (a:Act) (w:World):Prop where
 good:x6 P F N call L anc E w r dl effs s Y
 clean:zd (kY P F N call L anc r dl effs s)
 leaf:∀(O:R->Prop),(∀x y,O x->O (.fork x y))->(∀x y,O y->O (.fork x y))->O (kY P F N call L anc r dl effs s)->O R₀
 rel:Rel Y (zC.fam s.h) w
 glob:vU P Y
 fresh:qN Y s.n
 dfr:jg P Y s.ds a.defers
 size:N<=a.tmps.size
 sub:∀j,E j≠none->j∈r/\∀o,nth L j=some o->qm P o.op=false
 t1:∀j rc o t,E j=some rc->nth L j=some o->o.dst=some t->a.tmps.getD t undef=rc.x
 t2:∀t,(∀j o,E j≠none->nth L j=some o->o.dst≠some t)->j5 F N Y dl s.es s.tm a t
 recs:∀j rc pl,E j=some rc->rc.al=some pl->pl.blk<w.heap.size/\w₀.heap.size<=pl.blk/\∀k o p,zC.fam s.h k=some o->Y k=some p->p.blk≠pl.blk
 apart:∀j j' rc rc' pl pl',E j=some rc->E j'=some rc'->rc.al=some pl->rc'.al=some pl'->pl.blk=pl'.blk->j=j'
 post:yF Y₀ g₀ n₀ w₀ Y (zC.fam s.h) s.n w
def zIh(E:Nat->Option Rec)(i:Nat):Nat->Option Rec:=λj=>if j=i then none else E j
theorem zCD(E:Nat->Option Rec){i j:Nat}(h:j≠i):zIh E i j=E j:=by simp[zIh,h]
theorem jI{E:Nat->Option Rec}{i j:Nat}{rc:Rec}(h:zIh E i j=some rc):j≠i/\E j=some rc:=by
 unfold zIh at h;split at h
 . cases h
 . exact⟨by assumption,h⟩
section
variable{Y₀:Psi}{g₀:Fam}{n₀:Key}{w₀:World}{R₀:R}
theorem zSk(hcall:xP call){E:Nat->Option Rec}{i:Nat}{r:List Nat}{dl:List (Option Nat)}{effs:List Nat}{s:GS}{Y:Psi}{a:Act}{w:World}{rc:Rec}(hnd:(i::r).Nodup)
 (h:Inv P F N call L anc Y₀ g₀ n₀ w₀ R₀ E (i::r) dl effs s Y a w) (hE:E i=some rc) :
 ∃o s' Y',nth L i=some o/\Inv P F N call L anc Y₀ g₀ n₀ w₀ R₀ (zIh E i) r (o.dst::dl) effs s' Y' a w:=by
 obtain⟨o,d,ho,hd,hG⟩:=h.good;have hne:qm P o.op=false:=(h.sub i (by rw[hE]; simp)).2 o ho;rw[hne]at hG;obtain⟨v,ob,hno,hG⟩:=hG;simp only[hE]at hG;obtain⟨d',v',ob',hd',hno',heq⟩:=zP6 ho hne h.clean;rw[hd]at hd';injection hd' with hd';obtain⟨e1,e2⟩:=hno.unique hno';subst hd' e1 e2;rw[List.nodup_cons]at hnd;have hsame:∀j∈r,zIh E i j=E j:=λj hj=>zCD E λe=>hnd.1 (e ▸ hj);have hsub:∀j,zIh E i j≠none->j∈r/\∀o,nth L j=some o->qm P o.op=false:=by
  intro j hj;cases hq:zIh E i j with
  |none=>exact absurd hq hj|some q=>
   obtain⟨h1,h2⟩:=jI hq;obtain⟨h3,h4⟩:=h.sub j (by rw[h2]; simp);rcases List.mem_cons.1 h3 with h3 |h3
   . exact absurd h3 h1
   . exact⟨h3,h4⟩
 have ht2:∀(Y':Psi),Y.le Y'->zG Y' v rc.x->∀t,(∀j o,zIh E i j≠none->nth L j=some o->o.dst≠some t)->j5 F N Y' (o.dst::dl) (v::s.es) (zMR d v s.tm) a t:=by
  intro Y' hle hv t ht;by_cases hdt:o.dst=some t
  . have hd':=hd;rw[hdt]at hd' ⊢;refine zHf ?_ hd';rw[h.t1 i rc o t hE ho hdt]; exact hv
  . refine zER ((h.t2 t λj o' hj ho'=>?_).mono hle) hdt hd;by_cases hji:j=i
    . subst hji;rw[ho]at ho'; injection ho' with ho'; subst ho'; exact hdt
    . exact ht j o' (by rw[zCD E hji]; exact hj) ho'
 have hclean:=h.clean;rw[heq]at hclean;have hleaf:=h.leaf;rw[heq]at hleaf;cases ob with
 |none=>
  exact⟨o,s.put d v none,Y,ho,⟨x6.congrE hsame hG.2,hclean,hleaf,h.rel,h.glob,h.fresh,h.dfr,h.size,hsub,λj q o' t hj=>h.t1 j q o' t (jI hj).2,
   ht2 Y (Psi.le_refl _) hG.1,λj q pl hj=>h.recs j q pl (jI hj).2,λj j' q q' pl pl' hj hj'=>h.apart j j' q q' pl pl' (jI hj).2 (jI hj').2,h.post⟩⟩
 |some ob=>
  obtain⟨pl,g1,g2,g3,g4⟩:=hG;have hroom0:(s.put d v (some ob)).n.room:=x6.room hcall g4;have hroom:s.n.room:=Key.room_of_succ (k:=s.n) hroom0;have hix:=Key.ix_succ hroom;have hnone:=h.fresh s.n (Nat.le_refl _);have hle:=Psi.le_upd (Y:=Y) (k:=s.n) pl hnone;obtain⟨r1,r2,r3⟩:=h.recs i rc pl hE g1;have hgn:∀j q,zC.fam s.h j=some q->j≠s.n:=by intro j q hj e;subst e;obtain⟨p,hp⟩:=h.rel.tot _ q hj;rw[hnone]at hp; cases hp
  have hrel:Rel (Y.upd s.n pl) (Fam.upd (zC.fam s.h) s.n (some ob)) w:=by
   refine⟨λj q p hq hp=>?_,λj q hq=>?_,λk₁ k₂ o₁ o₂ p₁ p₂ h1 h2 h3 h4 hr e=>?_⟩
   . by_cases hj:j=s.n
     . subst hj;rw[Fam.upd_same]at hq; rw[Psi.upd_same]at hp;injection hq with hq; injection hp with hp;subst hq hp; exact g3
     . rw[Fam.upd_other _ _ hj]at hq; rw[Psi.upd_other _ _ hj]at hp;exact(h.rel.on j q p hq hp).mono hle
   . by_cases hj:j=s.n
     . subst hj; exact⟨pl,Psi.upd_same _ _ _⟩
     . rw[Fam.upd_other _ _ hj]at hq;obtain⟨p,hp⟩:=h.rel.tot j q hq;exact⟨p,hle _ _ hp⟩
   . by_cases j1:k₁=s.n <;> by_cases j2:k₂=s.n
     . rw[j1,j2]
     . exfalso;subst j1;rw[Psi.upd_same]at h3; injection h3 with h3; subst h3;rw[Fam.upd_other _ _ j2]at h2; rw[Psi.upd_other _ _ j2]at h4;exact r3 k₂ o₂ p₂ h2 h4 e.symm
     . exfalso;subst j2;rw[Psi.upd_same]at h4; injection h4 with h4; subst h4;rw[Fam.upd_other _ _ j1]at h1; rw[Psi.upd_other _ _ j1]at h3;exact r3 k₁ o₁ p₁ h1 h3 e
     . rw[Fam.upd_other _ _ j1]at h1; rw[Psi.upd_other _ _ j1]at h3;rw[Fam.upd_other _ _ j2]at h2; rw[Psi.upd_other _ _ j2]at h4;exact h.rel.inj k₁ k₂ o₁ o₂ p₁ p₂ h1 h2 h3 h4 hr e
  have hfam:zC.fam (s.put d v (some ob)).h=Fam.upd (zC.fam s.h) s.n (some ob):=z7 _ _ _;have hpm:=h.post.mono;refine⟨o,s.put d v (some ob),Y.upd s.n pl,ho,⟨x6.congrE hsame g4,hclean,hleaf,by rw[hfam]; exact hrel,h.glob.mono hle,λq hq=>?_,h.dfr.mono hle,h.size,hsub,λj q o' t hj=>h.t1 j q o' t (jI hj).2,
   ht2 _ hle g2,λj q pl' hj hpl=>?_,λj j' q q' pl pl' hj hj'=>h.apart j j' q q' pl pl' (jI hj).2 (jI hj').2,?_⟩⟩
  . have hq:s.n.succ.ix<=q.ix:=hq
    have:q≠s.n:=λe=>by subst e; omega
    rw[Psi.upd_other _ _ this];exact h.fresh q (by omega)
  . obtain⟨hji,hj⟩:=jI hj;obtain⟨q1,q2,q3⟩:=h.recs j q pl' hj hpl;refine⟨q1,q2,λk ob' p hk hp e=>?_⟩;rw[hfam]at hk;by_cases hkn:k=s.n
    . subst hkn;rw[Psi.upd_same]at hp; injection hp with hp; subst hp;exact hji (h.apart i j rc q pl pl' hE hj g1 hpl e).symm
    . rw[Fam.upd_other _ _ hkn]at hk; rw[Psi.upd_other _ _ hkn]at hp;exact q3 k ob' p hk hp e
  . rw[hfam];refine⟨Psi.le_trans h.post.ext hle,λk hk=>?_,hrel,h.post.frame,λk q p hk hro hp=>?_,h.post.size,h.post.tape,h.post.os,h.post.output,?_,λk q p hk hp=>?_⟩
    . have hk':k≠s.n:=by
       rintro rfl;rcases hk with hk |hk
       . omega
       . have:s.n.succ.ix<=s.n.ix:=hk
         omega
      rw[Psi.upd_other _ _ hk'];refine h.post.out k ?_;rcases hk with hk |hk
      . exact .inl hk
      . have:s.n.succ.ix<=k.ix:=hk
        exact .inr (by omega)
    . by_cases hkn:k=s.n
      . subst hkn;rw[Psi.upd_same]at hp; injection hp with hp; subst hp;exact .inr r2
      . rw[Fam.upd_other _ _ hkn]at hk; rw[Psi.upd_other _ _ hkn]at hp;exact h.post.img k q p hk hro hp
    . show n₀.ix<=s.n.succ.ix;omega
    . by_cases hkn:k=s.n
      . subst hkn;rw[Psi.upd_same]at hp; injection hp with hp; subst hp;exact .inr r2
      . rw[Fam.upd_other _ _ hkn]at hk; rw[Psi.upd_other _ _ hkn]at hp;exact h.post.imgA k q p hk hp
end
end
end Go.Ev
namespace Go.Ev
variable[Sym]
noncomputable section
variable{P:Program}
variable[SymFact P]
theorem zLA:∀(m:Nat) (l:List Nat),l.Nodup->(∀i∈l,i<m)->l.length<=m
 | 0,l,_,h=>by
  cases l with
  |nil=>exact Nat.le_refl _|cons x l=>exact absurd (h x (by simp)) (Nat.not_lt_zero _)
 |m+1,l,hn,h=>by
  have h1:(l.erase m).Nodup:=hn.erase m;have h2:∀i∈l.erase m,i<m:=by
   intro i hi;obtain⟨hne,hi⟩:=(List.Nodup.mem_erase_iff hn).1 hi
   have:=h i hi
   omega
  have h3:=zLA m _ h1 h2;rw[List.length_erase]at h3;split at h3 <;> omega
theorem zRU{m:Nat}{l:List Nat}(hn:l.Nodup)(h:∀i∈l,i<m)(hl:l.length=m){i:Nat}(hi:i<m):i∈l:=by
 by_cases hm:i∈l
 . exact hm
 . have:=zLA m (i::l) (List.nodup_cons.2 ⟨hm,hn⟩) (λj hj=>by
    rcases List.mem_cons.1 hj with rfl |hj
    . exact hi
    . exact h j hj)
   simp only[List.length_cons]at this;omega
theorem zDr{l:List Nat}{i:Nat}:l.contains i=true ↔ i∈l:=by simp
theorem zLr{l:List Nat}{i:Nat}:l.contains i=false ↔ i ∉ l:=by simp
theorem vv{m:Nat}:∀{order done:List Nat},zG1 m done order=true->done.Nodup->(∀i∈done,i<m) ->
 (done.reverse++order).Nodup/\(∀i∈done.reverse++order,i<m)/\(done.reverse++order).length=m
 | [],done,h,hn,hl=>by unfold zG1 at h;refine⟨by simpa using((List.reverse_perm done).nodup_iff.2 hn),by simpa using hl,?_⟩;simp[ze h]|i::r,done,h,hn,hl=>by
  unfold zG1 at h;rw[Bool.and_eq_true,Bool.and_eq_true]at h;have hi:i ∉ done:=by
   have:=h.1.1
   rw[Bool.not_eq_true']at this;exact zLr.1 this
  have hlt:i<m:=zH h.1.2
  have:=vv h.2 (List.nodup_cons.2 ⟨hi,hn⟩) (λj hj=>by
   rcases List.mem_cons.1 hj with rfl |hj
   . exact hlt
   . exact hl j hj)
  rw[List.reverse_cons,List.append_assoc]at this;exact this
theorem zGY{ops:List Oper}{anc:List Nat}:∀{order done:List Nat},zQw P ops anc done order=true->∀{pre suf:List Nat} {i:Nat},order=pre++i::suf ->
 ∃o,nth ops i=some o/\(qm P o.op=true->(∀j∈done,z8 ((nth anc i).getD 0) j=true)/\∀j∈pre,z8 ((nth anc i).getD 0) j=true)
 | [],_,_,pre,suf,i,e=>by cases pre <;> cases e|k::r,done,h,pre,suf,i,e=>by
  unfold zQw at h;rw[Bool.and_eq_true]at h;cases pre with
  |nil=>
   injection e with e1 e2;subst e1;have h1:=h.1;split at h1
   . rename_i o ho;refine⟨o,ho,λhe=>⟨λj hj=>?_,by simp⟩⟩;rw[if_pos he]at h1;exact List.all_eq_true.1 h1 j hj
   . cases h1
  |cons p pre=>
   injection e with e1 e2;subst e1;obtain⟨o,ho,hh⟩:=zGY h.2 e2;refine⟨o,ho,λhe=>?_⟩;obtain⟨h3,h4⟩:=hh he;exact⟨λj hj=>h3 j (by simp[hj]),λj hj=>by
    rcases List.mem_cons.1 hj with rfl |hj
    . exact h3 j (by simp)
    . exact h4 j hj⟩
theorem zHz{anc:List Nat}{m:Nat}:∀{order done:List Nat},zPv anc m done order=true->∀{pre suf:List Nat} {i:Nat},order=pre++i::suf ->
 ∀j,j<m->z8 ((nth anc i).getD 0) j=true->j∈done\/j∈pre
 | [],_,_,pre,suf,i,e=>by cases pre <;> cases e|k::r,done,h,pre,suf,i,e=>by
  unfold zPv at h;rw[Bool.and_eq_true]at h;intro j hj hb;cases pre with
  |nil=>
   injection e with e1 e2;subst e1
   have:=List.all_eq_true.1 h.1 j (List.mem_range.2 hj)
   rw[hb]at this;exact .inl (zDr.1 (by simpa using this))
  |cons p pre=>
   injection e with e1 e2;subst e1;rcases zHz h.2 e2 j hj hb with h1 |h1
   . rcases List.mem_cons.1 h1 with rfl |h1
     . exact .inr (by simp)
     . exact .inl h1
   . exact .inr (by simp[h1])
theorem zAq:∀{ops:List Oper} {k:Nat},zC8 ops k=true->∀{i:Nat} {o:Oper},nth ops i=some o->∀e∈o.after,Region.binds .any e=true->e.on<k+i
 | [],_,_,i,o,ho=>by rw[nth_eq]at ho; simp at ho|x::r,k,h,i,o,ho=>by
  unfold zC8 at h;rw[Bool.and_eq_true]at h;intro e he hb;cases i with
  |zero=>
   rw[nth_eq]at ho;simp only[List.getElem?_cons_zero,Option.some.injEq]at ho;subst ho
   have:=List.all_eq_true.1 h.1 e (by simpa using he)
   rw[hb]at this
   have:=zH (by simpa using this:Nat.ble (Nat.succ e.on) k=true)
   omega
  |succ i=>
   have ho':nth r i=some o:=by rw[nth_eq]at ho ⊢; simpa using ho
   have:=zAq h.2 ho' e he hb
   omega
theorem uV(m t:Nat):z8 m t=m.testBit t:=by
 unfold z8 Nat.testBit;rw[Nat.and_comm,Nat.and_one_is_mod];have h:∀x:Nat,Nat.beq (x % 2) 1=(x % 2 != 0):=by intro x;rcases Nat.mod_two_eq_zero_or_one x with e |e <;> rw[e] <;> rfl
 exact h (m >>> t)
theorem zAZ(t:Nat):z8 0 t=false:=by rw[uV]; simp
theorem zJb(m n t:Nat):z8 (Nat.lor m n) t=(z8 m t || z8 n t):=by rw[uV,uV,uV]; exact Nat.testBit_or m n t
theorem zOo(k t:Nat):z8 (Nat.shiftLeft 1 k) t=decide (k=t):=by rw[uV]; show(1 <<< k).testBit t=_; rw[Nat.one_shiftLeft]; exact Nat.testBit_two_pow
theorem zCm{acc:List Nat}{j:Nat}:∀{l:List Edge},z8 (zBr acc l) j=true->∃e∈l,Region.binds .any e=true/\(e.on=j\/z8 ((nth acc e.on).getD 0) j=true)
 | [],h=>by rw[show zBr acc []=0 from rfl,zAZ]at h; cases h|e::l,h=>by
  unfold zBr at h;split at h
  . rename_i hb;rw[zJb,zJb,zOo,Bool.or_eq_true,Bool.or_eq_true]at h;rcases h with(h |h) |h
    . exact⟨e,by simp,hb,.inl (of_decide_eq_true h)⟩
    . exact⟨e,by simp,hb,.inr h⟩
    . obtain⟨e',h1,h2⟩:=zCm h;exact⟨e',by simp[h1],h2⟩
  . obtain⟨e',h1,h2⟩:=zCm h;exact⟨e',by simp[h1],h2⟩
theorem zLv:∀(ops:List Oper) (acc:List Nat),∃m,ve acc ops=acc++m
 | [],acc=>⟨[],by simp[ve]⟩
 |o::r,acc=>by obtain⟨m,hm⟩:=zLv r (acc++[zBr acc o.after.toList]);exact⟨zBr acc o.after.toList::m,by rw[ve,hm]; simp⟩
theorem zIV{j:Nat}:∀{ops:List Oper} {acc:List Nat} {i:Nat} {o:Oper},nth ops i=some o->z8 ((nth (ve acc ops) (acc.length+i)).getD 0) j=true ->
 ∃e∈o.after,Region.binds .any e=true/\(e.on=j\/z8 ((nth (ve acc ops) e.on).getD 0) j=true)
 | [],_,i,o,ho,_=>by rw[nth_eq]at ho; simp at ho|x::r,acc,i,o,ho,h=>by
  obtain⟨m,hm⟩:=zLv r (acc++[zBr acc x.after.toList]);cases i with
  |zero=>
   rw[nth_eq]at ho;simp only[List.getElem?_cons_zero,Option.some.injEq]at ho;subst ho;have hx:nth (ve acc (x::r)) (acc.length+0)=some (zBr acc x.after.toList):=by rw[ve,hm,nth_eq]; simp
   rw[hx]at h;obtain⟨e,h1,h2,h3⟩:=zCm h;refine⟨e,by simpa using h1,h2,h3.imp id λh3=>?_⟩
   have:nth (ve acc (x::r)) e.on=nth acc e.on\/nth acc e.on=none:=by
    rw[ve,hm,nth_eq,nth_eq];rcases Nat.lt_or_ge e.on acc.length with hlt |hge
    . left; rw[List.append_assoc,List.getElem?_append_left hlt]
    . right; exact List.getElem?_eq_none hge
   rcases this with this |this
   . rw[this]; exact h3
   . rw[this]at h3;rw[show(Option.getD (none:Option Nat) 0)=0 from rfl,zAZ]at h3; cases h3
  |succ i=>
   have ho':nth r i=some o:=by rw[nth_eq]at ho ⊢; simpa using ho
   have hl:(acc++[zBr acc x.after.toList]).length+i=acc.length+(i+1):=by simp; omega
   rw[ve]at h ⊢;rw[<- hl]at h;exact zIV ho' h
theorem zGw{ops:List Oper}{S:Nat->Prop}(hed:zC8 ops 0=true)(hS:∀i o,S i->nth ops i=some o->∀e∈o.after,Region.binds .any e=true->S e.on) :
 ∀(i:Nat),∀o,nth ops i=some o->(∀e∈o.after,Region.binds .any e=true->S e.on)->∀j,z8 ((nth (ve [] ops) i).getD 0) j=true->S j:=by
 intro i;induction i using Nat.strongRecOn with
 |ind i ih=>
  intro o ho hd j hj;have hj':z8 ((nth (ve [] ops) (([]:List Nat).length+i)).getD 0) j=true:=by simpa using hj
  obtain⟨e,h1,h2,h3⟩:=zIV ho hj';have hs:=hd e h1 h2;rcases h3 with rfl |h3
  . exact hs
  . have hlt:=zAq hed ho e h1 h2;have hi:i<ops.length:=by
     rw[nth_eq]at ho;rcases Nat.lt_or_ge i ops.length with h |h
     . exact h
     . rw[List.getElem?_eq_none h]at ho; cases ho
    have ho':∃o',nth ops e.on=some o':=by rw[nth_eq]; exact⟨_,List.getElem?_eq_getElem (by omega)⟩
    obtain⟨o',ho'⟩:=ho';exact ih e.on (by omega) o' ho' (hS e.on o' hs ho') j h3
theorem zFu{ops:List Oper}{anc:List Nat}(h:zOD ops anc ops.length=true){i j:Nat}{x y:Oper}(hi:nth ops i=some x)(hj:nth ops j=some y){t:Nat}(ht:x.dst=some t) :
 (i=j\/y.dst≠some t)/\(t∈zAs ops y->i≠j/\(z8 ((nth anc j).getD 0) i=true\/z8 ((nth anc i).getD 0) j=true)):=by
 have lt:∀{k:Nat} {z:Oper},nth ops k=some z->k<ops.length:=by
  intro k z hk;rw[nth_eq]at hk;rcases Nat.lt_or_ge k ops.length with h |h
  . exact h
  . rw[List.getElem?_eq_none h]at hk; cases hk
 unfold zOD at h;have h1:=List.all_eq_true.1 (List.all_eq_true.1 h i (List.mem_range.2 (lt hi))) j (List.mem_range.2 (lt hj));simp only[hi,hj,ht]at h1;rw[Bool.and_eq_true,Bool.or_eq_true,Bool.or_eq_true]at h1;refine⟨h1.1.imp ze (λh=>by simpa using h),λhm=>?_⟩;rcases h1.2 with h2 |h2
 . have:(zAs ops y).contains t=true:=zDr.2 hm
   rw[this]at h2; cases h2
 . rw[Bool.and_eq_true,Bool.or_eq_true]at h2;refine⟨λe=>?_,h2.2⟩
   have:=h2.1
   rw[e,qw]at this; cases this
end
end Go.Ev
namespace Go.Ev
variable[Sym]
noncomputable section
variable{P:Program}{F N:Nat}{call:yw}{anc:List Nat}
variable[SymFact P]
theorem zD2{ops:Array Oper}{Q:Exit->Act->World->Prop}{i:Nat}{o:Oper}{a:Act}{w:World}{K:Act->World->Prop}(ho:ops[i]? = some o)(hw:Region.wanted o (yielded ops a.tmps)=true)
 (h:uI P false o a w K):wpOp P ops Q i K a w:=by
 unfold wpOp;simp only[ho,hw,if_true];refine .inl ?_;unfold Oper.wp;unfold uI at h;generalize (execOp a.eval o).run P w=r at h ⊢;cases r with
 |halt x w'=>exact h.elim|ok x w'=>
  cases x <;> first
   |exact h
   |exact Calls.mono h (λe w' ⟨v,e1,e2⟩=>by subst e1; exact e2)
   |exact absurd h.1 (by simp)
   |exact h.elim
theorem zDU{ops:Array Oper}{Q:Exit->Act->World->Prop}{i:Nat}{o:Oper}{a:Act}{w:World}{K:Act->World->Prop}(ho:ops[i]? = some o)(hw:Region.wanted o (yielded ops a.tmps)=false)
 (h:K (a.put o.dst undef) w):wpOp P ops Q i K a w:=by
 unfold wpOp;simp only[ho,hw,Bool.false_eq_true,if_false];exact h
theorem j5.put{Y:Psi}{dl:List (Option Nat)}{es:List CV}{tm:Tm}{a:Act}{t:Nat}{dst:Option Nat}{x:Value}(hne:dst≠some t)(h:j5 F N Y dl es tm a t):j5 F N Y dl es tm (a.put dst x) t:=by unfold j5 at h ⊢;rw[qU _ _ _ hne];exact h
theorem zUk{Y:Psi}{g:Fam}{n:Key}{w w':World}(h:Rel Y g w)(hw:New w w'):yF Y g n w Y g n w':=by
 refine⟨Psi.le_refl _,λ_ _=>rfl,⟨λk o p h1 h2=>?_,h.tot,h.inj⟩,λB hB _=>hw.old B hB,λk o p h1 h2 h3=>.inl ⟨k,o,p,h1,h2,h3,rfl⟩,by rw[hw.size]; omega,hw.tape,hw.os,hw.output,Nat.le_refl _,
  λk o p h1 h3=>.inl ⟨k,o,p,h1,h3,rfl⟩⟩
 have:=h.on k o p h1 h2
 exact xQ.congr (hw.old _ this.lt) this
section
variable{ops:Array Oper}{Y₀:Psi}{g₀:Fam}{n₀:Key}{w₀:World}{R₀:R}{Q:Exit->Act->World->Prop}
theorem zT8{E:Nat->Option Rec}{i:Nat}{r:List Nat}{dl:List (Option Nat)}{effs:List Nat}{s:GS}{Y:Psi}{a:Act}{w:World}{o:Oper}{d:Option Loc}
 (h:Inv P F N call ops.toList anc Y₀ g₀ n₀ w₀ R₀ E (i::r) dl effs s Y a w) (hE:E i=none) (hd:xp F N o.dst=some d)
 (hdst:∀j o',E j≠none->nth ops.toList j=some o'->∀t,o'.dst=some t->o.dst≠some t)
 {v:CV} {x:Value} {h':zC} {n':Key} {Y':Psi} {w':World} (hp:yF Y (zC.fam s.h) s.n w Y' (zC.fam h') n' w') (hv:zG Y' v x)
 (hgood:x6 P F N call ops.toList anc E w r (o.dst::dl) (i::effs) (s.eff d v h' n') Y) (hclean:zd (kY P F N call ops.toList anc r (o.dst::dl) (i::effs) (s.eff d v h' n')))
 (hleaf:∀(O:R->Prop),(∀x y,O x->O (.fork x y))->(∀x y,O y->O (.fork x y))->O (kY P F N call ops.toList anc r (o.dst::dl) (i::effs) (s.eff d v h' n'))->O (kY P F N call ops.toList anc (i::r) dl effs s)) :
 Inv P F N call ops.toList anc Y₀ g₀ n₀ w₀ R₀ E r (o.dst::dl) (i::effs) (s.eff d v h' n') Y' (a.put o.dst x) w':=by
 have hrecs:∀j rc pl,E j=some rc->rc.al=some pl->w'.heap[pl.blk]? = w.heap[pl.blk]?:=by intro j rc pl h1 h2;obtain⟨r1,_,r3⟩:=h.recs j rc pl h1 h2;exact hp.frame pl.blk r1 λk o p hk _ hp'=>r3 k o p hk hp'
 refine⟨x6.mono hp.ext (λj _ rc pl h1 h2=>hrecs j rc pl h1 h2) hgood,hclean,λO f1 f2 ho=>h.leaf O f1 f2 (hleaf O f1 f2 ho),hp.rel,h.glob.mono hp.ext,hp.fresh h.fresh,?_,?_,?_,?_,?_,?_,h.apart,h.post.trans hp⟩
 . rw[zCi]; exact h.dfr.mono hp.ext
 . rw[zGk]; exact h.size
 . intro j hj;obtain⟨h1,h2⟩:=h.sub j hj;rcases List.mem_cons.1 h1 with rfl |h1
   . exact absurd hE hj
   . exact⟨h1,h2⟩
 . intro j rc o' t hj ho' ht;rw[qU _ _ _ (hdst j o' (by rw[hj]; simp) ho' t ht)];exact h.t1 j rc o' t hj ho' ht
 . intro t ht;by_cases hdt:o.dst=some t
   . rw[hdt]at hd ⊢;refine zHf ?_ hd;rcases jP hd with⟨e,_⟩ |⟨u,e,hu,_⟩
     . cases e
     . injection e with e; subst e;rw[wB _ _ _ (Nat.lt_of_lt_of_le hu h.size)];exact hv
   . exact j5.put hdt (zER ((h.t2 t ht).mono hp.ext) hdt hd)
 . intro j rc pl h1 h2;obtain⟨r1,r2,r3⟩:=h.recs j rc pl h1 h2;refine⟨Nat.lt_of_lt_of_le r1 hp.size,r2,λk q p hk hp' e=>?_⟩;rcases hp.imgA k q p hk hp' with⟨k₀,o₀,p₀,g1,g2,g3⟩ |hge
   . exact r3 k₀ o₀ p₀ g1 g2 (g3.trans e)
   . omega
theorem zMV(hcall:yk P call){E:Nat->Option Rec}{i:Nat}{r:List Nat}{dl:List (Option Nat)}{effs:List Nat}{s:GS}{Y:Psi}{a:Act}{w:World}{o:Oper}
 (h:Inv P F N call ops.toList anc Y₀ g₀ n₀ w₀ R₀ E (i::r) dl effs s Y a w) (hE:E i=none) (ho:nth ops.toList i=some o) (he:qm P o.op=true)
 (htm:∀j o',E j≠none->nth ops.toList j=some o'->∀t,o'.dst=some t->t ∉ zAs ops.toList o)
 (hdst:∀j o',E j≠none->nth ops.toList j=some o'->∀t,o'.dst=some t->o.dst≠some t)
 {K:Act->World->Prop} (hK:∀s' Y' a' w',Inv P F N call ops.toList anc Y₀ g₀ n₀ w₀ R₀ E r (o.dst::dl) (i::effs) s' Y' a' w'->K a' w'):wpOp P ops Q i K a w:=by
 have ho':ops[i]? = some o:=by rw[nth_eq,Array.getElem?_toList]at ho; exact ho
 obtain⟨o',d,e1,hd,hG⟩:=h.good;rw[ho]at e1; injection e1 with e1; subst e1;rw[he]at hG;obtain⟨_,_,hnext⟩:=hG;obtain⟨d',hd',hcl,⟨s1,hs1⟩,hgo⟩:=zMe hcall.above ho he h.clean;rw[hd]at hd'; injection hd' with hd'; subst hd';have hask:∀t∈zAs ops.toList o,j5 F N Y dl s.es s.tm a t:=λt ht=>h.t2 t λj o' hj ho' e=>htm j o' hj ho' t e ht;have fin:∀{v:CV} {x:Value} {h':zC} {n':Key} {Y':Psi} {w':World},qB P F N call ops.toList o d dl s (s.eff d v h' n')->yF Y (zC.fam s.h) s.n w Y' (zC.fam h') n' w'->zG Y' v x->K (a.put o.dst x) w':=by intro v x h' n' Y' w' hn hp hv;obtain⟨g1,g2⟩:=hgo _ hn;exact hK _ _ _ _ (zT8 h hE hd hdst hp hv (hnext _ hn) g1 g2)
 have hgcase:qn P F N ops.toList o dl s=some false\/qn P F N ops.toList o dl s=some true:=by
  rcases hs1 with⟨h1,_⟩ |⟨h1,_⟩
  . exact .inl h1
  . exact .inr h1
 rcases hgcase with hg |hg
 . refine zDU ho' (zBM h.glob hask hg) ?_;exact fin (v:=.undef) (.inl ⟨hg,rfl⟩) (yF.refl h.rel) qb
 . refine zD2 ho' (zBM h.glob hask hg) ?_;have hargs:=zKQ (P:=P) (F:=F) (N:=N) (dl:=dl) h.glob (l:=o.op.operands.toList) λt ht=>hask t (zO9 ht);have hsim:=zN6 (P:=P) (Y:=Y) (h:=s.h) (n:=s.n) (es:=s.es) (tm:=s.tm) (ty:=o.type) (w:=w) (zKw a) o.op hargs;have hroom:∀s',qB P F N call ops.toList o d dl s s'->s'.n.room:=λs' hs'=>x6.room hcall.above (hnext s' hs');have hn:∀s',(match zHE P F N o dl s with
    |.val v=>s'=s.eff d v s.h s.n|.read v=>s'=s.eff d v s.h s.n|.alloc ob v=>s'=s.eff d v (yy (some ob) s.n s.h) s.n.succ|.eff v h n=>s'=s.eff d v h n|.call f args=>∃v h n,uO (call false f args s.h s.n) v h n/\s'=s.eff d v h n|_=>False)->qB P F N call ops.toList o d dl s s':=λs' hs'=>.inr ⟨hg,hs'⟩
   have hsim:zD P Y s.h s.n a.eval o.op o.type w (zHE P F N o dl s):=hsim;rcases hs1 with⟨h1,_⟩ |⟨_,hs1⟩
   . rw[hg]at h1; cases h1
   generalize hX:zHE P F N o dl s=X at hsim hs1 hn;cases X with
   |val v=>obtain⟨x,h1,h2⟩:=hsim;exact qe h1 (fin (hn _ rfl) (yF.refl h.rel) h2)
   |read v=>obtain⟨x,h1,h2⟩:=hsim h.rel.on;exact qe h1 (fin (hn _ rfl) (yF.refl h.rel) h2)
   |alloc ob v=>obtain⟨w',x,sz,h1,h2,h3,_⟩:=hsim;have hn':=hn (s.eff d v (yy (some ob) s.n s.h) s.n.succ) rfl;have hr0:s.n.succ.room:=hroom (s.eff d v (yy (some ob) s.n s.h) s.n.succ) hn';have hr:s.n.room:=Key.room_of_succ (k:=s.n) hr0;have hnone:=h.fresh s.n (Nat.le_refl _);have hle:=Psi.le_upd (Y:=Y) (k:=s.n) ⟨w.heap.size,0,sz,λn=>n⟩ hnone;obtain⟨h4,h5⟩:=h3 _ hle (Psi.upd_same _ _ _);have hp:=vH h.rel hr hnone h2 h5;rw[<- z7]at hp;exact qe h1 (fin hn' hp h4)
   |eff v h' n'=>have hn':=hn (s.eff d v h' n') rfl;obtain⟨w',x,Y',h1,h2,h3⟩:=hsim h.rel (λq hq _=>h.fresh q hq) (hroom (s.eff d v h' n') hn');exact qe h1 (fin hn' h2 h3)
   |call f args=>
    obtain⟨args',h1,h2⟩:=hsim h.rel.on;have hcalls:=hcall.calls f args s.h s.n Y w args' h2 h.glob h.rel h.fresh (hcl hg f args hX);have leafs:∀{R:R} {x:Value} {w':World},zr Y (zC.fam s.h) s.n w R x w'->∃v h' n',uO R v h' n'/\∃Y',yF Y (zC.fam s.h) s.n w Y' (zC.fam h') n' w'/\zG Y' v x:=by
     intro R;induction R with
     |ok=>intro x w' hr; exact hr.elim
     |err=>intro x w' hr; exact hr.elim
     |ret v h' n'=>intro x w' hr; exact⟨v,h',n',⟨rfl,rfl,rfl⟩,hr⟩
     |fork x y ihx ihy=>
      intro z w' hr;rcases hr with hr |hr
      . obtain⟨v,h',n',hl,g⟩:=ihx hr; exact⟨v,h',n',.inl hl,g⟩
      . obtain⟨v,h',n',hl,g⟩:=ihy hr; exact⟨v,h',n',.inr hl,g⟩
    have hfin:∀x w',zr Y (zC.fam s.h) s.n w (call false f args s.h s.n) x w'->K (a.put o.dst x) w':=by intro x w' hr;obtain⟨v,h',n',hl,Y',hp,hv⟩:=leafs hr;exact fin (hn _ ⟨v,h',n',hl,rfl⟩) hp hv
    have h1:(execOp a.eval o).run P w=(callFunc f args').run P w:=h1;unfold uI;rw[h1];unfold yS at hcalls;generalize (callFunc f args').run P w=r at hcalls ⊢;cases r with
    |halt x w'=>exact hcalls.elim|ok x w'=>
     cases x <;> first
      |exact hfin _ _ hcalls
      |exact Calls.mono hcalls λe w' ⟨v,e1,e2⟩=>⟨v,e1,hfin v w' e2⟩
      |exact hcalls.elim
   |dfr f a=>exact hs1.elim|recov=>exact hs1.elim|err c=>exact hs1.elim|fork a b=>exact hs1.elim
theorem zOJ(hcall:yk P call){E:Nat->Option Rec}{i:Nat}{r:List Nat}{dl:List (Option Nat)}{effs:List Nat}{s:GS}{Y:Psi}{a:Act}{w:World}{o:Oper}
 (h:Inv P F N call ops.toList anc Y₀ g₀ n₀ w₀ R₀ E r dl effs s Y a w) (hi:i∈r) (hnd:r.Nodup) (hE:E i=none) (ho:nth ops.toList i=some o) (he:qm P o.op=false) (hord:zL0 ops.toList anc E i o r)
 (htm:∀j o',nth ops.toList j=some o'->∀t,o'.dst=some t->t∈zAs ops.toList o->z8 ((nth anc i).getD 0) j=true\/z8 ((nth anc j).getD 0) i=true)
 (hask:∀j o',E j≠none->nth ops.toList j=some o'->∀t,o'.dst=some t->t∈zAs ops.toList o->z8 ((nth anc i).getD 0) j=true)
 (hdst:∀j o',j≠i->nth ops.toList j=some o'->∀t,o'.dst=some t->o.dst≠some t)
 {K:Act->World->Prop} (hK:∀rc a' w',Inv P F N call ops.toList anc Y₀ g₀ n₀ w₀ R₀ (zHs E i rc) r dl effs s Y a' w'->K a' w'):wpOp P ops Q i K a w:=by
 have ho':ops[i]? = some o:=by rw[nth_eq,Array.getElem?_toList]at ho; exact ho
 have hex:=u5 (k:=0) (hb:=s.h) hcall.above ho he hE (λj rc pl h1 h2=>(h.recs j rc pl h1 h2).1) htm (λj rc o' t h1 h2 h3=>h.t1 j rc o' t h1 h2 h3)
  (λj o' h1 h2=>by
    cases hq:E j with
    |none=>rfl|some q=>have:=(h.sub j (by rw[hq]; simp)).2 o' h1; rw[h2]at this; cases this)
  h.good hi hnd hord h.glob h.fresh
  (λt ht=>by
    by_cases hw:∃j o',E j≠none/\nth ops.toList j=some o'/\o'.dst=some t
    . obtain⟨j,o',h1,h2,h3⟩:=hw;exact .inr ⟨j,(h.sub j h1).1,hask j o' h1 h2 t h3 ht,h1,o',h2,h3⟩
    . exact .inl (h.t2 t λj o' h1 h2 h3=>hw ⟨j,o',h1,h2,h3⟩))
  (.inl ⟨rfl,rfl⟩) (λq hq=>by omega)
  (λq hq=>by
    cases hf:zC.fam s.h q with
    |none=>exact absurd hf hq|some ob=>
     obtain⟨p,hp⟩:=h.rel.tot q ob hf;rcases Nat.lt_or_ge q.ix s.n.ix with hlt |hge
     . exact hlt
     . rw[h.fresh q hge]at hp; cases hp)
  h.rel.on
 obtain⟨x,w',al,hconc,hgood⟩:=hex;have hpost:yF Y (zC.fam s.h) s.n w Y (zC.fam s.h) s.n w'/\(∀pl,al=some pl->pl.blk=w.heap.size/\w'.heap.size=w.heap.size+1):=by
  rcases hconc with⟨_,_,rfl,rfl⟩ |⟨_,_,⟨rfl,rfl⟩ |⟨hn,rfl⟩⟩
  . exact⟨yF.refl h.rel,by simp⟩
  . exact⟨yF.refl h.rel,by simp⟩
  . refine⟨zUk h.rel hn,λpl hpl=>?_⟩;injection hpl with hpl; subst hpl;exact⟨rfl,hn.size⟩
 obtain⟨hp,hal⟩:=hpost;have hdN:∀t,o.dst=some t->t<N:=by
  intro t ht;have hd:∃d,xp F N o.dst=some d:=by
   have:∀{r:List Nat} {dl:List (Option Nat)} {effs:List Nat} {s:GS} {Y:Psi},x6 P F N call ops.toList anc E w r dl effs s Y->i∈r->∃d,xp F N o.dst=some d:=by
    intro r;induction r with
    |nil=>intro _ _ _ _ _ hi; cases hi
    |cons j r ih=>
     intro dl effs s Y hg hi;obtain⟨o'',d,e1,hd,hG⟩:=hg;by_cases e:j=i
     . subst e;rw[ho]at e1; injection e1 with e1; subst e1;exact⟨d,hd⟩
     . have hi':i∈r:=by rcases List.mem_cons.1 hi with h |h; exact absurd h.symm e; exact h
       split at hG
       . obtain⟨_,⟨s',hs'⟩,hG⟩:=hG;exact ih (hG s' hs') hi'
       . obtain⟨v,ob,_,hG⟩:=hG;split at hG
         . exact ih hG hi'
         . exact ih hG.2 hi'
         . obtain⟨_,_,_,_,hG⟩:=hG;exact ih hG hi'
   exact this h.good hi
  obtain⟨d,hd⟩:=hd;rcases jP hd with⟨e,_⟩ |⟨u,e,hu,_⟩
  . rw[ht]at e; cases e
  . rw[ht]at e; injection e with e; subst e; exact hu
 have key:K (a.put o.dst x) w':=by
  refine hK ⟨x,al⟩ _ _ ⟨hgood,h.clean,h.leaf,hp.rel,h.glob,h.fresh,?_,?_,?_,?_,?_,?_,?_,h.post.trans hp⟩
  . rw[zCi]; exact h.dfr
  . rw[zGk]; exact h.size
  . intro j hj;by_cases e:j=i
    . subst e;exact⟨hi,λo' ho''=>by rw[ho]at ho''; injection ho'' with ho''; subst ho''; exact he⟩
    . rw[x7 E _ e]at hj;exact h.sub j hj
  . intro j rc o' t hj ho'' ht;by_cases e:j=i
    . subst e;rw[j0]at hj;injection hj with hj; subst hj;rw[ho]at ho''; injection ho'' with ho''; subst ho'';rw[ht];exact wB _ _ _ (Nat.lt_of_lt_of_le (hdN t ht) h.size)
    . rw[x7 E _ e]at hj;rw[qU _ _ _ (hdst j o' e ho'' t ht)];exact h.t1 j rc o' t hj ho'' ht
  . intro t ht;refine j5.put (ht i o (by rw[j0]; simp) ho) (h.t2 t λj o' hj ho''=>?_);by_cases e:j=i
    . subst e; exact absurd hE hj
    . exact ht j o' (by rw[x7 E _ e]; exact hj) ho''
  . intro j rc pl hj hpl;by_cases e:j=i
    . subst e;rw[j0]at hj;injection hj with hj; subst hj;obtain⟨e1,e2⟩:=hal pl hpl;refine⟨by omega,by rw[e1]; exact h.post.size,λk q p hk hp' e=>?_⟩
      have:=(h.rel.on k q p hk hp').lt
      omega
    . rw[x7 E _ e]at hj;obtain⟨r1,r2,r3⟩:=h.recs j rc pl hj hpl;exact⟨Nat.lt_of_lt_of_le r1 hp.size,r2,r3⟩
  . intro j j' rc rc' pl pl' hj hj' hpl hpl' e;by_cases e1:j=i <;> by_cases e2:j'=i
    . rw[e1,e2]
    . exfalso;subst e1;rw[j0]at hj; injection hj with hj; subst hj;rw[x7 E _ e2]at hj'
      have:=(h.recs j' rc' pl' hj' hpl').1
      have:=(hal pl hpl).1
      omega
    . exfalso;subst e2;rw[j0]at hj'; injection hj' with hj'; subst hj';rw[x7 E _ e1]at hj
      have:=(h.recs j rc pl hj hpl).1
      have:=(hal pl' hpl').1
      omega
    . rw[x7 E _ e1]at hj; rw[x7 E _ e2]at hj';exact h.apart j j' rc rc' pl pl' hj hj' hpl hpl' e
 rcases hconc with⟨h1,h2,h3,h4⟩ |⟨h1,h2,_⟩
 . subst h2 h3;exact zDU ho' h1 key
 . exact zD2 ho' h1 (qe h2 key)
end
end
end Go.Ev
namespace Go.Ev
variable[Sym]
noncomputable section
variable{P:Program}{F N:Nat}{call:yw}
variable[SymFact P]
section
variable{ops:Array Oper}{anc:List Nat}{Y₀:Psi}{g₀:Fam}{n₀:Key}{w₀:World}{R₀:R}{Q:Exit->Act->World->Prop}
def Way(P:Program)(F N:Nat)(call:yw)(ops:Array Oper)(anc:List Nat)(Y₀:Psi)(g₀:Fam)(n₀:Key)(w₀:World)(R₀:R)(order:List Nat)(S:Nat->Prop)(a:Act)(w:World):Prop:=
 ∃E pre r dl effs s Y,order=pre++r/\(∀i∈order,S i ↔ (i∈pre\/E i≠none))/\Inv P F N call ops.toList anc Y₀ g₀ n₀ w₀ R₀ E r dl effs s Y a w
theorem Way.caught(hcall:yk P call){order:List Nat}{S:Nat->Prop}{a:Act}{w:World}(hnd:order.Nodup)(h:Way P F N call ops anc Y₀ g₀ n₀ w₀ R₀ order S a w) :
 ∃E pre r dl effs s Y,order=pre++r/\(∀i∈order,S i ↔ (i∈pre\/E i≠none))/\Inv P F N call ops.toList anc Y₀ g₀ n₀ w₀ R₀ E r dl effs s Y a w/\∀i r',r=i::r'->E i=none:=by
 obtain⟨E,pre,r,dl,effs,s,Y,h1,h2,h3⟩:=h;induction r generalizing E pre dl effs s Y with
 |nil=>exact⟨E,pre,[],dl,effs,s,Y,h1,h2,h3,λi r' e=>by cases e⟩|cons i r ih=>
  cases hE:E i with
  |none=>exact⟨E,pre,i::r,dl,effs,s,Y,h1,h2,h3,λj r' e=>by injection e with e1 e2; subst e1; exact hE⟩|some rc=>
   have hnd':(i::r).Nodup:=by rw[h1]at hnd; exact(List.nodup_append.1 hnd).2.1
   obtain⟨o,s',Y',_,h4⟩:=zSk hcall.above hnd' h3 hE;refine ih (zIh E i) (pre++[i]) _ _ _ _ (by rw[h1]; simp) (λj hj=>?_) h4;rw[h2 j hj];by_cases e:j=i
   . subst e; simp[hE]
   . rw[zCD E e]; simp[e]
theorem Way.step(hcall:yk P call){order:List Nat}{S:Nat->Prop}{a:Act}{w:World}(hok:zD9 P ops.toList anc order=true)(hanc:anc=ve [] ops.toList)(h:Way P F N call ops anc Y₀ g₀ n₀ w₀ R₀ order S a w)
 (hS:∀i o,S i->nth ops.toList i=some o->∀e∈o.after,Region.binds .any e=true->S e.on)
 {i:Nat} {o:Oper} (ho:nth ops.toList i=some o) (hi:¬S i) (hr:∀e∈o.after,Region.binds .any e=true->S e.on) :
 wpOp P ops Q i (Way P F N call ops anc Y₀ g₀ n₀ w₀ R₀ order λj=>S j\/j=i) a w:=by
 unfold zD9 at hok;rw[Bool.and_eq_true,Bool.and_eq_true,Bool.and_eq_true,Bool.and_eq_true]at hok;obtain⟨⟨⟨⟨hperm,heff⟩,hanco⟩,htmps⟩,hedges⟩:=hok;obtain⟨hnd,hlt,hlen⟩:=vv hperm List.nodup_nil (λi hi=>by cases hi);simp only[List.reverse_nil,List.nil_append]at hnd hlt hlen;have lt:∀{k:Nat} {z:Oper},nth ops.toList k=some z->k<ops.toList.length:=by
  intro k z hk;rw[nth_eq]at hk;rcases Nat.lt_or_ge k ops.toList.length with h |h
  . exact h
  . rw[List.getElem?_eq_none h]at hk; cases hk
 have hmem:∀{k:Nat} {z:Oper},nth ops.toList k=some z->k∈order:=λhk=>zRU hnd hlt hlen (lt hk);obtain⟨E,pre,r,dl,effs,s,Y,h1,h2,h3,hhead⟩:=h.caught hcall hnd;have hio:=hmem ho;have hnot:¬(i∈pre\/E i≠none):=λhh=>hi ((h2 i hio).2 hh);have hE:E i=none:=by
  cases hq:E i with
  |none=>rfl|some q=>exact absurd (.inr (by rw[hq]; simp)) hnot
 have hir:i∈r:=by
  rw[h1]at hio;rcases List.mem_append.1 hio with h |h
  . exact absurd (.inl h) hnot
  . exact h
 have hnd1:=hnd;rw[h1]at hnd1;obtain⟨hndp,hndr,hdisj⟩:=List.nodup_append.1 hnd1;have hA:∀j,z8 ((nth anc i).getD 0) j=true->S j:=by rw[hanc]; exact zGw hedges hS i o ho hr
 have hAS:∀q,S q->∀j,z8 ((nth anc q).getD 0) j=true->S j:=by
  intro q hq;rw[hanc];rcases Nat.lt_or_ge q ops.toList.length with hl |hl
  . have:∃oq,nth ops.toList q=some oq:=by rw[nth_eq]; exact⟨_,List.getElem?_eq_getElem hl⟩
    obtain⟨oq,hoq⟩:=this;exact zGw hedges hS q oq hoq (hS q oq hq hoq)
  . intro j hj;exfalso;have hl2:(ve [] ops.toList).length=ops.toList.length:=by
     have:∀(l:List Oper) (acc:List Nat),(ve acc l).length=acc.length+l.length:=by
      intro l;induction l with
      |nil=>intro acc; simp[ve]
      |cons x l ih=>intro acc; rw[ve,ih]; simp; omega
     rw[this]; simp
    rw[nth_eq,List.getElem?_eq_none (by omega),show(Option.getD (none:Option Nat) 0)=0 from rfl,zAZ]at hj;cases hj
 have hrec:∀j,j∈r->S j->E j≠none:=by
  intro j hj hs;have hjo:j∈order:=by rw[h1]; exact List.mem_append_right _ hj
  rcases(h2 j hjo).1 hs with h |h
  . exact absurd rfl (hdisj j h j hj)
  . exact h
 have hER:∀j,E j≠none->S j:=by
  intro j hj;have hjo:j∈order:=by rw[h1]; exact List.mem_append_right _ (h3.sub j hj).1
  exact(h2 j hjo).2 (.inr hj)
 have hdst:∀j o',j≠i->nth ops.toList j=some o'->∀t,o'.dst=some t->o.dst≠some t:=by intro j o' hne hj t ht;exact((zFu htmps hj ho ht).1).resolve_left hne
 have htm:∀j o',nth ops.toList j=some o'->∀t,o'.dst=some t->t∈zAs ops.toList o->z8 ((nth anc i).getD 0) j=true\/z8 ((nth anc j).getD 0) i=true:=by intro j o' hj t ht hta;exact((zFu htmps hj ho ht).2 hta).2
 have hask:∀j o',E j≠none->nth ops.toList j=some o'->∀t,o'.dst=some t->t∈zAs ops.toList o->z8 ((nth anc i).getD 0) j=true:=by
  intro j o' hEj hj t ht hta;rcases htm j o' hj t ht hta with h |h
  . exact h
  . exact absurd (hAS j (hER j hEj) i h) hi
 have hahead:∀{q:Nat} {p1 p2:List Nat},r=p1++q::p2->∀j∈p2,z8 ((nth anc q).getD 0) j=false:=by
  intro q p1 p2 hr' j hj;cases hb:z8 ((nth anc q).getD 0) j with
  |false=>rfl|true=>
   exfalso;have hord:order=(pre++p1)++q::p2:=by rw[h1,hr']; simp
   have hjo:j∈order:=by rw[hord]; simp[hj]
   rcases zHz hanco hord j (hlt j hjo) hb with h |h
   . cases h
   . rw[hord]at hnd
     have:=(List.nodup_append.1 hnd).2.2 j h j (by simp[hj])
     exact this rfl
 have hne:∀j,E j≠none->j≠i:=λj hj e=>by subst e; exact hj hE
 cases he:qm P o.op with
 |true=>
  obtain⟨p1,p2,hr'⟩:=List.append_of_mem hir;have hp1:p1=[]:=by
   cases p1 with
   |nil=>rfl|cons x p1=>
    exfalso;have hord:order=(pre++x::p1)++i::p2:=by rw[h1,hr']; simp
    obtain⟨o',ho',hh⟩:=zGY heff hord;rw[ho]at ho'; injection ho' with ho'; subst ho';have hx:=hA x ((hh he).2 x (by simp))
    have:=hrec x (by rw[hr']; simp) hx
    exact this (hhead x _ hr')
  subst hp1;rw[List.nil_append]at hr';subst hr';refine zMV hcall h3 hE ho he (λj o' hEj hj t ht hta=>?_) (λj o' hEj hj t ht=>hdst j o' (hne j hEj) hj t ht) λs' Y' a' w' hinv=>?_
  . have hb:=hask j o' hEj hj t ht hta;have hjr:=(h3.sub j hEj).1;rcases List.mem_cons.1 hjr with rfl |hjr
    . exact hEj hE
    . rw[hahead (p1:=[]) rfl j hjr]at hb; cases hb
  . refine⟨E,pre++[i],p2,_,_,s',Y',by rw[h1]; simp,λj hj=>?_,hinv⟩;show(S j\/j=i) ↔ _;rw[h2 j hj];by_cases e:j=i
    . subst e; simp
    . simp[e]
 |false=>
  refine zOJ hcall h3 hir hndr hE ho he ⟨λj hj hb=>hrec j hj (hA j hb),λp1 p2 hr' j hj=>hahead hr' j hj,λp1 p2 hr' j hj=>?_⟩ htm hask hdst λrc a' w' hinv=>?_
  . obtain⟨q1,q2,hq⟩:=List.append_of_mem hj;exact hahead (q:=j) (p1:=q1) (p2:=q2++i::p2) (by rw[hr',hq]; simp) i (by simp)
  . refine⟨zHs E i rc,pre,r,dl,effs,s,Y,h1,λj hj=>?_,hinv⟩;show(S j\/j=i) ↔ _;rw[h2 j hj];by_cases e:j=i
    . subst e; rw[j0]; simp
    . rw[x7 E _ e]; simp[e]
def zPC(m:Nat)(yW:Array Bool):Nat:=((List.range m).filter λi=>!yW.getD i true).length
theorem zII{p q:Nat->Bool}:∀(l:List Nat),(∀x∈l,p x=true->q x=true)->(∃x∈l,q x=true/\p x=false)->(l.filter p).length<(l.filter q).length
 | [],_,h=>by obtain⟨x,hx,_⟩:=h; cases hx
 |y::l,hs,h=>by
  have hle:∀(l:List Nat),(∀x∈l,p x=true->q x=true)->(l.filter p).length<=(l.filter q).length:=by
   intro l;induction l with
   |nil=>intro _; exact Nat.le_refl _
   |cons z l ih=>
    intro hz
    have:=ih λx hx=>hz x (by simp[hx])
    have hzz:=hz z (by simp);cases hp:p z with
    |true=>rw[List.filter_cons_of_pos hp,List.filter_cons_of_pos (hzz hp)]; simp only[List.length_cons]; omega|false=>
     rw[List.filter_cons_of_neg (by rw[hp]; simp)];cases hq:q z with
     |true=>rw[List.filter_cons_of_pos hq]; simp only[List.length_cons]; omega|false=>rw[List.filter_cons_of_neg (by rw[hq]; simp)]; exact this
  obtain⟨x,hx,hqx,hpx⟩:=h;have hsl:∀x∈l,p x=true->q x=true:=λx hx=>hs x (by simp[hx]);rcases List.mem_cons.1 hx with rfl |hx
  . rw[List.filter_cons_of_neg (by rw[hpx]; simp),List.filter_cons_of_pos hqx]
    have:=hle l hsl
    simp only[List.length_cons]; omega
  . have:=zII l hsl ⟨x,hx,hqx,hpx⟩
    cases hp:p y with
    |true=>rw[List.filter_cons_of_pos hp,List.filter_cons_of_pos (hs y (by simp) hp)]; simp only[List.length_cons]; omega|false=>
     rw[List.filter_cons_of_neg (by rw[hp]; simp)];cases hq:q y with
     |true=>rw[List.filter_cons_of_pos hq]; simp only[List.length_cons]; omega|false=>rw[List.filter_cons_of_neg (by rw[hq]; simp)]; exact this
theorem zWs(hcall:yk P call){order:List Nat}(hok:zD9 P ops.toList anc order=true)(hanc:anc=ve [] ops.toList)(hfin:∀a w,(Way P F N call ops anc Y₀ g₀ n₀ w₀ R₀ order (λ_=>True) a w)->Q .normal a w) :
 ∀(fuel:Nat) (yW:Array Bool) (a:Act) (w:World),yW.size=ops.size->zPC ops.size yW<=fuel ->
  (∀i o,yW.getD i false=true->nth ops.toList i=some o->∀e∈o.after,Region.binds .any e=true->yW.getD e.on false=true) ->
  Way P F N call ops anc Y₀ g₀ n₀ w₀ R₀ order (λi=>yW.getD i false=true) a w->wpAny P .any ops Q fuel yW a w:=by
 have hok':=hok;unfold zD9 at hok';rw[Bool.and_eq_true,Bool.and_eq_true,Bool.and_eq_true,Bool.and_eq_true]at hok';obtain⟨⟨⟨⟨hperm,_⟩,_⟩,_⟩,hedges⟩:=hok';obtain⟨hnd,hlt,hlen⟩:=vv hperm List.nodup_nil (λi hi=>by cases hi);simp only[List.reverse_nil,List.nil_append]at hnd hlt hlen;have get:∀(yW:Array Bool) (i:Nat),i<yW.size->yW.getD i true=yW.getD i false:=by intro yW i hi;simp[hi]
 have hall:∀(yW:Array Bool),yW.size=ops.size->Region.ready .any ops yW=[]->∀i,i<ops.size->yW.getD i false=true:=by
  intro yW hs hr i;induction i using Nat.strongRecOn with
  |ind i ih=>
   intro hi;cases hb:yW.getD i false with
   |true=>rfl|false=>
    exfalso;have hmem:i∈Region.ready .any ops yW:=by
     rw[mem_ready];refine⟨by rw[get _ _ (by omega)]; exact hb,ops[i],Array.getElem?_eq_getElem hi,λe he hbe=>?_⟩;have ho:nth ops.toList i=some ops[i]:=by rw[nth_eq,Array.getElem?_toList]; exact Array.getElem?_eq_getElem hi
     have:=zAq hedges ho e he hbe
     exact ih e.on (by omega) (by omega)
    rw[hr]at hmem; cases hmem
 have hdone:∀(yW:Array Bool) (a:Act) (w:World),yW.size=ops.size->(∀i,i<ops.size->yW.getD i false=true)->Way P F N call ops anc Y₀ g₀ n₀ w₀ R₀ order (λi=>yW.getD i false=true) a w->Q .normal a w:=by intro yW a w hs hl hw;refine hfin a w ?_;obtain⟨E,pre,r,dl,effs,s,Y,h1,h2,h3⟩:=hw;refine⟨E,pre,r,dl,effs,s,Y,h1,λi hi=>?_,h3⟩;have hh:=h2 i hi;rw[<- hh];exact⟨λ_=>hl i (by have:=hlt i hi; rwa [Array.length_toList]at this),λ_=>trivial⟩
 intro fuel;induction fuel with
 |zero=>
  intro yW a w hs hf hcl hw;have hl:∀i,i<ops.size->yW.getD i false=true:=by
   intro i hi;have h0:((List.range ops.size).filter λi=>!yW.getD i true)=[]:=by apply List.length_eq_zero_iff.1;exact Nat.le_zero.1 hf
   rw[List.filter_eq_nil_iff]at h0
   have:=h0 i (List.mem_range.2 hi)
   rw[get _ _ (by omega)]at this;simpa using this
  refine⟨?_,hdone yW a w hs hl hw⟩;apply List.eq_nil_iff_forall_not_mem.2;intro i hi;obtain⟨h0,o,ho,_⟩:=mem_ready.1 hi;have hi':i<ops.size:=(Array.getElem?_eq_some_iff.1 ho).1;rw[get _ _ (by omega),hl i hi']at h0;cases h0
 |succ fuel ih=>
  intro yW a w hs hf hcl hw;refine⟨λhr=>hdone yW a w hs (hall yW hs hr) hw,λi hi=>?_⟩;obtain⟨h0,o,ho,hr⟩:=mem_ready.1 hi;have hi':i<ops.size:=(Array.getElem?_eq_some_iff.1 ho).1;have h0':¬yW.getD i false=true:=by rw[<- get _ _ (by omega),h0]; simp
  have ho':nth ops.toList i=some o:=by rw[nth_eq,Array.getElem?_toList]; exact ho
  have hset:∀j,((yW.setIfInBounds i true).getD j false=true) ↔ (yW.getD j false=true\/j=i):=by
   intro j;by_cases e:j=i
   . subst e;simp[hs,hi']
   . rw[getD_set_ne false (Ne.symm e)];simp[e]
  refine wpOp_mono (λa' w' hw'=>?_) (Way.step (Q:=Q) hcall hok hanc hw hcl ho' h0' hr);refine ih (yW.setIfInBounds i true) a' w' (by simp[hs]) ?_ ?_ ?_
  . have:zPC ops.size (yW.setIfInBounds i true)<zPC ops.size yW:=by
     refine zII _ (λx hx h=>?_) ⟨i,List.mem_range.2 hi',by rw[h0]; rfl,by simp[hs,hi']⟩;by_cases e:x=i
     . subst e;simp[hs,hi']at h
     . rw[getD_set_ne true (Ne.symm e)]at h;exact h
    omega
  . intro j oj hj hoj e he hbe;rw[hset]at hj ⊢;rcases hj with hj |rfl
    . exact .inl (hcl j oj hj hoj e he hbe)
    . rw[ho']at hoj; injection hoj with hoj; subst hoj;exact .inl (hr e he hbe)
  . obtain⟨E,pre,r,dl,effs,s,Y,h1,h2,h3⟩:=hw';refine⟨E,pre,r,dl,effs,s,Y,h1,λj hj=>?_,h3⟩;show((yW.setIfInBounds i true).getD j false=true) ↔ _;rw[hset];exact h2 j hj
end
theorem ym(hm:P.follows .mixedOrders=true)(hcall:yk P call):qc P F N call:=by
 intro id ops Y tm ds h n a w _ hst hc;unfold zKB at hc ⊢;simp only at hc ⊢;split at hc
 case isFalse=>exact hc.elim
 rename_i hok;rw[if_pos hok];generalize hO:zQy P ops.toList (ve [] ops.toList)=order at hok hc ⊢;generalize hA:ve [] ops.toList=anc at hok hc ⊢;have hc:zd (kY P F N call ops.toList anc order [] [] ⟨[],[],tm,ds,h,n⟩):=hc;show(Code.region id ops true).wp P (xN P F N Y (zC.fam h) n w (kY P F N call ops.toList anc order [] [] ⟨[],[],tm,ds,h,n⟩)) a w;generalize hR:kY P F N call ops.toList anc order [] [] ⟨[],[],tm,ds,h,n⟩=R₀ at hc ⊢;have hok':=hok;unfold zD9 at hok';rw[Bool.and_eq_true,Bool.and_eq_true,Bool.and_eq_true,Bool.and_eq_true]at hok';obtain⟨⟨⟨⟨hperm,_⟩,_⟩,_⟩,_⟩:=hok';obtain⟨hnd,hlt,hlen⟩:=vv hperm List.nodup_nil (λi hi=>by cases hi);simp only[List.reverse_nil,List.nil_append]at hnd hlt hlen;refine wp_region_any hm (zWs (F:=F) (N:=N) (Y₀:=Y) (g₀:=zC.fam h) (n₀:=n) (w₀:=w) (R₀:=R₀) hcall hok hA.symm (λa' w' hw=>?_) ops.size _ a _ (by simp) ?_ ?_ ?_)
 . obtain⟨E,pre,r,dl,effs,s,Y',h1,h2,h3,hhead⟩:=hw.caught hcall hnd;have hr:r=[]:=by
    cases r with
    |nil=>rfl|cons i r=>
     exfalso;have hio:i∈order:=by rw[h1]; simp
     rcases(h2 i hio).1 trivial with hh |hh
     . rw[h1]at hnd;exact(List.nodup_append.1 hnd).2.2 i hh i (by simp) rfl
     . exact hh (hhead i r rfl)
   subst hr;have hEn:∀j,E j=none:=by
    intro j;cases hq:E j with
    |none=>rfl|some q=>have:=(h3.sub j (by rw[hq]; simp)).1; cases this
   refine h3.leaf (λr=>xN P F N Y (zC.fam h) n w r .normal a' w') (λ_ _ h=>.inl h) (λ_ _ h=>.inr h) ?_;refine⟨trivial,Y',⟨⟨h3.size,λt b1 b2 b3=>?_⟩,h3.dfr,h3.rel,h3.glob,h3.fresh⟩,h3.post,h3.good⟩;exact(h3.t2 t λj o hj=>absurd (hEn j) hj).2 b1 b2 b3
 . unfold zPC;refine Nat.le_trans (List.length_filter_le _ _) ?_;simp
 . intro i o hi;simp only[Array.getD_eq_getD_getElem?,Array.getElem?_replicate]at hi;split at hi <;> cases hi
 . refine⟨λ_=>none,[],order,[],[],⟨[],[],tm,ds,h,n⟩,Y,rfl,λi hi=>?_,?_⟩
   . constructor
     . intro hi;simp only[Array.getD_eq_getD_getElem?,Array.getElem?_replicate]at hi;split at hi <;> cases hi
     . rintro(hh |hh)
       . cases hh
       . exact absurd rfl hh
   . have hclean:zd (kY P F N call ops.toList anc order [] [] ⟨[],[],tm,ds,h,n⟩):=by rw[hR]; exact hc
     refine⟨uF hcall.above (λ_ _=>rfl) (λi hi=>hlt i hi) hclean,hclean,λO _ _ ho=>by rw[hR]at ho; exact ho,hst.rel.congr rfl,hst.glob,hst.fresh,hst.dfr,hst.frame.size,
      λj hj=>absurd rfl hj,(λ_ _ _ _ hh=>by cases hh),λt _=>⟨(λi hi=>by cases hi),hst.frame.tmp t⟩,(λ_ _ _ hh=>by cases hh),(λ_ _ _ _ _ _ hh=>by cases hh),
      zIp hst.rel rfl rfl rfl rfl⟩
end
end Go.Ev
