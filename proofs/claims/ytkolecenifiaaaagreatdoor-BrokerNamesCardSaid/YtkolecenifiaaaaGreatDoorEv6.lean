/- A verified evaluator for the model's code: EvZe, EvZf, EvZg, EvZh, EvZi, EvZj, EvZk, EvZl. -/
import Derived.Test.YtkolecenifiaaaaGreatDoorEv5
set_option linter.unusedSectionVars false
set_option linter.unusedVariables false
set_option linter.unusedSimpArgs false
namespace Go.Ev
variable [Sym]
noncomputable section
variable {P:Program}
variable [SymFact P]
structure GS where
 es:List CV
 hs:List zC
 tm:Tm
 ds:xe
 h:zC
 n:Key
section
variable (P:Program) (F N:Nat) (call:ym) (L:List Oper) (anc:List Nat)
def j9 (r:List Nat) (dl:List (Option Nat)) (effs:List Nat) (s:GS):R:=evD P call (kC P F N L anc dl effs r) s.es s.hs s.tm s.ds s.h s.n
def qS (o:Oper) (dl:List (Option Nat)) (s:GS):Option Bool:=match o.guard with
 | none=>some true
 | some (j,wnt)=>match (nth L j).bind (·.dst) with
  | none=>none
  | some t=>match zi P ⟨F,N,dl⟩ (.tmp t) with
   | none=>none
   | some x=>match j0 wnt (aV s.es s.tm x) with
    | true=>some true
    | false=>match wE (aV s.es s.tm x) with
     | true=>some false
     | false=>none
abbrev zGf (o:Oper) (dl:List (Option Nat)) (s:GS):OR:=yU P (zh P ⟨F,N,dl⟩ o.op) s.es s.tm s.h s.n
def GS.put (s:GS) (d:Option Loc) (v:CV) (ob:Option CObj):GS:=match ob with
 | none=>{ s with es:=v::s.es,tm:=zKO d v s.tm }
 | some ob=>{ s with es:=v::s.es,tm:=zKO d v s.tm,h:=yu (some ob) s.n s.h,n:=s.n.succ }
def zLn (o:Oper) (dl:List (Option Nat)) (chk:Nat) (s:GS) (v:CV) (ob:Option CObj):Prop:=
 (qS P F N L o dl s=some false∧v=.undef∧ob=none) ∨
 (qS P F N L o dl s=some true∧((zGf P F N o dl s=.val v∧ob=none) ∨
   (zGf P F N o dl s=.read v∧ob=none∧jK P (zh P ⟨F,N,dl⟩ o.op) s.es s.tm s.n v chk s.hs=true) ∨
   ∃ ob',zGf P F N o dl s=.alloc ob' v∧ob=some ob'))
def vc:R→CV→zC→Key→Prop
 | .ret v h n,v',h',n'=>v'=v∧h'=h∧n'=n
 | .fork a b,v',h',n'=>vc a v' h' n'∨vc b v' h' n'
 | _,_,_,_=>False
def GS.eff (s:GS) (d:Option Loc) (v:CV) (h:zC) (n:Key):GS:={ s with es:=v::s.es,hs:=s.h::s.hs,tm:=zKO d v s.tm,h:=h,n:=n }
def xi (o:Oper) (d:Option Loc) (dl:List (Option Nat)) (s s':GS):Prop:=
 (qS P F N L o dl s=some false∧s'=s.eff d .undef s.h s.n) ∨
 (qS P F N L o dl s=some true∧match zGf P F N o dl s with
   | .val v=>s'=s.eff d v s.h s.n
   | .read v=>s'=s.eff d v s.h s.n
   | .alloc ob v=>s'=s.eff d v (yu (some ob) s.n s.h) s.n.succ
   | .eff v h n=>s'=s.eff d v h n
   | .call f args=>∃ v h n,vc (call false f args s.h s.n) v h n∧s'=s.eff d v h n
   | _=>False)
def zCg (o:Oper) (dl:List (Option Nat)) (s:GS):Prop:=qS P F N L o dl s=some true→∀ f args,zGf P F N o dl s=.call f args→zf (call false f args s.h s.n)
end
structure Rec where
 x:Value
 al:Option Pl
def xp (P:Program) (F N:Nat) (call:ym) (L:List Oper) (anc:List Nat) (E:Nat→Option Rec) (w:World):List Nat→List (Option Nat)→List Nat→GS→Psi→Prop
 | [],_,_,s,_=>s.n.room
 | i::r,dl,effs,s,ψ=>∃ o d,nth L i=some o∧xT F N o.dst=some d∧(match qR P o.op with
  | true=>zCg P F N call L o dl s∧(∃ s',xi P F N call L o d dl s s')∧∀ s',xi P F N call L o d dl s s'→xp P F N call L anc E w r (o.dst::dl) (i::effs) s' ψ
  | false=>∃ v ob,zLn P F N L o dl (zD6 ((nth anc i).getD 0) effs) s v ob∧(match E i,ob with
   | none,_=>xp P F N call L anc E w r (o.dst::dl) effs (s.put d v ob) ψ
   | some rc,none=>zH ψ v rc.x∧xp P F N call L anc E w r (o.dst::dl) effs (s.put d v none) ψ
   | some rc,some ob=>∃ pl,rc.al=some pl∧zH (ψ.upd s.n pl) v rc.x∧xM (ψ.upd s.n pl) w pl ob∧xp P F N call L anc E w r (o.dst::dl) effs (s.put d v (some ob)) (ψ.upd s.n pl)))
section
variable {F N:Nat} {call:ym} {L:List Oper} {anc:List Nat}
theorem zBx {n:Key} {v:CV} {h:zC} {n':Key}:∀ {r:R},zk n r→vc r v h n'→n.ix≤n'.ix
 | .ok ..,_,hl=>hl.elim
 | .err _,_,hl=>hl.elim
 | .ret ..,ha,⟨_,_,e⟩=>by subst e; exact ha
 | .fork _ _,ha,hl=>hl.elim (zBx ha.1) (zBx ha.2)
def zEz:R→Prop
 | .ret ..=>True
 | .fork a b=>zEz a∧zEz b
 | _=>False
theorem zBy {k:CV→zC→Key→R}:∀ {r:R},zf (jQ k r)→zEz r
 | .ok ..,h=>h.elim
 | .err _,h=>h.elim
 | .ret ..,_=>trivial
 | .fork _ _,h=>⟨zBy h.1,zBy h.2⟩
theorem zOL:∀ {r:R},zEz r→∃ v h n,vc r v h n
 | .ok ..,h=>h.elim
 | .err _,h=>h.elim
 | .ret v h n,_=>⟨v,h,n,rfl,rfl,rfl⟩
 | .fork _ _,h=>by
  obtain ⟨v,h',n,hl⟩:=zOL h.1
  exact ⟨v,h',n,.inl hl⟩
theorem zBk {k:CV→zC→Key→R} {v:CV} {h:zC} {n:Key}:∀ {r:R},zf (jQ k r)→vc r v h n→zf (k v h n)
 | .ok ..,hc,_=>hc.elim
 | .err _,hc,_=>hc.elim
 | .ret ..,hc,⟨h1,h2,h3⟩=>by subst h1 h2 h3; exact hc
 | .fork _ _,hc,hl=>hl.elim (zBk hc.1) (zBk hc.2)
theorem zMd {k:CV→zC→Key→R} {v:CV} {h:zC} {n:Key} {O:R→Prop} (f1:∀ x y,O x→O (.fork x y)) (f2:∀ x y,O y→O (.fork x y)) (ho:O (k v h n)):∀ {r:R},vc r v h n→O (jQ k r)
 | .ok ..,hl=>hl.elim
 | .err _,hl=>hl.elim
 | .ret ..,⟨h1,h2,h3⟩=>by subst h1 h2 h3; exact ho
 | .fork _ _,hl=>hl.elim (fun q=>f1 _ _ (zMd f1 f2 ho q)) (fun q=>f2 _ _ (zMd f1 f2 ho q))
theorem zHI (hcall:xA call) {o:Oper} {d:Option Loc} {dl:List (Option Nat)} {s s':GS} (hn:xi P F N call L o d dl s s'):s.n.ix≤s'.n.ix:=by
 rcases hn with ⟨_,rfl⟩ | ⟨_,hn⟩
 · exact Nat.le_refl _
 · have ho:=w8 (P:=P) (es:=s.es) (tm:=s.tm) (h:=s.h) (n:=s.n) (zh P ⟨F,N,dl⟩ o.op)
   unfold zGf at hn
   generalize yU P (zh P ⟨F,N,dl⟩ o.op) s.es s.tm s.h s.n=r at hn ho
   cases r <;> simp only at hn
   case val=>subst hn; exact Nat.le_refl _
   case read=>subst hn; exact Nat.le_refl _
   case alloc=>subst hn; exact Key.ix_le_succ _
   case eff=>subst hn; exact ho
   case call f args=>
    obtain ⟨v,h,n,hl,rfl⟩:=hn
    exact zBx (hcall false f args s.h s.n) hl
theorem xp.room (hcall:xA call) {E:Nat→Option Rec} {w:World}:∀ {r:List Nat} {dl:List (Option Nat)} {effs:List Nat} {s:GS} {ψ:Psi},xp P F N call L anc E w r dl effs s ψ→s.n.room
 | [],_,_,_,_,h=>h
 | i::r,dl,effs,s,ψ,⟨o,d,_,_,h⟩=>by
  have le:∀ {s':GS},s.n.ix≤s'.n.ix→s'.n.room→s.n.room:=fun h1 h2=>Nat.lt_of_le_of_lt h1 h2
  split at h
  · obtain ⟨_,⟨s',hs'⟩,h⟩:=h
    exact le (zHI hcall hs') (xp.room hcall (h s' hs'))
  · obtain ⟨v,ob,_,h⟩:=h
    have hput:∀ ob,s.n.ix≤(s.put d v ob).n.ix:=by
     intro ob
     cases ob with
     | none=>exact Nat.le_refl _
     | some ob=>exact Key.ix_le_succ _
    split at h
    · exact le (hput _) (xp.room hcall h)
    · exact le (hput _) (xp.room hcall h.2)
    · obtain ⟨pl,_,_,_,h⟩:=h
      exact le (hput _) (xp.room hcall h)
theorem Psi.upd_le {ψ ψ':Psi} (hle:ψ.le ψ') (k:Key) (p:Pl):(ψ.upd k p).le (ψ'.upd k p):=by
 intro j q hj
 by_cases e:j=k
 · subst e; rw [Psi.upd_same] at hj ⊢; exact hj
 · rw [Psi.upd_other _ _ e] at hj ⊢; exact hle _ _ hj
theorem xp.mono {E:Nat→Option Rec} {w w':World}:∀ {r:List Nat} {dl:List (Option Nat)} {effs:List Nat} {s:GS} {ψ ψ':Psi},ψ.le ψ' →
 (∀ i∈r,∀ rc pl,E i=some rc→rc.al=some pl→w'.heap[pl.blk]? = w.heap[pl.blk]?)→xp P F N call L anc E w r dl effs s ψ→xp P F N call L anc E w' r dl effs s ψ'
 | [],_,_,_,_,_,_,_,h=>h
 | i::r,dl,effs,s,ψ,ψ',hle,hw,⟨o,d,h1,h2,h⟩=>by
  have hw':∀ j∈r,∀ rc pl,E j=some rc→rc.al=some pl→w'.heap[pl.blk]? = w.heap[pl.blk]?:=fun j hj=>hw j (by simp [hj])
  refine ⟨o,d,h1,h2,?_⟩
  split at h
  · exact ⟨h.1,h.2.1,fun s' hs'=>xp.mono hle hw' (h.2.2 s' hs')⟩
  · obtain ⟨v,ob,h3,h⟩:=h
    refine ⟨v,ob,h3,?_⟩
    split at h
    · exact xp.mono hle hw' h
    · exact ⟨h.1.mono hle,xp.mono hle hw' h.2⟩
    · rename_i rc ob hE
      obtain ⟨pl,g1,g2,g3,g4⟩:=h
      exact ⟨pl,g1,g2.mono (Psi.upd_le hle _ _),xM.congr (hw i (by simp) rc pl hE g1) (g3.mono (Psi.upd_le hle _ _)),xp.mono (Psi.upd_le hle _ _) hw' g4⟩
theorem zVl {op:COp} {d:Option Loc} {chk:Nat} {k:KD} {s:GS} (hc:zf (dOp P call op d false chk k s.es s.hs s.tm s.ds s.h s.n)) :
 ∃ v ob,((yU P op s.es s.tm s.h s.n=.val v∧ob=none)∨(yU P op s.es s.tm s.h s.n=.read v∧ob=none∧jK P op s.es s.tm s.n v chk s.hs=true)∨∃ ob',yU P op s.es s.tm s.h s.n=.alloc ob' v∧ob=some ob') ∧
  dOp P call op d false chk k s.es s.hs s.tm s.ds s.h s.n=k (s.put d v ob).es (s.put d v ob).hs (s.put d v ob).tm (s.put d v ob).ds (s.put d v ob).h (s.put d v ob).n:=by
 have hc':zf (dNo P op d chk k (yU P op s.es s.tm s.h s.n) s.es s.hs s.tm s.ds s.h s.n):=hc
 show ∃ v ob,_∧dNo P op d chk k (yU P op s.es s.tm s.h s.n) s.es s.hs s.tm s.ds s.h s.n=_
 cases hr:yU P op s.es s.tm s.h s.n with
 | val v=>exact ⟨v,none,.inl ⟨rfl,rfl⟩,by show yN _ _ _ _=_; rw [yJ]; rfl⟩
 | read v=>
  rw [hr] at hc'
  have hc':zf (match jK P op s.es s.tm s.n v chk s.hs with
   | true=>yN d v s.tm fun tm=>k (v::s.es) s.hs tm s.ds s.h s.n
   | false=>.err 311):=hc'
  cases hsr:jK P op s.es s.tm s.n v chk s.hs with
  | false=>rw [hsr] at hc'; exact hc'.elim
  | true=>
   refine ⟨v,none,.inr (.inl ⟨rfl,rfl,hsr⟩),?_⟩
   show (match jK P op s.es s.tm s.n v chk s.hs with
    | true=>yN d v s.tm fun tm=>k (v::s.es) s.hs tm s.ds s.h s.n
    | false=>.err 311)=_
   rw [hsr]
   simp only [yJ]
   rfl
 | alloc ob v=>exact ⟨v,some ob,.inr (.inr ⟨ob,rfl,rfl⟩),by show yN _ _ _ _=_; rw [yJ]; rfl⟩
 | eff v h n=>rw [hr] at hc'; exact hc'.elim
 | call f a=>rw [hr] at hc'; exact hc'.elim
 | dfr f a=>rw [hr] at hc'; exact hc'.elim
 | recov=>rw [hr] at hc'; exact hc'.elim
 | err c=>rw [hr] at hc'; exact hc'.elim
 | fork a b=>rw [hr] at hc'; exact hc'.elim
theorem zMM {i:Nat} {r:List Nat} {dl:List (Option Nat)} {effs:List Nat} {o:Oper} (ho:nth L i=some o):kC P F N L anc dl effs (i::r) =
 ⟨ut P F N L dl o,qR P o.op,zD6 ((nth anc i).getD 0) effs⟩::kC P F N L anc (o.dst::dl) (if qR P o.op then i::effs else effs) r:=by
 rw [kC]; simp only [ho]
theorem zQB (i:zPL) (l:List zPL) (es:List CV) (hs:List zC) (tm:Tm) (ds:xe) (h:zC) (n:Key):evD P call (i::l) es hs tm ds h n=(match i.ins with
 | .i op=>dOp P call op none i.eff i.chk (evD P call l) es hs tm ds h n
 | .o op d=>dOp P call op (some d) i.eff i.chk (evD P call l) es hs tm ds h n
 | .g x w op d=>match j0 w (aV es tm x) with
  | true=>dOp P call op d i.eff i.chk (evD P call l) es hs tm ds h n
  | false=>match wE (aV es tm x) with
   | true=>zEV d i.eff (evD P call l) es hs tm ds h n
   | false=>.err 299):=by rw [evD]; rfl
theorem zIF {c:Nat} {d:Option Loc} {e:Bool} {chk:Nat} {k:KD} {es:List CV} {hs:List zC} {tm:Tm} {ds:xe} {h:zC} {n:Key} (hc:zf (dOp P call (.bad c) d e chk k es hs tm ds h n)):False:=by
 cases e <;> exact hc
theorem zHP {i:Nat} {r:List Nat} {dl:List (Option Nat)} {effs:List Nat} {s:GS} {o:Oper} (ho:nth L i=some o) (hc:zf (j9 P F N call L anc (i::r) dl effs s)) :
 ∃ d,xT F N o.dst=some d∧((qS P F N L o dl s=some true∧j9 P F N call L anc (i::r) dl effs s =
  dOp P call (zh P ⟨F,N,dl⟩ o.op) d (qR P o.op) (zD6 ((nth anc i).getD 0) effs)
   (evD P call (kC P F N L anc (o.dst::dl) (if qR P o.op then i::effs else effs) r)) s.es s.hs s.tm s.ds s.h s.n) ∨
  (qS P F N L o dl s=some false∧j9 P F N call L anc (i::r) dl effs s =
    zEV d (qR P o.op) (evD P call (kC P F N L anc (o.dst::dl) (if qR P o.op then i::effs else effs) r)) s.es s.hs s.tm s.ds s.h s.n)):=by
 unfold j9 at hc ⊢
 rw [zMM ho,zQB] at hc ⊢
 unfold ut at hc ⊢
 unfold qS
 cases hd:xT F N o.dst with
 | none=>
  simp only [hd] at hc
  exact (zIF hc).elim
 | some d=>
  refine ⟨d,rfl,?_⟩
  simp only [hd] at hc ⊢
  cases hg:o.guard with
  | none=>
   left
   refine ⟨rfl,?_⟩
   cases d <;> rfl
  | some jw=>
   obtain ⟨j,wnt⟩:=jw
   simp only [hg] at hc ⊢
   cases ht:(nth L j).bind (·.dst) with
   | none=>
    simp only [ht] at hc
    exact (zIF hc).elim
   | some t=>
    simp only [ht] at hc ⊢
    cases hx:zi P ⟨F,N,dl⟩ (.tmp t) with
    | none=>
     simp only [hx] at hc
     exact (zIF hc).elim
    | some x=>
     simp only [hx] at hc ⊢
     cases hb:j0 wnt (aV s.es s.tm x) with
     | true=>left; simp
     | false=>
      simp only [hb] at hc
      cases hn:wE (aV s.es s.tm x) with
      | true=>right; simp
      | false=>rw [hn] at hc; exact hc.elim
theorem zN3 {i:Nat} {r:List Nat} {dl:List (Option Nat)} {effs:List Nat} {s:GS} {o:Oper} (ho:nth L i=some o) (he:qR P o.op=false) (hc:zf (j9 P F N call L anc (i::r) dl effs s)) :
 ∃ d v ob,xT F N o.dst=some d∧zLn P F N L o dl (zD6 ((nth anc i).getD 0) effs) s v ob ∧
  j9 P F N call L anc (i::r) dl effs s=j9 P F N call L anc r (o.dst::dl) effs (s.put d v ob):=by
 obtain ⟨d,hd,⟨hg,e⟩ | ⟨hg,e⟩⟩:=zHP ho hc
 · rw [e,he] at hc
   rw [e,he]
   obtain ⟨v,ob,h1,h2⟩:=zVl hc
   exact ⟨d,v,ob,hd,.inr ⟨hg,h1⟩,h2⟩
 · rw [e,he]
   refine ⟨d,.undef,none,hd,.inl ⟨hg,rfl,rfl⟩,?_⟩
   unfold zEV
   rw [yJ]
   rfl
theorem zKg (hcall:xA call) {i:Nat} {r:List Nat} {dl:List (Option Nat)} {effs:List Nat} {s:GS} {o:Oper} (ho:nth L i=some o) (he:qR P o.op=true) (hc:zf (j9 P F N call L anc (i::r) dl effs s)) :
 ∃ d,xT F N o.dst=some d∧zCg P F N call L o dl s∧(∃ s',xi P F N call L o d dl s s')∧∀ s',xi P F N call L o d dl s s'→zf (j9 P F N call L anc r (o.dst::dl) (i::effs) s') ∧
  ∀ (O:R→Prop),(∀ x y,O x→O (.fork x y))→(∀ x y,O y→O (.fork x y))→O (j9 P F N call L anc r (o.dst::dl) (i::effs) s')→O (j9 P F N call L anc (i::r) dl effs s):=by
 obtain ⟨d,hd,⟨hg,e⟩ | ⟨hg,e⟩⟩:=zHP ho hc
 · rw [e,he] at hc
   rw [e,he]
   simp only [if_true] at hc ⊢
   have hab:=fun es hs tm ds h n=>zIT (P:=P) hcall (kC P F N L anc (o.dst::dl) (i::effs) r) es hs tm ds h n
   have hc:zf (zMC call d (evD P call (kC P F N L anc (o.dst::dl) (i::effs) r)) (zGf P F N o dl s) s.es s.hs s.tm s.ds s.h s.n):=hc
   have key:∀ (X:OR),zGf P F N o dl s=X→zf (zMC call d (evD P call (kC P F N L anc (o.dst::dl) (i::effs) r)) X s.es s.hs s.tm s.ds s.h s.n) →
    zCg P F N call L o dl s∧(∃ s',xi P F N call L o d dl s s')∧∀ s',xi P F N call L o d dl s s'→zf (j9 P F N call L anc r (o.dst::dl) (i::effs) s') ∧
     ∀ (O:R→Prop),(∀ x y,O x→O (.fork x y))→(∀ x y,O y→O (.fork x y))→O (j9 P F N call L anc r (o.dst::dl) (i::effs) s') →
      O (zMC call d (evD P call (kC P F N L anc (o.dst::dl) (i::effs) r)) X s.es s.hs s.tm s.ds s.h s.n):=by
    intro X hX hc
    have one:∀ (v:CV) (h':zC) (n':Key),(∀ s',xi P F N call L o d dl s s' ↔ s'=s.eff d v h' n')→(∀ f args,X≠.call f args) →
     zMC call d (evD P call (kC P F N L anc (o.dst::dl) (i::effs) r)) X s.es s.hs s.tm s.ds s.h s.n=j9 P F N call L anc r (o.dst::dl) (i::effs) (s.eff d v h' n') →
     zCg P F N call L o dl s∧(∃ s',xi P F N call L o d dl s s')∧∀ s',xi P F N call L o d dl s s'→zf (j9 P F N call L anc r (o.dst::dl) (i::effs) s') ∧
     ∀ (O:R→Prop),(∀ x y,O x→O (.fork x y))→(∀ x y,O y→O (.fork x y))→O (j9 P F N call L anc r (o.dst::dl) (i::effs) s') →
      O (zMC call d (evD P call (kC P F N L anc (o.dst::dl) (i::effs) r)) X s.es s.hs s.tm s.ds s.h s.n):=by
     intro v h' n' hiff hnc heq
     refine ⟨fun _ f args hf=>absurd (hX.symm.trans hf) (hnc f args),⟨_,(hiff _).2 rfl⟩,fun s' hs'=>?_⟩
     rw [(hiff s').1 hs']
     rw [heq] at hc ⊢
     exact ⟨hc,fun O _ _ h=>h⟩
    have hgt:qS P F N L o dl s≠some false:=by rw [hg]; simp
    have iff1:∀ (v:CV) (h':zC) (n':Key),(∀ s',(match X with
     | .val v=>s'=s.eff d v s.h s.n
     | .read v=>s'=s.eff d v s.h s.n
     | .alloc ob v=>s'=s.eff d v (yu (some ob) s.n s.h) s.n.succ
     | .eff v h n=>s'=s.eff d v h n
     | .call f args=>∃ v h n,vc (call false f args s.h s.n) v h n∧s'=s.eff d v h n
     | _=>False) ↔ s'=s.eff d v h' n')→∀ s',xi P F N call L o d dl s s' ↔ s'=s.eff d v h' n':=by
     intro v h' n' hh s'
     unfold xi
     rw [hX]
     constructor
     · rintro (⟨h1,_⟩ | ⟨_,h2⟩)
       · exact absurd h1 hgt
       · exact (hh s').1 h2
     · exact fun h=>.inr ⟨hg,(hh s').2 h⟩
    cases X with
    | val v=>exact one v s.h s.n (iff1 v s.h s.n fun s'=>Iff.rfl) (by simp) (by show yN _ _ _ _=_; rw [yJ]; rfl)
    | read v=>exact one v s.h s.n (iff1 v s.h s.n fun s'=>Iff.rfl) (by simp) (by show yN _ _ _ _=_; rw [yJ]; rfl)
    | alloc ob v=>exact one v (yu (some ob) s.n s.h) s.n.succ (iff1 v _ _ fun s'=>Iff.rfl) (by simp) (by show yN _ _ _ _=_; rw [yJ]; rfl)
    | eff v h n=>exact one v h n (iff1 v h n fun s'=>Iff.rfl) (by simp) (by show yN _ _ _ _=_; rw [yJ]; rfl)
    | call f args=>
     have hc':zf (jQ (fun v h' n'=>yN d v s.tm fun tm=>evD P call (kC P F N L anc (o.dst::dl) (i::effs) r) (v::s.es) (s.h::s.hs) tm s.ds h' n') (call false f args s.h s.n)):=hc
     have hcl:=jF (fun v h n=>by rw [yJ]; exact hab _ _ _ _ _ _) hc'
     refine ⟨fun _ f' args' hf=>?_,?_,fun s' hs'=>?_⟩
     · have:=hX.symm.trans hf
       injection this with e1 e2
       subst e1 e2
       exact hcl
     · obtain ⟨v,h,n,hl⟩:=zOL (zBy hc')
       exact ⟨_,.inr ⟨hg,by rw [hX]; exact ⟨v,h,n,hl,rfl⟩⟩⟩
     · rcases hs' with ⟨h1,_⟩ | ⟨_,h2⟩
       · exact absurd h1 hgt
       · rw [hX] at h2
         obtain ⟨v,h,n,hl,rfl⟩:=h2
         have hk:(yN d v s.tm fun tm=>evD P call (kC P F N L anc (o.dst::dl) (i::effs) r) (v::s.es) (s.h::s.hs) tm s.ds h n)=j9 P F N call L anc r (o.dst::dl) (i::effs) (s.eff d v h n):=by rw [yJ]; rfl
         have hcl':=zBk hc' hl
         rw [hk] at hcl'
         refine ⟨hcl',fun O f1 f2 ho'=>?_⟩
         exact zMd (k:=fun v h' n'=>yN d v s.tm fun tm=>evD P call (kC P F N L anc (o.dst::dl) (i::effs) r) (v::s.es) (s.h::s.hs) tm s.ds h' n') f1 f2 (by rw [hk]; exact ho') hl
    | dfr f a=>exact hc.elim
    | recov=>exact hc.elim
    | err c=>exact hc.elim
    | fork a b=>exact hc.elim
   obtain ⟨h1,h2,h3⟩:=key _ rfl hc
   exact ⟨d,hd,h1,h2,h3⟩
 · rw [e,he] at hc
   rw [e,he]
   simp only [if_true] at hc ⊢
   have hgt:qS P F N L o dl s≠some true:=by rw [hg]; simp
   have heq:zEV d true (evD P call (kC P F N L anc (o.dst::dl) (i::effs) r)) s.es s.hs s.tm s.ds s.h s.n=j9 P F N call L anc r (o.dst::dl) (i::effs) (s.eff d .undef s.h s.n):=by
    unfold zEV; rw [yJ]; rfl
   refine ⟨d,hd,fun h=>absurd h hgt,⟨_,.inl ⟨hg,rfl⟩⟩,fun s' hs'=>?_⟩
   rcases hs' with ⟨_,rfl⟩ | ⟨h1,_⟩
   · rw [heq] at hc ⊢
     exact ⟨hc,fun O _ _ h=>h⟩
   · exact absurd h1 hgt
theorem vV (hcall:xA call) {E:Nat→Option Rec} {w:World}:∀ {r:List Nat} {dl:List (Option Nat)} {effs:List Nat} {s:GS} {ψ:Psi},(∀ i∈r,E i=none)→(∀ i∈r,i<L.length) →
 zf (j9 P F N call L anc r dl effs s)→xp P F N call L anc E w r dl effs s ψ
 | [],_,_,_,_,_,_,hc=>hc
 | i::r,dl,effs,s,ψ,hE,hL,hc=>by
  have ho:∃ o,nth L i=some o:=by rw [yg]; exact ⟨_,List.getElem?_eq_getElem (hL i (by simp))⟩
  obtain ⟨o,ho⟩:=ho
  cases he:qR P o.op with
  | true=>
   obtain ⟨d,hd,h1,h2,h3⟩:=zKg hcall ho he hc
   refine ⟨o,d,ho,hd,?_⟩
   rw [he]
   exact ⟨h1,h2,fun s' hs'=>vV hcall (fun j hj=>hE j (by simp [hj])) (fun j hj=>hL j (by simp [hj])) (h3 s' hs').1⟩
  | false=>
   obtain ⟨d,v,ob,hd,h1,h2⟩:=zN3 ho he hc
   refine ⟨o,d,ho,hd,?_⟩
   rw [he]
   refine ⟨v,ob,h1,?_⟩
   simp only [hE i (by simp)]
   rw [h2] at hc
   exact vV hcall (fun j hj=>hE j (by simp [hj])) (fun j hj=>hL j (by simp [hj])) hc
end
end
end Go.Ev
namespace Go.Ev
variable [Sym]
noncomputable section
variable {P:Program}
variable [SymFact P]
def jg (F N:Nat) (ψ:Psi) (dl:List (Option Nat)) (es:List CV) (tm:Tm) (a:Act) (t:Nat):Prop:=
 (∀ i,xL t dl 0=some i→zH ψ (zTX es i) (a.tmps.getD t undef)) ∧
 (z8 F t=true→t≤271→t<N→zH ψ (qZ (Loc.ofNat t) tm) (a.tmps.getD t undef))
theorem jg.mono {F N:Nat} {ψ ψ':Psi} (hle:ψ.le ψ') {dl:List (Option Nat)} {es:List CV} {tm:Tm} {a:Act} {t:Nat} (h:jg F N ψ dl es tm a t):jg F N ψ' dl es tm a t:=
 ⟨fun i hi=>(h.1 i hi).mono hle,fun h1 h2 h3=>(h.2 h1 h2 h3).mono hle⟩
theorem zI6 {F N:Nat} {ψ:Psi} {dl:List (Option Nat)} {es:List CV} {tm:Tm} {a:Act} (hg:kR P ψ) {l:List Operand} (hl:∀ t,.tmp t∈l→jg F N ψ dl es tm a t):yG P ψ es tm ⟨F,N,dl⟩ a.eval l:=by
 intro x hx c hc
 unfold zi at hc
 split at hc
 · rename_i t
   have ht:=hl t hx
   split at hc
   · rename_i i hi
     injection hc with hc; subst hc
     exact ht.1 i hi
   · split at hc
     · rename_i hb
       injection hc with hc; subst hc
       rw [Bool.and_eq_true,Bool.and_eq_true] at hb
       exact ht.2 hb.1.1 (zL hb.1.2) (zL hb.2)
     · cases hc
 · rename_i v
   cases hv:u4 20 v with
   | none=>rw [hv] at hc; cases hc
   | some c'=>rw [hv] at hc; injection hc with hc; subst hc; exact kD 20 hv
 · rename_i g
   split at hc
   · rename_i hb
     injection hc with hc; subst hc
     rw [Bool.and_eq_true] at hb
     obtain ⟨sz,e⟩:=hg g (zL hb.1) (zL hb.2)
     exact zu.2 ⟨_,e,rfl⟩
   · cases hc
 · rename_i f
   injection hc with hc; subst hc
   exact xH.2 ⟨#[],#[],rfl,zM.2 rfl,zM.2 rfl⟩
theorem zM9 {L:List Oper} {o:Oper} {t:Nat} (h:Operand.tmp t∈o.op.operands.toList):t∈uU L o:=by
 unfold uU
 refine List.mem_append_left _ (List.mem_filterMap.2 ⟨.tmp t,h,rfl⟩)
theorem zLy {L:List Oper} {o:Oper} {j t:Nat} {wnt:Bool} (hg:o.guard=some (j,wnt)) (ht:(nth L j).bind (·.dst)=some t):t∈uU L o:=by
 unfold uU
 refine List.mem_append_right _ ?_
 simp [hg,ht]
theorem zAV {F N:Nat} {ψ:Psi} {dl:List (Option Nat)} {s:GS} {a:Act} {ops:Array Oper} {o:Oper} {b:Bool} (hg:kR P ψ) (ha:∀ t∈uU ops.toList o,jg F N ψ dl s.es s.tm a t)
 (h:qS P F N ops.toList o dl s=some b):Region.wanted o (yielded ops a.tmps)=b:=by
 unfold qS at h
 split at h
 · rename_i hgd
   injection h with h
   unfold Region.wanted; rw [hgd]; exact h
 · rename_i j wnt hgd
   split at h
   · cases h
   · rename_i t ht
     split at h
     · cases h
     · rename_i x hx
       have hv:zH ψ (aV s.es s.tm x) (a.tmps.getD t undef):=zI6 (a:=a) hg (l:=[.tmp t]) (fun u hu=>by
        have:u=t:=by simpa using hu
        subst this
        exact ha u (zLy hgd ht)) (.tmp t) (by simp) x hx
       have ht':(ops[j]?).bind (·.dst)=some t:=by rw [← zNS]; exact ht
       obtain ⟨w1,w2⟩:=zHe hgd ht' hv
       split at h
       · rename_i hb
         injection h with h
         rw [w1 hb]; exact h
       · rename_i hb
         split at h
         · rename_i hn
           injection h with h
           rw [w2 hb hn]; exact h
         · cases h
def zPA (P:Program) (ops:Array Oper) (o:Oper) (a:Act) (w:World) (x:Value) (w':World) (al:Option Pl):Prop:=
 (Region.wanted o (yielded ops a.tmps)=false∧x=undef∧w'=w∧al=none) ∨
 (Region.wanted o (yielded ops a.tmps)=true∧kS P a.eval o.op o.type w w' x∧((w'=w∧al=none)∨(New w w'∧al=some ⟨w.heap.size,0,zFD w' w.heap.size,fun n=>n⟩)))
theorem zPA.unique {ops:Array Oper} {o:Oper} {a:Act} {w:World} {x y:Value} {w' w'':World} {al bl:Option Pl} (h:zPA P ops o a w x w' al) (h':zPA P ops o a w y w'' bl):x=y∧w'=w''∧al=bl:=by
 rcases h with ⟨h1,h2,h3,h4⟩ | ⟨h1,⟨nx,h2,h3⟩,h4⟩
 · rcases h' with ⟨g1,g2,g3,g4⟩ | ⟨g1,_,_⟩
   · exact ⟨h2.trans g2.symm,h3.trans g3.symm,h4.trans g4.symm⟩
   · rw [h1] at g1; cases g1
 · rcases h' with ⟨g1,_⟩ | ⟨g1,⟨ny,g2,g3⟩,g4⟩
   · rw [h1] at g1; cases g1
   · rw [h2] at g2
     injection g2 with e1 e2
     subst e1 e2
     have hx:x=y:=by
      rcases h3 with h3 | ⟨h3,h3'⟩
      · rcases g3 with g3 | ⟨g3,_⟩
        · rw [h3] at g3; injection g3
        · rw [h3] at g3; cases g3
      · rcases g3 with g3 | ⟨_,g3'⟩
        · rw [h3] at g3; cases g3
        · exact h3'.trans g3'.symm
     refine ⟨hx,rfl,?_⟩
     rcases h4 with ⟨e1,e2⟩ | ⟨e1,e2⟩
     · rcases g4 with ⟨_,e4⟩ | ⟨e3,_⟩
       · exact e2.trans e4.symm
       · have:=e3.size; rw [e1] at this; omega
     · rcases g4 with ⟨e3,_⟩ | ⟨_,e4⟩
       · have:=e1.size; rw [e3] at this; omega
       · exact e2.trans e4.symm
theorem zJ4:∀ {l m:List (Nat × Int)},j6 l m=true→l=m
 | [],[],_=>rfl
 | (i,a)::l,(j,b)::m,h=>by
  simp only [j6,Bool.and_eq_true,za,decide_eq_true_eq] at h
  rw [yD h.1.1,h.1.2,zJ4 h.2]
 | [],_::_,h=>by cases h
 | _::_,[],h=>by cases h
mutual
theorem CV.beq_eq:∀ (a b:CV),CV.beq a b=true→a=b
 | .bool a,b,h=>by cases b <;> simp_all [CV.beq]
 | .nat a,b,h=>by cases b <;> simp_all [CV.beq]
 | .int k a,b,h=>by cases b <;> simp_all [CV.beq,yo,za]
 | .anyi k,b,h=>by cases b <;> simp_all [CV.beq]
 | .sym k,b,h=>by
  cases b <;> try (simp [CV.beq] at h; done)
  rename_i j
  simp only [CV.beq,Bool.and_eq_true,yo,za,decide_eq_true_eq] at h
  obtain ⟨k1,c1,l1⟩:=k
  obtain ⟨k2,c2,l2⟩:=j
  simp only at h
  rw [h.1.1,h.1.2,zJ4 h.2]
 | .str a,b,h=>by cases b <;> simp_all [CV.beq,jB]
 | .nilptr,b,h=>by cases b <;> simp_all [CV.beq]
 | .ptr _ _,b,h=>by cases b <;> simp_all [CV.beq]
 | .nilsl,b,h=>by cases b <;> simp_all [CV.beq]
 | .sl ..,b,h=>by cases b <;> simp_all [CV.beq]
 | .nilmap,b,h=>by cases b <;> simp_all [CV.beq]
 | .map _,b,h=>by cases b <;> simp_all [CV.beq]
 | .func f x y,b,h=>by
  cases b <;> try (simp [CV.beq] at h; done)
  rename_i g z u
  simp only [CV.beq,Bool.and_eq_true,decide_eq_true_eq] at h
  rw [h.1.1,CV.beqs_eq x z h.1.2,CV.beqs_eq y u h.2]
 | .nilfunc,b,h=>by cases b <;> simp_all [CV.beq]
 | .iface t v,b,h=>by
  cases b <;> try (simp [CV.beq] at h; done)
  rename_i u w
  simp only [CV.beq,Bool.and_eq_true] at h
  rw [yD h.1,CV.beq_eq v w h.2]
 | .niliface,b,h=>by cases b <;> simp_all [CV.beq]
 | .agg x,b,h=>by
  cases b <;> try (simp [CV.beq] at h; done)
  rename_i y
  simp only [CV.beq] at h
  rw [CV.beqs_eq x y h]
 | .tup x,b,h=>by
  cases b <;> try (simp [CV.beq] at h; done)
  rename_i y
  simp only [CV.beq] at h
  rw [CV.beqs_eq x y h]
 | .sst x,b,h=>by
  cases b <;> try (simp [CV.beq] at h; done)
  rename_i y
  simp only [CV.beq] at h
  rw [CV.beqs_eq x y h]
 | .win ..,b,h=>by cases b <;> simp_all [CV.beq]
 | .few ..,b,h=>by cases b <;> simp_all [CV.beq]
 | .elt ..,b,h=>by cases b <;> simp_all [CV.beq]
 | .any,b,h=>by cases b <;> simp_all [CV.beq]
theorem CV.beqs_eq:∀ (a b:List CV),CV.beqs a b=true→a=b
 | [],[],_=>rfl
 | [],_::_,h=>by simp [CV.beqs] at h
 | _::_,[],h=>by simp [CV.beqs] at h
 | x::a,y::b,h=>by
  simp only [CV.beqs,Bool.and_eq_true] at h
  rw [CV.beq_eq x y h.1,CV.beqs_eq a b h.2]
end
theorem zB6 {op:COp} {es:List CV} {tm:Tm} {n:Key} {v:CV}:∀ {c:Nat} {hs:List zC},jK P op es tm n v c hs=true→∀ {k:Nat} {hb:zC},k<c→hs[k]? = some hb→yU P op es tm hb n=.read v
 | 0,_,_,k,_,hk,_=>by omega
 | c+1,[],_,k,hb,_,hh=>by cases hh
 | c+1,h::hs,hsr,k,hb,hk,hh=>by
  unfold jK at hsr
  split at hsr
  · rename_i u hu
    rw [Bool.and_eq_true] at hsr
    cases k with
    | zero=>
     injection hh with hh; subst hh
     rw [hu,CV.beq_eq v u hsr.1]
    | succ k=>exact zB6 hsr.2 (k:=k) (by omega) (by simpa using hh)
  · cases hsr
end
end Go.Ev
namespace Go.Ev
variable [Sym]
noncomputable section
variable {P:Program}
variable [SymFact P]
theorem zDy {F N:Nat} {ψ:Psi} {dl:List (Option Nat)} {es:List CV} {tm:Tm} {a:Act} {t:Nat} {dst:Option Nat} {d:Option Loc} {v:CV} (h:jg F N ψ dl es tm a t) (hne:dst≠some t)
 (hd:xT F N dst=some d):jg F N ψ (dst::dl) (v::es) (zKO d v tm) a t:=by
 have hw:xL t (dst::dl) 0=(xL t dl 0).map (· + 1):=by
  rw [← wO]
  cases dst with
  | none=>rfl
  | some u=>
   have:Nat.beq u t=false:=wb fun e=>hne (by rw [e])
   show (match Nat.beq u t with | true=>some 0 | false=>xL t dl (0+1))=_
   rw [this]
 constructor
 · intro i hi
   rw [hw] at hi
   cases hq:xL t dl 0 with
   | none=>rw [hq] at hi; cases hi
   | some j=>
    rw [hq] at hi
    injection hi with hi; subst hi
    exact h.1 j hq
 · intro h1 h2 h3
   have:=h.2 h1 h2 h3
   rcases qy hd with ⟨_,rfl⟩ | ⟨u,rfl,hu,⟨hb,rfl⟩ | ⟨hb,hle,rfl⟩⟩
   · exact this
   · exact this
   · show zH ψ (qZ _ (ko v _ tm)) _
     rw [xf _ _ _ _ (fun e=>hne (by rw [Loc.ofNat_inj hle h2 e.symm]))]
     exact this
theorem zFT {F N:Nat} {ψ:Psi} {dl:List (Option Nat)} {es:List CV} {tm:Tm} {a:Act} {t:Nat} {d:Option Loc} {v:CV} (h:zH ψ v (a.tmps.getD t undef)) (hd:xT F N (some t)=some d) :
 jg F N ψ (some t::dl) (v::es) (zKO d v tm) a t:=by
 have hw:xL t (some t::dl) 0=some 0:=by
  show (match Nat.beq t t with | true=>some 0 | false=>xL t dl (0+1))=_
  rw [qe]
 constructor
 · intro i hi
   rw [hw] at hi
   injection hi with hi; subst hi
   exact h
 · intro h1 h2 h3
   rcases qy hd with ⟨e,_⟩ | ⟨u,e,hu,⟨hb,rfl⟩ | ⟨hb,hle,rfl⟩⟩
   · cases e
   · injection e with e; subst e
     rw [hb] at h1; cases h1
   · injection e with e; subst e
     show zH ψ (qZ _ (ko v _ tm)) _
     rw [j5]
     exact h
def zF6 (E:Nat→Option Rec) (i:Nat) (rc:Rec):Nat→Option Rec:=fun j=>if j=i then some rc else E j
theorem jd (E:Nat→Option Rec) (i:Nat) (rc:Rec):zF6 E i rc i=some rc:=by simp [zF6]
theorem xY (E:Nat→Option Rec) {i j:Nat} (rc:Rec) (h:j≠i):zF6 E i rc j=E j:=by simp [zF6,h]
theorem xp.congrE {F N:Nat} {call:ym} {L:List Oper} {anc:List Nat} {E E':Nat→Option Rec} {w:World}:∀ {r:List Nat} {dl:List (Option Nat)} {effs:List Nat} {s:GS} {ψ:Psi},(∀ i∈r,E' i=E i) →
 xp P F N call L anc E w r dl effs s ψ→xp P F N call L anc E' w r dl effs s ψ
 | [],_,_,_,_,_,h=>h
 | i::r,dl,effs,s,ψ,he,⟨o,d,h1,h2,h⟩=>by
  have he':∀ j∈r,E' j=E j:=fun j hj=>he j (by simp [hj])
  refine ⟨o,d,h1,h2,?_⟩
  rw [he i (by simp)]
  split at h
  · exact ⟨h.1,h.2.1,fun s' hs'=>xp.congrE he' (h.2.2 s' hs')⟩
  · obtain ⟨v,ob,h3,h⟩:=h
    refine ⟨v,ob,h3,?_⟩
    split at h
    · exact xp.congrE he' h
    · exact ⟨h.1,xp.congrE he' h.2⟩
    · obtain ⟨pl,g1,g2,g3,g4⟩:=h
      exact ⟨pl,g1,g2,g3,xp.congrE he' g4⟩
theorem zRI {m:Nat}:∀ {effs:List Nat} {k:Nat},(∀ q,q<k→∃ e,effs[q]? = some e∧z8 m e=false)→k≤zD6 m effs
 | _,0,_=>Nat.zero_le _
 | [],k+1,h=>by obtain ⟨e,he,_⟩:=h 0 (by omega); cases he
 | e::effs,k+1,h=>by
  obtain ⟨e',he',hb⟩:=h 0 (by omega)
  injection he' with he'; subst he'
  unfold zD6
  rw [if_neg (by rw [hb]; simp)]
  exact Nat.succ_le_succ (zRI fun q hq=>by obtain ⟨e',h1,h2⟩:=h (q+1) (by omega); exact ⟨e',by simpa using h1,h2⟩)
end
end Go.Ev
namespace Go.Ev
variable [Sym]
noncomputable section
variable {P:Program} {F N:Nat} {call:ym} {ops:Array Oper} {anc:List Nat}
variable [SymFact P]
structure zJ2 (L:List Oper) (anc:List Nat) (E:Nat→Option Rec) (i:Nat) (o:Oper) (r:List Nat):Prop where
 done:∀ j∈r,z8 ((nth anc i).getD 0) j=true→E j≠none
 after:∀ pre suf,r=pre++i::suf→∀ j∈suf,z8 ((nth anc i).getD 0) j=false
 ahead:∀ pre suf,r=pre++i::suf→∀ j∈pre,z8 ((nth anc j).getD 0) i=false
theorem zJ2.tail {L:List Oper} {E:Nat→Option Rec} {i j:Nat} {o:Oper} {r:List Nat} (h:zJ2 L anc E i o (j::r)):zJ2 L anc E i o r:=
 ⟨fun q hq=>h.done q (by simp [hq]),fun pre suf e=>h.after (j::pre) suf (by rw [e]; rfl),fun pre suf e q hq=>h.ahead (j::pre) suf (by rw [e]; rfl) q (by simp [hq])⟩
section
variable {E:Nat→Option Rec} {i:Nat} {o:Oper} {a:Act} {w:World}
 (hcall:xA call) (hoi:nth ops.toList i=some o) (hne:qR P o.op=false) (hEi:E i=none)
 (hrec:∀ j rc pl,E j=some rc→rc.al=some pl→pl.blk<w.heap.size)
 (htm:∀ j o',nth ops.toList j=some o'→∀ t,o'.dst=some t→t∈uU ops.toList o→z8 ((nth anc i).getD 0) j=true∨z8 ((nth anc j).getD 0) i=true)
 (hT1:∀ j rc o' t,E j=some rc→nth ops.toList j=some o'→o'.dst=some t→a.tmps.getD t undef=rc.x)
 (hEff:∀ j o',nth ops.toList j=some o'→qR P o'.op=true→E j=none)
include hcall hoi hne hEi hrec htm hT1 hEff
theorem uB:∀ {r:List Nat} {dl:List (Option Nat)} {effs:List Nat} {s:GS} {ψ:Psi} {hb:zC} {k:Nat},xp P F N call ops.toList anc E w r dl effs s ψ→i∈r→r.Nodup→zJ2 ops.toList anc E i o r →
 kR P ψ→xc ψ s.n→(∀ t∈uU ops.toList o,jg F N ψ dl s.es s.tm a t∨∃ j∈r,z8 ((nth anc i).getD 0) j=true∧E j≠none∧∃ o',nth ops.toList j=some o'∧o'.dst=some t) →
 ((k=0∧hb=s.h)∨(0<k∧s.hs[k - 1]? = some hb))→(∀ q,q<k→∃ e,effs[q]? = some e∧z8 ((nth anc i).getD 0) e=false) →
 (∀ q,zC.fam hb q≠none→q.ix<s.n.ix)→qk ψ (zC.fam hb) w →
 ∃ x w' al,zPA P ops o a w x w' al∧xp P F N call ops.toList anc (zF6 E i ⟨x,al⟩) w' r dl effs s ψ
 | [],_,_,_,_,_,_,_,hi,_,_,_,_,_,_,_,_,_=>by cases hi
 | j::r,dl,effs,s,ψ,hb,k,hgood,hi,hnd,hord,hg,hfr,htmp,hbase,hk,hsup,hrel=>by
  obtain ⟨o',d,ho',hd,hG⟩:=hgood
  rw [List.nodup_cons] at hnd
  by_cases hji:j=i
  · -- here it is
    subst hji
    rw [hoi] at ho'
    injection ho' with ho'; subst ho'
    rw [hne] at hG
    obtain ⟨v,ob,hno,hG⟩:=hG
    simp only [hEi] at hG
    have hask:∀ t∈uU ops.toList o,jg F N ψ dl s.es s.tm a t:=by
     intro t ht
     rcases htmp t ht with h | ⟨q,hq,hb',hE,_⟩
     · exact h
     · rcases List.mem_cons.1 hq with rfl | hq
       · exact absurd hEi hE
       · have:=hord.after [] r rfl q hq
         rw [this] at hb'; cases hb'
    have hE':∀ x al,∀ q∈r,zF6 E j ⟨x,al⟩ q=E q:=fun x al q hq=>xY E _ fun e=>hnd.1 (e ▸ hq)
    have same:∀ x,zH ψ v x→ob=none→xp P F N call ops.toList anc (zF6 E j ⟨x,none⟩) w (j::r) dl effs s ψ:=by
     intro x hx hob
     refine ⟨o,d,hoi,hd,?_⟩
     rw [hne]
     refine ⟨v,ob,hno,?_⟩
     subst hob
     simp only [jd]
     exact ⟨hx,xp.congrE (hE' x none) hG⟩
    have hargs:=zI6 (P:=P) (F:=F) (N:=N) (dl:=dl) hg (l:=o.op.operands.toList) fun t ht=>hask t (zM9 ht)
    rcases hno with ⟨hgu,hv,hob⟩ | ⟨hgu,hno'⟩
    · refine ⟨undef,w,none,.inl ⟨zAV hg hask hgu,rfl,rfl,rfl⟩,?_⟩
      exact same undef (by rw [hv]; exact qF) hob
    · have hw:=zAV hg hask hgu
      have hsim:=fun (hp:zC)=>zL4 (P:=P) (ψ:=ψ) (h:=hp) (n:=s.n) (es:=s.es) (tm:=s.tm) (ty:=o.type) (w:=w) (zIL a) o.op hargs
      rcases hno' with ⟨he,hob⟩ | ⟨he,hob,hsr⟩ | ⟨ob',he,hob⟩
      · have:=hsim s.h
        rw [show yU P (zh P ⟨F,N,dl⟩ o.op) s.es s.tm s.h s.n=.val v from he] at this
        obtain ⟨x,h1,h2⟩:=this
        exact ⟨x,w,none,.inr ⟨hw,h1,.inl ⟨rfl,rfl⟩⟩,same x h2 hob⟩
      · have hex:yU P (zh P ⟨F,N,dl⟩ o.op) s.es s.tm hb s.n=.read v:=by
         rcases hbase with ⟨_,rfl⟩ | ⟨hpos,hhs⟩
         · exact he
         · refine zB6 hsr ?_ hhs
           have hchk:=zRI hk
           omega
        have:=hsim hb
        rw [hex] at this
        obtain ⟨x,h1,h2⟩:=this hrel
        exact ⟨x,w,none,.inr ⟨hw,h1,.inl ⟨rfl,rfl⟩⟩,same x h2 hob⟩
      · have:=hsim s.h
        rw [show yU P (zh P ⟨F,N,dl⟩ o.op) s.es s.tm s.h s.n=.alloc ob' v from he] at this
        obtain ⟨w',x,sz,h1,h2,h3,h4⟩:=this
        have hnone:=hfr s.n (Nat.le_refl _)
        have hle:=Psi.le_upd (ψ:=ψ) (k:=s.n) ⟨w.heap.size,0,sz,fun n=>n⟩ hnone
        obtain ⟨h5,h6⟩:=h3 _ hle (Psi.upd_same _ _ _)
        refine ⟨x,w',some ⟨w.heap.size,0,sz,fun n=>n⟩,.inr ⟨hw,h1,.inr ⟨h2,by rw [h4]⟩⟩,?_⟩
        refine ⟨o,d,hoi,hd,?_⟩
        rw [hne]
        refine ⟨v,ob,.inr ⟨hgu,.inr (.inr ⟨ob',he,hob⟩)⟩,?_⟩
        subst hob
        simp only [jd]
        refine ⟨_,rfl,h5,h6,xp.congrE (hE' x _) (xp.mono hle (fun q _ rc pl hq hpl=>h2.old _ (hrec q rc pl hq hpl)) hG)⟩
  · have hi':i∈r:=by rcases List.mem_cons.1 hi with h | h; exact absurd h.symm hji; exact h
    obtain ⟨pre,suf,hr⟩:=List.append_of_mem hi'
    have hahead:z8 ((nth anc j).getD 0) i=false:=hord.ahead (j::pre) suf (by rw [hr]; rfl) j (by simp)
    have hundone:E j=none→∀ t∈uU ops.toList o,o'.dst≠some t:=by
     intro hE t ht e
     rcases htm j o' ho' t e ht with h | h
     · exact hord.done j (by simp) h hE
     · rw [h] at hahead; cases hahead
    have hexp:∀ k':Key,s.n.ix≤k'.ix→xc ψ k':=fun k' hk' q hq=>hfr q (by omega)
    have htmp':∀ (ψ':Psi) (v:CV),ψ.le ψ'→(∀ rc,E j=some rc→zH ψ' v rc.x)→∀ t∈uU ops.toList o,
     jg F N ψ' (o'.dst::dl) (v::s.es) (zKO d v s.tm) a t∨∃ q∈r,z8 ((nth anc i).getD 0) q=true∧E q≠none∧∃ o'',nth ops.toList q=some o''∧o''.dst=some t:=by
     intro ψ' v hle hv t ht
     by_cases hdt:o'.dst=some t
     · cases hE:E j with
       | none=>exact absurd hdt (hundone hE t ht)
       | some rc=>
        left
        rw [hdt] at hd ⊢
        refine zFT ?_ hd
        rw [hT1 j rc o' t hE ho' hdt]
        exact hv rc hE
     · rcases htmp t ht with h | ⟨q,hq,h1,h2,o'',h3,h4⟩
       · exact .inl (zDy (h.mono hle) hdt hd)
       · right
         rcases List.mem_cons.1 hq with rfl | hq
         · rw [ho'] at h3; injection h3 with h3; subst h3; exact absurd h4 hdt
         · exact ⟨q,hq,h1,h2,o'',h3,h4⟩
    cases he:qR P o'.op with
    | true=>
     have hEj:=hEff j o' ho' he
     rw [he] at hG
     obtain ⟨g1,⟨s1,hs1⟩,g3⟩:=hG
     have hform:∀ s',xi P F N call ops.toList o' d dl s s'→∃ v h' n',s'=s.eff d v h' n':=by
      intro s' hs'
      rcases hs' with ⟨_,rfl⟩ | ⟨_,hs'⟩
      · exact ⟨_,_,_,rfl⟩
      · split at hs' <;> first | exact ⟨_,_,_,hs'⟩ | (obtain ⟨v,h,n,_,hs'⟩:=hs'; exact ⟨_,_,_,hs'⟩) | exact hs'.elim
     have step:∀ s',xi P F N call ops.toList o' d dl s s'→∃ x w' al,zPA P ops o a w x w' al∧xp P F N call ops.toList anc (zF6 E i ⟨x,al⟩) w' r (o'.dst::dl) (j::effs) s' ψ:=by
      intro s' hs'
      have hmono:=zHI hcall hs'
      obtain ⟨v,h',n',rfl⟩:=hform s' hs'
      refine uB (k:=k+1) (hb:=hb) (g3 _ hs') hi' hnd.2 hord.tail hg (hexp _ hmono) (htmp' ψ v (Psi.le_refl _) (by rw [hEj]; simp)) (.inr ⟨by omega,?_⟩) ?_ (fun q hq=>Nat.lt_of_lt_of_le (hsup q hq) hmono) hrel
      · rcases hbase with ⟨rfl,rfl⟩ | ⟨hpos,hh⟩
        · rfl
        · show (s.h::s.hs)[k+1 - 1]? = some hb
          rw [show k+1 - 1=(k - 1)+1 from by omega]
          exact hh
      · intro q hq
        cases q with
        | zero=>
         refine ⟨j,rfl,?_⟩
         cases hb':z8 ((nth anc i).getD 0) j with
         | false=>rfl
         | true=>exact absurd hEj (hord.done j (by simp) hb')
        | succ q=>
         obtain ⟨e,h1,h2⟩:=hk q (by omega)
         exact ⟨e,by simpa using h1,h2⟩
     obtain ⟨x,w',al,hconc,hgood1⟩:=step s1 hs1
     refine ⟨x,w',al,hconc,o',d,ho',hd,?_⟩
     rw [he]
     refine ⟨g1,⟨s1,hs1⟩,fun s' hs'=>?_⟩
     obtain ⟨x',w'',al',hconc',hgood'⟩:=step s' hs'
     obtain ⟨e1,e2,e3⟩:=hconc.unique hconc'
     subst e1 e2 e3
     exact hgood'
    | false=>
     rw [he] at hG
     obtain ⟨v,ob,hno,hG⟩:=hG
     have hold:∀ {x:Value} {w':World} {al:Option Pl},zPA P ops o a w x w' al→∀ B,B<w.heap.size→w'.heap[B]? = w.heap[B]?:=by
      intro x w' al hc B hB
      rcases hc with ⟨_,_,rfl,_⟩ | ⟨_,_,⟨rfl,_⟩ | ⟨hn,_⟩⟩
      · rfl
      · rfl
      · exact hn.old B hB
     have hEj:∀ x al,zF6 E i ⟨x,al⟩ j=E j:=fun x al=>xY E _ hji
     have hk':∀ q,q<k→∃ e,effs[q]? = some e∧z8 ((nth anc i).getD 0) e=false:=hk
     cases ob with
     | none=>
      have hg2:xp P F N call ops.toList anc E w r (o'.dst::dl) effs (s.put d v none) ψ∧∀ rc,E j=some rc→zH ψ v rc.x:=by
       cases hE:E j with
       | none=>rw [hE] at hG; exact ⟨hG,by simp⟩
       | some rc=>rw [hE] at hG; exact ⟨hG.2,fun rc' h=>by injection h with h; subst h; exact hG.1⟩
      obtain ⟨x,w',al,hconc,hgood⟩:=uB (k:=k) (hb:=hb) hg2.1 hi' hnd.2 hord.tail hg hfr (htmp' ψ v (Psi.le_refl _) hg2.2) hbase hk hsup hrel
      refine ⟨x,w',al,hconc,o',d,ho',hd,?_⟩
      rw [he]
      refine ⟨v,none,hno,?_⟩
      rw [hEj]
      cases hE:E j with
      | none=>exact hgood
      | some rc=>exact ⟨hg2.2 rc hE,hgood⟩
     | some ob=>
      have hbase':(k=0∧(if k=0 then yu (some ob) s.n s.h else hb)=(s.put d v (some ob)).h)∨(0<k∧(s.put d v (some ob)).hs[k - 1]? = some (if k=0 then yu (some ob) s.n s.h else hb)):=by
       rcases hbase with ⟨h0,_⟩ | ⟨h0,h1⟩
       · exact .inl ⟨h0,by rw [if_pos h0]; rfl⟩
       · exact .inr ⟨h0,by rw [if_neg (by omega)]; exact h1⟩
      have hfam:∀ q,q≠s.n→zC.fam (if k=0 then yu (some ob) s.n s.h else hb) q=zC.fam hb q:=by
       intro q hq
       rcases hbase with ⟨h0,h1⟩ | ⟨h0,_⟩
       · rw [if_pos h0,z6,Fam.upd_other _ _ hq,h1]
       · rw [if_neg (by omega)]
      cases hE:E j with
      | none=>
       simp only [hE] at hG
       have hG:xp P F N call ops.toList anc E w r (o'.dst::dl) effs (s.put d v (some ob)) ψ:=hG
       have hroom0:(s.put d v (some ob)).n.room:=xp.room hcall hG
       have hroom:s.n.room:=Key.room_of_succ (k:=s.n) hroom0
       have hix:=Key.ix_succ hroom
       obtain ⟨x,w',al,hconc,hgood⟩:=uB (k:=k) (hb:=if k=0 then yu (some ob) s.n s.h else hb) hG hi' hnd.2 hord.tail hg (hexp s.n.succ (by omega)) (htmp' ψ v (Psi.le_refl _) (by rw [hE]; simp)) hbase' hk
        (fun q hq=>by
          show q.ix<s.n.succ.ix
          by_cases e:q=s.n
          · subst e; omega
          · rw [hfam q e] at hq
            have:=hsup q hq
            omega)
        (fun q ob' p hq hp=>by
          by_cases e:q=s.n
          · subst e; rw [hfr s.n (Nat.le_refl _)] at hp; cases hp
          · rw [hfam q e] at hq
            exact hrel q ob' p hq hp)
       refine ⟨x,w',al,hconc,o',d,ho',hd,?_⟩
       rw [he]
       refine ⟨v,some ob,hno,?_⟩
       rw [hEj,hE]
       exact hgood
      | some rc=>
       simp only [hE] at hG
       obtain ⟨pl,g1,g2,g3,g4⟩:=hG
       have hroom0:(s.put d v (some ob)).n.room:=xp.room hcall g4
       have hroom:s.n.room:=Key.room_of_succ (k:=s.n) hroom0
       have hix:=Key.ix_succ hroom
       have hle:=Psi.le_upd (ψ:=ψ) (k:=s.n) pl (hfr s.n (Nat.le_refl _))
       obtain ⟨x,w',al,hconc,hgood⟩:=uB (k:=k) (hb:=if k=0 then yu (some ob) s.n s.h else hb) g4 hi' hnd.2 hord.tail (hg.mono hle)
        (fun q hq=>by
          have hq:s.n.succ.ix≤q.ix:=hq
          have:q≠s.n:=fun e=>by subst e; omega
          rw [Psi.upd_other _ _ this]
          exact hfr q (by omega))
        (htmp' _ v hle (fun rc' h=>by rw [hE] at h; injection h with h; subst h; exact g2)) hbase' hk
        (fun q hq=>by
          show q.ix<s.n.succ.ix
          by_cases e:q=s.n
          · subst e; omega
          · rw [hfam q e] at hq
            have:=hsup q hq
            omega)
        (fun q ob' p hq hp=>by
          by_cases e:q=s.n
          · subst e
            rw [Psi.upd_same] at hp
            injection hp with hp; subst hp
            rcases hbase with ⟨h0,h1⟩ | ⟨h0,_⟩
            · rw [if_pos h0,z6,Fam.upd_same] at hq
              injection hq with hq; subst hq
              exact g3
            · rw [if_neg (by omega)] at hq
              have:=hsup s.n (by rw [hq]; simp)
              omega
          · rw [hfam q e] at hq
            rw [Psi.upd_other _ _ e] at hp
            exact (hrel q ob' p hq hp).mono hle)
       refine ⟨x,w',al,hconc,o',d,ho',hd,?_⟩
       rw [he]
       refine ⟨v,some ob,hno,?_⟩
       rw [hEj,hE]
       exact ⟨pl,g1,g2,xM.congr (hold hconc _ (hrec j rc pl hE g1)) g3,hgood⟩
end
end
end Go.Ev
namespace Go.Ev
variable [Sym]
noncomputable section
variable {P:Program} {F N:Nat} {call:ym} {L:List Oper} {anc:List Nat}
variable [SymFact P]
theorem zLn.unique {o:Oper} {dl:List (Option Nat)} {chk:Nat} {s:GS} {v v':CV} {ob ob':Option CObj} (h:zLn P F N L o dl chk s v ob) (h':zLn P F N L o dl chk s v' ob'):v=v'∧ob=ob':=by
 rcases h with ⟨g,e1,e2⟩ | ⟨g,h⟩
 · rcases h' with ⟨_,e3,e4⟩ | ⟨g',_⟩
   · exact ⟨e1.trans e3.symm,e2.trans e4.symm⟩
   · rw [g] at g'; cases g'
 · rcases h' with ⟨g',_⟩ | ⟨_,h'⟩
   · rw [g] at g'; cases g'
   · rcases h with ⟨e,rfl⟩ | ⟨e,rfl,_⟩ | ⟨x,e,rfl⟩ <;> rcases h' with ⟨e',rfl⟩ | ⟨e',rfl,_⟩ | ⟨y,e',rfl⟩ <;> rw [e] at e' <;> first | cases e' | skip
     · exact ⟨rfl,rfl⟩
     · exact ⟨rfl,rfl⟩
     · exact ⟨rfl,rfl⟩
structure Inv (P:Program) (F N:Nat) (call:ym) (L:List Oper) (anc:List Nat) (ψ₀:Psi) (g₀:Fam) (n₀:Key) (w₀:World) (R₀:R) (E:Nat→Option Rec) (r:List Nat) (dl:List (Option Nat)) (effs:List Nat)
 (s:GS) (ψ:Psi) (a:Act) (w:World):Prop where
 good:xp P F N call L anc E w r dl effs s ψ
 clean:zf (j9 P F N call L anc r dl effs s)
 leaf:∀ (O:R→Prop),(∀ x y,O x→O (.fork x y))→(∀ x y,O y→O (.fork x y))→O (j9 P F N call L anc r dl effs s)→O R₀
 rel:Rel ψ (zC.fam s.h) w
 glob:kR P ψ
 fresh:xc ψ s.n
 dfr:kc P ψ s.ds a.defers
 size:N≤a.tmps.size
 sub:∀ j,E j≠none→j∈r∧∀ o,nth L j=some o→qR P o.op=false
 t1:∀ j rc o t,E j=some rc→nth L j=some o→o.dst=some t→a.tmps.getD t undef=rc.x
 t2:∀ t,(∀ j o,E j≠none→nth L j=some o→o.dst≠some t)→jg F N ψ dl s.es s.tm a t
 recs:∀ j rc pl,E j=some rc→rc.al=some pl→pl.blk<w.heap.size∧w₀.heap.size≤pl.blk∧∀ k o p,zC.fam s.h k=some o→ψ k=some p→p.blk≠pl.blk
 apart:∀ j j' rc rc' pl pl',E j=some rc→E j'=some rc'→rc.al=some pl→rc'.al=some pl'→pl.blk=pl'.blk→j=j'
 post:yH ψ₀ g₀ n₀ w₀ ψ (zC.fam s.h) s.n w
def zGL (E:Nat→Option Rec) (i:Nat):Nat→Option Rec:=fun j=>if j=i then none else E j
theorem zBJ (E:Nat→Option Rec) {i j:Nat} (h:j≠i):zGL E i j=E j:=by simp [zGL,h]
theorem qp {E:Nat→Option Rec} {i j:Nat} {rc:Rec} (h:zGL E i j=some rc):j≠i∧E j=some rc:=by
 unfold zGL at h
 split at h
 · cases h
 · exact ⟨by assumption,h⟩
section
variable {ψ₀:Psi} {g₀:Fam} {n₀:Key} {w₀:World} {R₀:R}
theorem zQg (hcall:xA call) {E:Nat→Option Rec} {i:Nat} {r:List Nat} {dl:List (Option Nat)} {effs:List Nat} {s:GS} {ψ:Psi} {a:Act} {w:World} {rc:Rec} (hnd:(i::r).Nodup)
 (h:Inv P F N call L anc ψ₀ g₀ n₀ w₀ R₀ E (i::r) dl effs s ψ a w) (hE:E i=some rc) :
 ∃ o s' ψ',nth L i=some o∧Inv P F N call L anc ψ₀ g₀ n₀ w₀ R₀ (zGL E i) r (o.dst::dl) effs s' ψ' a w:=by
 obtain ⟨o,d,ho,hd,hG⟩:=h.good
 have hne:qR P o.op=false:=(h.sub i (by rw [hE]; simp)).2 o ho
 rw [hne] at hG
 obtain ⟨v,ob,hno,hG⟩:=hG
 simp only [hE] at hG
 obtain ⟨d',v',ob',hd',hno',heq⟩:=zN3 ho hne h.clean
 rw [hd] at hd'
 injection hd' with hd'
 obtain ⟨e1,e2⟩:=hno.unique hno'
 subst hd' e1 e2
 rw [List.nodup_cons] at hnd
 have hsame:∀ j∈r,zGL E i j=E j:=fun j hj=>zBJ E fun e=>hnd.1 (e ▸ hj)
 have hsub:∀ j,zGL E i j≠none→j∈r∧∀ o,nth L j=some o→qR P o.op=false:=by
  intro j hj
  cases hq:zGL E i j with
  | none=>exact absurd hq hj
  | some q=>
   obtain ⟨h1,h2⟩:=qp hq
   obtain ⟨h3,h4⟩:=h.sub j (by rw [h2]; simp)
   rcases List.mem_cons.1 h3 with h3 | h3
   · exact absurd h3 h1
   · exact ⟨h3,h4⟩
 have ht2:∀ (ψ':Psi),ψ.le ψ'→zH ψ' v rc.x→∀ t,(∀ j o,zGL E i j≠none→nth L j=some o→o.dst≠some t)→jg F N ψ' (o.dst::dl) (v::s.es) (zKO d v s.tm) a t:=by
  intro ψ' hle hv t ht
  by_cases hdt:o.dst=some t
  · have hd':=hd
    rw [hdt] at hd' ⊢
    refine zFT ?_ hd'
    rw [h.t1 i rc o t hE ho hdt]; exact hv
  · refine zDy ((h.t2 t fun j o' hj ho'=>?_).mono hle) hdt hd
    by_cases hji:j=i
    · subst hji
      rw [ho] at ho'; injection ho' with ho'; subst ho'; exact hdt
    · exact ht j o' (by rw [zBJ E hji]; exact hj) ho'
 have hclean:=h.clean
 rw [heq] at hclean
 have hleaf:=h.leaf
 rw [heq] at hleaf
 cases ob with
 | none=>
  exact ⟨o,s.put d v none,ψ,ho,⟨xp.congrE hsame hG.2,hclean,hleaf,h.rel,h.glob,h.fresh,h.dfr,h.size,hsub,fun j q o' t hj=>h.t1 j q o' t (qp hj).2,
   ht2 ψ (Psi.le_refl _) hG.1,fun j q pl hj=>h.recs j q pl (qp hj).2,fun j j' q q' pl pl' hj hj'=>h.apart j j' q q' pl pl' (qp hj).2 (qp hj').2,h.post⟩⟩
 | some ob=>
  obtain ⟨pl,g1,g2,g3,g4⟩:=hG
  have hroom0:(s.put d v (some ob)).n.room:=xp.room hcall g4
  have hroom:s.n.room:=Key.room_of_succ (k:=s.n) hroom0
  have hix:=Key.ix_succ hroom
  have hnone:=h.fresh s.n (Nat.le_refl _)
  have hle:=Psi.le_upd (ψ:=ψ) (k:=s.n) pl hnone
  obtain ⟨r1,r2,r3⟩:=h.recs i rc pl hE g1
  have hgn:∀ j q,zC.fam s.h j=some q→j≠s.n:=by
   intro j q hj e
   subst e
   obtain ⟨p,hp⟩:=h.rel.tot _ q hj
   rw [hnone] at hp; cases hp
  have hrel:Rel (ψ.upd s.n pl) (Fam.upd (zC.fam s.h) s.n (some ob)) w:=by
   refine ⟨fun j q p hq hp=>?_,fun j q hq=>?_,fun k₁ k₂ o₁ o₂ p₁ p₂ h1 h2 h3 h4 hr e=>?_⟩
   · by_cases hj:j=s.n
     · subst hj
       rw [Fam.upd_same] at hq; rw [Psi.upd_same] at hp
       injection hq with hq; injection hp with hp
       subst hq hp; exact g3
     · rw [Fam.upd_other _ _ hj] at hq; rw [Psi.upd_other _ _ hj] at hp
       exact (h.rel.on j q p hq hp).mono hle
   · by_cases hj:j=s.n
     · subst hj; exact ⟨pl,Psi.upd_same _ _ _⟩
     · rw [Fam.upd_other _ _ hj] at hq
       obtain ⟨p,hp⟩:=h.rel.tot j q hq
       exact ⟨p,hle _ _ hp⟩
   · by_cases j1:k₁=s.n <;> by_cases j2:k₂=s.n
     · rw [j1,j2]
     · exfalso
       subst j1
       rw [Psi.upd_same] at h3; injection h3 with h3; subst h3
       rw [Fam.upd_other _ _ j2] at h2; rw [Psi.upd_other _ _ j2] at h4
       exact r3 k₂ o₂ p₂ h2 h4 e.symm
     · exfalso
       subst j2
       rw [Psi.upd_same] at h4; injection h4 with h4; subst h4
       rw [Fam.upd_other _ _ j1] at h1; rw [Psi.upd_other _ _ j1] at h3
       exact r3 k₁ o₁ p₁ h1 h3 e
     · rw [Fam.upd_other _ _ j1] at h1; rw [Psi.upd_other _ _ j1] at h3
       rw [Fam.upd_other _ _ j2] at h2; rw [Psi.upd_other _ _ j2] at h4
       exact h.rel.inj k₁ k₂ o₁ o₂ p₁ p₂ h1 h2 h3 h4 hr e
  have hfam:zC.fam (s.put d v (some ob)).h=Fam.upd (zC.fam s.h) s.n (some ob):=z6 _ _ _
  have hpm:=h.post.mono
  refine ⟨o,s.put d v (some ob),ψ.upd s.n pl,ho,⟨xp.congrE hsame g4,hclean,hleaf,by rw [hfam]; exact hrel,h.glob.mono hle,fun q hq=>?_,h.dfr.mono hle,h.size,hsub,fun j q o' t hj=>h.t1 j q o' t (qp hj).2,
   ht2 _ hle g2,fun j q pl' hj hpl=>?_,fun j j' q q' pl pl' hj hj'=>h.apart j j' q q' pl pl' (qp hj).2 (qp hj').2,?_⟩⟩
  · have hq:s.n.succ.ix≤q.ix:=hq
    have:q≠s.n:=fun e=>by subst e; omega
    rw [Psi.upd_other _ _ this]
    exact h.fresh q (by omega)
  · obtain ⟨hji,hj⟩:=qp hj
    obtain ⟨q1,q2,q3⟩:=h.recs j q pl' hj hpl
    refine ⟨q1,q2,fun k ob' p hk hp e=>?_⟩
    rw [hfam] at hk
    by_cases hkn:k=s.n
    · subst hkn
      rw [Psi.upd_same] at hp; injection hp with hp; subst hp
      exact hji (h.apart i j rc q pl pl' hE hj g1 hpl e).symm
    · rw [Fam.upd_other _ _ hkn] at hk; rw [Psi.upd_other _ _ hkn] at hp
      exact q3 k ob' p hk hp e
  · rw [hfam]
    refine ⟨Psi.le_trans h.post.ext hle,fun k hk=>?_,hrel,h.post.frame,fun k q p hk hro hp=>?_,h.post.size,h.post.tape,h.post.os,h.post.output,?_,fun k q p hk hp=>?_⟩
    · have hk':k≠s.n:=by
       rintro rfl
       rcases hk with hk | hk
       · omega
       · have:s.n.succ.ix≤s.n.ix:=hk
         omega
      rw [Psi.upd_other _ _ hk']
      refine h.post.out k ?_
      rcases hk with hk | hk
      · exact .inl hk
      · have:s.n.succ.ix≤k.ix:=hk
        exact .inr (by omega)
    · by_cases hkn:k=s.n
      · subst hkn
        rw [Psi.upd_same] at hp; injection hp with hp; subst hp
        exact .inr r2
      · rw [Fam.upd_other _ _ hkn] at hk; rw [Psi.upd_other _ _ hkn] at hp
        exact h.post.img k q p hk hro hp
    · show n₀.ix≤s.n.succ.ix
      omega
    · by_cases hkn:k=s.n
      · subst hkn
        rw [Psi.upd_same] at hp; injection hp with hp; subst hp
        exact .inr r2
      · rw [Fam.upd_other _ _ hkn] at hk; rw [Psi.upd_other _ _ hkn] at hp
        exact h.post.imgA k q p hk hp
end
end
end Go.Ev
namespace Go.Ev
variable [Sym]
noncomputable section
variable {P:Program}
variable [SymFact P]
theorem zJF:∀ (m:Nat) (l:List Nat),l.Nodup→(∀ i∈l,i<m)→l.length≤m
 | 0,l,_,h=>by
  cases l with
  | nil=>exact Nat.le_refl _
  | cons x l=>exact absurd (h x (by simp)) (Nat.not_lt_zero _)
 | m+1,l,hn,h=>by
  have h1:(l.erase m).Nodup:=hn.erase m
  have h2:∀ i∈l.erase m,i<m:=by
   intro i hi
   obtain ⟨hne,hi⟩:=(List.Nodup.mem_erase_iff hn).1 hi
   have:=h i hi
   omega
  have h3:=zJF m _ h1 h2
  rw [List.length_erase] at h3
  split at h3 <;> omega
theorem zPU {m:Nat} {l:List Nat} (hn:l.Nodup) (h:∀ i∈l,i<m) (hl:l.length=m) {i:Nat} (hi:i<m):i∈l:=by
 by_cases hm:i∈l
 · exact hm
 · have:=zJF m (i::l) (List.nodup_cons.2 ⟨hm,hn⟩) (fun j hj=>by
    rcases List.mem_cons.1 hj with rfl | hj
    · exact hi
    · exact h j hj)
   simp only [List.length_cons] at this
   omega
theorem zCr {l:List Nat} {i:Nat}:l.contains i=true ↔ i∈l:=by simp
theorem zJw {l:List Nat} {i:Nat}:l.contains i=false ↔ i ∉ l:=by simp
theorem vH {m:Nat}:∀ {order done:List Nat},zFE m done order=true→done.Nodup→(∀ i∈done,i<m) →
 (done.reverse++order).Nodup∧(∀ i∈done.reverse++order,i<m)∧(done.reverse++order).length=m
 | [],done,h,hn,hl=>by
  unfold zFE at h
  refine ⟨by simpa using ((List.reverse_perm done).nodup_iff.2 hn),by simpa using hl,?_⟩
  simp [yD h]
 | i::r,done,h,hn,hl=>by
  unfold zFE at h
  rw [Bool.and_eq_true,Bool.and_eq_true] at h
  have hi:i ∉ done:=by
   have:=h.1.1
   rw [Bool.not_eq_true'] at this
   exact zJw.1 this
  have hlt:i<m:=zL h.1.2
  have:=vH h.2 (List.nodup_cons.2 ⟨hi,hn⟩) (fun j hj=>by
   rcases List.mem_cons.1 hj with rfl | hj
   · exact hlt
   · exact hl j hj)
  rw [List.reverse_cons,List.append_assoc] at this
  exact this
theorem zFB {ops:List Oper} {anc:List Nat}:∀ {order done:List Nat},zOz P ops anc done order=true→∀ {pre suf:List Nat} {i:Nat},order=pre++i::suf →
 ∃ o,nth ops i=some o∧(qR P o.op=true→(∀ j∈done,z8 ((nth anc i).getD 0) j=true)∧∀ j∈pre,z8 ((nth anc i).getD 0) j=true)
 | [],_,_,pre,suf,i,e=>by cases pre <;> cases e
 | k::r,done,h,pre,suf,i,e=>by
  unfold zOz at h
  rw [Bool.and_eq_true] at h
  cases pre with
  | nil=>
   injection e with e1 e2
   subst e1
   have h1:=h.1
   split at h1
   · rename_i o ho
     refine ⟨o,ho,fun he=>⟨fun j hj=>?_,by simp⟩⟩
     rw [if_pos he] at h1
     exact List.all_eq_true.1 h1 j hj
   · cases h1
  | cons p pre=>
   injection e with e1 e2
   subst e1
   obtain ⟨o,ho,hh⟩:=zFB h.2 e2
   refine ⟨o,ho,fun he=>?_⟩
   obtain ⟨h3,h4⟩:=hh he
   exact ⟨fun j hj=>h3 j (by simp [hj]),fun j hj=>by
    rcases List.mem_cons.1 hj with rfl | hj
    · exact h3 j (by simp)
    · exact h4 j hj⟩
theorem zGb {anc:List Nat} {m:Nat}:∀ {order done:List Nat},zNs anc m done order=true→∀ {pre suf:List Nat} {i:Nat},order=pre++i::suf →
 ∀ j,j<m→z8 ((nth anc i).getD 0) j=true→j∈done∨j∈pre
 | [],_,_,pre,suf,i,e=>by cases pre <;> cases e
 | k::r,done,h,pre,suf,i,e=>by
  unfold zNs at h
  rw [Bool.and_eq_true] at h
  intro j hj hb
  cases pre with
  | nil=>
   injection e with e1 e2
   subst e1
   have:=List.all_eq_true.1 h.1 j (List.mem_range.2 hj)
   rw [hb] at this
   exact .inl (zCr.1 (by simpa using this))
  | cons p pre=>
   injection e with e1 e2
   subst e1
   rcases zGb h.2 e2 j hj hb with h1 | h1
   · rcases List.mem_cons.1 h1 with rfl | h1
     · exact .inr (by simp)
     · exact .inl h1
   · exact .inr (by simp [h1])
theorem uS:∀ {ops:List Oper} {k:Nat},zCa ops k=true→∀ {i:Nat} {o:Oper},nth ops i=some o→∀ e∈o.after,Region.binds .any e=true→e.on<k+i
 | [],_,_,i,o,ho=>by rw [yg] at ho; simp at ho
 | x::r,k,h,i,o,ho=>by
  unfold zCa at h
  rw [Bool.and_eq_true] at h
  intro e he hb
  cases i with
  | zero=>
   rw [yg] at ho
   simp only [List.getElem?_cons_zero,Option.some.injEq] at ho
   subst ho
   have:=List.all_eq_true.1 h.1 e (by simpa using he)
   rw [hb] at this
   have:=zL (by simpa using this:Nat.ble (Nat.succ e.on) k=true)
   omega
  | succ i=>
   have ho':nth r i=some o:=by rw [yg] at ho ⊢; simpa using ho
   have:=uS h.2 ho' e he hb
   omega
theorem vj (m t:Nat):z8 m t=m.testBit t:=by
 unfold z8 Nat.testBit
 rw [Nat.and_comm,Nat.and_one_is_mod]
 have h:∀ x:Nat,Nat.beq (x % 2) 1=(x % 2 != 0):=by
  intro x
  rcases Nat.mod_two_eq_zero_or_one x with e | e <;> rw [e] <;> rfl
 exact h (m >>> t)
theorem zAb (t:Nat):z8 0 t=false:=by rw [vj]; simp
theorem zHz (m n t:Nat):z8 (Nat.lor m n) t=(z8 m t || z8 n t):=by rw [vj,vj,vj]; exact Nat.testBit_or m n t
theorem zMo (k t:Nat):z8 (Nat.shiftLeft 1 k) t=decide (k=t):=by rw [vj]; show (1 <<< k).testBit t=_; rw [Nat.one_shiftLeft]; exact Nat.testBit_two_pow
theorem zBr {acc:List Nat} {j:Nat}:∀ {l:List Edge},z8 (zAz acc l) j=true→∃ e∈l,Region.binds .any e=true∧(e.on=j∨z8 ((nth acc e.on).getD 0) j=true)
 | [],h=>by rw [show zAz acc []=0 from rfl,zAb] at h; cases h
 | e::l,h=>by
  unfold zAz at h
  split at h
  · rename_i hb
    rw [zHz,zHz,zMo,Bool.or_eq_true,Bool.or_eq_true] at h
    rcases h with (h | h) | h
    · exact ⟨e,by simp,hb,.inl (of_decide_eq_true h)⟩
    · exact ⟨e,by simp,hb,.inr h⟩
    · obtain ⟨e',h1,h2⟩:=zBr h
      exact ⟨e',by simp [h1],h2⟩
  · obtain ⟨e',h1,h2⟩:=zBr h
    exact ⟨e',by simp [h1],h2⟩
theorem zJA:∀ (ops:List Oper) (acc:List Nat),∃ m,wx acc ops=acc++m
 | [],acc=>⟨[],by simp [wx]⟩
 | o::r,acc=>by
  obtain ⟨m,hm⟩:=zJA r (acc++[zAz acc o.after.toList])
  exact ⟨zAz acc o.after.toList::m,by rw [wx,hm]; simp⟩
theorem zHl {j:Nat}:∀ {ops:List Oper} {acc:List Nat} {i:Nat} {o:Oper},nth ops i=some o→z8 ((nth (wx acc ops) (acc.length+i)).getD 0) j=true →
 ∃ e∈o.after,Region.binds .any e=true∧(e.on=j∨z8 ((nth (wx acc ops) e.on).getD 0) j=true)
 | [],_,i,o,ho,_=>by rw [yg] at ho; simp at ho
 | x::r,acc,i,o,ho,h=>by
  obtain ⟨m,hm⟩:=zJA r (acc++[zAz acc x.after.toList])
  cases i with
  | zero=>
   rw [yg] at ho
   simp only [List.getElem?_cons_zero,Option.some.injEq] at ho
   subst ho
   have hx:nth (wx acc (x::r)) (acc.length+0)=some (zAz acc x.after.toList):=by
    rw [wx,hm,yg]; simp
   rw [hx] at h
   obtain ⟨e,h1,h2,h3⟩:=zBr h
   refine ⟨e,by simpa using h1,h2,h3.imp id fun h3=>?_⟩
   have:nth (wx acc (x::r)) e.on=nth acc e.on∨nth acc e.on=none:=by
    rw [wx,hm,yg,yg]
    rcases Nat.lt_or_ge e.on acc.length with hlt | hge
    · left; rw [List.append_assoc,List.getElem?_append_left hlt]
    · right; exact List.getElem?_eq_none hge
   rcases this with this | this
   · rw [this]; exact h3
   · rw [this] at h3
     rw [show (Option.getD (none:Option Nat) 0)=0 from rfl,zAb] at h3; cases h3
  | succ i=>
   have ho':nth r i=some o:=by rw [yg] at ho ⊢; simpa using ho
   have hl:(acc++[zAz acc x.after.toList]).length+i=acc.length+(i+1):=by simp; omega
   rw [wx] at h ⊢
   rw [← hl] at h
   exact zHl ho' h
theorem zFd {ops:List Oper} {S:Nat→Prop} (hed:zCa ops 0=true) (hS:∀ i o,S i→nth ops i=some o→∀ e∈o.after,Region.binds .any e=true→S e.on) :
 ∀ (i:Nat),∀ o,nth ops i=some o→(∀ e∈o.after,Region.binds .any e=true→S e.on)→∀ j,z8 ((nth (wx [] ops) i).getD 0) j=true→S j:=by
 intro i
 induction i using Nat.strongRecOn with
 | ind i ih=>
  intro o ho hd j hj
  have hj':z8 ((nth (wx [] ops) (([]:List Nat).length+i)).getD 0) j=true:=by simpa using hj
  obtain ⟨e,h1,h2,h3⟩:=zHl ho hj'
  have hs:=hd e h1 h2
  rcases h3 with rfl | h3
  · exact hs
  · have hlt:=uS hed ho e h1 h2
    have hi:i<ops.length:=by
     rw [yg] at ho
     rcases Nat.lt_or_ge i ops.length with h | h
     · exact h
     · rw [List.getElem?_eq_none h] at ho; cases ho
    have ho':∃ o',nth ops e.on=some o':=by rw [yg]; exact ⟨_,List.getElem?_eq_getElem (by omega)⟩
    obtain ⟨o',ho'⟩:=ho'
    exact ih e.on (by omega) o' ho' (hS e.on o' hs ho') j h3
theorem zEa {ops:List Oper} {anc:List Nat} (h:zME ops anc ops.length=true) {i j:Nat} {x y:Oper} (hi:nth ops i=some x) (hj:nth ops j=some y) {t:Nat} (ht:x.dst=some t) :
 (i=j∨y.dst≠some t)∧(t∈uU ops y→i≠j∧(z8 ((nth anc j).getD 0) i=true∨z8 ((nth anc i).getD 0) j=true)):=by
 have lt:∀ {k:Nat} {z:Oper},nth ops k=some z→k<ops.length:=by
  intro k z hk
  rw [yg] at hk
  rcases Nat.lt_or_ge k ops.length with h | h
  · exact h
  · rw [List.getElem?_eq_none h] at hk; cases hk
 unfold zME at h
 have h1:=List.all_eq_true.1 (List.all_eq_true.1 h i (List.mem_range.2 (lt hi))) j (List.mem_range.2 (lt hj))
 simp only [hi,hj,ht] at h1
 rw [Bool.and_eq_true,Bool.or_eq_true,Bool.or_eq_true] at h1
 refine ⟨h1.1.imp yD (fun h=>by simpa using h),fun hm=>?_⟩
 rcases h1.2 with h2 | h2
 · have:(uU ops y).contains t=true:=zCr.2 hm
   rw [this] at h2; cases h2
 · rw [Bool.and_eq_true,Bool.or_eq_true] at h2
   refine ⟨fun e=>?_,h2.2⟩
   have:=h2.1
   rw [e,qe] at this; cases this
end
end Go.Ev
namespace Go.Ev
variable [Sym]
noncomputable section
variable {P:Program} {F N:Nat} {call:ym} {anc:List Nat}
variable [SymFact P]
theorem zCV {ops:Array Oper} {Q:Exit→Act→World→Prop} {i:Nat} {o:Oper} {a:Act} {w:World} {K:Act→World→Prop} (ho:ops[i]? = some o) (hw:Region.wanted o (yielded ops a.tmps)=true)
 (h:vY P false o a w K):wpOp P ops Q i K a w:=by
 unfold wpOp
 simp only [ho,hw,if_true]
 refine .inl ?_
 unfold Oper.wp
 unfold vY at h
 generalize (execOp a.eval o).run P w=r at h ⊢
 cases r with
 | halt x w'=>exact h.elim
 | ok x w'=>
  cases x <;> first
   | exact h
   | exact Calls.mono h (fun e w' ⟨v,e1,e2⟩=>by subst e1; exact e2)
   | exact absurd h.1 (by simp)
   | exact h.elim
theorem zCO {ops:Array Oper} {Q:Exit→Act→World→Prop} {i:Nat} {o:Oper} {a:Act} {w:World} {K:Act→World→Prop} (ho:ops[i]? = some o) (hw:Region.wanted o (yielded ops a.tmps)=false)
 (h:K (a.put o.dst undef) w):wpOp P ops Q i K a w:=by
 unfold wpOp
 simp only [ho,hw,Bool.false_eq_true,if_false]
 exact h
theorem jg.put {ψ:Psi} {dl:List (Option Nat)} {es:List CV} {tm:Tm} {a:Act} {t:Nat} {dst:Option Nat} {x:Value} (hne:dst≠some t) (h:jg F N ψ dl es tm a t):jg F N ψ dl es tm (a.put dst x) t:=by
 unfold jg at h ⊢
 rw [x9 _ _ _ hne]
 exact h
theorem zSc {ψ:Psi} {g:Fam} {n:Key} {w w':World} (h:Rel ψ g w) (hw:New w w'):yH ψ g n w ψ g n w':=by
 refine ⟨Psi.le_refl _,fun _ _=>rfl,⟨fun k o p h1 h2=>?_,h.tot,h.inj⟩,fun B hB _=>hw.old B hB,fun k o p h1 h2 h3=>.inl ⟨k,o,p,h1,h2,h3,rfl⟩,by rw [hw.size]; omega,hw.tape,hw.os,hw.output,Nat.le_refl _,
  fun k o p h1 h3=>.inl ⟨k,o,p,h1,h3,rfl⟩⟩
 have:=h.on k o p h1 h2
 exact xM.congr (hw.old _ this.lt) this
section
variable {ops:Array Oper} {ψ₀:Psi} {g₀:Fam} {n₀:Key} {w₀:World} {R₀:R} {Q:Exit→Act→World→Prop}
theorem zR2 {E:Nat→Option Rec} {i:Nat} {r:List Nat} {dl:List (Option Nat)} {effs:List Nat} {s:GS} {ψ:Psi} {a:Act} {w:World} {o:Oper} {d:Option Loc}
 (h:Inv P F N call ops.toList anc ψ₀ g₀ n₀ w₀ R₀ E (i::r) dl effs s ψ a w) (hE:E i=none) (hd:xT F N o.dst=some d)
 (hdst:∀ j o',E j≠none→nth ops.toList j=some o'→∀ t,o'.dst=some t→o.dst≠some t)
 {v:CV} {x:Value} {h':zC} {n':Key} {ψ':Psi} {w':World} (hp:yH ψ (zC.fam s.h) s.n w ψ' (zC.fam h') n' w') (hv:zH ψ' v x)
 (hgood:xp P F N call ops.toList anc E w r (o.dst::dl) (i::effs) (s.eff d v h' n') ψ) (hclean:zf (j9 P F N call ops.toList anc r (o.dst::dl) (i::effs) (s.eff d v h' n')))
 (hleaf:∀ (O:R→Prop),(∀ x y,O x→O (.fork x y))→(∀ x y,O y→O (.fork x y))→O (j9 P F N call ops.toList anc r (o.dst::dl) (i::effs) (s.eff d v h' n'))→O (j9 P F N call ops.toList anc (i::r) dl effs s)) :
 Inv P F N call ops.toList anc ψ₀ g₀ n₀ w₀ R₀ E r (o.dst::dl) (i::effs) (s.eff d v h' n') ψ' (a.put o.dst x) w':=by
 have hrecs:∀ j rc pl,E j=some rc→rc.al=some pl→w'.heap[pl.blk]? = w.heap[pl.blk]?:=by
  intro j rc pl h1 h2
  obtain ⟨r1,_,r3⟩:=h.recs j rc pl h1 h2
  exact hp.frame pl.blk r1 fun k o p hk _ hp'=>r3 k o p hk hp'
 refine ⟨xp.mono hp.ext (fun j _ rc pl h1 h2=>hrecs j rc pl h1 h2) hgood,hclean,fun O f1 f2 ho=>h.leaf O f1 f2 (hleaf O f1 f2 ho),hp.rel,h.glob.mono hp.ext,hp.fresh h.fresh,?_,?_,?_,?_,?_,?_,h.apart,h.post.trans hp⟩
 · rw [zBo]; exact h.dfr.mono hp.ext
 · rw [zEZ]; exact h.size
 · intro j hj
   obtain ⟨h1,h2⟩:=h.sub j hj
   rcases List.mem_cons.1 h1 with rfl | h1
   · exact absurd hE hj
   · exact ⟨h1,h2⟩
 · intro j rc o' t hj ho' ht
   rw [x9 _ _ _ (hdst j o' (by rw [hj]; simp) ho' t ht)]
   exact h.t1 j rc o' t hj ho' ht
 · intro t ht
   by_cases hdt:o.dst=some t
   · rw [hdt] at hd ⊢
     refine zFT ?_ hd
     rcases qy hd with ⟨e,_⟩ | ⟨u,e,hu,_⟩
     · cases e
     · injection e with e; subst e
       rw [kW _ _ _ (Nat.lt_of_lt_of_le hu h.size)]
       exact hv
   · exact jg.put hdt (zDy ((h.t2 t ht).mono hp.ext) hdt hd)
 · intro j rc pl h1 h2
   obtain ⟨r1,r2,r3⟩:=h.recs j rc pl h1 h2
   refine ⟨Nat.lt_of_lt_of_le r1 hp.size,r2,fun k q p hk hp' e=>?_⟩
   rcases hp.imgA k q p hk hp' with ⟨k₀,o₀,p₀,g1,g2,g3⟩ | hge
   · exact r3 k₀ o₀ p₀ g1 g2 (g3.trans e)
   · omega
theorem zKR (hcall:yP P call) {E:Nat→Option Rec} {i:Nat} {r:List Nat} {dl:List (Option Nat)} {effs:List Nat} {s:GS} {ψ:Psi} {a:Act} {w:World} {o:Oper}
 (h:Inv P F N call ops.toList anc ψ₀ g₀ n₀ w₀ R₀ E (i::r) dl effs s ψ a w) (hE:E i=none) (ho:nth ops.toList i=some o) (he:qR P o.op=true)
 (htm:∀ j o',E j≠none→nth ops.toList j=some o'→∀ t,o'.dst=some t→t ∉ uU ops.toList o)
 (hdst:∀ j o',E j≠none→nth ops.toList j=some o'→∀ t,o'.dst=some t→o.dst≠some t)
 {K:Act→World→Prop} (hK:∀ s' ψ' a' w',Inv P F N call ops.toList anc ψ₀ g₀ n₀ w₀ R₀ E r (o.dst::dl) (i::effs) s' ψ' a' w'→K a' w'):wpOp P ops Q i K a w:=by
 have ho':ops[i]? = some o:=by rw [yg,Array.getElem?_toList] at ho; exact ho
 obtain ⟨o',d,e1,hd,hG⟩:=h.good
 rw [ho] at e1; injection e1 with e1; subst e1
 rw [he] at hG
 obtain ⟨_,_,hnext⟩:=hG
 obtain ⟨d',hd',hcl,⟨s1,hs1⟩,hgo⟩:=zKg hcall.above ho he h.clean
 rw [hd] at hd'; injection hd' with hd'; subst hd'
 have hask:∀ t∈uU ops.toList o,jg F N ψ dl s.es s.tm a t:=fun t ht=>h.t2 t fun j o' hj ho' e=>htm j o' hj ho' t e ht
 have fin:∀ {v:CV} {x:Value} {h':zC} {n':Key} {ψ':Psi} {w':World},xi P F N call ops.toList o d dl s (s.eff d v h' n')→yH ψ (zC.fam s.h) s.n w ψ' (zC.fam h') n' w'→zH ψ' v x→K (a.put o.dst x) w':=by
  intro v x h' n' ψ' w' hn hp hv
  obtain ⟨g1,g2⟩:=hgo _ hn
  exact hK _ _ _ _ (zR2 h hE hd hdst hp hv (hnext _ hn) g1 g2)
 have hgcase:qS P F N ops.toList o dl s=some false∨qS P F N ops.toList o dl s=some true:=by
  rcases hs1 with ⟨h1,_⟩ | ⟨h1,_⟩
  · exact .inl h1
  · exact .inr h1
 rcases hgcase with hg | hg
 · refine zCO ho' (zAV h.glob hask hg) ?_
   exact fin (v:=.undef) (.inl ⟨hg,rfl⟩) (yH.refl h.rel) qF
 · refine zCV ho' (zAV h.glob hask hg) ?_
   have hargs:=zI6 (P:=P) (F:=F) (N:=N) (dl:=dl) h.glob (l:=o.op.operands.toList) fun t ht=>hask t (zM9 ht)
   have hsim:=zL4 (P:=P) (ψ:=ψ) (h:=s.h) (n:=s.n) (es:=s.es) (tm:=s.tm) (ty:=o.type) (w:=w) (zIL a) o.op hargs
   have hroom:∀ s',xi P F N call ops.toList o d dl s s'→s'.n.room:=fun s' hs'=>xp.room hcall.above (hnext s' hs')
   have hn:∀ s',(match zGf P F N o dl s with
    | .val v=>s'=s.eff d v s.h s.n
    | .read v=>s'=s.eff d v s.h s.n
    | .alloc ob v=>s'=s.eff d v (yu (some ob) s.n s.h) s.n.succ
    | .eff v h n=>s'=s.eff d v h n
    | .call f args=>∃ v h n,vc (call false f args s.h s.n) v h n∧s'=s.eff d v h n
    | _=>False)→xi P F N call ops.toList o d dl s s':=fun s' hs'=>.inr ⟨hg,hs'⟩
   have hsim:zD P ψ s.h s.n a.eval o.op o.type w (zGf P F N o dl s):=hsim
   rcases hs1 with ⟨h1,_⟩ | ⟨_,hs1⟩
   · rw [hg] at h1; cases h1
   generalize hX:zGf P F N o dl s=X at hsim hs1 hn
   cases X with
   | val v=>
    obtain ⟨x,h1,h2⟩:=hsim
    exact qH h1 (fin (hn _ rfl) (yH.refl h.rel) h2)
   | read v=>
    obtain ⟨x,h1,h2⟩:=hsim h.rel.on
    exact qH h1 (fin (hn _ rfl) (yH.refl h.rel) h2)
   | alloc ob v=>
    obtain ⟨w',x,sz,h1,h2,h3,_⟩:=hsim
    have hn':=hn (s.eff d v (yu (some ob) s.n s.h) s.n.succ) rfl
    have hr0:s.n.succ.room:=hroom (s.eff d v (yu (some ob) s.n s.h) s.n.succ) hn'
    have hr:s.n.room:=Key.room_of_succ (k:=s.n) hr0
    have hnone:=h.fresh s.n (Nat.le_refl _)
    have hle:=Psi.le_upd (ψ:=ψ) (k:=s.n) ⟨w.heap.size,0,sz,fun n=>n⟩ hnone
    obtain ⟨h4,h5⟩:=h3 _ hle (Psi.upd_same _ _ _)
    have hp:=wc h.rel hr hnone h2 h5
    rw [← z6] at hp
    exact qH h1 (fin hn' hp h4)
   | eff v h' n'=>
    have hn':=hn (s.eff d v h' n') rfl
    obtain ⟨w',x,ψ',h1,h2,h3⟩:=hsim h.rel (fun q hq _=>h.fresh q hq) (hroom (s.eff d v h' n') hn')
    exact qH h1 (fin hn' h2 h3)
   | call f args=>
    obtain ⟨args',h1,h2⟩:=hsim h.rel.on
    have hcalls:=hcall.calls f args s.h s.n ψ w args' h2 h.glob h.rel h.fresh (hcl hg f args hX)
    have leafs:∀ {R:R} {x:Value} {w':World},zl ψ (zC.fam s.h) s.n w R x w'→∃ v h' n',vc R v h' n'∧∃ ψ',yH ψ (zC.fam s.h) s.n w ψ' (zC.fam h') n' w'∧zH ψ' v x:=by
     intro R
     induction R with
     | ok=>intro x w' hr; exact hr.elim
     | err=>intro x w' hr; exact hr.elim
     | ret v h' n'=>intro x w' hr; exact ⟨v,h',n',⟨rfl,rfl,rfl⟩,hr⟩
     | fork x y ihx ihy=>
      intro z w' hr
      rcases hr with hr | hr
      · obtain ⟨v,h',n',hl,g⟩:=ihx hr; exact ⟨v,h',n',.inl hl,g⟩
      · obtain ⟨v,h',n',hl,g⟩:=ihy hr; exact ⟨v,h',n',.inr hl,g⟩
    have hfin:∀ x w',zl ψ (zC.fam s.h) s.n w (call false f args s.h s.n) x w'→K (a.put o.dst x) w':=by
     intro x w' hr
     obtain ⟨v,h',n',hl,ψ',hp,hv⟩:=leafs hr
     exact fin (hn _ ⟨v,h',n',hl,rfl⟩) hp hv
    have h1:(execOp a.eval o).run P w=(callFunc f args').run P w:=h1
    unfold vY
    rw [h1]
    unfold yR at hcalls
    generalize (callFunc f args').run P w=r at hcalls ⊢
    cases r with
    | halt x w'=>exact hcalls.elim
    | ok x w'=>
     cases x <;> first
      | exact hfin _ _ hcalls
      | exact Calls.mono hcalls fun e w' ⟨v,e1,e2⟩=>⟨v,e1,hfin v w' e2⟩
      | exact hcalls.elim
   | dfr f a=>exact hs1.elim
   | recov=>exact hs1.elim
   | err c=>exact hs1.elim
   | fork a b=>exact hs1.elim
theorem zMK (hcall:yP P call) {E:Nat→Option Rec} {i:Nat} {r:List Nat} {dl:List (Option Nat)} {effs:List Nat} {s:GS} {ψ:Psi} {a:Act} {w:World} {o:Oper}
 (h:Inv P F N call ops.toList anc ψ₀ g₀ n₀ w₀ R₀ E r dl effs s ψ a w) (hi:i∈r) (hnd:r.Nodup) (hE:E i=none) (ho:nth ops.toList i=some o) (he:qR P o.op=false) (hord:zJ2 ops.toList anc E i o r)
 (htm:∀ j o',nth ops.toList j=some o'→∀ t,o'.dst=some t→t∈uU ops.toList o→z8 ((nth anc i).getD 0) j=true∨z8 ((nth anc j).getD 0) i=true)
 (hask:∀ j o',E j≠none→nth ops.toList j=some o'→∀ t,o'.dst=some t→t∈uU ops.toList o→z8 ((nth anc i).getD 0) j=true)
 (hdst:∀ j o',j≠i→nth ops.toList j=some o'→∀ t,o'.dst=some t→o.dst≠some t)
 {K:Act→World→Prop} (hK:∀ rc a' w',Inv P F N call ops.toList anc ψ₀ g₀ n₀ w₀ R₀ (zF6 E i rc) r dl effs s ψ a' w'→K a' w'):wpOp P ops Q i K a w:=by
 have ho':ops[i]? = some o:=by rw [yg,Array.getElem?_toList] at ho; exact ho
 have hex:=uB (k:=0) (hb:=s.h) hcall.above ho he hE (fun j rc pl h1 h2=>(h.recs j rc pl h1 h2).1) htm (fun j rc o' t h1 h2 h3=>h.t1 j rc o' t h1 h2 h3)
  (fun j o' h1 h2=>by
    cases hq:E j with
    | none=>rfl
    | some q=>have:=(h.sub j (by rw [hq]; simp)).2 o' h1; rw [h2] at this; cases this)
  h.good hi hnd hord h.glob h.fresh
  (fun t ht=>by
    by_cases hw:∃ j o',E j≠none∧nth ops.toList j=some o'∧o'.dst=some t
    · obtain ⟨j,o',h1,h2,h3⟩:=hw
      exact .inr ⟨j,(h.sub j h1).1,hask j o' h1 h2 t h3 ht,h1,o',h2,h3⟩
    · exact .inl (h.t2 t fun j o' h1 h2 h3=>hw ⟨j,o',h1,h2,h3⟩))
  (.inl ⟨rfl,rfl⟩) (fun q hq=>by omega)
  (fun q hq=>by
    cases hf:zC.fam s.h q with
    | none=>exact absurd hf hq
    | some ob=>
     obtain ⟨p,hp⟩:=h.rel.tot q ob hf
     rcases Nat.lt_or_ge q.ix s.n.ix with hlt | hge
     · exact hlt
     · rw [h.fresh q hge] at hp; cases hp)
  h.rel.on
 obtain ⟨x,w',al,hconc,hgood⟩:=hex
 have hpost:yH ψ (zC.fam s.h) s.n w ψ (zC.fam s.h) s.n w'∧(∀ pl,al=some pl→pl.blk=w.heap.size∧w'.heap.size=w.heap.size+1):=by
  rcases hconc with ⟨_,_,rfl,rfl⟩ | ⟨_,_,⟨rfl,rfl⟩ | ⟨hn,rfl⟩⟩
  · exact ⟨yH.refl h.rel,by simp⟩
  · exact ⟨yH.refl h.rel,by simp⟩
  · refine ⟨zSc h.rel hn,fun pl hpl=>?_⟩
    injection hpl with hpl; subst hpl
    exact ⟨rfl,hn.size⟩
 obtain ⟨hp,hal⟩:=hpost
 have hdN:∀ t,o.dst=some t→t<N:=by
  intro t ht
  have hd:∃ d,xT F N o.dst=some d:=by
   have:∀ {r:List Nat} {dl:List (Option Nat)} {effs:List Nat} {s:GS} {ψ:Psi},xp P F N call ops.toList anc E w r dl effs s ψ→i∈r→∃ d,xT F N o.dst=some d:=by
    intro r
    induction r with
    | nil=>intro _ _ _ _ _ hi; cases hi
    | cons j r ih=>
     intro dl effs s ψ hg hi
     obtain ⟨o'',d,e1,hd,hG⟩:=hg
     by_cases e:j=i
     · subst e
       rw [ho] at e1; injection e1 with e1; subst e1
       exact ⟨d,hd⟩
     · have hi':i∈r:=by rcases List.mem_cons.1 hi with h | h; exact absurd h.symm e; exact h
       split at hG
       · obtain ⟨_,⟨s',hs'⟩,hG⟩:=hG
         exact ih (hG s' hs') hi'
       · obtain ⟨v,ob,_,hG⟩:=hG
         split at hG
         · exact ih hG hi'
         · exact ih hG.2 hi'
         · obtain ⟨_,_,_,_,hG⟩:=hG
           exact ih hG hi'
   exact this h.good hi
  obtain ⟨d,hd⟩:=hd
  rcases qy hd with ⟨e,_⟩ | ⟨u,e,hu,_⟩
  · rw [ht] at e; cases e
  · rw [ht] at e; injection e with e; subst e; exact hu
 have key:K (a.put o.dst x) w':=by
  refine hK ⟨x,al⟩ _ _ ⟨hgood,h.clean,h.leaf,hp.rel,h.glob,h.fresh,?_,?_,?_,?_,?_,?_,?_,h.post.trans hp⟩
  · rw [zBo]; exact h.dfr
  · rw [zEZ]; exact h.size
  · intro j hj
    by_cases e:j=i
    · subst e
      exact ⟨hi,fun o' ho''=>by rw [ho] at ho''; injection ho'' with ho''; subst ho''; exact he⟩
    · rw [xY E _ e] at hj
      exact h.sub j hj
  · intro j rc o' t hj ho'' ht
    by_cases e:j=i
    · subst e
      rw [jd] at hj
      injection hj with hj; subst hj
      rw [ho] at ho''; injection ho'' with ho''; subst ho''
      rw [ht]
      exact kW _ _ _ (Nat.lt_of_lt_of_le (hdN t ht) h.size)
    · rw [xY E _ e] at hj
      rw [x9 _ _ _ (hdst j o' e ho'' t ht)]
      exact h.t1 j rc o' t hj ho'' ht
  · intro t ht
    refine jg.put (ht i o (by rw [jd]; simp) ho) (h.t2 t fun j o' hj ho''=>?_)
    by_cases e:j=i
    · subst e; exact absurd hE hj
    · exact ht j o' (by rw [xY E _ e]; exact hj) ho''
  · intro j rc pl hj hpl
    by_cases e:j=i
    · subst e
      rw [jd] at hj
      injection hj with hj; subst hj
      obtain ⟨e1,e2⟩:=hal pl hpl
      refine ⟨by omega,by rw [e1]; exact h.post.size,fun k q p hk hp' e=>?_⟩
      have:=(h.rel.on k q p hk hp').lt
      omega
    · rw [xY E _ e] at hj
      obtain ⟨r1,r2,r3⟩:=h.recs j rc pl hj hpl
      exact ⟨Nat.lt_of_lt_of_le r1 hp.size,r2,r3⟩
  · intro j j' rc rc' pl pl' hj hj' hpl hpl' e
    by_cases e1:j=i <;> by_cases e2:j'=i
    · rw [e1,e2]
    · exfalso
      subst e1
      rw [jd] at hj; injection hj with hj; subst hj
      rw [xY E _ e2] at hj'
      have:=(h.recs j' rc' pl' hj' hpl').1
      have:=(hal pl hpl).1
      omega
    · exfalso
      subst e2
      rw [jd] at hj'; injection hj' with hj'; subst hj'
      rw [xY E _ e1] at hj
      have:=(h.recs j rc pl hj hpl).1
      have:=(hal pl' hpl').1
      omega
    · rw [xY E _ e1] at hj; rw [xY E _ e2] at hj'
      exact h.apart j j' rc rc' pl pl' hj hj' hpl hpl' e
 rcases hconc with ⟨h1,h2,h3,h4⟩ | ⟨h1,h2,_⟩
 · subst h2 h3
   exact zCO ho' h1 key
 · exact zCV ho' h1 (qH h2 key)
end
end
end Go.Ev
namespace Go.Ev
variable [Sym]
noncomputable section
variable {P:Program} {F N:Nat} {call:ym}
variable [SymFact P]
section
variable {ops:Array Oper} {anc:List Nat} {ψ₀:Psi} {g₀:Fam} {n₀:Key} {w₀:World} {R₀:R} {Q:Exit→Act→World→Prop}
def Way (P:Program) (F N:Nat) (call:ym) (ops:Array Oper) (anc:List Nat) (ψ₀:Psi) (g₀:Fam) (n₀:Key) (w₀:World) (R₀:R) (order:List Nat) (S:Nat→Prop) (a:Act) (w:World):Prop:=
 ∃ E pre r dl effs s ψ,order=pre++r∧(∀ i∈order,S i ↔ (i∈pre∨E i≠none))∧Inv P F N call ops.toList anc ψ₀ g₀ n₀ w₀ R₀ E r dl effs s ψ a w
theorem Way.caught (hcall:yP P call) {order:List Nat} {S:Nat→Prop} {a:Act} {w:World} (hnd:order.Nodup) (h:Way P F N call ops anc ψ₀ g₀ n₀ w₀ R₀ order S a w) :
 ∃ E pre r dl effs s ψ,order=pre++r∧(∀ i∈order,S i ↔ (i∈pre∨E i≠none))∧Inv P F N call ops.toList anc ψ₀ g₀ n₀ w₀ R₀ E r dl effs s ψ a w∧∀ i r',r=i::r'→E i=none:=by
 obtain ⟨E,pre,r,dl,effs,s,ψ,h1,h2,h3⟩:=h
 induction r generalizing E pre dl effs s ψ with
 | nil=>exact ⟨E,pre,[],dl,effs,s,ψ,h1,h2,h3,fun i r' e=>by cases e⟩
 | cons i r ih=>
  cases hE:E i with
  | none=>exact ⟨E,pre,i::r,dl,effs,s,ψ,h1,h2,h3,fun j r' e=>by injection e with e1 e2; subst e1; exact hE⟩
  | some rc=>
   have hnd':(i::r).Nodup:=by rw [h1] at hnd; exact (List.nodup_append.1 hnd).2.1
   obtain ⟨o,s',ψ',_,h4⟩:=zQg hcall.above hnd' h3 hE
   refine ih (zGL E i) (pre++[i]) _ _ _ _ (by rw [h1]; simp) (fun j hj=>?_) h4
   rw [h2 j hj]
   by_cases e:j=i
   · subst e; simp [hE]
   · rw [zBJ E e]; simp [e]
theorem Way.step (hcall:yP P call) {order:List Nat} {S:Nat→Prop} {a:Act} {w:World} (hok:zC0 P ops.toList anc order=true) (hanc:anc=wx [] ops.toList) (h:Way P F N call ops anc ψ₀ g₀ n₀ w₀ R₀ order S a w)
 (hS:∀ i o,S i→nth ops.toList i=some o→∀ e∈o.after,Region.binds .any e=true→S e.on)
 {i:Nat} {o:Oper} (ho:nth ops.toList i=some o) (hi:¬ S i) (hr:∀ e∈o.after,Region.binds .any e=true→S e.on) :
 wpOp P ops Q i (Way P F N call ops anc ψ₀ g₀ n₀ w₀ R₀ order fun j=>S j∨j=i) a w:=by
 unfold zC0 at hok
 rw [Bool.and_eq_true,Bool.and_eq_true,Bool.and_eq_true,Bool.and_eq_true] at hok
 obtain ⟨⟨⟨⟨hperm,heff⟩,hanco⟩,htmps⟩,hedges⟩:=hok
 obtain ⟨hnd,hlt,hlen⟩:=vH hperm List.nodup_nil (fun i hi=>by cases hi)
 simp only [List.reverse_nil,List.nil_append] at hnd hlt hlen
 have lt:∀ {k:Nat} {z:Oper},nth ops.toList k=some z→k<ops.toList.length:=by
  intro k z hk
  rw [yg] at hk
  rcases Nat.lt_or_ge k ops.toList.length with h | h
  · exact h
  · rw [List.getElem?_eq_none h] at hk; cases hk
 have hmem:∀ {k:Nat} {z:Oper},nth ops.toList k=some z→k∈order:=fun hk=>zPU hnd hlt hlen (lt hk)
 obtain ⟨E,pre,r,dl,effs,s,ψ,h1,h2,h3,hhead⟩:=h.caught hcall hnd
 have hio:=hmem ho
 have hnot:¬ (i∈pre∨E i≠none):=fun hh=>hi ((h2 i hio).2 hh)
 have hE:E i=none:=by
  cases hq:E i with
  | none=>rfl
  | some q=>exact absurd (.inr (by rw [hq]; simp)) hnot
 have hir:i∈r:=by
  rw [h1] at hio
  rcases List.mem_append.1 hio with h | h
  · exact absurd (.inl h) hnot
  · exact h
 have hnd1:=hnd
 rw [h1] at hnd1
 obtain ⟨hndp,hndr,hdisj⟩:=List.nodup_append.1 hnd1
 have hA:∀ j,z8 ((nth anc i).getD 0) j=true→S j:=by
  rw [hanc]; exact zFd hedges hS i o ho hr
 have hAS:∀ q,S q→∀ j,z8 ((nth anc q).getD 0) j=true→S j:=by
  intro q hq
  rw [hanc]
  rcases Nat.lt_or_ge q ops.toList.length with hl | hl
  · have:∃ oq,nth ops.toList q=some oq:=by rw [yg]; exact ⟨_,List.getElem?_eq_getElem hl⟩
    obtain ⟨oq,hoq⟩:=this
    exact zFd hedges hS q oq hoq (hS q oq hq hoq)
  · intro j hj
    exfalso
    have hl2:(wx [] ops.toList).length=ops.toList.length:=by
     have:∀ (l:List Oper) (acc:List Nat),(wx acc l).length=acc.length+l.length:=by
      intro l
      induction l with
      | nil=>intro acc; simp [wx]
      | cons x l ih=>intro acc; rw [wx,ih]; simp; omega
     rw [this]; simp
    rw [yg,List.getElem?_eq_none (by omega),show (Option.getD (none:Option Nat) 0)=0 from rfl,zAb] at hj
    cases hj
 have hrec:∀ j,j∈r→S j→E j≠none:=by
  intro j hj hs
  have hjo:j∈order:=by rw [h1]; exact List.mem_append_right _ hj
  rcases (h2 j hjo).1 hs with h | h
  · exact absurd rfl (hdisj j h j hj)
  · exact h
 have hER:∀ j,E j≠none→S j:=by
  intro j hj
  have hjo:j∈order:=by rw [h1]; exact List.mem_append_right _ (h3.sub j hj).1
  exact (h2 j hjo).2 (.inr hj)
 have hdst:∀ j o',j≠i→nth ops.toList j=some o'→∀ t,o'.dst=some t→o.dst≠some t:=by
  intro j o' hne hj t ht
  exact ((zEa htmps hj ho ht).1).resolve_left hne
 have htm:∀ j o',nth ops.toList j=some o'→∀ t,o'.dst=some t→t∈uU ops.toList o→z8 ((nth anc i).getD 0) j=true∨z8 ((nth anc j).getD 0) i=true:=by
  intro j o' hj t ht hta
  exact ((zEa htmps hj ho ht).2 hta).2
 have hask:∀ j o',E j≠none→nth ops.toList j=some o'→∀ t,o'.dst=some t→t∈uU ops.toList o→z8 ((nth anc i).getD 0) j=true:=by
  intro j o' hEj hj t ht hta
  rcases htm j o' hj t ht hta with h | h
  · exact h
  · exact absurd (hAS j (hER j hEj) i h) hi
 have hahead:∀ {q:Nat} {p1 p2:List Nat},r=p1++q::p2→∀ j∈p2,z8 ((nth anc q).getD 0) j=false:=by
  intro q p1 p2 hr' j hj
  cases hb:z8 ((nth anc q).getD 0) j with
  | false=>rfl
  | true=>
   exfalso
   have hord:order=(pre++p1)++q::p2:=by rw [h1,hr']; simp
   have hjo:j∈order:=by rw [hord]; simp [hj]
   rcases zGb hanco hord j (hlt j hjo) hb with h | h
   · cases h
   · rw [hord] at hnd
     have:=(List.nodup_append.1 hnd).2.2 j h j (by simp [hj])
     exact this rfl
 have hne:∀ j,E j≠none→j≠i:=fun j hj e=>by subst e; exact hj hE
 cases he:qR P o.op with
 | true=>
  obtain ⟨p1,p2,hr'⟩:=List.append_of_mem hir
  have hp1:p1=[]:=by
   cases p1 with
   | nil=>rfl
   | cons x p1=>
    exfalso
    have hord:order=(pre++x::p1)++i::p2:=by rw [h1,hr']; simp
    obtain ⟨o',ho',hh⟩:=zFB heff hord
    rw [ho] at ho'; injection ho' with ho'; subst ho'
    have hx:=hA x ((hh he).2 x (by simp))
    have:=hrec x (by rw [hr']; simp) hx
    exact this (hhead x _ hr')
  subst hp1
  rw [List.nil_append] at hr'
  subst hr'
  refine zKR hcall h3 hE ho he (fun j o' hEj hj t ht hta=>?_) (fun j o' hEj hj t ht=>hdst j o' (hne j hEj) hj t ht) fun s' ψ' a' w' hinv=>?_
  · have hb:=hask j o' hEj hj t ht hta
    have hjr:=(h3.sub j hEj).1
    rcases List.mem_cons.1 hjr with rfl | hjr
    · exact hEj hE
    · rw [hahead (p1:=[]) rfl j hjr] at hb; cases hb
  · refine ⟨E,pre++[i],p2,_,_,s',ψ',by rw [h1]; simp,fun j hj=>?_,hinv⟩
    show (S j∨j=i) ↔ _
    rw [h2 j hj]
    by_cases e:j=i
    · subst e; simp
    · simp [e]
 | false=>
  refine zMK hcall h3 hir hndr hE ho he ⟨fun j hj hb=>hrec j hj (hA j hb),fun p1 p2 hr' j hj=>hahead hr' j hj,fun p1 p2 hr' j hj=>?_⟩ htm hask hdst fun rc a' w' hinv=>?_
  · obtain ⟨q1,q2,hq⟩:=List.append_of_mem hj
    exact hahead (q:=j) (p1:=q1) (p2:=q2++i::p2) (by rw [hr',hq]; simp) i (by simp)
  · refine ⟨zF6 E i rc,pre,r,dl,effs,s,ψ,h1,fun j hj=>?_,hinv⟩
    show (S j∨j=i) ↔ _
    rw [h2 j hj]
    by_cases e:j=i
    · subst e; rw [jd]; simp
    · rw [xY E _ e]; simp [e]
def zNz (m:Nat) (yT:Array Bool):Nat:=((List.range m).filter fun i=>!yT.getD i true).length
theorem zHa {p q:Nat→Bool}:∀ (l:List Nat),(∀ x∈l,p x=true→q x=true)→(∃ x∈l,q x=true∧p x=false)→(l.filter p).length<(l.filter q).length
 | [],_,h=>by obtain ⟨x,hx,_⟩:=h; cases hx
 | y::l,hs,h=>by
  have hle:∀ (l:List Nat),(∀ x∈l,p x=true→q x=true)→(l.filter p).length≤(l.filter q).length:=by
   intro l
   induction l with
   | nil=>intro _; exact Nat.le_refl _
   | cons z l ih=>
    intro hz
    have:=ih fun x hx=>hz x (by simp [hx])
    have hzz:=hz z (by simp)
    cases hp:p z with
    | true=>rw [List.filter_cons_of_pos hp,List.filter_cons_of_pos (hzz hp)]; simp only [List.length_cons]; omega
    | false=>
     rw [List.filter_cons_of_neg (by rw [hp]; simp)]
     cases hq:q z with
     | true=>rw [List.filter_cons_of_pos hq]; simp only [List.length_cons]; omega
     | false=>rw [List.filter_cons_of_neg (by rw [hq]; simp)]; exact this
  obtain ⟨x,hx,hqx,hpx⟩:=h
  have hsl:∀ x∈l,p x=true→q x=true:=fun x hx=>hs x (by simp [hx])
  rcases List.mem_cons.1 hx with rfl | hx
  · rw [List.filter_cons_of_neg (by rw [hpx]; simp),List.filter_cons_of_pos hqx]
    have:=hle l hsl
    simp only [List.length_cons]; omega
  · have:=zHa l hsl ⟨x,hx,hqx,hpx⟩
    cases hp:p y with
    | true=>rw [List.filter_cons_of_pos hp,List.filter_cons_of_pos (hs y (by simp) hp)]; simp only [List.length_cons]; omega
    | false=>
     rw [List.filter_cons_of_neg (by rw [hp]; simp)]
     cases hq:q y with
     | true=>rw [List.filter_cons_of_pos hq]; simp only [List.length_cons]; omega
     | false=>rw [List.filter_cons_of_neg (by rw [hq]; simp)]; exact this
theorem zT4 (hcall:yP P call) {order:List Nat} (hok:zC0 P ops.toList anc order=true) (hanc:anc=wx [] ops.toList) (hfin:∀ a w,(Way P F N call ops anc ψ₀ g₀ n₀ w₀ R₀ order (fun _=>True) a w)→Q .normal a w) :
 ∀ (fuel:Nat) (yT:Array Bool) (a:Act) (w:World),yT.size=ops.size→zNz ops.size yT≤fuel →
  (∀ i o,yT.getD i false=true→nth ops.toList i=some o→∀ e∈o.after,Region.binds .any e=true→yT.getD e.on false=true) →
  Way P F N call ops anc ψ₀ g₀ n₀ w₀ R₀ order (fun i=>yT.getD i false=true) a w→wpAny P .any ops Q fuel yT a w:=by
 have hok':=hok
 unfold zC0 at hok'
 rw [Bool.and_eq_true,Bool.and_eq_true,Bool.and_eq_true,Bool.and_eq_true] at hok'
 obtain ⟨⟨⟨⟨hperm,_⟩,_⟩,_⟩,hedges⟩:=hok'
 obtain ⟨hnd,hlt,hlen⟩:=vH hperm List.nodup_nil (fun i hi=>by cases hi)
 simp only [List.reverse_nil,List.nil_append] at hnd hlt hlen
 have get:∀ (yT:Array Bool) (i:Nat),i<yT.size→yT.getD i true=yT.getD i false:=by
  intro yT i hi
  simp [hi]
 have hall:∀ (yT:Array Bool),yT.size=ops.size→Region.ready .any ops yT=[]→∀ i,i<ops.size→yT.getD i false=true:=by
  intro yT hs hr i
  induction i using Nat.strongRecOn with
  | ind i ih=>
   intro hi
   cases hb:yT.getD i false with
   | true=>rfl
   | false=>
    exfalso
    have hmem:i∈Region.ready .any ops yT:=by
     rw [mem_ready]
     refine ⟨by rw [get _ _ (by omega)]; exact hb,ops[i],Array.getElem?_eq_getElem hi,fun e he hbe=>?_⟩
     have ho:nth ops.toList i=some ops[i]:=by rw [yg,Array.getElem?_toList]; exact Array.getElem?_eq_getElem hi
     have:=uS hedges ho e he hbe
     exact ih e.on (by omega) (by omega)
    rw [hr] at hmem; cases hmem
 have hdone:∀ (yT:Array Bool) (a:Act) (w:World),yT.size=ops.size→(∀ i,i<ops.size→yT.getD i false=true)→Way P F N call ops anc ψ₀ g₀ n₀ w₀ R₀ order (fun i=>yT.getD i false=true) a w→Q .normal a w:=by
  intro yT a w hs hl hw
  refine hfin a w ?_
  obtain ⟨E,pre,r,dl,effs,s,ψ,h1,h2,h3⟩:=hw
  refine ⟨E,pre,r,dl,effs,s,ψ,h1,fun i hi=>?_,h3⟩
  have hh:=h2 i hi
  rw [← hh]
  exact ⟨fun _=>hl i (by have:=hlt i hi; rwa [Array.length_toList] at this),fun _=>trivial⟩
 intro fuel
 induction fuel with
 | zero=>
  intro yT a w hs hf hcl hw
  have hl:∀ i,i<ops.size→yT.getD i false=true:=by
   intro i hi
   have h0:((List.range ops.size).filter fun i=>!yT.getD i true)=[]:=by
    apply List.length_eq_zero_iff.1
    exact Nat.le_zero.1 hf
   rw [List.filter_eq_nil_iff] at h0
   have:=h0 i (List.mem_range.2 hi)
   rw [get _ _ (by omega)] at this
   simpa using this
  refine ⟨?_,hdone yT a w hs hl hw⟩
  apply List.eq_nil_iff_forall_not_mem.2
  intro i hi
  obtain ⟨h0,o,ho,_⟩:=mem_ready.1 hi
  have hi':i<ops.size:=(Array.getElem?_eq_some_iff.1 ho).1
  rw [get _ _ (by omega),hl i hi'] at h0
  cases h0
 | succ fuel ih=>
  intro yT a w hs hf hcl hw
  refine ⟨fun hr=>hdone yT a w hs (hall yT hs hr) hw,fun i hi=>?_⟩
  obtain ⟨h0,o,ho,hr⟩:=mem_ready.1 hi
  have hi':i<ops.size:=(Array.getElem?_eq_some_iff.1 ho).1
  have h0':¬ yT.getD i false=true:=by rw [← get _ _ (by omega),h0]; simp
  have ho':nth ops.toList i=some o:=by rw [yg,Array.getElem?_toList]; exact ho
  have hset:∀ j,((yT.setIfInBounds i true).getD j false=true) ↔ (yT.getD j false=true∨j=i):=by
   intro j
   by_cases e:j=i
   · subst e
     simp [hs,hi']
   · rw [getD_set_ne false (Ne.symm e)]
     simp [e]
  refine wpOp_mono (fun a' w' hw'=>?_) (Way.step (Q:=Q) hcall hok hanc hw hcl ho' h0' hr)
  refine ih (yT.setIfInBounds i true) a' w' (by simp [hs]) ?_ ?_ ?_
  · have:zNz ops.size (yT.setIfInBounds i true)<zNz ops.size yT:=by
     refine zHa _ (fun x hx h=>?_) ⟨i,List.mem_range.2 hi',by rw [h0]; rfl,by simp [hs,hi']⟩
     by_cases e:x=i
     · subst e
       simp [hs,hi'] at h
     · rw [getD_set_ne true (Ne.symm e)] at h
       exact h
    omega
  · intro j oj hj hoj e he hbe
    rw [hset] at hj ⊢
    rcases hj with hj | rfl
    · exact .inl (hcl j oj hj hoj e he hbe)
    · rw [ho'] at hoj; injection hoj with hoj; subst hoj
      exact .inl (hr e he hbe)
  · obtain ⟨E,pre,r,dl,effs,s,ψ,h1,h2,h3⟩:=hw'
    refine ⟨E,pre,r,dl,effs,s,ψ,h1,fun j hj=>?_,h3⟩
    show ((yT.setIfInBounds i true).getD j false=true) ↔ _
    rw [hset]
    exact h2 j hj
end
theorem xS (hm:P.follows .mixedOrders=true) (hcall:yP P call):kY P F N call:=by
 intro id ops ψ tm ds h n a w _ hst hc
 unfold zIQ at hc ⊢
 simp only at hc ⊢
 split at hc
 case isFalse=>exact hc.elim
 rename_i hok
 rw [if_pos hok]
 generalize hO:zOA P ops.toList (wx [] ops.toList)=order at hok hc ⊢
 generalize hA:wx [] ops.toList=anc at hok hc ⊢
 have hc:zf (j9 P F N call ops.toList anc order [] [] ⟨[],[],tm,ds,h,n⟩):=hc
 show (Code.region id ops true).wp P (xF P F N ψ (zC.fam h) n w (j9 P F N call ops.toList anc order [] [] ⟨[],[],tm,ds,h,n⟩)) a w
 generalize hR:j9 P F N call ops.toList anc order [] [] ⟨[],[],tm,ds,h,n⟩=R₀ at hc ⊢
 have hok':=hok
 unfold zC0 at hok'
 rw [Bool.and_eq_true,Bool.and_eq_true,Bool.and_eq_true,Bool.and_eq_true] at hok'
 obtain ⟨⟨⟨⟨hperm,_⟩,_⟩,_⟩,_⟩:=hok'
 obtain ⟨hnd,hlt,hlen⟩:=vH hperm List.nodup_nil (fun i hi=>by cases hi)
 simp only [List.reverse_nil,List.nil_append] at hnd hlt hlen
 refine wp_region_any hm (zT4 (F:=F) (N:=N) (ψ₀:=ψ) (g₀:=zC.fam h) (n₀:=n) (w₀:=w) (R₀:=R₀) hcall hok hA.symm (fun a' w' hw=>?_) ops.size _ a _ (by simp) ?_ ?_ ?_)
 · obtain ⟨E,pre,r,dl,effs,s,ψ',h1,h2,h3,hhead⟩:=hw.caught hcall hnd
   have hr:r=[]:=by
    cases r with
    | nil=>rfl
    | cons i r=>
     exfalso
     have hio:i∈order:=by rw [h1]; simp
     rcases (h2 i hio).1 trivial with hh | hh
     · rw [h1] at hnd
       exact (List.nodup_append.1 hnd).2.2 i hh i (by simp) rfl
     · exact hh (hhead i r rfl)
   subst hr
   have hEn:∀ j,E j=none:=by
    intro j
    cases hq:E j with
    | none=>rfl
    | some q=>have:=(h3.sub j (by rw [hq]; simp)).1; cases this
   refine h3.leaf (fun r=>xF P F N ψ (zC.fam h) n w r .normal a' w') (fun _ _ h=>.inl h) (fun _ _ h=>.inr h) ?_
   refine ⟨trivial,ψ',⟨⟨h3.size,fun t b1 b2 b3=>?_⟩,h3.dfr,h3.rel,h3.glob,h3.fresh⟩,h3.post,h3.good⟩
   exact (h3.t2 t fun j o hj=>absurd (hEn j) hj).2 b1 b2 b3
 · unfold zNz
   refine Nat.le_trans (List.length_filter_le _ _) ?_
   simp
 · intro i o hi
   simp only [Array.getD_eq_getD_getElem?,Array.getElem?_replicate] at hi
   split at hi <;> cases hi
 · refine ⟨fun _=>none,[],order,[],[],⟨[],[],tm,ds,h,n⟩,ψ,rfl,fun i hi=>?_,?_⟩
   · constructor
     · intro hi
       simp only [Array.getD_eq_getD_getElem?,Array.getElem?_replicate] at hi
       split at hi <;> cases hi
     · rintro (hh | hh)
       · cases hh
       · exact absurd rfl hh
   · have hclean:zf (j9 P F N call ops.toList anc order [] [] ⟨[],[],tm,ds,h,n⟩):=by rw [hR]; exact hc
     refine ⟨vV hcall.above (fun _ _=>rfl) (fun i hi=>hlt i hi) hclean,hclean,fun O _ _ ho=>by rw [hR] at ho; exact ho,hst.rel.congr rfl,hst.glob,hst.fresh,hst.dfr,hst.frame.size,
      fun j hj=>absurd rfl hj,(fun _ _ _ _ hh=>by cases hh),fun t _=>⟨(fun i hi=>by cases hi),hst.frame.tmp t⟩,(fun _ _ _ hh=>by cases hh),(fun _ _ _ _ _ _ hh=>by cases hh),
      zGS hst.rel rfl rfl rfl rfl⟩
end
end Go.Ev
