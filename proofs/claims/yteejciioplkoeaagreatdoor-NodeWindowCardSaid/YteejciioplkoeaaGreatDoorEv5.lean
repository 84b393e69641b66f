/- A verified evaluator for the model's code: EvU, EvV, EvW, EvX, EvY, EvZ, EvZa, EvZb, EvZc, EvZd. -/
import Derived.Test.YteejciioplkoeaaGreatDoorEv4
import Derived.Laws.Externs
import Derived.KernelRfl
import Derived.Lib.Bytealg
import Derived.Recover
import Derived.Orders
import Derived.Scope
set_option linter.unusedSectionVars false
set_option linter.unusedVariables false
set_option linter.unusedSimpArgs false
namespace Go.Ev
variable [Sym]
open Go.MapKept
noncomputable section
variable {P:Program} {ψ:Psi} {es:List CV} {tm:Tm} {h:zC} {n:Key} {ρ:Operand→Value} {E:Env} {ty:TypeId} {w:World}
variable [SymFact P]
theorem zSx {c:Call} {l:List Operand} (h:c.args.toList=l):c.args.map ρ=(l.map ρ).toArray:=by
 rw [zBq h]; simp
theorem zJ1 (c:Call) (b:Builtin) (hc:c.callee=.builtin b) (ha:z6 P ψ es tm E ρ c.args.toList) :
 zD P ψ h n ρ (.call c) ty w (yN P (qD P E b c.argTypes.toList c.args.toList) es tm h n):=by
 have hrun:=fun w=>zCP (P:=P) (ρ:=ρ) (ty:=ty) hc w
 generalize hts:c.argTypes.toList=ts
 generalize has:c.args.toList=as at ha
 have hts':=zBq hts
 have has':=zSx (ρ:=ρ) has
 rw [has',hts'] at hrun
 cases b <;> try exact zA _
 case append=>
  match ts,as with
  | t::u::r,[s,x]=>exact zLo (fun w=>by rw [hrun w]; rfl) ha
  | _::_::_,[]=>exact zA _
  | _::_::_,[_]=>exact zA _
  | _::_::_,_::_::_::_=>exact zA _
  | [],_=>exact zA _
  | [_],_=>exact zA _
 case copy=>
  match ts,as with
  | t::r,[s,x]=>exact zP6 (fun w=>by rw [hrun w]; rfl) ha
  | _::_,[]=>exact zA _
  | _::_,[_]=>exact zA _
  | _::_,_::_::_::_=>exact zA _
  | [],_=>exact zA _
 case len=>
  match ts,as with
  | t::r,[x]=>exact zSs (fun w=>by rw [hrun w]; rfl) ha
  | _::_,[]=>exact zA _
  | _::_,_::_::_=>exact zA _
  | [],_=>exact zA _
 case cap=>
  match ts,as with
  | t::r,[x]=>exact zR5 (fun w=>by rw [hrun w]; rfl) ha
  | _::_,[]=>exact zA _
  | _::_,_::_::_=>exact zA _
  | [],_=>exact zA _
 case delete=>
  match ts,as with
  | t::r,[m,k]=>exact zLW (fun w=>by rw [hrun w]; rfl) ha
  | _::_,[]=>exact zA _
  | _::_,[_]=>exact zA _
  | _::_,_::_::_::_=>exact zA _
  | [],_=>exact zA _
 case clear=>
  match ts,as with
  | t::r,[x]=>exact zOl (fun w=>by rw [hrun w]; rfl) ha
  | _::_,[]=>exact zA _
  | _::_,_::_::_=>exact zA _
  | [],_=>exact zA _
 case min=>
  match as with
  | x::r=>exact zE7 false (fun w=>by rw [hrun w]; rfl) ha
  | []=>exact zA _
 case max=>
  match as with
  | x::r=>exact zE7 true (fun w=>by rw [hrun w]; rfl) ha
  | []=>exact zA _
 case recover=>
  match as with
  | []=>exact ⟨by unfold zDz; simp [hc],by rw [hrun w]; rfl⟩
  | _::_=>exact zA _
def zOF (ψ:Psi):uF→Place→Prop
 | .val c,x=>∃ v,x=.val v∧zH ψ c v
 | .var b off,x=>∃ p,ψ b=some p∧x=.var ⟨p.blk,p.off+off,none⟩
theorem zKD {b:Key} {off:Nat} {p:Pl} (hp:ψ b=some p):zOF ψ (.var b off) (.var ⟨p.blk,p.off+off,none⟩):=⟨p,hp,rfl⟩
theorem zEI {c:CV} {v:Value} (hv:zH ψ c v):zOF ψ (.val c) (.val v):=⟨v,rfl,hv⟩
theorem zHV (hrel:qc ψ (zC.fam h) w) {t:TypeId} {b:Key} {off:Nat} {c:CV} {p:Pl} (hp:ψ b=some p) (hc:zNR P h t b off=some c) :
 ∃ v,(loadVar t ⟨p.blk,p.off+off,none⟩).run P w=.ok v w∧zH ψ c v:=by
 unfold zNR at hc
 split at hc
 · rename_i a s vs ha hs hv
   have hcells:zAg ψ w p vs:=by
    unfold zAR at hv
    split at hv
    · rename_i q hq; injection hv with hv; subst hv; exact yZ.toRo (hrel b _ p hq hp)
    · rename_i q hq; injection hv with hv; subst hv; exact hrel b _ p hq hp
    · cases hv
   unfold zNQ at hc
   cases a with
   | true=>
    simp only at hc
    cases hl:ux vs off s with
    | none=>rw [hl] at hc; cases hc
    | some l=>
     rw [hl] at hc
     injection hc with hc; subst hc
     obtain ⟨xs,hrun,hxs⟩:=xj (P:=P) hcells hl
     exact ⟨.agg xs.toArray,by simp [loadVar,qt ha,yb hs,hrun],yY.2 ⟨_,rfl,by simpa using hxs⟩⟩
   | false=>
    simp only [qG] at hc
    obtain ⟨y,hrun,hy⟩:=zAC (P:=P) hcells hc
    exact ⟨y,by simp only [loadVar,Sem.run_bind,qt ha,Result.andThen_ok,Bool.false_eq_true,if_false,hrun],hy⟩
 · cases hc
theorem zB2 (hrel:qc ψ (zC.fam h) w) {t:TypeId} {x:uF} {y:Place} {c:CV} (hx:zOF ψ x y) (hc:x.get P h t=some c):∃ v,(y.get t).run P w=.ok v w∧zH ψ c v:=by
 cases x with
 | val d=>
  obtain ⟨v,rfl,hv⟩:=hx
  injection hc with hc; subst hc
  exact ⟨v,rfl,hv⟩
 | var b off=>
  obtain ⟨p,hp,rfl⟩:=hx
  exact zHV hrel hp hc
theorem zLd {s:FieldStep} {f:Field} (hs:zIP P s=some f):∃ fs,P.underlying s.struct=some (.struct fs)∧fs[s.index]? = some f∧∃ k,x7 P f.type=some (k+1):=by
 unfold zIP und at hs
 split at hs
 · rename_i fs ht
   rw [ye] at hs
   split at hs
   · rename_i g hg
     split at hs
     · rename_i k hk
       injection hs with hs; subst hs
       exact ⟨fs,ht,by simpa using hg,k,hk⟩
     · cases hs
   · cases hs
 · cases hs
theorem wX (hrel:qc ψ (zC.fam h) w):∀ (l:List FieldStep) {t xt:TypeId} {x x':uF} {y:Place},zOF ψ x y→vA P h l t x=some (xt,x') →
 ∃ y',(follow l t y).run P w=.ok (xt,y') w∧zOF ψ x' y'
 | [],t,xt,x,x',y,hx,hf=>by
  injection hf with hf; injection hf with h1 h2; subst h1 h2
  exact ⟨y,rfl,hx⟩
 | s::rest,t,xt,x,x',y,hx,hf=>by
  unfold vA at hf
  cases hs:zIP P s with
  | none=>rw [hs] at hf; cases hf
  | some f=>
   simp only [hs] at hf
   obtain ⟨fs,h1,h2,k,h3⟩:=zLd hs
   split at hf
   · rename_i hd
     split at hf
     · rename_i b off hg
       obtain ⟨v,hv,hr⟩:=zB2 hrel hx hg
       rw [zm] at hr
       obtain ⟨p,hp,rfl⟩:=hr
       obtain ⟨y',g1,g2⟩:=wX hrel rest (zKD hp) hf
       refine ⟨y',?_,g2⟩
       rw [← g1]
       simp [follow,run_underlying h1,h2,hd,hv,asAddr,fieldPlace,yb h3,xN,Nat.add_assoc]
     · cases hf
   · rename_i hd
     split at hf
     · rename_i b off
       obtain ⟨p,hp,rfl⟩:=hx
       obtain ⟨y',g1,g2⟩:=wX hrel rest (zKD hp) hf
       refine ⟨y',?_,g2⟩
       rw [← g1]
       simp [follow,run_underlying h1,h2,hd,fieldPlace,yb h3,xN,Nat.add_assoc]
     · rename_i cs
       obtain ⟨v,rfl,hv⟩:=hx
       rw [yY] at hv
       obtain ⟨vs,rfl,hv⟩:=hv
       split at hf
       · rename_i a s' ha hs'
         split at hf
         · rename_i c hc
           have hp:=zEN (P:=P) (off:=f.offset) ha hs' hv w
           have:∃ u,(part f.type vs f.offset).run P w=.ok u w∧zH ψ c u:=by
            unfold zNQ at hc
            cases a with
            | true=>
             simp only at hc
             cases hl:ux cs f.offset s' with
             | none=>rw [hl] at hc; cases hc
             | some l=>rw [hl] at hc; injection hc with hc; subst hc; exact hp.2 rfl l hl
            | false=>exact hp.1 rfl c hc
           obtain ⟨u,hu,hur⟩:=this
           obtain ⟨y',g1,g2⟩:=wX hrel rest (zEI hur) hf
           refine ⟨y',?_,g2⟩
           rw [← g1]
           simp [follow,run_underlying h1,h2,hd,hu]
         · cases hf
       · cases hf
     · cases hf
theorem zBP (hrel:qc ψ (zC.fam h) w) {xt:TypeId} {x:uF} {y:Place} {pr:Bool} {c:CV} (wr:Option String) (hx:zOF ψ x y) (hc:zAO P h xt x pr=some c) :
 ∃ v,(receiverAt xt y pr wr).run P w=.ok v w∧zH ψ c v:=by
 unfold zAO und at hc
 split at hc
 · rename_i e ht
   obtain ⟨v,hv,hr⟩:=zB2 hrel hx hc
   exact ⟨v,by simp [receiverAt,run_underlying ht,hv],hr⟩
 · rename_i e ht
   split at hc
   · rename_i b off hg
     obtain ⟨v,hv,hr⟩:=zB2 hrel hx hg
     rw [zm] at hr
     obtain ⟨p,hp,rfl⟩:=hr
     obtain ⟨u,hu,hur⟩:=zHV hrel hp hc
     refine ⟨u,?_,hur⟩
     cases wr with
     | none=>simp [receiverAt,run_underlying ht,hv,asAddr,hu]
     | some nm=>
      have hck:(Builtin.ssaWrapNilChk_ #[xt] xt #[.pointer (some ⟨p.blk,p.off+off,none⟩),strVal "",strVal nm]).run P w=.ok (.pointer (some ⟨p.blk,p.off+off,none⟩)) w:=rfl
      simp only [receiverAt,Sem.run_bind,run_underlying ht,Result.andThen_ok,hv,hck,asAddr,Sem.run_pure,hu]
   · cases hc
 · rename_i D hD b off ht
   injection hc with hc; subst hc
   obtain ⟨p,hp,rfl⟩:=hx
   refine ⟨_,?_,zm.2 ⟨p,hp,rfl⟩⟩
   unfold receiverAt
   simp only [Sem.run_bind,run_underlying ht,Result.andThen_ok]
   cases D <;> first | rfl | exact absurd rfl (hD _)
 · cases hc
 · rename_i D hD ht
   obtain ⟨v,hv,hr⟩:=zB2 hrel hx hc
   refine ⟨v,?_,hr⟩
   unfold receiverAt
   simp only [Sem.run_bind,run_underlying ht,Result.andThen_ok]
   cases D <;> first | exact hv | exact absurd rfl (hD _) | (exact absurd (Eq.refl _) (hD _))
 · cases hc
end
end Go.Ev
namespace Go.Ev
variable [Sym]
open Go.MapKept
noncomputable section
variable {P:Program} {ψ:Psi} {es:List CV} {tm:Tm} {h:zC} {n:Key} {ρ:Operand→Value} {E:Env} {ty:TypeId} {w:World}
variable [SymFact P]
theorem zJs (name:String):∀ (l:List Method),uJ name l=l.find? (fun m=>m.name == name)
 | []=>rfl
 | m::r=>by
  unfold uJ
  rw [List.find?_cons,zJs name r]
  by_cases e:(m.name == name)=true
  · rw [if_pos e,e]
  · rw [if_neg e]
    have:(m.name == name)=false:=by simpa using e
    rw [this]
theorem zEV (hrel:qc ψ (zC.fam h) w) (name:String):∀ (d fuel:Nat) {t:TypeId} {v:CV} {x:Value} {f:FuncId} {r:CV},d≤fuel→zH ψ v x→zEm P h d t v name=some (f,r) →
 ∃ y,(method fuel t x name).run P w=.ok (f,y) w∧zH ψ r y
 | 0,_,_,_,_,_,_,_,_,hm=>by cases hm
 | d+1,0,_,_,_,_,_,hle,_,_=>by omega
 | d+1,fuel+1,t,v,x,f,r,hle,hv,hm=>by
  unfold zEm at hm
  cases hrow:zIk P t name with
  | none=>rw [hrow] at hm; cases hm
  | some m=>
   simp only [hrow] at hm
   unfold zIk at hrow
   cases hi:P.info? t with
   | none=>rw [hi] at hrow; cases hrow
   | some ti=>
    rw [hi] at hrow
    simp only [Option.bind_some,zJs] at hrow
    have hrow:ti.methods.find? (fun m=>m.name == name)=some m:=by rw [← Array.find?_toList]; exact hrow
    cases hf:vA P h m.path.toList t (.val v) with
    | none=>rw [hf] at hm; cases hm
    | some q=>
     obtain ⟨xt,x'⟩:=q
     simp only [hf] at hm
     obtain ⟨y',g1,g2⟩:=wX hrel _ (zEI hv) hf
     split at hm
     · rename_i hfn
       split at hm
       · rename_i t' v' hg
         obtain ⟨u,hu,hur⟩:=zB2 hrel g2 hg
         rw [yc] at hur
         obtain ⟨u',rfl,hur⟩:=hur
         obtain ⟨y,k1,k2⟩:=zEV hrel name d fuel (by omega) hur hm
         refine ⟨y,?_,k2⟩
         rw [← k1]
         simp [method,typeInfo,hi,hrow,g1,hfn,hu]
       · cases hm
     · rename_i f' pr hfn
       split at hm
       · rename_i r' hrc
         injection hm with hm; injection hm with e1 e2; subst e1 e2
         obtain ⟨y,k1,k2⟩:=zBP hrel (if m.path.isEmpty then some ((name.splitOn ".").getLastD name) else none) g2 hrc
         refine ⟨y,?_,k2⟩
         unfold method
         simp only [Sem.run_bind,jE hi,Result.andThen_ok,hrow,g1,hfn,k1,Sem.run_pure]
       · cases hm
section
variable {o:Op}
def zCk (P:Program) (ψ:Psi) (h:zC) (n:Key) (w:World) (run:Result Next):OR→Prop
 | .call f args=>qc ψ (zC.fam h) w→∃ args',run=(callFunc f args').run P w∧zX ψ args args'.toList
 | .err _=>True
 | _=>False
theorem zDZ {r:OR} {run:Result Next} (hrun:(execOp ρ (xx o ty)).run P w=run) (hc:zCk P ψ h n w run r):zD P ψ h n ρ o ty w r:=by
 cases r <;> first | exact hc.elim | exact trivial | skip
 case call f args=>
  intro hrel
  obtain ⟨args',h1,h2⟩:=hc hrel
  exact ⟨args',by rw [← h1]; exact hrun,h2⟩
theorem zAE {recv:CV} {x:Value} {args:List CV} {as:Array Value} (name:String) (hx:zH ψ recv x) (has:zX ψ args as.toList) :
 zCk P ψ h n w ((callMethod x name as).run P w) (zHc P h recv name args):=by
 refine xn (C:=zCk P ψ h n w ((callMethod x name as).run P w)) _ _ _ _ trivial (fun _=>trivial) fun t v hv=>?_
 rw [hv,yc] at hx
 obtain ⟨y,rfl,hy⟩:=hx
 split
 · rename_i f r hm
   intro hrel
   obtain ⟨u,h1,h2⟩:=zEV (P:=P) hrel name 8 (P.types.size+Made.depth) (by unfold Made.depth; omega) hy hm
   refine ⟨#[u]++as,?_,?_⟩
   · simp [callMethod,h1]
   · have:(#[u]++as).toList=u::as.toList:=by simp
     rw [this]
     exact zW.2 ⟨h2,has⟩
 · exact trivial
theorem zOt {f:CV} {fv:Value} {args:List CV} {as:Array Value} (hf:zH ψ f fv) (has:zX ψ args as.toList) :
 zCk P ψ h n w ((do let d ← Deferred.ofValue fv as; invoke d.target d.args:Sem Next).run P w) (zQq P h f args):=by
 refine wv (C:=zCk P ψ h n w _) _ _ _ trivial fun fn first captured hv=>?_
 rw [hv,xJ] at hf
 obtain ⟨a',c',rfl,h1,h2⟩:=hf
 have hfa:zX ψ (zC3 first args) (a'++as).toList:=by rw [vI,Array.toList_append]; exact h1.append has
 split
 · rename_i g
   intro _
   refine ⟨a'++as++c',by simp [Deferred.ofValue,invoke],?_⟩
   rw [vI,vI,Array.append_assoc,Array.toList_append,Array.toList_append]
   exact h1.append (has.append h2)
 · rename_i name
   split
   · rename_i recv rest hl
     rw [hl] at hfa
     obtain ⟨r,rs,e,hr,hrs⟩:=za.1 hfa
     have e0:(a'++as)[0]? = some r:=by rw [← Array.getElem?_toList,e]; rfl
     have e1:((a'++as).extract 1 (a'++as).size).toList=rs:=by
      rw [Array.toList_extract,e,List.extract_eq_take_drop]
      have:(a'++as).size=rs.length+1:=by rw [← Array.length_toList,e]; rfl
      rw [this]; simp
     have:=zAE (P:=P) (h:=h) (n:=n) (w:=w) name hr (as:=(a'++as).extract 1 (a'++as).size) (by rw [e1]; exact hrs)
     have hrun:(do let d ← Deferred.ofValue (.func (.method name) a' c') as; invoke d.target d.args:Sem Next).run P w=(callMethod r name ((a'++as).extract 1 (a'++as).size)).run P w:=by
      simp only [Deferred.ofValue,Sem.run_bind,Sem.run_pure,Result.andThen_ok,invoke,e0]
     rw [hrun]; exact this
   · exact trivial
 · rename_i t name
   split
   · rename_i recv rest hl
     rw [hl] at hfa
     obtain ⟨r,rs,e,hr,hrs⟩:=za.1 hfa
     have e0:(a'++as)[0]? = some r:=by rw [← Array.getElem?_toList,e]; rfl
     have e1:((a'++as).extract 1 (a'++as).size).toList=rs:=by
      rw [Array.toList_extract,e,List.extract_eq_take_drop]
      have:(a'++as).size=rs.length+1:=by rw [← Array.length_toList,e]; rfl
      rw [this]; simp
     unfold und
     split
     · rename_i ms ht
       have:=zAE (P:=P) (h:=h) (n:=n) (w:=w) name hr (as:=(a'++as).extract 1 (a'++as).size) (by rw [e1]; exact hrs)
       have hrun:(do let d ← Deferred.ofValue (.func (.methodOf t name) a' c') as; invoke d.target d.args:Sem Next).run P w=(callMethod r name ((a'++as).extract 1 (a'++as).size)).run P w:=by
        simp only [Deferred.ofValue,Sem.run_bind,Sem.run_pure,Result.andThen_ok,invoke,e0,run_underlying ht]
       rw [hrun]; exact this
     · rename_i D hD ht
       have:=zAE (P:=P) (h:=h) (n:=n) (w:=w) name (recv:=.iface t recv) (x:=.iface t r) (yc.2 ⟨r,rfl,hr⟩) (as:=(a'++as).extract 1 (a'++as).size) (by rw [e1]; exact hrs)
       have hrun:(do let d ← Deferred.ofValue (.func (.methodOf t name) a' c') as; invoke d.target d.args:Sem Next).run P w=(callMethod (.iface t r) name ((a'++as).extract 1 (a'++as).size)).run P w:=by
        simp only [Deferred.ofValue,Sem.run_bind,Sem.run_pure,Result.andThen_ok,invoke,e0,run_underlying ht]
       rw [hrun]; exact this
     · exact trivial
   · exact trivial
 · rename_i t path g pr
   split
   · rename_i recv rest hl
     rw [hl] at hfa
     obtain ⟨r,rs,e,hr,hrs⟩:=za.1 hfa
     have e0:(a'++as)[0]? = some r:=by rw [← Array.getElem?_toList,e]; rfl
     have e1:((a'++as).extract 1 (a'++as).size).toList=rs:=by
      rw [Array.toList_extract,e,List.extract_eq_take_drop]
      have:(a'++as).size=rs.length+1:=by rw [← Array.length_toList,e]; rfl
      rw [this]; simp
     split
     · rename_i xt x hfo
       split
       · rename_i rc hrc
         intro hrel
         obtain ⟨y',g1,g2⟩:=wX hrel _ (zEI hr) hfo
         obtain ⟨u,k1,k2⟩:=zBP hrel none g2 hrc
         refine ⟨#[u]++(a'++as).extract 1 (a'++as).size,?_,?_⟩
         · simp only [Deferred.ofValue,Sem.run_bind,Sem.run_pure,Result.andThen_ok,invoke,e0,receiverVia,g1,k1]
         · have:(#[u]++(a'++as).extract 1 (a'++as).size).toList=u::rs:=by rw [Array.toList_append,e1]; rfl
           rw [this]
           exact zW.2 ⟨k2,hrs⟩
       · exact trivial
     · exact trivial
   · exact trivial
 · exact trivial
structure zNE (ρ:Operand→Value):Prop where
 const:∀ v,ρ (.const v)=v
 func:∀ f,ρ (.func f)=.func (.func f) #[] #[]
theorem zOG (c:Call) (ha:z6 P ψ es tm E ρ c.operands.toList):zD P ψ h n ρ (.defer c) ty w (yN P (zg P E (.defer c)) es tm h n):=by
 rw [zg]
 split
 · rename_i f hcal
   split
   · rename_i f' args hf hargs
     refine wv (C:=zD P ψ h n ρ (.defer c) ty w) _ _ _ (zA _) fun fn first captured hv=>?_
     have hfr:=ha f (by simp [Call.operands,hcal]) f' hf
     have has:=ko _ (ha.sub fun y hy=>by simp [Call.operands]; exact .inr (by simpa using hy)) hargs
     rw [hv,xJ] at hfr
     obtain ⟨a',c',hfr,h1,h2⟩:=hfr
     split
     · rename_i g
       refine ⟨{ target:=.fn (.func g) c',args:=a'++c.args.map ρ },.func g,c',a'++c.args.map ρ++c',?_,rfl,fun w=>rfl,?_⟩
       · simp [execOp,resolve,hcal,hfr,Deferred.ofValue]
       · rw [vI,vI,Array.append_assoc,Array.toList_append,Array.toList_append,Array.toList_map]
         exact h1.append (has.append h2)
     · exact zA _
   · exact zA _
 · exact zA _
end
end
end Go.Ev
namespace Go.Ev
variable [Sym]
open Go.MapKept
noncomputable section
variable {P:Program} {ψ:Psi} {es:List CV} {tm:Tm} {h:zC} {n:Key} {ρ:Operand→Value} {E:Env} {ty:TypeId} {w:World}
variable [SymFact P]
theorem zEk {fn:Func} {nm:String} {e:Array Value→Sem Value} (ho:fn.origin = "") (hn:fn.name=nm)
 (h1:Extern.allNextRows.lookup nm=none) (h2:Extern.allGenericRows.lookup nm=none) (h3:Extern.allTypedRows.lookup nm=none) (h4:Extern.allRows.lookup nm=some e)
 (h5:Extern.allNextRows.lookup "" = none):Extern.findNext fn=none∧Extern.find fn=some e:=by
 constructor
 · unfold Extern.findNext
   simp only [hn,ho,h1,h5]; rfl
 · unfold Extern.find
   simp only [hn,h2,h3,h4]; rfl
theorem zBO:Extern.allNextRows.lookup "" = none:=by kernel_rfl
def zNO (fn:Func):Ext→Option (Array Value→Sem Value)
 | .count=>some Extern.BytealgCount.count
 | .indexByte=>some Extern.BytealgIndexByte.indexByte
 | .cmp=>some Extern.BytealgCompare.compare
 | .mapsClone=>some Extern.MapsClone.clone
 | .overlaps=>some (Extern.SlicesOverlaps.overlaps fn.params fn.resultTypes)
 | _=>none
theorem zGc {fn:Func} {e:Ext} (he:zCI P fn=some e):∃ en,zNO fn e=some en∧(fn.name == "runtime.NumGoroutine")=false∧Extern.findNext fn=none∧Extern.find fn=some en:=by
 unfold zCI at he
 split at he
 · rename_i ho
   have ho:fn.origin = "":=by simpa using ho
   split at he
   · rename_i hn
     have hn:fn.name=zG9 "bytealg.CountString":=by simpa using hn
     injection he with he; subst he
     obtain ⟨h1,h2⟩:=zEk (e:=Extern.BytealgCount.count) ho hn (by kernel_rfl) (by kernel_rfl) (by kernel_rfl) (by kernel_rfl) zBO
     exact ⟨_,rfl,by rw [hn]; decide,h1,h2⟩
   · split at he
     · rename_i hn
       have hn:fn.name=zG9 "bytealg.IndexByteString":=by simpa using hn
       injection he with he; subst he
       obtain ⟨h1,h2⟩:=zEk (e:=Extern.BytealgIndexByte.indexByte) ho hn (by kernel_rfl) (by kernel_rfl) (by kernel_rfl) (by kernel_rfl) zBO
       exact ⟨_,rfl,by rw [hn]; decide,h1,h2⟩
     · split at he
       · rename_i hn
         have hn:fn.name=zG9 "bytealg.abigen_runtime_cmpstring":=by simpa using hn
         injection he with he; subst he
         obtain ⟨h1,h2⟩:=zEk (e:=Extern.BytealgCompare.compare) ho hn (by kernel_rfl) (by kernel_rfl) (by kernel_rfl) (by kernel_rfl) zBO
         exact ⟨_,rfl,by rw [hn]; decide,h1,h2⟩
       · split at he
         · rename_i hn
           have hn:fn.name = "maps.clone":=by simpa using hn
           injection he with he; subst he
           obtain ⟨h1,h2⟩:=zEk (e:=Extern.MapsClone.clone) ho hn (by kernel_rfl) (by kernel_rfl) (by kernel_rfl) (by kernel_rfl) zBO
           exact ⟨_,rfl,by rw [hn]; decide,h1,h2⟩
         · cases he
 · split at he
   · rename_i ho
     injection he with he; subst he
     rw [Bool.and_eq_true] at ho
     obtain ⟨ho,hok⟩:=ho
     have ho:fn.origin = "slices.overlaps":=by simpa using ho
     unfold zBc zKF at hok
     simp only [Bool.and_eq_true,Option.isNone_iff_eq_none] at hok
     obtain ⟨⟨gn,⟨⟨g1,g2⟩,g3⟩,g4⟩,_⟩:=hok
     refine ⟨_,rfl,?_,?_,?_⟩
     · simpa using gn
     · unfold Extern.findNext
       have h1:Extern.allNextRows.lookup "slices.overlaps" = none:=by kernel_rfl
       simp only [ho,g1,h1]; rfl
     · unfold Extern.find
       have h1:Extern.allGenericRows.lookup "slices.overlaps" = none:=by kernel_rfl
       have h2:Extern.allTypedRows.lookup "slices.overlaps" = some Extern.SlicesOverlaps.overlaps:=by kernel_rfl
       simp only [ho,g2,g3,g4,h1,h2]; rfl
   · cases he
theorem zBs {w:World} {params res:Array TypeId} {tS e:TypeId} (hp:params[0]? = some tS) (ht:P.underlying tS=some (.slice e)) {size:Nat} (hz:∀ w,(Go.sizeOf e).run P w=.ok size w)
 (a b:Addr) (la ca lb cb:Nat) (hne:a.block≠b.block) (tA tB:TypeId) (kA kB:Nat)
 (hsa:w.shape? a.block=some (tA,kA)) (hsb:w.shape? b.block=some (tB,kB)) (hkB:kB≠0)
 (hfa:w.frozen? a=false) (hfe:w.frozen? { block:=a.block,off:=kA }=false) :
 (Extern.SlicesOverlaps.overlaps params res #[.slice (some a) la ca,.slice (some b) lb cb]).run P w=.ok (.bool false) w:=by
 have hnb:(a.block != b.block)=true:=by simpa using hne
 have hnb':(a.block == b.block)=false:=by simpa using hne
 change Sem.run P (α:=Value) (do
  let some t:=params[0]? | stuck "slices.overlaps: no parameter types"
  let .slice elem ← underlying t | stuck "slices.overlaps: slice type expected"
  let size ← sizeOf elem
  match (some a:Option Addr),(some b:Option Addr) with
  | some a,some b=>
   if la=0∨lb=0∨size=0 then pure (Value.bool false)
   else if a.block != b.block&&(← frozen a)&&(← frozen b) then unsupported .addressObserved
   else do
    if a.block != b.block then do
     noView a; noView b
     if ← mayBeOne a b then return Value.bool ((← choose (.extern "sameAddr.stringBytes" 2)) == 1)
    pure (Value.bool (a.block == b.block&&a.off<b.off+lb*size&&b.off<a.off+la*size))
  | _,_=>pure (Value.bool false)) w=_
 by_cases h0:la=0∨lb=0∨size=0
 · simp [hp,run_underlying ht,hz,h0]
 · cases kB with
   | zero=>exact absurd rfl hkB
   | succ kB=>
    simp [hp,run_underlying ht,hz,h0,hnb,hnb',frozen,noView,viewAt,mayBeOne,stringish,shape,Sem.run,hsa,hsb,hfa,hfe]
def qW (P:Program) (ψ:Psi) (h:zC) (n:Key) (w:World) (en:Array Value→Sem Value) (args:Array Value):OR→Prop
 | .val v=>∃ x,(en args).run P w=.ok x w∧zH ψ v x
 | .eff v h' n'=>Rel ψ (zC.fam h) w→(∀ k,n.ix≤k.ix→k.ix<n'.ix→ψ k=none)→n'.room →
  ∃ w' x ψ',(en args).run P w=.ok x w'∧zy ψ (zC.fam h) n w ψ' (zC.fam h') n' w'∧zH ψ' v x
 | .err _=>True
 | _=>False
theorem zD6 {c:CV} {b:Nat} {v:Value} (hb:vD c=some b) (hv:zH ψ c v):v=.int .u8 (Int.ofNat b)∧b≤255:=by
 unfold vD at hb
 split at hb
 · split at hb
   · rename_i hle
     injection hb with hb; subst hb
     exact ⟨zd.1 hv,zL hle⟩
   · cases hb
 · cases hb
theorem zPQ (c:UInt8) (l:List UInt8):zI0 c.toNat (l.map UInt8.toNat)=Lib.countByte l c:=by
 unfold Lib.countByte
 induction l with
 | nil=>rfl
 | cons x l ih=>
  show Bool.rec (motive:=fun _=>Nat) (zI0 c.toNat (l.map UInt8.toNat)) (Nat.succ (zI0 c.toNat (l.map UInt8.toNat))) (Nat.beq x.toNat c.toNat)=_
  rw [ih,List.count_cons]
  by_cases e:x=c
  · subst e; simp
  · rw [wT (fun h=>e (UInt8.toNat_inj.1 h))]; simp [e]
theorem zKL (c:UInt8):∀ (l:List UInt8) (i:Nat),(match zDh c.toNat (l.map UInt8.toNat) i with
 | some j=>(j:Int)
 | none=>-1)=(if Lib.indexByte l c = -1 then -1 else (i:Int)+Lib.indexByte l c) ∧ -1≤Lib.indexByte l c
 | [],i=>by simp [zDh,Lib.indexByte]
 | x::l,i=>by
  obtain ⟨h1,h2⟩:=zKL c l (i+1)
  rw [List.map_cons]
  unfold zDh Lib.indexByte
  by_cases e:x=c
  · subst e; simp
  · rw [wT (fun h=>e (UInt8.toNat_inj.1 h))]
    have e':(x == c)=false:=by simpa using e
    simp only [e']
    rw [h1]
    simp
    constructor
    · split <;> (try split) <;> omega
    · split <;> omega
theorem zFD:∀ (a b:List UInt8),Lib.compareBytes a b=if a=b then 0 else if Op.bytesLess a b then -1 else 1
 | [],[]=>by simp [Lib.compareBytes]
 | [],_::_=>by simp [Lib.compareBytes,Op.bytesLess]
 | _::_,[]=>by simp [Lib.compareBytes,Op.bytesLess]
 | x::a,y::b=>by
  unfold Lib.compareBytes Op.bytesLess
  rw [zFD a b]
  by_cases h1:x<y
  · have:x≠y:=fun e=>by subst e; exact absurd h1 (UInt8.lt_irrefl x)
    simp [h1,this]
  · by_cases h2:y<x
    · have:x≠y:=fun e=>by subst e; exact absurd h2 (UInt8.lt_irrefl x)
      simp [h1,h2,this]
    · have:x=y:=by
       apply UInt8.toNat_inj.1
       rw [UInt8.lt_iff_toNat_lt] at h1 h2
       omega
      subst this
      simp [h1]
theorem zM8 {fn:Func} {e:Ext} {en:Array Value→Sem Value} (hex:zCI P fn=some e) (he:zNO fn e=some en) {args:List CV} {as:Array Value} (has:zX ψ args as.toList) :
 qW P ψ h n w en as (zCh e args h n):=by
 unfold zCh
 split
 · -- count
   rename_i a b
   injection he with he; subst he
   obtain ⟨x,r,e1,hx,hr⟩:=za.1 has
   obtain ⟨y,r',e2,hy,hr'⟩:=za.1 hr
   rw [zM] at hr'
   subst e2 hr'
   have:=zBq e1
   subst this
   refine yJ (C:=qW P ψ h n w _ _) _ _ _ trivial fun s hs=>?_
   rw [hs,zf] at hx
   obtain ⟨bs,rfl,rfl⟩:=hx
   refine v2 (C:=qW P ψ h n w _ _) _ _ _ trivial fun c hc=>?_
   obtain ⟨rfl,hle⟩:=zD6 hc hy
   refine ⟨_,Lib.run_countString bs _ w,?_⟩
   have:((Int.ofNat c).toNat.toUInt8).toNat=c:=by simp; omega
   have h2:=zPQ ((Int.ofNat c).toNat.toUInt8) bs.data.toList
   rw [this] at h2
   rw [← h2]
   exact xz _
 · -- index
   rename_i a b
   injection he with he; subst he
   obtain ⟨x,r,e1,hx,hr⟩:=za.1 has
   obtain ⟨y,r',e2,hy,hr'⟩:=za.1 hr
   rw [zM] at hr'
   subst e2 hr'
   have:=zBq e1
   subst this
   refine yJ (C:=qW P ψ h n w _ _) _ _ _ trivial fun s hs=>?_
   rw [hs,zf] at hx
   obtain ⟨bs,rfl,rfl⟩:=hx
   refine v2 (C:=qW P ψ h n w _ _) _ _ _ trivial fun c hc=>?_
   obtain ⟨rfl,hle⟩:=zD6 hc hy
   have hrun:=Lib.run_indexByteString (P:=P) bs (Int.ofNat c) w
   have:((Int.ofNat c).toNat.toUInt8).toNat=c:=by simp; omega
   obtain ⟨h2,h3⟩:=zKL ((Int.ofNat c).toNat.toUInt8) bs.data.toList 0
   rw [this] at h2
   have h4:(match zDh c (zo bs) 0 with
    | some j=>(j:Int)
    | none=>-1)=Lib.indexByte bs.data.toList (Int.ofNat c).toNat.toUInt8:=by
    refine h2.trans ?_
    split <;> omega
   rw [← h4] at hrun
   split
   · rename_i i hi
     simp only [hi] at hrun
     exact ⟨_,hrun,xz _⟩
   · rename_i hi
     simp only [hi] at hrun
     exact ⟨_,hrun,zd.2 rfl⟩
 · -- compare
   rename_i a b
   injection he with he; subst he
   obtain ⟨x,r,e1,hx,hr⟩:=za.1 has
   obtain ⟨y,r',e2,hy,hr'⟩:=za.1 hr
   rw [zM] at hr'
   subst e2 hr'
   have:=zBq e1
   subst this
   refine yJ (C:=qW P ψ h n w _ _) _ _ _ trivial fun s hs=>?_
   rw [hs,zf] at hx
   obtain ⟨bs,rfl,rfl⟩:=hx
   refine yJ (C:=qW P ψ h n w _ _) _ _ _ trivial fun s hs=>?_
   rw [hs,zf] at hy
   obtain ⟨cs,rfl,rfl⟩:=hy
   have hrun:=Lib.run_compareString (P:=P) bs cs w
   rw [zFD] at hrun
   rw [jS,jS,qR,ku,ByteArray.toList_eq,ByteArray.toList_eq]
   by_cases e:bs.data.toList=cs.data.toList
   · rw [if_pos e] at hrun
     rw [if_pos (by simpa using e)]
     exact ⟨_,hrun,zS.2 rfl⟩
   · rw [if_neg e] at hrun
     rw [if_neg (by simpa using e)]
     by_cases hl:Op.bytesLess bs.data.toList cs.data.toList=true
     · rw [if_pos hl] at hrun
       rw [if_pos hl]
       exact ⟨_,hrun,zd.2 rfl⟩
     · rw [if_neg hl] at hrun
       rw [if_neg hl]
       exact ⟨_,hrun,zS.2 rfl⟩
 · -- overlaps
   rename_i a b
   injection he with he; subst he
   obtain ⟨x,r,e1,hx,hr⟩:=za.1 has
   obtain ⟨y,r',e2,hy,hr'⟩:=za.1 hr
   rw [zM] at hr'
   subst e2 hr'
   have:=zBq e1
   subst this
   refine yO (C:=qW P ψ h n w _ _) _ _ _ _ trivial (fun _=>trivial) fun k o l c s ex hk=>?_
   refine yO (C:=qW P ψ h n w _ _) _ _ _ _ trivial (fun _=>trivial) fun j o' m c' s' ex' hj=>?_
   refine zG (C:=qW P ψ h n w _ _) _ _ _ trivial fun hjk=>?_
   refine wx (C:=qW P ψ h n w _ _) _ _ _ trivial fun u vs hvs=>?_
   refine zG (C:=qW P ψ h n w _ _) _ _ _ trivial fun hu=>?_
   refine yW (C:=qW P ψ h n w _ _) _ _ _ trivial fun vs' hvs'=>?_
   refine zG (C:=qW P ψ h n w _ _) _ _ _ trivial fun hl=>?_
   have hjk:j≠k:=by simpa using hjk
   subst hu
   intro hrel _ _
   rw [hk,zx] at hx
   rw [hj,zx] at hy
   obtain ⟨p,x1,cap1,hp,rfl,_⟩:=hx
   obtain ⟨q,x2,cap2,hq,rfl,_⟩:=hy
   have hne:p.blk≠q.blk:=fun e=>hjk (hrel.inj k j _ _ p q hvs hvs' hp hq (.inl rfl) e).symm
   obtain ⟨arr,el,fz,c1,c2,c3,c4,_⟩:jP ψ w p true vs:=hrel.on k _ p hvs hp
   obtain ⟨arr',el',fz',d1,d2,d3,_⟩:yZ ψ w q vs':=hrel.on j _ q hvs' hq
   have hl:1≤vo vs':=zL hl
   have hll:=we vs'
   have hfz:fz.1=fz.2:=by
    rcases c4 with h | h
    · exact h
    · cases h.1
   have hfr:∀ i,w.frozen? ⟨p.blk,i,none⟩=false:=by
    intro i
    unfold World.frozen?
    rw [c1]
    simp
    omega
   obtain ⟨tS,e,hp0,ht,sz,hsz⟩:∃ tS e,fn.params[0]? = some tS∧P.underlying tS=some (.slice e)∧∃ sz,x7 P e=some sz:=by
    unfold zCI at hex
    split at hex
    · split at hex
      · cases hex
      · split at hex
        · cases hex
        · split at hex
          · cases hex
          · split at hex <;> cases hex
    · split at hex
      · rename_i ho
        rw [Bool.and_eq_true] at ho
        have hok:=ho.2
        unfold zBc und at hok
        rw [Bool.and_eq_true] at hok
        have hok:=hok.2
        split at hok
        · rename_i t _ hpl
          split at hok
          · rename_i e ht
            obtain ⟨sz,hsz⟩:=Option.isSome_iff_exists.1 hok
            refine ⟨t,e,?_,ht,sz,hsz⟩
            have:=congrArg (·[0]?) hpl
            simpa using this
          · cases hok
        · cases hok
      · cases hex
   refine ⟨w,.bool false,ψ,?_,zy.refl hrel,zJ.2 rfl⟩
   exact zBs hp0 ht (fun w=>yb hsz w) ⟨p.blk,x1,none⟩ ⟨q.blk,x2,none⟩ _ _ _ _ hne el el' arr.size arr'.size (by unfold World.shape?; rw [c1]) (by unfold World.shape?; rw [d1])
    (by omega) (hfr _) (hfr _)
 · -- clone
   rename_i a
   injection he with he; subst he
   obtain ⟨x,r,e1,hx,hr⟩:=za.1 has
   rw [zM] at hr
   subst hr
   have:=zBq e1
   subst this
   refine xn (C:=qW P ψ h n w _ _) _ _ _ _ trivial (fun _=>trivial) fun t v hv=>?_
   rw [hv,yc] at hx
   obtain ⟨y,rfl,hy⟩:=hx
   refine xC (C:=qW P ψ h n w _ _) _ _ _ _ trivial (fun _=>trivial) fun b hb=>?_
   rw [hb,yn] at hy
   obtain ⟨p,hp,rfl⟩:=hy
   refine yT (C:=qW P ψ h n w _ _) _ _ _ trivial fun cs clock hl=>?_
   intro hrel hnew hroom
   obtain ⟨arr,h1,h2,hcp⟩:=hrel.on b _ p hl hp
   have hr:=Key.room_of_succ hroom
   have hix:=Key.ix_succ hr
   have hnone:ψ n=none:=hnew n (Nat.le_refl _) (by omega)
   have hw:=jA w (.map arr (p.ck clock))
   have hpost:=wU (n:=n) (sz:=0) (ck:=p.ck) (o:=.map cs clock) hrel hr hnone hw ⟨arr,by simp,h2.mono (Psi.le_upd _ hnone),hcp⟩
   refine ⟨_,.iface t (.map (some w.heap.size)),_,?_,by rw [zn]; exact hpost,yc.2 ⟨_,rfl,yn.2 ⟨_,Psi.upd_same _ _ _,rfl⟩⟩⟩
   have hget:=run_getObj_map (P:=P) h1
   rw [show Extern.MapsClone.clone #[Value.iface t (.map (some p.blk))]=(getObj p.blk >>= _) from rfl,Sem.run_bind,hget]
   simp
 · exact trivial
section
variable {o:Op}
theorem zSc {c:Call} {f:FuncId} {fn:Func} {e:Ext} {args:List zT} (hcal:c.callee=.value (.func f)) (hρ:zNE ρ) (hfn:P.funcs[f]? = some fn) (hb:fn.body.isNone=true)
 (he:zCI P fn=some e) (hargs:qa P E c.args.toList=some args) (ha:z6 P ψ es tm E ρ c.args.toList):zD P ψ h n ρ (.call c) ty w (zCh e (aVs es tm args) h n):=by
 obtain ⟨en,h1,h2,h3,h4⟩:=zGc he
 have has:=ko _ ha hargs
 rw [← Array.toList_map] at has
 have hout:=zM8 (P:=P) (h:=h) (n:=n) (w:=w) he h1 has
 have hrun:∀ {x:Value} {w':World},(en (c.args.map ρ)).run P w=.ok x w'→(execOp ρ (xx (.call c) ty)).run P w=.ok (.value x) w':=by
  intro x w' hx
  have:=run_callFunc_extern (P:=P) hfn h2 hb h3 h4 (c.args.map ρ) w
  rw [hx] at this
  simp only [execOp,resolve,hcal,Sem.run_bind,hρ.func,Deferred.ofValue,Sem.run_pure,Result.andThen_ok,invoke]
  have e0:(#[]++c.args.map ρ ++ #[]:Array Value)=c.args.map ρ:=by simp
  rw [e0,this]; rfl
 generalize zCh e (aVs es tm args) h n=r at hout
 cases r <;> first | exact hout.elim | exact trivial | skip
 case val v=>
  obtain ⟨x,h5,h6⟩:=hout
  exact ⟨x,zP (hrun h5),h6⟩
 case eff v h' n'=>
  intro g1 g2 g3
  obtain ⟨w',x,ψ',h5,h6,h7⟩:=hout g1 g2 g3
  exact ⟨w',x,ψ',zP (hrun h5),h6,h7⟩
theorem zQI (hρ:zNE ρ) (c:Call) (ha:z6 P ψ es tm E ρ c.operands.toList):zD P ψ h n ρ (.call c) ty w (yN P (zg P E (.call c)) es tm h n):=by
 have hargsok:z6 P ψ es tm E ρ c.args.toList:=ha.sub fun y hy=>by simp [Call.operands]; exact .inr (by simpa using hy)
 rw [show zg P E (.call c)=zFT P E c from rfl]
 unfold zFT
 split
 · rename_i b hc
   exact zJ1 c b hc hargsok
 · rename_i r name hc
   split
   · rename_i r' args hr hargs
     have hx:=ha r (by simp [Call.operands,hc]) r' hr
     have has:=ko _ hargsok hargs
     rw [← Array.toList_map] at has
     refine zDZ ?_ (zAE (P:=P) (h:=h) (n:=n) (w:=w) name hx has)
     simp only [execOp,resolve,hc,Sem.run_bind,Sem.run_pure,Result.andThen_ok,invoke]
     have e0:(#[ρ r]++c.args.map ρ)[0]? = some (ρ r):=by rw [← Array.getElem?_toList,Array.toList_append]; rfl
     have e1:(#[ρ r]++c.args.map ρ).extract 1 (#[ρ r]++c.args.map ρ).size=c.args.map ρ:=by
      apply Array.ext'
      rw [Array.toList_extract,Array.toList_append,List.extract_eq_take_drop]
      show ((c.args.map ρ).toList).take _=_
      exact List.take_of_length_le (by simp)
     rw [e0]
     simp only
     rw [e1]
   · exact zA _
 · rename_i f hc
   split
   · exact zA _
   · rename_i args hargs
     have has:=ko _ hargsok hargs
     rw [← Array.toList_map] at has
     split
     · rename_i g
       rw [ye]
       split
       · exact zA _
       · rename_i fn hfn
         have hfn:P.funcs[g]? = some fn:=by simpa using hfn
         split
         · intro _
           refine ⟨c.args.map ρ,?_,has⟩
           simp only [execOp,resolve,hc,Sem.run_bind,hρ.func,Deferred.ofValue,Sem.run_pure,Result.andThen_ok,invoke]
           simp
         · rename_i hb
           split
           · rename_i e he
             exact zSc hc hρ hfn (by cases hbb:fn.body <;> simp_all) he hargs hargsok
           · exact zA _
     · split
       · rename_i f' hf
         have hx:=ha f (by simp [Call.operands,hc]) f' hf
         refine zDZ ?_ (zOt (P:=P) (h:=h) (n:=n) (w:=w) hx has)
         simp only [execOp,resolve,hc]
       · exact zA _
theorem zLl (hρ:zNE ρ) (o:Op) (ha:z6 P ψ es tm E ρ o.operands.toList):zD P ψ h n ρ o ty w (yN P (zg P E o) es tm h n):=by
 cases o <;> try exact zA _
 case move=>exact zQh _ ha
 case assign=>exact zMh _ ha
 case pick=>exact zPz _ _ _ ha
 case alloc=>exact zN4 _
 case box=>exact zSf _ _ ha
 case build=>exact zN9 _ _ ha
 case buildSlice=>exact zGi _ _ _ ha
 case load=>exact zQB _ _ ha
 case store=>exact zOD _ _ _ ha
 case nilCheck=>exact zOO _ ha
 case binOp=>exact zOV _ _ _ _ _ ha
 case unOp=>exact zQ9 _ _ _ ha
 case convert=>exact zJa _ _ _ ha
 case makeInterface=>exact zB0 _ _ ha
 case makeFunc=>exact zIz _ _ _ (ha.sub fun y hy=>by simp [Op.operands] at hy ⊢; exact hy)
 case makeMap=>exact zJx _ _ hρ.const
 case makeSlice=>exact zGq _ _ _ ha
 case slice=>exact zOi _ _ _ _ _ (ha.sub fun y hy=>by simp [Op.operands] at hy ⊢; exact hy)
 case fieldAddr=>exact zGx _ _ _ ha
 case field=>exact zNW _ _ _ ha
 case indexAddr=>exact zGt _ _ _ ha
 case index=>exact zOp _ _ _ ha
 case lookup=>exact zK3 _ _ _ _ ha
 case mapUpdate=>exact zGo _ _ _ _ ha
 case insert=>exact zLa _ _ _ _ ha
 case range=>exact zOW _ _ ha
 case next=>exact zQg _ _ ha
 case entry=>exact zOr _ ha
 case typeAssert=>exact zFp _ _ _ _ ha
 case extract=>exact zJh _ _ ha
 case call=>exact zQI hρ _ ha
 case defer=>exact zOG _ ha
end
end
end Go.Ev
namespace Go.Ev
variable [Sym]
noncomputable section
variable {P:Program} {es:List CV} {tm:Tm} {h:zC} {n:Key}
variable [SymFact P]
def zE (n:Key):OR→Prop
 | .eff _ _ n'=>n.ix≤n'.ix
 | .fork a b=>zE n a∧zE n b
 | _=>True
theorem zMV {x:CV} (s:Nat) (nf:Nat→Nat) (k:Nat→List CV→OR) (e:Nat) (hk:∀ m l,zE n (k m l)):zE n (zLU h s x k nf e):=by
 unfold zLU
 split
 · refine zG (C:=zE n) _ _ _ trivial fun _=>?_
   exact yR (C:=zE n) _ _ _ trivial fun _ _=>hk _ _
 · refine zG (C:=zE n) _ _ _ trivial fun _=>?_
   exact yR (C:=zE n) _ _ _ trivial fun _ _=>hk _ _
 · exact zG (C:=zE n) _ _ _ trivial fun _=>hk _ _
 · refine yO (C:=zE n) _ _ _ _ trivial (fun _=>hk _ _) fun _ _ _ _ _ _ _=>?_
   refine xA (C:=zE n) _ _ _ trivial fun _ _=>?_
   exact yR (C:=zE n) _ _ _ trivial fun _ _=>hk _ _
theorem uH (v:Option CV) (e:Nat):zE n (zD7 v e):=by cases v <;> trivial
theorem zGS (k:IntKind):∀ (m:Nat),zE n (zL4 k m)
 | 0=>trivial
 | m+1=>⟨zGS k m,trivial⟩
theorem zHx (k:IntKind):∀ (m:Nat),zE n (zLg k m)
 | 0=>trivial
 | m+1=>⟨zHx k m,trivial,trivial⟩
theorem yj (op:BinOp) (j k:IntKind):zE n (jG op j k):=by
 refine zG (C:=zE n) _ _ _ trivial fun _=>?_
 cases op <;> first | trivial | exact ⟨trivial,trivial⟩
theorem zO9 (op:BinOp) (k:IntKind) (b:Int):zE n (zF5 op k b):=by
 cases op
 case add=>exact yj .add k k
 case sub=>exact yj .sub k k
 case mul=>exact yj .mul k k
 case or=>exact yj .or k k
 case xor=>exact yj .xor k k
 case andNot=>exact yj .andNot k k
 case eql=>exact yj .eql k k
 case neq=>exact yj .neq k k
 case lss=>exact yj .lss k k
 case leq=>exact yj .leq k k
 case gtr=>exact yj .gtr k k
 case geq=>exact yj .geq k k
 case quo=>cases b with
  | ofNat m=>cases m <;> trivial
  | negSucc m=>trivial
 case rem=>cases b with
  | ofNat m=>cases m with
   | zero=>trivial
   | succ m=>
    refine zG (C:=zE n) _ _ _ trivial fun _=>?_
    split
    · exact zHx k m
    · trivial
  | negSucc m=>trivial
 case and=>cases b with
  | ofNat m=>
   refine zG (C:=zE n) _ _ _ trivial fun _=>?_
   exact zGS k m
  | negSucc m=>trivial
 case shl=>cases b <;> trivial
 case shr=>cases b <;> trivial
theorem zO1 (op:BinOp) (x y:CV):zE n (zLh op x y):=by
 have right:∀ (k j:IntKind) (b:Int),zE n (yi (kEq k j || yz op) (zF5 op k b) 118):=fun k j b=>zG (C:=zE n) _ _ _ trivial fun _=>zO9 _ _ _
 refine zHG (C:=zE n) _ _ _ _ _ trivial (fun a _=>?_) (fun k a _=>?_) (fun k _=>?_) (fun s _=>?_)
 · refine kD (C:=zE n) _ _ _ _ trivial (fun _ _=>?_) (fun _ _ _=>?_) (fun _ _=>yj _ _ _)
   · exact zG (C:=zE n) _ _ _ trivial fun _=>uH _ _
   · exact zG (C:=zE n) _ _ _ trivial fun _=>uH _ _
 · refine kD (C:=zE n) _ _ _ _ trivial (fun _ _=>?_) (fun _ _ _=>?_) (fun _ _=>yj _ _ _)
   · exact zG (C:=zE n) _ _ _ trivial fun _=>uH _ _
   · exact zG (C:=zE n) _ _ _ trivial fun _=>uH _ _
 · exact kD (C:=zE n) _ _ _ _ trivial (fun _ _=>right _ _ _) (fun _ _ _=>right _ _ _) (fun _ _=>yj _ _ _)
 · exact yJ (C:=zE n) _ _ _ trivial fun _ _=>uH _ _
theorem zNp (o:Option (List CV)) (e:Nat):zE n (zSz o e):=by
 have:∀ (l:List CV) (c:CV),zE n (forkL c l):=by
  intro l
  induction l with
  | nil=>intro c; trivial
  | cons d l ih=>intro c; exact ⟨trivial,ih d⟩
 cases o with
 | none=>trivial
 | some l=>cases l with
  | nil=>trivial
  | cons c l=>exact this l c
theorem zON (op:BinOp) (x y:CV):zE n (kQ op x y):=by
 unfold kQ
 split
 · unfold zQO
   split <;> first | trivial | (rw [jS]; split <;> first | trivial | exact ⟨trivial,trivial⟩)
 · split
   · exact zNp _ _
   · exact zO1 _ _ _
theorem zDl (c:Option zT) (y d:Nat) (k:Nat→OR) (e:Nat) (hk:∀ i,zE n (k i)):zE n (zBt es tm c y d k e):=by
 cases c with
 | none=>exact hk _
 | some c=>
  refine yU (C:=zE n) _ _ _ trivial fun _ _=>?_
  exact zG (C:=zE n) _ _ _ trivial fun _=>hk _
theorem jL (len cap:Nat) (lo hi mx:Option zT) (k:Nat→Nat→Nat→OR) (e:Nat) (hk:∀ i j l,zE n (k i j l)):zE n (qu es tm len cap lo hi mx k e):=
 zDl _ _ _ _ _ fun _=>zDl _ _ _ _ _ fun _=>zDl _ _ _ _ _ fun _=>hk _ _ _
theorem zBL (b:Key) (off esz:Nat) (ex:Bool) (i j l:Nat):zE n (zM9 b off esz ex i j l):=by
 refine zG (C:=zE n) _ _ _ trivial fun _=>?_
 rw [zr,zr,zr]; trivial
theorem zJ9 (a:Bool) (s:Nat) (cs:List CV) (off e:Nat):zE n (zRG a s cs off e):=by
 cases a with
 | true=>exact wP (C:=zE n) _ _ trivial fun _ _=>trivial
 | false=>exact qq (C:=zE n) _ _ trivial fun _ _=>trivial
theorem zIr (ok:Bool) (z:Option CV):zE n (noV ok z):=by unfold noV; split <;> trivial
theorem zBR (r:CV) (name:String) (args:List CV):zE n (zHc P h r name args):=by
 refine xn (C:=zE n) _ _ _ _ trivial (fun _=>trivial) fun _ _ _=>?_
 split <;> trivial
theorem zPm (f:CV) (args:List CV):zE n (zQq P h f args):=by
 refine wv (C:=zE n) _ _ _ trivial fun fn a c _=>?_
 split
 · trivial
 · split
   · exact zBR _ _ _
   · trivial
 · split
   · split
     · exact zBR _ _ _
     · exact zBR _ _ _
     · trivial
   · trivial
 · split
   · split
     · split <;> trivial
     · trivial
   · trivial
 · trivial
theorem zEB {f:CE→OR} (hf:∀ c,zE n (f c)):∀ (l:List CE) (e:CE),zE n (zEe f e l)
 | [],e=>hf e
 | e'::l,e=>⟨hf e,zEB hf l e'⟩
theorem zK8 (e:Ext) (args:List CV):zE n (zCh e args h n):=by
 unfold zCh
 split
 · refine yJ (C:=zE n) _ _ _ trivial fun _ _=>?_
   exact v2 (C:=zE n) _ _ _ trivial fun _ _=>trivial
 · refine yJ (C:=zE n) _ _ _ trivial fun _ _=>?_
   refine v2 (C:=zE n) _ _ _ trivial fun _ _=>?_
   split <;> trivial
 · refine yJ (C:=zE n) _ _ _ trivial fun _ _=>?_
   refine yJ (C:=zE n) _ _ _ trivial fun _ _=>?_
   rw [jS,jS]
   split
   · trivial
   · split <;> trivial
 · refine yO (C:=zE n) _ _ _ _ trivial (fun _=>trivial) fun _ _ _ _ _ _ _=>?_
   refine yO (C:=zE n) _ _ _ _ trivial (fun _=>trivial) fun _ _ _ _ _ _ _=>?_
   refine zG (C:=zE n) _ _ _ trivial fun _=>?_
   refine wx (C:=zE n) _ _ _ trivial fun _ _ _=>?_
   refine zG (C:=zE n) _ _ _ trivial fun _=>?_
   refine yW (C:=zE n) _ _ _ trivial fun _ _=>?_
   exact zG (C:=zE n) _ _ _ trivial fun _=>Nat.le_refl _
 · refine xn (C:=zE n) _ _ _ _ trivial (fun _=>trivial) fun _ _ _=>?_
   refine xC (C:=zE n) _ _ _ _ trivial (fun _=>trivial) fun _ _=>?_
   exact yT (C:=zE n) _ _ _ trivial fun _ _ _=>Key.ix_le_succ n
 · trivial
theorem zKh (esz k:Nat) (xs:List CV) (sv:CV):zE n (zGM esz k xs sv h n):=by
 unfold zGM
 refine yO (C:=zE n) _ _ _ _ trivial (fun _=>?_) fun _ _ _ _ _ _ _=>?_
 · cases k with
   | zero=>exact Nat.le_refl _
   | succ k=>
    refine zG (C:=zE n) _ _ _ trivial fun _=>?_
    rw [zr]; exact Key.ix_le_succ n
 · refine zG (C:=zE n) _ _ _ trivial fun _=>?_
   refine wx (C:=zE n) _ _ _ ?_ fun _ _ _=>?_
   rotate_left
   · rw [zr]
     refine zG (C:=zE n) _ _ _ trivial fun _=>?_
     exact yR (C:=zE n) _ _ _ trivial fun _ _=>Key.ix_le_succ n
   refine yW (C:=zE n) _ _ _ trivial fun _ _=>?_
   rw [zr,jS]
   split
   · exact yR (C:=zE n) _ _ _ trivial fun _ _=>Nat.le_refl _
   · refine zG (C:=zE n) _ _ _ trivial fun _=>?_
     exact yR (C:=zE n) _ _ _ trivial fun _ _=>Key.ix_le_succ n
theorem wy (op:COp):zE n (yN P op es tm h n):=by
 cases op
 case mv=>trivial
 case pick=>
  refine vK (C:=zE n) _ _ _ trivial fun b _=>?_
  cases b <;> trivial
 case alloc=>trivial
 case box=>exact yR (C:=zE n) _ _ _ trivial fun _ _=>trivial
 case build=>exact wP (C:=zE n) _ _ trivial fun _ _=>trivial
 case bslice=>exact yR (C:=zE n) _ _ _ trivial fun _ _=>trivial
 case load1=>
  refine zAD (C:=zE n) _ _ _ ?_ fun _ _ _=>?_
  · unfold zTt
    split
    · refine xA (C:=zE n) _ _ _ trivial fun _ _=>?_
      exact uA (C:=zE n) _ _ trivial fun _ _=>trivial
    · trivial
  refine xA (C:=zE n) _ _ _ trivial fun _ _=>?_
  exact uA (C:=zE n) _ _ trivial fun _ _=>trivial
 case loadN=>
  refine xF (C:=zE n) _ _ _ trivial fun _ _ _=>?_
  refine xA (C:=zE n) _ _ _ trivial fun _ _=>?_
  exact zEz (C:=zE n) _ _ trivial fun _ _=>trivial
 case store=>
  refine xF (C:=zE n) _ _ _ trivial fun _ _ _=>?_
  refine yW (C:=zE n) _ _ _ trivial fun _ _=>?_
  refine yR (C:=zE n) _ _ _ trivial fun _ _=>?_
  refine zG (C:=zE n) _ _ _ trivial fun _=>?_
  exact yR (C:=zE n) _ _ _ trivial fun _ _=>Nat.le_refl _
 case nilck x=>
  refine zAD (C:=zE n) _ _ _ ?_ fun _ _ _=>trivial
  show zE n (zFC (aV es tm x))
  unfold zFC
  split <;> trivial
 case arith op x y=>
  show zE n (zO7 (aV es tm x) (fun a=>zO7 (aV es tm y) (fun b=>zL2 op a b (aV es tm x) (aV es tm y)) (kQ op (aV es tm x) (aV es tm y))) (kQ op (aV es tm x) (aV es tm y)))
  have hg:=zON (n:=n) op (aV es tm x) (aV es tm y)
  cases hx:aV es tm x <;> try (rw [hx] at hg; exact hg)
  case nat a=>
   rw [hx] at hg
   cases hy:aV es tm y <;> try (rw [hy] at hg; exact hg)
   case nat b=>
    rw [hy] at hg
    show zE n (Option.rec (motive:=fun _=>BinOp→CV→CV→OR) (fun op x y=>kQ op x y) (fun v _ _ _=>.val v) (zGU op a b) op (.nat a) (.nat b))
    cases zGU op a b with
    | none=>exact hg
    | some v=>trivial
 case eq neg k cst x y=>
  show zE n (match eqC k cst (aV es tm x) (aV es tm y) with
   | some b=>.val (.bool (xor neg b))
   | none=>match zHk k (aV es tm x) (aV es tm y) with
    | true=>kn
    | false=>.err 123)
  split
  · trivial
  · split
    · exact ⟨trivial,trivial⟩
    · trivial
 case un op x=>
  cases op with
  | neg=>exact uQ (C:=zE n) _ _ _ trivial (fun _ _=>trivial) fun _ _ _=>trivial
  | xor=>exact uQ (C:=zE n) _ _ _ trivial (fun _ _=>trivial) fun _ _ _=>trivial
  | not=>exact vK (C:=zE n) _ _ _ trivial fun _ _=>trivial
  | plus=>trivial
 case cvInt k x=>
  show zE n (zF7 k (aV es tm x))
  unfold zF7
  split
  · exact zNp _ _
  · exact kD (C:=zE n) _ _ _ _ trivial (fun _ _=>trivial) (fun _ _ _=>trivial) fun _ _=>trivial
 case cvStr=>exact yJ (C:=zE n) _ _ _ trivial fun _ _=>trivial
 case cvSB=>
  refine xw (C:=zE n) _ _ _ ?_ fun _ _=>by rw [zr]; trivial
  refine yJ (C:=zE n) _ _ _ trivial fun _ _=>?_
  rw [zr]; trivial
 case cvMark=>
  refine yO (C:=zE n) _ _ _ _ trivial (fun _=>trivial) fun _ _ _ _ _ _ _=>?_
  exact yW (C:=zE n) _ _ _ trivial fun _ _=>Nat.le_refl _
 case cvBS=>
  refine qX (C:=zE n) _ _ _ ?_ fun _ _ _ _ _=>zG (C:=zE n) _ _ _ trivial fun _=>trivial
  refine yO (C:=zE n) _ _ _ _ trivial (fun _=>trivial) fun _ _ _ _ _ _ _=>?_
  refine xA (C:=zE n) _ _ _ trivial fun _ _=>?_
  refine yR (C:=zE n) _ _ _ trivial fun _ _=>?_
  unfold zK9
  split
  · trivial
  · split <;> trivial
 case iface=>trivial
 case mkfn=>trivial
 case mkmap=>trivial
 case mkslice=>
  refine yU (C:=zE n) _ _ _ trivial fun _ _=>?_
  refine yU (C:=zE n) _ _ _ trivial fun _ _=>?_
  refine zG (C:=zE n) _ _ _ trivial fun _=>?_
  rw [zr,zr]; trivial
 case slArr=>exact xF (C:=zE n) _ _ _ trivial fun _ _ _=>jL _ _ _ _ _ _ _ fun _ _ _=>zBL _ _ _ _ _ _ _
 case slSl=>
  refine qX (C:=zE n) _ _ _ ?_ fun _ _ _ _ _=>by
   unfold zGJ
   split
   · split
     · split
       · rw [zr]; trivial
       · trivial
     · trivial
   · trivial
  refine yO (C:=zE n) _ _ _ _ trivial (fun _=>jL _ _ _ _ _ _ _ fun _ _ _=>trivial) fun _ _ _ _ _ _ _=>?_
  refine zG (C:=zE n) _ _ _ trivial fun _=>?_
  unfold zAT
  split
  · split
    · split
      · refine yW (C:=zE n) _ _ _ trivial fun _ _=>?_
        refine zG (C:=zE n) _ _ _ trivial fun _=>?_
        rw [zr]; trivial
      · exact jL _ _ _ _ _ _ _ fun _ _ _=>zBL _ _ _ _ _ _ _
    · exact jL _ _ _ _ _ _ _ fun _ _ _=>zBL _ _ _ _ _ _ _
  · exact jL _ _ _ _ _ _ _ fun _ _ _=>zBL _ _ _ _ _ _ _
 case slStr=>
  refine xw (C:=zE n) _ _ _ ?_ fun _ _=>by
   rw [zr]
   refine jL _ _ _ _ _ _ _ fun _ _ _=>?_
   refine zG (C:=zE n) _ _ _ trivial fun _=>?_
   exact yR (C:=zE n) _ _ _ trivial fun _ _=>trivial
  refine yJ (C:=zE n) _ _ _ trivial fun _ _=>?_
  rw [zr]
  refine jL _ _ _ _ _ _ _ fun _ _ _=>?_
  refine zG (C:=zE n) _ _ _ trivial fun _=>?_
  exact zHp (C:=zE n) _ _ trivial fun _ _=>trivial
 case addOff=>
  refine xF (C:=zE n) _ _ _ trivial fun _ _ _=>?_
  rw [zr]; trivial
 case part=>exact ua (C:=zE n) _ _ _ trivial fun _ _=>zJ9 _ _ _ _ _
 case ixArr=>
  refine xF (C:=zE n) _ _ _ trivial fun _ _ _=>?_
  refine yU (C:=zE n) _ _ _ trivial fun _ _=>?_
  refine zG (C:=zE n) _ _ _ trivial fun _=>?_
  rw [zr]; trivial
 case ixSl=>
  refine qX (C:=zE n) _ _ _ ?_ fun _ _ _ _ _=>by
   unfold zPF
   split
   · split
     · split <;> trivial
     · trivial
   · unfold zLf
     split
     · split
       · rw [zr]; trivial
       · trivial
     · trivial
  refine yO (C:=zE n) _ _ _ _ trivial (fun _=>trivial) fun _ _ _ _ _ _ _=>?_
  refine zER (C:=zE n) ?_ fun _ _ _ _ _ _ _=>trivial
  refine yU (C:=zE n) _ _ _ trivial fun _ _=>?_
  refine zG (C:=zE n) _ _ _ trivial fun _=>?_
  rw [zr]; trivial
 case ixAgg=>
  refine ua (C:=zE n) _ _ _ trivial fun _ _=>?_
  refine yU (C:=zE n) _ _ _ trivial fun _ _=>?_
  exact zG (C:=zE n) _ _ _ trivial fun _=>zJ9 _ _ _ _ _
 case ixStr=>
  refine xw (C:=zE n) _ _ _ ?_ fun _ _=>by
   refine yU (C:=zE n) _ _ _ trivial fun _ _=>?_
   exact qq (C:=zE n) _ _ trivial fun _ _=>trivial
  refine yJ (C:=zE n) _ _ _ trivial fun _ _=>?_
  refine yU (C:=zE n) _ _ _ trivial fun _ _=>?_
  exact v2 (C:=zE n) _ _ _ trivial fun _ _=>trivial
 case lookup kk z ok x k=>
  have hl:∀ l,zE n (zCp kk z ok (aV es tm k) l):=by
   intro l
   refine zG (C:=zE n) _ _ _ trivial fun _=>?_
   split <;> trivial
  refine xC (C:=zE n) _ _ _ _ trivial (fun _=>hl _) fun _ _=>?_
  refine vH (C:=zE n) _ _ _ ?_ fun _ _=>by
   refine zG (C:=zE n) _ _ _ trivial fun _=>?_
   split <;> trivial
  exact yT (C:=zE n) _ _ _ trivial fun _ _ _=>hl _
 case mapupd=>
  refine xC (C:=zE n) _ _ _ _ trivial (fun _=>trivial) fun _ _=>?_
  refine vH (C:=zE n) _ _ _ ?_ fun _ _=>by
   refine zG (C:=zE n) _ _ _ trivial fun _=>?_
   split
   · exact Nat.le_refl _
   · trivial
  refine yT (C:=zE n) _ _ _ trivial fun _ _ _=>?_
  refine zG (C:=zE n) _ _ _ trivial fun _=>?_
  split
  · split
    · exact Nat.le_refl _
    · trivial
  · rw [zr]; exact Nat.le_refl _
  · trivial
 case rangeStr=>exact xw (C:=zE n) _ _ _ (yJ (C:=zE n) _ _ _ trivial fun _ _=>trivial) fun _ _=>trivial
 case rangeMap=>
  refine xC (C:=zE n) _ _ _ _ trivial (fun _=>trivial) fun _ _=>?_
  exact yT (C:=zE n) _ _ _ trivial fun _ _ _=>Key.ix_le_succ n
 case next=>
  refine xF (C:=zE n) _ _ _ trivial fun _ _ _=>?_
  refine zG (C:=zE n) _ _ _ trivial fun _=>?_
  unfold zRJ
  split
  · unfold zIh
    split
    · exact Nat.le_refl _
    · split
      · rw [zr]; exact Nat.le_refl _
      · trivial
  · exact Nat.le_refl _
  · refine yT (C:=zE n) _ _ _ trivial fun _ _ _=>?_
    split
    · trivial
    · split
      · exact Nat.le_refl _
      · exact zG (C:=zE n) _ _ _ trivial fun _=>zEB (fun _=>Nat.le_refl _) _ _
  · trivial
 case entry=>
  refine xF (C:=zE n) _ _ _ trivial fun _ _ _=>?_
  refine zG (C:=zE n) _ _ _ trivial fun _=>?_
  unfold zKZ
  split
  · split
    · refine yT (C:=zE n) _ _ _ trivial fun _ _ _=>?_
      split <;> trivial
    · trivial
  · trivial
 case tassert=>
  refine xn (C:=zE n) _ _ _ _ trivial (fun _=>zIr _ _) fun _ _ _=>?_
  rw [jS]
  split
  · trivial
  · exact zIr _ _
 case tiface=>
  refine xn (C:=zE n) _ _ _ _ trivial (fun _=>zIr _ _) fun _ _ _=>?_
  split
  · trivial
  · exact zIr _ _
  · trivial
 case extract=>exact zFS (C:=zE n) _ _ _ trivial fun _ _=>uH _ _
 case call=>trivial
 case ext e args=>exact zK8 e _
 case callv=>exact zPm _ _
 case invoke=>exact zBR _ _ _
 case append esz bb s x=>
  show zE n (zAV esz bb s x es tm h n)
  unfold zAV
  refine zMV _ _ _ _ fun k l=>?_
  exact zG (C:=zE n) _ _ _ trivial fun _=>zKh _ _ _ _
 case appz zero esz s x=>
  refine yU (C:=zE n) _ _ _ trivial fun _ _=>?_
  refine zG (C:=zE n) _ _ _ trivial fun _=>?_
  rw [zr]
  exact zG (C:=zE n) _ _ _ trivial fun _=>zKh _ _ _ _
 case copy esz d x=>
  show zE n (zHi esz d x es tm h n)
  have hk:∀ nf,zE n (zLU h esz (aV es tm x) (fun k xs=>uu (aV es tm d)
   (.eff (.nat 0) h n)
   (fun b off _ _ _ _=>kZ (zj b h) (fun vs=>yi (xQ xs) (onL (jR xs (Nat.mul k esz) vs off) (fun l=>.eff (kr k) (ya (some (.cells l)) b h) n) 232) 233) 234) 235) nf 236):=by
   intro nf
   refine zMV _ _ _ _ fun k l=>?_
   refine yO (C:=zE n) _ _ _ _ trivial (fun _=>Nat.le_refl _) fun _ _ _ _ _ _ _=>?_
   refine yW (C:=zE n) _ _ _ trivial fun _ _=>?_
   refine zG (C:=zE n) _ _ _ trivial fun _=>?_
   exact yR (C:=zE n) _ _ _ trivial fun _ _=>Nat.le_refl _
  unfold zHi zRg
  split
  · exact hk _
  · exact yO (C:=zE n) _ _ _ _ trivial (fun _=>hk _) fun _ _ _ _ _ _ _=>hk _
 case lenStr=>exact xw (C:=zE n) _ _ _ (yJ (C:=zE n) _ _ _ trivial fun _ _=>trivial) fun _ _=>trivial
 case lenSl=>exact qX (C:=zE n) _ _ _ (yO (C:=zE n) _ _ _ _ trivial (fun _=>trivial) fun _ _ _ _ _ _ _=>trivial) fun _ _ _ _ _=>trivial
 case lenMap=>
  refine xC (C:=zE n) _ _ _ _ trivial (fun _=>trivial) fun _ _=>?_
  exact yT (C:=zE n) _ _ _ trivial fun _ _ _=>trivial
 case capSl=>
  refine yO (C:=zE n) _ _ _ _ trivial (fun _=>trivial) fun _ _ _ _ _ ex _=>?_
  cases ex
  · show zE n (zRl _ _ _ _ _ h n)
    unfold zRl
    rw [jS]
    split
    · trivial
    · refine yW (C:=zE n) _ _ _ trivial fun _ _=>?_
      exact zG (C:=zE n) _ _ _ trivial fun _=>⟨Nat.le_refl _,Nat.le_refl _⟩
  · trivial
 case delete=>
  refine zG (C:=zE n) _ _ _ trivial fun _=>?_
  refine xC (C:=zE n) _ _ _ _ trivial (fun _=>Nat.le_refl _) fun _ _=>?_
  refine yT (C:=zE n) _ _ _ trivial fun _ _ _=>?_
  split
  · split
    · exact Nat.le_refl _
    · trivial
  · exact Nat.le_refl _
  · trivial
 case clearMap=>
  refine xC (C:=zE n) _ _ _ _ trivial (fun _=>Nat.le_refl _) fun _ _=>?_
  exact yT (C:=zE n) _ _ _ trivial fun _ _ _=>Nat.le_refl _
 case clearSl=>
  refine yO (C:=zE n) _ _ _ _ trivial (fun _=>Nat.le_refl _) fun _ _ _ _ _ _ _=>?_
  refine yW (C:=zE n) _ _ _ trivial fun _ _=>?_
  refine zG (C:=zE n) _ _ _ trivial fun _=>?_
  exact yR (C:=zE n) _ _ _ trivial fun _ _=>Nat.le_refl _
 case minmax=>exact uH _ _
 case defer=>
  refine wv (C:=zE n) _ _ _ trivial fun _ _ _ _=>?_
  split <;> trivial
 case recov=>trivial
 case bad=>trivial
end
end Go.Ev
namespace Go.Ev
variable [Sym]
noncomputable section
variable {P:Program}
variable [SymFact P]
def zb:R→Prop
 | .ok _ _ _ _ n=>n.room
 | .ret _ _ n=>n.room
 | .err _=>False
 | .fork a b=>zb a∧zb b
def zi (n:Key):R→Prop
 | .ok _ _ _ _ n'=>n.ix≤n'.ix
 | .ret _ _ n'=>n.ix≤n'.ix
 | .err _=>True
 | .fork a b=>zi n a∧zi n b
theorem uO {n:Key}:∀ {r:R},zb r→zi n r→n.room
 | .ok _ _ _ _ n',h,h'=>Nat.lt_of_le_of_lt h' h
 | .ret _ _ n',h,h'=>Nat.lt_of_le_of_lt h' h
 | .fork a _,h,h'=>uO h.1 h'.1
theorem zi.le {n n':Key} (hle:n.ix≤n'.ix):∀ {r:R},zi n' r→zi n r
 | .ok _ _ _ _ _,h=>Nat.le_trans hle h
 | .ret _ _ _,h=>Nat.le_trans hle h
 | .err _,_=>trivial
 | .fork _ _,h=>⟨zi.le hle h.1,zi.le hle h.2⟩
def yy (call:yh):Prop:=∀ d f args h n,zi n (call d f args h n)
theorem yF (d:Option Loc) (v:CV) (tm:Tm) (k:Tm→R):yI d v tm k=k (match d with | none=>tm | some p=>kg v p tm):=by cases d <;> rfl
def jJ (k:CV→zC→Key→R) (r:R):R:=R.rec (motive:=fun _=>R) (fun _ _ _ _ _=>.err 300) (fun v h n=>k v h n) (fun c=>.err c) (fun _ _ a b=>.fork a b) r
theorem qx {k:CV→zC→Key→R} (hk:∀ v h n,zi n (k v h n)):∀ {r:R},zb (jJ k r)→zb r
 | .ok ..,h=>h.elim
 | .ret v h n,hc=>uO hc (hk v h n)
 | .err _,h=>h.elim
 | .fork _ _,h=>⟨qx hk h.1,qx hk h.2⟩
theorem qy {n:Key} {k:CV→zC→Key→R} (hk:∀ v h n,zi n (k v h n)):∀ {r:R},zi n r→zi n (jJ k r)
 | .ok ..,_=>trivial
 | .ret v h n',hc=>zi.le hc (hk v h n')
 | .err _,_=>trivial
 | .fork _ _,h=>⟨qy hk h.1,qy hk h.2⟩
theorem kf {call:yh} (hcall:yy call) {k:KE} (hk:∀ es tm ds h n,zi n (k es tm ds h n)) (d:Option Loc) (es:List CV) (tm:Tm) (ds:xd) (h:zC) (n:Key) :
 ∀ (r:OR),zE n r→zi n (after r call k d es tm ds h n)
 | .val v,_=>by show zi n (yI _ _ _ _); rw [yF]; exact hk _ _ _ _ _
 | .read v,_=>by show zi n (yI _ _ _ _); rw [yF]; exact hk _ _ _ _ _
 | .alloc o v,_=>by show zi n (yI _ _ _ _); rw [yF]; exact zi.le (Key.ix_le_succ n) (hk _ _ _ _ _)
 | .eff v h' n',ho=>by show zi n (yI _ _ _ _); rw [yF]; exact zi.le ho (hk _ _ _ _ _)
 | .call f args,_=>qy (k:=fun v h n=>yI d v tm fun tm=>k (v::es) tm ds h n) (fun v h n=>by rw [yF]; exact hk _ _ _ _ _) (hcall _ _ _ _ _)
 | .dfr f args,_=>by show zi n (yI _ _ _ _); rw [yF]; exact hk _ _ _ _ _
 | .recov,_=>by show zi n (yI _ _ _ _); rw [yF]; exact hk _ _ _ _ _
 | .err _,_=>trivial
 | .fork a b,ho=>⟨kf hcall hk d es tm ds h n a ho.1,kf hcall hk d es tm ds h n b ho.2⟩
theorem j6 {call:yh} (hcall:yy call):∀ (l:List qd) (es:List CV) (tm:Tm) (ds:xd) (h:zC) (n:Key),zi n (yo P call l es tm ds h n)
 | [],_,_,_,_,_=>Nat.le_refl _
 | .i op::l,es,tm,ds,h,n=>kf hcall (fun es tm ds h n=>j6 hcall l es tm ds h n) none es tm ds h n _ (wy op)
 | .o op d::l,es,tm,ds,h,n=>kf hcall (fun es tm ds h n=>j6 hcall l es tm ds h n) (some d) es tm ds h n _ (wy op)
 | .g x wnt op d::l,es,tm,ds,h,n=>by
  show zi n (Bool.rec (motive:=fun _=>R)
   (Bool.rec (motive:=fun _=>R) (.err 299) (yI d .undef tm fun tm=>yo P call l (.undef::es) tm ds h n) (k8 (aV es tm x)))
   (after (yN P op es tm h n) call (yo P call l) d es tm ds h n) (jt wnt (aV es tm x)))
  cases jt wnt (aV es tm x) with
  | true=>exact kf hcall (fun es tm ds h n=>j6 hcall l es tm ds h n) d es tm ds h n _ (wy op)
  | false=>
   cases k8 (aV es tm x) with
   | true=>show zi n (yI _ _ _ _); rw [yF]; exact j6 hcall l _ _ _ _ _
   | false=>trivial
structure xS (ψ:Psi) (F N:Nat) (tm:Tm) (a:Act):Prop where
 size:N≤a.tmps.size
 tmp:∀ t,zw F t=true→t≤271→t<N→zH ψ (qT (Loc.ofNat t) tm) (a.tmps.getD t undef)
def ut (ψ:Psi) (dl:List (Option Nat)) (es:List CV) (a:Act):Prop:=∀ t i,xM t dl 0=some i→zH ψ (zSM es i) (a.tmps.getD t undef)
def kK (P:Program) (ψ:Psi):Prop:=∀ g,g<P.globals.size→g≤4095→∃ sz,ψ (Key.ofNat g)=some ⟨g,0,sz,fun n=>n⟩
def xe (ψ:Psi) (n:Key):Prop:=∀ k:Key,n.ix≤k.ix→ψ k=none
def zTU (P:Program) (ψ:Psi) (f:FuncId × List CV) (d:Deferred):Prop:=
 ∃ fv cap args',d.target=.fn fv cap∧(∀ w,(invoke d.target d.args).run P w=(callFunc f.1 args').run P w)∧zX ψ f.2 args'.toList
def kX (P:Program) (ψ:Psi):xd→List Deferred→Prop
 | [],l=>l=[]
 | f::fs,l=>∃ d r,l=d::r∧zTU P ψ f d∧kX P ψ fs r
structure St (P:Program) (F N:Nat) (ψ:Psi) (tm:Tm) (ds:xd) (h:zC) (n:Key) (a:Act) (w:World):Prop where
 frame:xS ψ F N tm a
 dfr:kX P ψ ds a.defers
 rel:Rel ψ (zC.fam h) w
 glob:kK P ψ
 fresh:xe ψ n
theorem kK.mono {ψ ψ':Psi} (hle:ψ.le ψ') (h:kK P ψ):kK P ψ':=fun g h1 h2=>let ⟨sz,e⟩:=h g h1 h2; ⟨sz,hle _ _ e⟩
theorem kX.mono {ψ ψ':Psi} (hle:ψ.le ψ'):∀ {ds:xd} {l:List Deferred},kX P ψ ds l→kX P ψ' ds l
 | [],_,h=>h
 | f::fs,_,h=>by
  obtain ⟨d,r,rfl,⟨fv,cap,as,h1,h2,h3⟩,h4⟩:=h
  exact ⟨d,r,rfl,⟨fv,cap,as,h1,h2,h3.mono hle⟩,kX.mono hle h4⟩
theorem xS.mono {ψ ψ':Psi} (hle:ψ.le ψ') {F N:Nat} {tm:Tm} {a:Act} (h:xS ψ F N tm a):xS ψ' F N tm a:=⟨h.size,fun t h1 h2 h3=>(h.tmp t h1 h2 h3).mono hle⟩
theorem ut.mono {ψ ψ':Psi} (hle:ψ.le ψ') {dl:List (Option Nat)} {es:List CV} {a:Act} (h:ut ψ dl es a):ut ψ' dl es a:=fun t i h1=>(h t i h1).mono hle
theorem zy.fresh {ψ ψ':Psi} {g g':Fam} {n n':Key} {w w':World} (hp:zy ψ g n w ψ' g' n' w') (h:xe ψ n):xe ψ' n':=by
 intro k hk
 have:=hp.mono
 rw [hp.out k (.inr hk)]
 exact h k (by omega)
theorem wE (t:Nat):∀ (dl:List (Option Nat)) (i:Nat),xM t dl (i+1)=(xM t dl i).map (· + 1)
 | [],_=>rfl
 | none::r,i=>by
  show xM t r (i+1+1)=(xM t r (i+1)).map (· + 1)
  exact wE t r (i+1)
 | some u::r,i=>by
  unfold xM
  simp only
  cases Nat.beq u t with
  | true=>rfl
  | false=>exact wE t r (i+1)
theorem kR (a:Act) (t:Nat) (v:Value) (h:t<a.tmps.size):(a.put (some t) v).tmps.getD t undef=v:=by
 simp [Act.put,h]
theorem x9 (a:Act) (d:Option Nat) (v:Value) {t:Nat} (h:d≠some t):(a.put d v).tmps.getD t undef=a.tmps.getD t undef:=by
 cases d with
 | none=>rfl
 | some u=>
  have:u≠t:=fun e=>h (by rw [e])
  simp [Act.put,Array.getElem?_setIfInBounds_ne this]
theorem zEJ (a:Act) (d:Option Nat) (v:Value):(a.put d v).tmps.size=a.tmps.size:=by cases d <;> simp [Act.put]
theorem zBe (a:Act) (d:Option Nat) (v:Value):(a.put d v).defers=a.defers:=by cases d <;> rfl
abbrev zKg (d:Option Loc) (v:CV) (tm:Tm):Tm:=match d with | none=>tm | some p=>kg v p tm
theorem qp {F N:Nat} {dst:Option Nat} {d:Option Loc} (h:xT F N dst=some d) :
 (dst=none∧d=none)∨∃ t,dst=some t∧t<N∧((zw F t=false∧d=none)∨(zw F t=true∧t≤271∧d=some (Loc.ofNat t))):=by
 unfold xT at h
 split at h
 · injection h with h; exact .inl ⟨rfl,h.symm⟩
 · rename_i t
   split at h
   · cases h
   · rename_i hn
     have hn:t+1≤N:=zL hn
     split at h
     · rename_i hf; injection h with h; exact .inr ⟨t,rfl,by omega,.inl ⟨hf,h.symm⟩⟩
     · rename_i hf
       split at h
       · rename_i hl; injection h with h; exact .inr ⟨t,rfl,by omega,.inr ⟨hf,zL hl,h.symm⟩⟩
       · cases h
theorem zOh {ψ:Psi} {F N:Nat} {tm:Tm} {a:Act} {dst:Option Nat} {d:Option Loc} {v:CV} {x:Value} (hf:xS ψ F N tm a) (hd:xT F N dst=some d) (hv:zH ψ v x) :
 xS ψ F N (zKg d v tm) (a.put dst x):=by
 refine ⟨by rw [zEJ]; exact hf.size,fun t h1 h2 h3=>?_⟩
 rcases qp hd with ⟨rfl,rfl⟩ | ⟨u,rfl,hu,⟨hb,rfl⟩ | ⟨hb,hle,rfl⟩⟩
 · exact hf.tmp t h1 h2 h3
 · have hne:u≠t:=fun e=>by subst e; rw [hb] at h1; cases h1
   rw [x9 _ _ _ (by simpa using hne)]
   exact hf.tmp t h1 h2 h3
 · by_cases e:u=t
   · subst e
     rw [kR _ _ _ (Nat.lt_of_lt_of_le hu hf.size)]
     show zH ψ (qT _ (kg v _ tm)) x
     rw [jx]; exact hv
   · rw [x9 _ _ _ (by simpa using e)]
     show zH ψ (qT _ (kg v _ tm)) _
     rw [xf _ _ _ _ (fun h=>e (Loc.ofNat_inj hle h2 h.symm))]
     exact hf.tmp t h1 h2 h3
theorem zSV {ψ:Psi} {F N:Nat} {dl:List (Option Nat)} {es:List CV} {a:Act} {dst:Option Nat} {d:Option Loc} {v:CV} {x:Value} (hs:N≤a.tmps.size) (he:ut ψ dl es a) (hd:xT F N dst=some d)
 (hv:zH ψ v x):ut ψ (dst::dl) (v::es) (a.put dst x):=by
 intro t i hi
 have other:dst≠some t→zH ψ (zSM (v::es) i) ((a.put dst x).tmps.getD t undef):=by
  intro hne
  have hi':xM t dl 1=some i:=by
   cases dst with
   | none=>exact hi
   | some u=>
    unfold xM at hi
    have:Nat.beq u t=false:=wT fun e=>hne (by rw [e])
    simp only [this] at hi
    exact hi
  rw [wE] at hi'
  cases hw:xM t dl 0 with
  | none=>rw [hw] at hi'; cases hi'
  | some j=>
   rw [hw] at hi'
   injection hi' with hi'; subst hi'
   rw [x9 _ _ _ hne]
   exact he t j hw
 by_cases e:dst=some t
 · subst e
   rcases qp hd with ⟨h1,_⟩ | ⟨u,h1,hu,_⟩
   · cases h1
   · injection h1 with h1; subst h1
     unfold xM at hi
     have hb:Nat.beq t t=true:=jB t
     simp only [hb] at hi
     injection hi with hi; subst hi
     rw [kR _ _ _ (Nat.lt_of_lt_of_le hu hs)]
     exact hv
 · exact other e
theorem zIl (a:Act):zNE a.eval:=⟨fun _=>rfl,fun _=>rfl⟩
theorem zIR {F N:Nat} {ψ:Psi} {tm:Tm} {ds:xd} {h:zC} {n:Key} {a:Act} {w:World} {dl:List (Option Nat)} {es:List CV} (hs:St P F N ψ tm ds h n a w) (he:ut ψ dl es a) :
 ∀ L,z6 P ψ es tm ⟨F,N,dl⟩ a.eval L:=by
 intro L x hxL c hc
 clear hxL
 unfold zh at hc
 split at hc
 · rename_i t
   split at hc
   · rename_i i hi
     injection hc with hc; subst hc
     exact he t i hi
   · split at hc
     · rename_i hb
       injection hc with hc; subst hc
       rw [Bool.and_eq_true,Bool.and_eq_true] at hb
       exact hs.frame.tmp t hb.1.1 (zL hb.1.2) (zL hb.2)
     · cases hc
 · rename_i v
   cases hv:uo 20 v with
   | none=>rw [hv] at hc; cases hc
   | some c'=>rw [hv] at hc; injection hc with hc; subst hc; exact j4 20 hv
 · rename_i g
   split at hc
   · rename_i hb
     injection hc with hc; subst hc
     rw [Bool.and_eq_true] at hb
     obtain ⟨sz,e⟩:=hs.glob g (zL hb.1) (zL hb.2)
     exact zm.2 ⟨_,e,rfl⟩
   · cases hc
 · rename_i f
   injection hc with hc; subst hc
   exact xJ.2 ⟨#[],#[],rfl,zM.2 rfl,zM.2 rfl⟩
end
end Go.Ev
namespace Go.Ev
variable [Sym]
noncomputable section
variable {P:Program}
variable [SymFact P]
def zl (ψ₀:Psi) (g₀:Fam) (n₀:Key) (w₀:World):R→Value→World→Prop
 | .ret cv h n,v,w=>∃ ψ,zy ψ₀ g₀ n₀ w₀ ψ (zC.fam h) n w∧zH ψ cv v
 | .fork a b,v,w=>zl ψ₀ g₀ n₀ w₀ a v w∨zl ψ₀ g₀ n₀ w₀ b v w
 | _,_,_=>False
def yf (P:Program) (f:FuncId) (args:Array Value) (w:World) (K:Value→World→Prop):Prop:=match (callFunc f args).run P w with
 | .ok (.enter g as) w'=>Calls P g as w' fun e w''=>∃ v,e=.returned v∧K v w''
 | .ok (.value v) w'=>K v w'
 | _=>False
def zFs (P:Program) (f:FuncId) (args:Array Value) (w:World) (K:World→Prop):Prop:=
 (callFunc f args).run P w=.ok (.enter f args) w∧CallsD P f args .returning w fun e u w'=>u=.returning∧∃ v,e=.returned v∧K w'
structure ym (P:Program) (call:yh):Prop where
 above:yy call
 calls:∀ f args h n ψ w args',zX ψ args args'.toList→kK P ψ→Rel ψ (zC.fam h) w→xe ψ n→zb (call false f args h n) →
  yf P f args' w (zl ψ (zC.fam h) n w (call false f args h n))
 defers:∀ f args h n ψ w args',zX ψ args args'.toList→kK P ψ→Rel ψ (zC.fam h) w→xe ψ n→zb (call true f args h n) →
  zFs P f args' w fun w'=>∃ v,zl ψ (zC.fam h) n w (call true f args h n) v w'
def vQ (P:Program) (rc:Bool) (o:Oper) (a:Act) (w:World) (K:Act→World→Prop):Prop:=match (execOp a.eval o).run P w with
 | .ok (.value v) w'=>K (a.put o.dst v) w'
 | .ok .skip w'=>K (a.put o.dst undef) w'
 | .ok (.defer d) w'=>K ({ a with defers:=d::a.defers }.put o.dst undef) w'
 | .ok (.enter f args) w'=>Calls P f args w' fun e w''=>∃ v,e=.returned v∧K (a.put o.dst v) w''
 | .ok .recover w'=>rc=true∧K (a.put o.dst .nilIface) w'
 | _=>False
theorem vQ.mono {rc:Bool} {o:Oper} {a:Act} {w:World} {K K':Act→World→Prop} (hk:∀ a w,K a w→K' a w) (h:vQ P rc o a w K):vQ P rc o a w K':=by
 unfold vQ at *
 generalize (execOp a.eval o).run P w=r at h ⊢
 cases r with
 | halt x w'=>exact h.elim
 | ok x w'=>
  cases x <;> first
   | exact hk _ _ h
   | exact Calls.mono h fun e w' ⟨v,e1,e2⟩=>⟨v,e1,hk _ _ e2⟩
   | exact ⟨h.1,hk _ _ h.2⟩
   | exact h.elim
structure zSd (P:Program) (ops:Array Oper) (rc:Bool) (Q:Act→World→Prop) (W:List Nat→Act→World→Prop):Prop where
 nil:∀ a w,Q a w→W [] a w
 skip:∀ i o rest a w,ops[i]? = some o→Region.wanted o (yielded ops a.tmps)=false→W rest (a.put o.dst undef) w→W (i::rest) a w
 step:∀ i o rest a w,ops[i]? = some o→Region.wanted o (yielded ops a.tmps)=true→vQ P rc o a w (W rest)→W (i::rest) a w
theorem zMb (ops:Array Oper) (Q:Exit→Act→World→Prop):zSd P ops false (Q .normal) (wpOps P ops Q):=by
 refine ⟨fun a w h=>h,fun i o rest a w ho hw h=>?_,fun i o rest a w ho hw h=>?_⟩
 · simp only [wpOps,ho,hw,Bool.false_eq_true,if_false]; exact h
 · simp only [wpOps,ho,hw,if_true]
   refine .inl ?_
   unfold Oper.wp
   unfold vQ at h
   generalize (execOp a.eval o).run P w=r at h ⊢
   cases r with
   | halt x w'=>exact h.elim
   | ok x w'=>
    cases x <;> first
     | exact h
     | exact Calls.mono h (fun e w' ⟨v,e1,e2⟩=>by subst e1; exact e2)
     | exact absurd h.1 (by simp)
     | exact h.elim
theorem zGl (ops:Array Oper) (Q:Exit→Act→List Frame→World→Prop) {cs:List Frame} (hcs:recoverD cs=none) :
 zSd P ops true (fun a w=>Q .normal a cs w) (fun l a w=>wpOpsS P ops Q l a cs w):=by
 refine ⟨fun a w h=>h,fun i o rest a w ho hw h=>?_,fun i o rest a w ho hw h=>?_⟩
 · simp only [wpOpsS,ho,hw,Bool.false_eq_true,if_false]; exact h
 · simp only [wpOpsS,ho,hw,if_true]
   unfold vQ at h
   generalize (execOp a.eval o).run P w=r at h ⊢
   cases r with
   | halt x w'=>exact h.elim
   | ok x w'=>
    cases x <;> first
     | exact h
     | exact Calls.mono h (fun e w' ⟨v,e1,e2⟩=>by subst e1; exact e2)
     | (simp only [hcs]; exact h.2)
     | exact h.elim
def zUt:CX→Exit→Prop
 | .normal,.normal=>True
 | .exit i,.exit j=>i=j
 | .ret,.ret=>True
 | _,_=>False
section
variable {F N:Nat} {call:yh} {ψ:Psi} {tm:Tm} {ds:xd} {h:zC} {n:Key} {a:Act} {w:World} {dl:List (Option Nat)} {es:List CV}
def wB (P:Program) (F N:Nat) (ψ:Psi) (h:zC) (n:Key) (w:World) (dl:List (Option Nat)) (k:KE) (r:R) (a':Act) (w':World):Prop:=
 ∃ es' tm' ds' h' n' ψ',St P F N ψ' tm' ds' h' n' a' w'∧ut ψ' dl es' a'∧zy ψ (zC.fam h) n w ψ' (zC.fam h') n' w'∧zb (k es' tm' ds' h' n') ∧
  ∀ (O:R→Prop),(∀ x y,O x→O (.fork x y))→(∀ x y,O y→O (.fork x y))→O (k es' tm' ds' h' n')→O r
theorem wB.forkL {k:KE} {r s:R} {a':Act} {w':World} (hx:wB P F N ψ h n w dl k r a' w'):wB P F N ψ h n w dl k (.fork r s) a' w':=by
 obtain ⟨es',tm',ds',h',n',ψ',h1,h2,h3,h4,h5⟩:=hx
 exact ⟨es',tm',ds',h',n',ψ',h1,h2,h3,h4,fun O f1 f2 ho=>f1 _ _ (h5 O f1 f2 ho)⟩
theorem wB.forkR {k:KE} {r s:R} {a':Act} {w':World} (hx:wB P F N ψ h n w dl k s a' w'):wB P F N ψ h n w dl k (.fork r s) a' w':=by
 obtain ⟨es',tm',ds',h',n',ψ',h1,h2,h3,h4,h5⟩:=hx
 exact ⟨es',tm',ds',h',n',ψ',h1,h2,h3,h4,fun O f1 f2 ho=>f2 _ _ (h5 O f1 f2 ho)⟩
theorem kx {k:KE} {o:Oper} {d:Option Loc} {v:CV} {x:Value} {ψ':Psi} {h':zC} {n':Key} {w':World} (hst:St P F N ψ tm ds h n a w) (hev:ut ψ dl es a) (hd:xT F N o.dst=some d)
 (hp:zy ψ (zC.fam h) n w ψ' (zC.fam h') n' w') (hv:zH ψ' v x) (hc:zb (yI d v tm fun tm=>k (v::es) tm ds h' n')) :
 wB P F N ψ h n w (o.dst::dl) k (yI d v tm fun tm=>k (v::es) tm ds h' n') (a.put o.dst x) w':=by
 rw [yF] at hc ⊢
 refine ⟨v::es,_,ds,h',n',ψ',⟨zOh (hst.frame.mono hp.ext) hd hv,?_,hp.rel,hst.glob.mono hp.ext,hp.fresh hst.fresh⟩,zSV hst.frame.size (hev.mono hp.ext) hd hv,hp,hc,fun O _ _ ho=>ho⟩
 rw [zBe]
 exact hst.dfr.mono hp.ext
theorem zGj {k:KE} {o:Oper} {d:Option Loc} {x:Value} {w':World} (hst:St P F N ψ tm ds h n a w) (hev:ut ψ dl es a) (hd:xT F N o.dst=some d) :
 ∀ {r:R},zl ψ (zC.fam h) n w r x w'→zb (jJ (fun v h n=>yI d v tm fun tm=>k (v::es) tm ds h n) r) →
  wB P F N ψ h n w (o.dst::dl) k (jJ (fun v h n=>yI d v tm fun tm=>k (v::es) tm ds h n) r) (a.put o.dst x) w'
 | .ok ..,hr,_=>hr.elim
 | .err _,hr,_=>hr.elim
 | .ret cv h' n',hr,hc=>by
  obtain ⟨ψ',hp,hv⟩:=hr
  exact kx hst hev hd hp hv hc
 | .fork r s,hr,hc=>by
  rcases hr with hr | hr
  · exact wB.forkL (zGj hst hev hd hr hc.1)
  · exact wB.forkR (zGj hst hev hd hr hc.2)
theorem qH {o:Oper} {w':World} {x:Value} (hv:kM P a.eval o.op o.type w w' x) {K:Act→World→Prop} {rc:Bool} (hk:K (a.put o.dst x) w'):vQ P rc o a w K:=by
 obtain ⟨nx,h1,h2⟩:=hv
 have h1:(execOp a.eval o).run P w=.ok nx w':=h1
 unfold vQ
 rw [h1]
 rcases h2 with rfl | ⟨rfl,rfl⟩
 · exact hk
 · exact hk
theorem vf (hcall:ym P call) {k:KE} (hk:∀ es tm ds h n,zi n (k es tm ds h n)) {o:Oper} {d:Option Loc} (hst:St P F N ψ tm ds h n a w) (hev:ut ψ dl es a)
 (hd:xT F N o.dst=some d) {rc:Bool} (hrc:zDz o.op=true→rc=true):∀ (r:OR),zD P ψ h n a.eval o.op o.type w r→zE n r→zb (after r call k d es tm ds h n) →
   vQ P rc o a w (wB P F N ψ h n w (o.dst::dl) k (after r call k d es tm ds h n))
 | .val v,hs,_,hc=>by
  obtain ⟨x,h1,h2⟩:=hs
  exact qH h1 (kx hst hev hd (zy.refl hst.rel) h2 hc)
 | .read v,hs,_,hc=>by
  obtain ⟨x,h1,h2⟩:=hs hst.rel.on
  exact qH h1 (kx hst hev hd (zy.refl hst.rel) h2 hc)
 | .alloc ob v,hs,_,hc=>by
  obtain ⟨w',x,sz,h1,h2,h3,_⟩:=hs
  have hroom:n.succ.room:=by
   have hc':zb (yI d v tm fun tm=>k (v::es) tm ds (ya (some ob) n h) n.succ):=hc
   rw [yF] at hc'
   exact uO hc' (hk _ _ _ _ _)
  have hr:=Key.room_of_succ hroom
  have hnone:=hst.fresh n (Nat.le_refl _)
  have hle:=Psi.le_upd (ψ:=ψ) (k:=n) ⟨w.heap.size,0,sz,fun n=>n⟩ hnone
  obtain ⟨h4,h5⟩:=h3 _ hle (Psi.upd_same _ _ _)
  have hp:=wU hst.rel hr hnone h2 h5
  rw [← zn] at hp
  exact qH h1 (kx hst hev hd hp h4 hc)
 | .eff v h' n',hs,ha,hc=>by
  have hroom:n'.room:=by
   have hc':zb (yI d v tm fun tm=>k (v::es) tm ds h' n'):=hc
   rw [yF] at hc'
   exact uO hc' (hk _ _ _ _ _)
  obtain ⟨w',x,ψ',h1,h2,h3⟩:=hs hst.rel (fun q hq _=>hst.fresh q hq) hroom
  exact qH h1 (kx hst hev hd h2 h3 hc)
 | .call f args,hs,_,hc=>by
  obtain ⟨args',h1,h2⟩:=hs hst.rel.on
  have hc':zb (jJ (fun v h n=>yI d v tm fun tm=>k (v::es) tm ds h n) (call false f args h n)):=hc
  have hcl:=qx (fun v h n=>by rw [yF]; exact hk _ _ _ _ _) hc'
  have hcalls:=hcall.calls f args h n ψ w args' h2 hst.glob hst.rel hst.fresh hcl
  have hn:=fun (x:Value) (w':World) hr=>zGj (k:=k) (o:=o) (x:=x) (w':=w') hst hev hd (r:=call false f args h n) hr hc'
  have h1:(execOp a.eval o).run P w=(callFunc f args').run P w:=h1
  unfold vQ
  rw [h1]
  unfold yf at hcalls
  generalize (callFunc f args').run P w=r at hcalls ⊢
  cases r with
  | halt x w'=>exact hcalls.elim
  | ok x w'=>
   cases x <;> first
    | exact hn _ _ hcalls
    | exact Calls.mono hcalls fun e w' ⟨v,e1,e2⟩=>⟨v,e1,hn v w' e2⟩
    | exact hcalls.elim
 | .dfr f args,hs,_,hc=>by
  obtain ⟨dd,fv,cap,args',h1,h2,h3,h4⟩:=hs
  have h1:(execOp a.eval o).run P w=.ok (.defer dd) w:=h1
  unfold vQ
  rw [h1]
  have hc':zb (yI d .undef tm fun tm=>k (.undef::es) tm ((f,args)::ds) h n):=hc
  show wB P F N ψ h n w (o.dst::dl) k (yI d .undef tm fun tm=>k (.undef::es) tm ((f,args)::ds) h n) ({ a with defers:=dd::a.defers }.put o.dst undef) w
  refine kx (a:={ a with defers:=dd::a.defers }) (ds:=(f,args)::ds) ⟨⟨hst.frame.size,hst.frame.tmp⟩,⟨dd,a.defers,rfl,⟨fv,cap,args',h2,h3,h4⟩,hst.dfr⟩,hst.rel,hst.glob,hst.fresh⟩ hev hd (zy.refl hst.rel) qE hc'
 | .recov,hs,_,hc=>by
  obtain ⟨h0,h1⟩:=hs
  have h1:(execOp a.eval o).run P w=.ok .recover w:=h1
  unfold vQ
  rw [h1]
  exact ⟨hrc h0,kx hst hev hd (zy.refl hst.rel) (yg.2 rfl) hc⟩
 | .err _,_,_,hc=>hc.elim
 | .fork r s,hs,ha,hc=>by
  rcases hs hst.rel with hs | hs
  · exact vQ.mono (fun _ _ h=>wB.forkL h) (vf hcall hk hst hev hd hrc r hs ha.1 hc.1)
  · exact vQ.mono (fun _ _ h=>wB.forkR h) (vf hcall hk hst hev hd hrc s hs ha.2 hc.2)
end
end
end Go.Ev
namespace Go.Ev
variable [Sym]
noncomputable section
variable {P:Program}
variable [SymFact P]
theorem zGW {ψ:Psi} {ops:Array Oper} {o:Oper} {j t:Nat} {wnt:Bool} {a:Act} {c:CV} (hg:o.guard=some (j,wnt)) (ht:(ops[j]?).bind (·.dst)=some t) (hc:zH ψ c (a.tmps.getD t undef)) :
 (jt wnt c=true→Region.wanted o (yielded ops a.tmps)=true)∧(jt wnt c=false→k8 c=true→Region.wanted o (yielded ops a.tmps)=false):=by
 have hw:Region.wanted o (yielded ops a.tmps)=(yielded ops a.tmps j == some wnt):=by unfold Region.wanted; rw [hg]
 have hy:yielded ops a.tmps j=(match a.tmps[t]? with | some (.bool b)=>some b | _=>none):=by unfold yielded; rw [ht]; rfl
 have hget:∀ b,a.tmps.getD t undef=.bool b→a.tmps[t]? = some (.bool b):=by
  intro b h
  rw [Array.getD_eq_getD_getElem?] at h
  cases hq:a.tmps[t]? with
  | none=>rw [hq] at h; cases h
  | some v=>rw [hq] at h; exact congrArg some h
 rw [hw,hy]
 constructor
 · intro hb
   unfold jt at hb
   split at hb
   · rename_i b
     rw [zJ] at hc
     rw [hget _ hc]
     cases b <;> cases wnt <;> simp_all
   · cases hb
 · intro hb hn
   cases hq:a.tmps[t]? with
   | none=>rfl
   | some v=>
    have hv:a.tmps.getD t undef=v:=by rw [Array.getD_eq_getD_getElem?,hq]; rfl
    rw [hv] at hc
    cases v <;> try rfl
    rename_i b
    have hb':c=.bool b∨c=.any:=by
     cases c
     case bool b'=>rw [zJ] at hc; injection hc with hc; subst hc; exact .inl rfl
     case any=>exact .inr rfl
     case nat=>rw [zS] at hc; cases hc
     case int=>rw [zd] at hc; cases hc
     case anyi=>rw [yP] at hc; obtain ⟨_,hc⟩:=hc; cases hc
     case str=>rw [zf] at hc; obtain ⟨_,hc,_⟩:=hc; cases hc
     case big=>rw [kw] at hc; obtain ⟨_,hc,_⟩:=hc; cases hc
     case nilptr=>rw [xV] at hc; cases hc
     case ptr=>rw [zm] at hc; obtain ⟨_,_,hc⟩:=hc; cases hc
     case nilsl=>rw [zu] at hc; cases hc
     case sl=>rw [zx] at hc; obtain ⟨_,_,_,_,hc,_⟩:=hc; cases hc
     case sst=>rw [yx] at hc; obtain ⟨_,hc,_⟩:=hc; cases hc
     case elt=>rw [zAr] at hc; obtain ⟨_,_,_,_,_,hc⟩:=hc; cases hc
     case few=>rw [jd] at hc; obtain ⟨_,_,_,hc,_⟩:=hc; cases hc
     case win=>rw [qA] at hc; obtain ⟨_,_,_,_,_,hc,_⟩:=hc; cases hc
     case nilmap=>rw [yV] at hc; cases hc
     case map=>rw [yn] at hc; obtain ⟨_,_,hc⟩:=hc; cases hc
     case func=>rw [xJ] at hc; obtain ⟨_,_,hc,_⟩:=hc; cases hc
     case nilfunc=>rw [xL] at hc; cases hc
     case iface=>rw [yc] at hc; obtain ⟨_,hc,_⟩:=hc; cases hc
     case niliface=>rw [yg] at hc; cases hc
     case agg=>rw [yY] at hc; obtain ⟨_,hc,_⟩:=hc; cases hc
     case sym i=>rw [zt] at hc; rcases Sym.one i with ⟨_,_,e⟩ | ⟨_,e⟩ <;> rw [e] at hc <;> cases hc
     case tup=>rw [yX] at hc; obtain ⟨_,hc,_⟩:=hc; cases hc
    rcases hb' with rfl | rfl
    · cases b <;> cases wnt <;> first | rfl | cases hb
    · cases hn
section
variable {F N:Nat} {call:yh} {ops:Array Oper} {rc:Bool} {Q:Act→World→Prop} {W:List Nat→Act→World→Prop}
theorem zM2 {j:Nat}:(nth ops.toList j).bind (·.dst)=(ops[j]?).bind (·.dst):=by rw [ye,Array.getElem?_toList]
theorem zSI (hcall:ym P call) (walk:zSd P ops rc Q W) {k:KE} (hk:∀ es tm ds h n,zi n (k es tm ds h n)) {ψ:Psi} {tm:Tm} {ds:xd} {h:zC} {n:Key} {a:Act} {w:World} {dl:List (Option Nat)} {es:List CV}
 (hst:St P F N ψ tm ds h n a w) (hev:ut ψ dl es a) {i:Nat} {o:Oper} {rest:List Nat} (ho:ops[i]? = some o) (hrc:zDz o.op=true→rc=true)
 (hc:zb (zT2 P call (ui P F N ops.toList dl o) k es tm ds h n))
 (hnext:∀ a' w',wB P F N ψ h n w (o.dst::dl) k (zT2 P call (ui P F N ops.toList dl o) k es tm ds h n) a' w'→W rest a' w'):W (i::rest) a w:=by
 unfold ui at hc hnext
 cases hd:xT F N o.dst with
 | none=>simp only [hd] at hc; exact hc.elim
 | some d=>
  simp only [hd] at hc hnext
  have hsim:=fun (w:World)=>zLl (ψ:=ψ) (h:=h) (n:=n) (es:=es) (tm:=tm) (ty:=o.type) (w:=w) (zIl a) o.op (zIR hst hev _)
  cases hg:o.guard with
  | none=>
   have hw:Region.wanted o (yielded ops a.tmps)=true:=by unfold Region.wanted; rw [hg]
   simp only [hg] at hc hnext
   refine walk.step i o rest a w ho hw ?_
   cases d with
   | none=>
    have:=vf hcall hk hst hev hd hrc _ (hsim w) (wy _) hc
    exact vQ.mono hnext this
   | some p=>
    have:=vf hcall hk hst hev hd hrc _ (hsim w) (wy _) hc
    exact vQ.mono hnext this
  | some jw=>
   obtain ⟨j,wnt⟩:=jw
   simp only [hg] at hc hnext
   cases ht:(nth ops.toList j).bind (·.dst) with
   | none=>simp only [ht] at hc; exact hc.elim
   | some t=>
    simp only [ht] at hc hnext
    cases hx:zh P ⟨F,N,dl⟩ (.tmp t) with
    | none=>simp only [hx] at hc; exact hc.elim
    | some x=>
     simp only [hx] at hc hnext
     have hv:=zIR hst hev [.tmp t] _ (by simp) _ hx
     have hv:zH ψ (aV es tm x) (a.tmps.getD t undef):=hv
     rw [zM2] at ht
     obtain ⟨w1,w2⟩:=zGW hg ht hv
     have hc':zb (Bool.rec (motive:=fun _=>R)
      (Bool.rec (motive:=fun _=>R) (.err 299) (yI d .undef tm fun tm=>k (.undef::es) tm ds h n) (k8 (aV es tm x)))
      (after (yN P (zg P ⟨F,N,dl⟩ o.op) es tm h n) call k d es tm ds h n) (jt wnt (aV es tm x))):=hc
     have hnext':∀ a' w',wB P F N ψ h n w (o.dst::dl) k (Bool.rec (motive:=fun _=>R)
      (Bool.rec (motive:=fun _=>R) (.err 299) (yI d .undef tm fun tm=>k (.undef::es) tm ds h n) (k8 (aV es tm x)))
      (after (yN P (zg P ⟨F,N,dl⟩ o.op) es tm h n) call k d es tm ds h n) (jt wnt (aV es tm x))) a' w'→W rest a' w':=hnext
     cases hb:jt wnt (aV es tm x) with
     | true=>
      rw [hb] at hc' hnext'
      refine walk.step i o rest a w ho (w1 hb) ?_
      exact vQ.mono hnext' (vf hcall hk hst hev hd hrc _ (hsim w) (wy _) hc')
     | false=>
      rw [hb] at hc' hnext'
      cases hn:k8 (aV es tm x) with
      | false=>rw [hn] at hc'; exact hc'.elim
      | true=>
       rw [hn] at hc' hnext'
       exact walk.skip i o rest a w ho (w2 hb hn) (hnext' _ _ (kx hst hev hd (zy.refl hst.rel) qE hc'))
theorem zIS (hcall:ym P call) (walk:zSd P ops rc Q W):∀ (rest:List Oper) (i:Nat) {ψ:Psi} {tm:Tm} {ds:xd} {h:zC} {n:Key} {a:Act} {w:World} {dl:List (Option Nat)} {es:List CV},
 ops.toList.drop i=rest→(∀ o∈rest,zDz o.op=true→rc=true)→St P F N ψ tm ds h n a w→ut ψ dl es a →
 zb (yo P call (jI P F N ops.toList dl rest) es tm ds h n) →
 (∀ tm' ds' h' n' ψ' a' w',St P F N ψ' tm' ds' h' n' a' w'→zy ψ (zC.fam h) n w ψ' (zC.fam h') n' w'→n'.room →
   (∀ (O:R→Prop),(∀ x y,O x→O (.fork x y))→(∀ x y,O y→O (.fork x y))→O (.ok .normal tm' ds' h' n')→O (yo P call (jI P F N ops.toList dl rest) es tm ds h n))→Q a' w') →
 W (List.range' i rest.length) a w
 | [],i,ψ,tm,ds,h,n,a,w,dl,es,_,_,hst,hev,hc,hQ=>walk.nil a w (hQ tm ds h n ψ a w hst (zy.refl hst.rel) hc fun O _ _ ho=>ho)
 | o::rest,i,ψ,tm,ds,h,n,a,w,dl,es,hi,hrc,hst,hev,hc,hQ=>by
  have ho:ops[i]? = some o:=by
   rw [← Array.getElem?_toList]
   have:(ops.toList.drop i)[0]? = some o:=by rw [hi]; rfl
   rw [List.getElem?_drop] at this
   exact this
  have hrest:ops.toList.drop (i+1)=rest:=by
   have:=congrArg (List.drop 1) hi
   rw [List.drop_drop] at this
   exact this
  rw [List.length_cons,List.range'_succ]
  refine zSI hcall walk (k:=yo P call (jI P F N ops.toList (o.dst::dl) rest)) (fun es tm ds h n=>j6 hcall.above _ es tm ds h n) hst hev ho (hrc o (by simp)) hc fun a' w' hn=>?_
  obtain ⟨es',tm',ds',h',n',ψ',h1,h2,h3,h4,h5⟩:=hn
  refine zIS hcall walk rest (i+1) hrest (fun o ho=>hrc o (by simp [ho])) h1 h2 h4 fun tm'' ds'' h'' n'' ψ'' a'' w'' g1 g2 g3 g4=>?_
  exact hQ tm'' ds'' h'' n'' ψ'' a'' w'' g1 (h3.trans g2) g3 fun O f1 f2 ho=>h5 O f1 f2 (g4 O f1 f2 ho)
end
end
end Go.Ev
namespace Go.Ev
variable [Sym]
noncomputable section
variable {P:Program}
variable [SymFact P]
theorem qU {n:Key} {k:K} (hk:∀ tm ds h n,zi n (k tm ds h n)):∀ {r:R},zi n r→zi n (qJ k r)
 | .ok .normal tm ds h n',ha=>zi.le ha (hk tm ds h n')
 | .ok (.exit _) _ _ _ _,ha=>ha
 | .ok .ret _ _ _ _,ha=>ha
 | .ret ..,_=>trivial
 | .err _,_=>trivial
 | .fork _ _,h=>⟨qU hk h.1,qU hk h.2⟩
theorem xq {k:K} (hk:∀ tm ds h n,zi n (k tm ds h n)):∀ {r:R},zb (qJ k r)→zb r
 | .ok .normal tm ds h n',hc=>uO hc (hk tm ds h n')
 | .ok (.exit _) _ _ _ _,hc=>hc
 | .ok .ret _ _ _ _,hc=>hc
 | .ret ..,hc=>hc.elim
 | .err _,hc=>hc.elim
 | .fork _ _,h=>⟨xq hk h.1,xq hk h.2⟩
theorem u7 (id i:Nat) (tm:Tm) (ds:xd) (h:zC) (n:Key):uh id (.ok (.exit i) tm ds h n)=if i=id then .ok .normal tm ds h n else .ok (.exit i) tm ds h n:=by
 show Bool.rec (motive:=fun _=>R) (.ok (.exit i) tm ds h n) (.ok .normal tm ds h n) (Nat.beq i id)=_
 by_cases e:i=id
 · subst e; rw [jB,if_pos rfl]
 · rw [wT e,if_neg e]
theorem uV {n:Key} (id:Nat):∀ {r:R},zi n r→zi n (uh id r)
 | .ok .normal _ _ _ _,ha=>ha
 | .ok (.exit i) _ _ _ _,ha=>by rw [u7]; split <;> exact ha
 | .ok .ret _ _ _ _,ha=>ha
 | .ret ..,_=>trivial
 | .err _,_=>trivial
 | .fork _ _,h=>⟨uV id h.1,uV id h.2⟩
theorem jo (id:Nat):∀ {r:R},zb (uh id r)→zb r
 | .ok .normal _ _ _ _,ha=>ha
 | .ok (.exit i) _ _ _ _,ha=>by rw [u7] at ha; split at ha <;> exact ha
 | .ok .ret _ _ _ _,ha=>ha
 | .ret ..,h=>h.elim
 | .err _,h=>h.elim
 | .fork _ _,h=>⟨jo id h.1,jo id h.2⟩
theorem zEH {C:K→Prop} {a b:K} (v:CV) (ht:v=.bool true→C a) (hf:v=.bool false→C b) (he:C fun _ _ _ _=>.err 302):C (zGA a b v):=by
 unfold zGA
 split
 · exact ht rfl
 · exact hf rfl
 · exact he
section
variable {call:yh} (hcall:yy call)
include hcall
theorem zMe {k:KD} (hk:∀ es hs tm ds h n,zi n (k es hs tm ds h n)) (d:Option Loc) (es:List CV) (hs:List zC) (tm:Tm) (ds:xd) (h:zC) (n:Key) (r:OR) (ho:zE n r) :
 zi n (zLR call d k r es hs tm ds h n):=by
 cases r with
 | val v=>show zi n (yI _ _ _ _); rw [yF]; exact hk _ _ _ _ _ _
 | read v=>show zi n (yI _ _ _ _); rw [yF]; exact hk _ _ _ _ _ _
 | alloc o v=>show zi n (yI _ _ _ _); rw [yF]; exact zi.le (Key.ix_le_succ n) (hk _ _ _ _ _ _)
 | eff v h' n'=>show zi n (yI _ _ _ _); rw [yF]; exact zi.le ho (hk _ _ _ _ _ _)
 | call f args=>exact qy (k:=fun v h' n'=>yI d v tm fun tm=>k (v::es) (h::hs) tm ds h' n') (fun v h n=>by rw [yF]; exact hk _ _ _ _ _ _) (hcall _ _ _ _ _)
 | dfr f args=>trivial
 | recov=>trivial
 | err _=>trivial
 | fork a b=>trivial
omit hcall in
theorem zOS {k:KD} (hk:∀ es hs tm ds h n,zi n (k es hs tm ds h n)) (op:COp) (d:Option Loc) (chk:Nat) (es:List CV) (hs:List zC) (tm:Tm) (ds:xd) (h:zC) (n:Key) (r:OR) :
 zi n (dNo P op d chk k r es hs tm ds h n):=by
 cases r with
 | val v=>show zi n (yI _ _ _ _); rw [yF]; exact hk _ _ _ _ _ _
 | read v=>
  show zi n (match jD P op es tm n v chk hs with
   | true=>yI d v tm fun tm=>k (v::es) hs tm ds h n
   | false=>.err 311)
  split
  · rw [yF]; exact hk _ _ _ _ _ _
  · trivial
 | alloc o v=>show zi n (yI _ _ _ _); rw [yF]; exact zi.le (Key.ix_le_succ n) (hk _ _ _ _ _ _)
 | eff v h' n'=>trivial
 | call f args=>trivial
 | dfr f args=>trivial
 | recov=>trivial
 | err _=>trivial
 | fork a b=>trivial
theorem zC4 {k:KD} (hk:∀ es hs tm ds h n,zi n (k es hs tm ds h n)) (op:COp) (d:Option Loc) (e:Bool) (chk:Nat) (es:List CV) (hs:List zC) (tm:Tm) (ds:xd) (h:zC) (n:Key) :
 zi n (dOp P call op d e chk k es hs tm ds h n):=by
 unfold dOp
 split
 · exact zMe hcall hk d es hs tm ds h n _ (wy op)
 · exact zOS hk op d chk es hs tm ds h n _
theorem zIs:∀ (l:List zOR) (es:List CV) (hs:List zC) (tm:Tm) (ds:xd) (h:zC) (n:Key),zi n (evD P call l es hs tm ds h n)
 | [],_,_,_,_,_,_=>Nat.le_refl _
 | i::l,es,hs,tm,ds,h,n=>by
  unfold evD
  have ih:=fun es hs tm ds h n=>zIs l es hs tm ds h n
  split
  · exact zC4 hcall ih _ _ _ _ _ _ _ _ _ _
  · exact zC4 hcall ih _ _ _ _ _ _ _ _ _ _
  · split
    · exact zC4 hcall ih _ _ _ _ _ _ _ _ _ _
    · split
      · unfold zEF
        rw [yF]; exact ih _ _ _ _ _ _
      · trivial
theorem yv:∀ (c:CCode) (tm:Tm) (ds:xd) (h:zC) (n:Key),zi n (zp P call c tm ds h n)
 | .skip,_,_,_,_=>Nat.le_refl _
 | .region ops,tm,ds,h,n=>j6 hcall ops [] tm ds h n
 | .dregion ops,tm,ds,h,n=>zIs hcall ops [] [] tm ds h n
 | .seq a b,tm,ds,h,n=>qU (fun tm ds h n=>yv b tm ds h n) (yv a tm ds h n)
 | .cond x a b,tm,ds,h,n=>by
  exact zEH (C:=fun k=>zi n (k tm ds h n)) _ (fun _=>yv a tm ds h n) (fun _=>yv b tm ds h n) trivial
 | .block id b,tm,ds,h,n=>uV id (yv b tm ds h n)
 | .loop b,tm,ds,h,n=>by
  show zi n (zA7 u0 (zp P call b) tm ds h n)
  have:∀ (fuel:Nat) (tm:Tm) (ds:xd) (h:zC) (n:Key),zi n (zA7 fuel (zp P call b) tm ds h n):=by
   intro fuel
   induction fuel with
   | zero=>intros; trivial
   | succ m ih=>intro tm ds h n; exact qU ih (yv b tm ds h n)
  exact this _ _ _ _ _
 | .exit _,_,_,_,_=>Nat.le_refl _
 | .ret,_,_,_,_=>Nat.le_refl _
 | .scope b,tm,ds,h,n=>yv b tm ds h n
 | .bad _,_,_,_,_=>trivial
end
def xG (P:Program) (F N:Nat) (ψ₀:Psi) (g₀:Fam) (n₀:Key) (w₀:World):R→Exit→Act→World→Prop
 | .ok cx tm ds h n,e,a,w=>zUt cx e∧∃ ψ,St P F N ψ tm ds h n a w∧zy ψ₀ g₀ n₀ w₀ ψ (zC.fam h) n w∧n.room
 | .fork r s,e,a,w=>xG P F N ψ₀ g₀ n₀ w₀ r e a w∨xG P F N ψ₀ g₀ n₀ w₀ s e a w
 | _,_,_,_=>False
section
variable {F N:Nat} {ψ₀ ψ₁:Psi} {g₀ g₁:Fam} {n₀ n₁:Key} {w₀ w₁:World}
theorem xG.trans (hp:zy ψ₀ g₀ n₀ w₀ ψ₁ g₁ n₁ w₁) {e:Exit} {a:Act} {w:World}:∀ {r:R},xG P F N ψ₁ g₁ n₁ w₁ r e a w→xG P F N ψ₀ g₀ n₀ w₀ r e a w
 | .ok ..,⟨h1,ψ,h2,h3,h4⟩=>⟨h1,ψ,h2,hp.trans h3,h4⟩
 | .ret ..,h=>h
 | .err _,h=>h
 | .fork _ _,h=>h.imp (xG.trans hp) (xG.trans hp)
theorem kJ {k:K} {e:Exit} {a:Act} {w:World}:∀ {r:R},zb (qJ k r)→xG P F N ψ₀ g₀ n₀ w₀ r e a w →
 (e=.normal∧∃ tm ds h n ψ,St P F N ψ tm ds h n a w∧zy ψ₀ g₀ n₀ w₀ ψ (zC.fam h) n w∧zb (k tm ds h n) ∧
   ∀ e' a' w',xG P F N ψ₀ g₀ n₀ w₀ (k tm ds h n) e' a' w'→xG P F N ψ₀ g₀ n₀ w₀ (qJ k r) e' a' w') ∨
 (e≠.normal∧xG P F N ψ₀ g₀ n₀ w₀ (qJ k r) e a w)
 | .ok .normal tm ds h n,hc,⟨h1,ψ,h2,h3,h4⟩=>by
  cases e <;> first | exact h1.elim | skip
  exact .inl ⟨rfl,tm,ds,h,n,ψ,h2,h3,hc,fun e' a' w' ho=>ho⟩
 | .ok (.exit i) tm ds h n,hc,⟨h1,ψ,h2,h3,h4⟩=>.inr ⟨by rintro rfl; exact h1.elim,h1,ψ,h2,h3,h4⟩
 | .ok .ret tm ds h n,hc,⟨h1,ψ,h2,h3,h4⟩=>.inr ⟨by rintro rfl; exact h1.elim,h1,ψ,h2,h3,h4⟩
 | .ret ..,hc,_=>hc.elim
 | .err _,hc,_=>hc.elim
 | .fork r s,hc,ho=>by
  rcases ho with ho | ho
  · rcases kJ hc.1 ho with ⟨h1,tm,ds,h,n,ψ,h2,h3,h4,h5⟩ | ⟨h1,h2⟩
    · exact .inl ⟨h1,tm,ds,h,n,ψ,h2,h3,h4,fun e' a' w' q=>.inl (h5 e' a' w' q)⟩
    · exact .inr ⟨h1,.inl h2⟩
  · rcases kJ hc.2 ho with ⟨h1,tm,ds,h,n,ψ,h2,h3,h4,h5⟩ | ⟨h1,h2⟩
    · exact .inl ⟨h1,tm,ds,h,n,ψ,h2,h3,h4,fun e' a' w' q=>.inr (h5 e' a' w' q)⟩
    · exact .inr ⟨h1,.inr h2⟩
theorem uZ {id:Nat} {e:Exit} {a:Act} {w:World} {Q:Exit→Act→World→Prop}:∀ {r:R},(∀ e a w,xG P F N ψ₀ g₀ n₀ w₀ (uh id r) e a w→Q e a w)→xG P F N ψ₀ g₀ n₀ w₀ r e a w→Exit.inBlock id Q e a w
 | .ok .normal tm ds h n,hq,⟨h1,ψ,h2,h3,h4⟩=>by
  cases e <;> first | exact h1.elim | skip
  exact hq .normal a w ⟨trivial,ψ,h2,h3,h4⟩
 | .ok (.exit i) tm ds h n,hq,⟨h1,ψ,h2,h3,h4⟩=>by
  cases e <;> first | exact h1.elim | skip
  rename_i j
  have h1:i=j:=h1
  subst h1
  rw [u7] at hq
  unfold Exit.inBlock
  simp only
  split
  · rename_i e
    rw [if_pos e] at hq
    exact hq .normal a w ⟨trivial,ψ,h2,h3,h4⟩
  · rename_i e
    rw [if_neg e] at hq
    exact hq (.exit i) a w ⟨rfl,ψ,h2,h3,h4⟩
 | .ok .ret tm ds h n,hq,⟨h1,ψ,h2,h3,h4⟩=>by
  cases e <;> first | exact h1.elim | skip
  exact hq .ret a w ⟨trivial,ψ,h2,h3,h4⟩
 | .ret ..,_,ho=>ho.elim
 | .err _,_,ho=>ho.elim
 | .fork r s,hq,ho=>by
  rcases ho with ho | ho
  · exact uZ (fun e a w h=>hq e a w (.inl h)) ho
  · exact uZ (fun e a w h=>hq e a w (.inr h)) ho
theorem zBf {Q:Exit→Act→World→Prop} {e:Exit} {a:Act} {w:World}:∀ {r:R},(xG P F N ψ₀ g₀ n₀ w₀ r e a w→Q e a w)→xG P F N ψ₀ g₀ n₀ w₀ r e a w→Exit.noGoto Q e a w
 | .ok cx tm ds h n,hq,ho=>by
  cases e <;> first | exact hq ho | (cases cx <;> exact ho.1.elim)
 | .ret ..,_,ho=>ho.elim
 | .err _,_,ho=>ho.elim
 | .fork r s,hq,ho=>by
  rcases ho with ho | ho
  · exact zBf (fun h=>hq (.inl h)) ho
  · exact zBf (fun h=>hq (.inr h)) ho
end
theorem zJm (call:yh) (b:CCode):zp P call (.loop b)=zA7 u0 (zp P call b):=rfl
theorem zGw (F N:Nat) (b:Code):zU P F N (.loop b)=.loop (zU P F N b):=rfl
def ug (P:Program) (c:Code) (Q:Exit→Act→World→Prop) (a:Act) (w:World):Prop:=
 ∀ (b:Frame) (k:List Item) (cs:List Frame),∃ e a' w',Q e a' w'∧Arrives P (lone (b.at a (.code c::.inLoop c::k)) cs w) b k cs e a' w'
theorem zHH {c:Code} {Q:Exit→Act→World→Prop} {a:Act} {w:World} (h:c.wp P (Exit.then (ug P c Q) Q) a w):ug P c Q a w:=by
 intro b k cs
 obtain ⟨e,a₁,w₁,hq,harr⟩:=h b (.inLoop c::k) cs
 cases e with
 | normal=>
  obtain ⟨e₂,a₂,w₂,hq₂,harr₂⟩:=hq b k cs
  exact ⟨e₂,a₂,w₂,hq₂,.of_steps (Steps.trans harr (.one step_inLoop)) harr₂⟩
 | exit id=>exact ⟨_,a₁,w₁,hq,.pass (x:=.inLoop c) rfl (fun _ _=>.inl (by simp)) harr⟩
 | goto l=>exact ⟨_,a₁,w₁,hq,.pass (x:=.inLoop c) rfl (fun _ _=>.inl (by simp)) harr⟩
 | ret=>exact ⟨_,a₁,w₁,hq,.pass (x:=.inLoop c) rfl (fun _ _=>.inl (by simp)) harr⟩
 | panic ch=>exact ⟨_,a₁,w₁,hq,.pass (x:=.inLoop c) rfl (fun _ _=>.inl (by simp)) harr⟩
 | outgrown=>exact ⟨_,a₁,w₁,hq,.pass (x:=.inLoop c) rfl (fun _ _=>.inl (by simp)) harr⟩
theorem zFw {c:Code} {Q:Exit→Act→World→Prop} {a:Act} {w:World} (h:ug P c Q a w):(Code.loop c).wp P Q a w:=by
 intro b k cs
 obtain ⟨e,a',w',hq,harr⟩:=h b k cs
 exact ⟨e,a',w',hq,.of_steps (.one step_loop) harr⟩
def kT (P:Program) (F N:Nat) (call:yh):Prop:=∀ (id:Nat) (ops:Array Oper) (ψ:Psi) (tm:Tm) (ds:xd) (h:zC) (n:Key) (a:Act) (w:World),zFH ops.toList=true →
 St P F N ψ tm ds h n a w→zb (zp P call (zIp P F N ops.toList) tm ds h n) →
 (Code.region id ops true).wp P (xG P F N ψ (zC.fam h) n w (zp P call (zIp P F N ops.toList) tm ds h n)) a w
theorem zKa (l:List Oper) (h:zFH l=true):∀ o∈l,zDz o.op=false:=by
 induction l with
 | nil=>intro o ho; cases ho
 | cons x l ih=>
  intro o ho
  unfold zFH at h
  rw [Bool.and_eq_true] at h
  rcases List.mem_cons.1 ho with rfl | ho
  · have:=h.1
    cases hr:zDz o.op with
    | false=>rfl
    | true=>rw [hr] at this; cases this
  · exact ih h.2 o ho
theorem vl {F N:Nat} {call:yh} (hcall:ym P call) (hdraw:kT P F N call):∀ (c:Code) {ψ:Psi} {tm:Tm} {ds:xd} {h:zC} {n:Key} {a:Act} {w:World},
 yS c=true→St P F N ψ tm ds h n a w→zb (zp P call (zU P F N c) tm ds h n)→c.wp P (xG P F N ψ (zC.fam h) n w (zp P call (zU P F N c) tm ds h n)) a w:=by
 intro c
 induction c with
 | skip=>intro ψ tm ds h n a w _ hst hc; exact wp_skip ⟨trivial,ψ,hst,zy.refl hst.rel,hc⟩
 | label l=>intro ψ tm ds h n a w _ hst hc; exact wp_label ⟨trivial,ψ,hst,zy.refl hst.rel,hc⟩
 | region id ops dr=>
  intro ψ tm ds h n a w hnr hst hc
  cases dr with
  | true=>exact hdraw id ops ψ tm ds h n a w hnr hst hc
  | false=>
   refine wp_region ?_
   have hc':zb (yo P call (jI P F N ops.toList [] ops.toList) [] tm ds h n):=hc
   have:=zIS (F:=F) (N:=N) hcall (zMb (P:=P) ops (xG P F N ψ (zC.fam h) n w (yo P call (jI P F N ops.toList [] ops.toList) [] tm ds h n)))
    ops.toList 0 rfl (fun o ho hr=>by rw [zKa _ hnr o ho] at hr; cases hr) hst (dl:=[]) (es:=[]) (fun t i hi=>by cases hi) hc'
    (fun tm' ds' h' n' ψ' a' w' g1 g2 g3 g4=>g4 (fun r=>xG P F N ψ (zC.fam h) n w r .normal a' w') (fun _ _ h=>.inl h) (fun _ _ h=>.inr h) ⟨trivial,ψ',g1,g2,g3⟩)
   rw [Array.length_toList] at this
   rw [List.range_eq_range']
   exact this
 | seq x y ihx ihy=>
  intro ψ tm ds h n a w hnr hst hc
  have hnr:yS x=true∧yS y=true:=by simpa [yS] using hnr
  have hc:zb (qJ (zp P call (zU P F N y)) (zp P call (zU P F N x) tm ds h n)):=hc
  have hab:=fun tm ds h n=>yv (P:=P) hcall.above (zU P F N y) tm ds h n
  refine wp_seq (wp_mono (ihx hnr.1 hst (xq hab hc)) fun e a' w' ho=>?_)
  rcases kJ hc ho with ⟨rfl,tm',ds',h',n',ψ',h2,h3,h4,h5⟩ | ⟨h1,h2⟩
  · exact wp_mono (ihy hnr.2 h2 h4) fun e'' a'' w'' ho'=>h5 e'' a'' w'' (xG.trans h3 ho')
  · cases e <;> first | exact absurd rfl h1 | exact h2
 | cond x p q ihp ihq=>
  intro ψ tm ds h n a w hnr hst hc
  have hnr:yS p=true∧yS q=true:=by simpa [yS] using hnr
  unfold zU at hc ⊢
  cases hx:zh P ⟨F,N,[]⟩ x with
  | none=>simp only [hx] at hc; exact hc.elim
  | some cx=>
   simp only [hx] at hc ⊢
   have hv:=zIR hst (dl:=[]) (es:=[]) (fun t i hi=>by cases hi) [x] x (by simp) cx hx
   have hc:zb (zGA (zp P call (zU P F N p)) (zp P call (zU P F N q)) (aV [] tm cx) tm ds h n):=hc
   show (Code.cond x p q).wp P (xG P F N ψ (zC.fam h) n w (zGA (zp P call (zU P F N p)) (zp P call (zU P F N q)) (aV [] tm cx) tm ds h n)) a w
   revert hc
   refine zEH (C:=fun k=>zb (k tm ds h n)→(Code.cond x p q).wp P (xG P F N ψ (zC.fam h) n w (k tm ds h n)) a w) _ (fun e hc=>?_) (fun e hc=>?_) (fun hc=>hc.elim)
   · rw [e] at hv
     exact wp_cond_true (zJ.1 hv) (ihp hnr.1 hst hc)
   · rw [e] at hv
     exact wp_cond_false (zJ.1 hv) (ihq hnr.2 hst hc)
 | block id b ih=>
  intro ψ tm ds h n a w hnr hst hc
  have hc:zb (uh id (zp P call (zU P F N b) tm ds h n)):=hc
  refine wp_block (wp_mono (ih hnr hst (jo id hc)) fun e a' w' ho=>?_)
  exact uZ (fun _ _ _ h=>h) ho
 | loop b ih=>
  intro ψ tm ds h n a w hnr hst hc
  rw [zGw,zJm] at hc ⊢
  have main:∀ (fuel:Nat) {ψ:Psi} {tm:Tm} {ds:xd} {h:zC} {n:Key} {a:Act} {w:World},St P F N ψ tm ds h n a w→zb (zA7 fuel (zp P call (zU P F N b)) tm ds h n) →
   ug P b (xG P F N ψ (zC.fam h) n w (zA7 fuel (zp P call (zU P F N b)) tm ds h n)) a w:=by
   intro fuel
   induction fuel with
   | zero=>intro ψ tm ds h n a w _ hc; exact hc.elim
   | succ m ihm=>
    intro ψ tm ds h n a w hst hc
    have hc:zb (qJ (zA7 m (zp P call (zU P F N b))) (zp P call (zU P F N b) tm ds h n)):=hc
    have hab:∀ tm ds h n,zi n (zA7 m (zp P call (zU P F N b)) tm ds h n):=by
     have:∀ (fuel:Nat) (tm:Tm) (ds:xd) (h:zC) (n:Key),zi n (zA7 fuel (zp P call (zU P F N b)) tm ds h n):=by
      intro fuel
      induction fuel with
      | zero=>intros; trivial
      | succ m ih=>intro tm ds h n; exact qU ih (yv hcall.above _ tm ds h n)
     exact this m
    refine zHH (wp_mono (ih hnr hst (xq hab hc)) fun e a' w' ho=>?_)
    rcases kJ hc ho with ⟨rfl,tm',ds',h',n',ψ',h2,h3,h4,h5⟩ | ⟨h1,h2⟩
    · intro b' k cs
      obtain ⟨e,a'',w'',hq,harr⟩:=ihm h2 h4 b' k cs
      exact ⟨e,a'',w'',h5 e a'' w'' (xG.trans h3 hq),harr⟩
    · cases e <;> first | exact absurd rfl h1 | exact h2
  exact zFw (main u0 hst hc)
 | exit id=>intro ψ tm ds h n a w _ hst hc; exact wp_exit ⟨rfl,ψ,hst,zy.refl hst.rel,hc⟩
 | ret=>intro ψ tm ds h n a w _ hst hc; exact wp_ret ⟨trivial,ψ,hst,zy.refl hst.rel,hc⟩
 | scope b ih=>
  intro ψ tm ds h n a w hnr hst hc
  exact wp_scope_straight (wp_mono (ih hnr hst hc) fun e a' w' ho=>zBf (fun h=>h) ho)
 | _=>intro ψ tm ds h n a w _ hst hc; exact hc.elim
end
end Go.Ev
namespace Go.Ev
variable [Sym]
noncomputable section
variable {P:Program}
variable [SymFact P]
theorem zAb {F N:Nat} {ψ:Psi} {tm:Tm} {a:Act} {t:Nat} {x:zT} (hf:xS ψ F N tm a) (hx:zh P ⟨F,N,[]⟩ (.tmp t)=some x):zH ψ (aV [] tm x) (a.tmps.getD t undef):=by
 unfold zh xM at hx
 simp only at hx
 split at hx
 · rename_i hb
   injection hx with hx; subst hx
   rw [Bool.and_eq_true,Bool.and_eq_true] at hb
   exact hf.tmp t hb.1.1 (zL hb.1.2) (zL hb.2)
 · cases hx
theorem zDQ {ψ:Psi} {h:zC} {w:World} (hrel:qc ψ (zC.fam h) w) {b:Key} {p:Pl} {vs:List CV} (hp:ψ b=some p) (hv:zAR h b=some vs):zAg ψ w p vs:=by
 unfold zAR at hv
 split at hv
 · rename_i q hq; injection hv with hv; subst hv; exact yZ.toRo (hrel b _ p hq hp)
 · rename_i q hq; injection hv with hv; subst hv; exact hrel b _ p hq hp
 · cases hv
def zJe (tmps:Array Value):ResultVar→Sem Value
 | .tmp t=>pure (tmps.getD t undef)
 | .cell a t=>do loadVar t (← asAddr (tmps.getD a undef))
theorem zRA {F N:Nat} {ψ:Psi} {tm:Tm} {a:Act} {h:zC} {w:World} (hf:xS ψ F N tm a) (hrel:qc ψ (zC.fam h) w) {r:ResultVar} {c:CRes} {v:CV} (hc:xc P F N r=some c)
 (hv:zPT h tm c=some v):∃ x,(zJe a.tmps r).run P w=.ok x w∧zH ψ v x:=by
 unfold xc at hc
 split at hc
 · rename_i t
   cases hx:zh P ⟨F,N,[]⟩ (.tmp t) with
   | none=>rw [hx] at hc; cases hc
   | some x=>
    rw [hx] at hc
    injection hc with hc; subst hc
    injection hv with hv; subst hv
    exact ⟨_,rfl,zAb hf hx⟩
 · rename_i t ty
   split at hc
   · rename_i s x ha hs hx
     injection hc with hc; subst hc
     have hr:=zAb hf hx
     unfold zPT at hv
     simp only at hv
     split at hv
     · rename_i b off he
       rw [he,zm] at hr
       obtain ⟨p,hp,hr⟩:=hr
       split at hv
       · rename_i cs hcs
         have hcells:=zDQ hrel hp hcs
         cases hl:ux cs off s with
         | none=>rw [hl] at hv; cases hv
         | some l=>
          rw [hl] at hv
          injection hv with hv; subst hv
          obtain ⟨xs,hrun,hxs⟩:=xj (P:=P) hcells hl
          exact ⟨.agg xs.toArray,by simp only [zJe,hr,asAddr,Sem.run_bind,Sem.run_pure,Result.andThen_ok,loadVar,qt ha,if_true,yb hs,hrun],yY.2 ⟨_,rfl,by simpa using hxs⟩⟩
       · cases hv
     · cases hv
   · rename_i s x ha hs hx
     injection hc with hc; subst hc
     have hr:=zAb hf hx
     unfold zPT at hv
     simp only at hv
     split at hv
     · rename_i b off he
       rw [he,zm] at hr
       obtain ⟨p,hp,hr⟩:=hr
       split at hv
       · rename_i cs hcs
         have hcells:=zDQ hrel hp hcs
         rw [qG] at hv
         obtain ⟨y,hrun,hy⟩:=zAC (P:=P) hcells hv
         exact ⟨y,by simp only [zJe,hr,asAddr,Sem.run_bind,Sem.run_pure,Result.andThen_ok,loadVar,qt ha,Bool.false_eq_true,if_false,hrun],hy⟩
       · cases hv
     · cases hv
   · cases hc
theorem zE8 {F N:Nat} {ψ:Psi} {tm:Tm} {a:Act} {h:zC} {w:World} (hf:xS ψ F N tm a) (hrel:qc ψ (zC.fam h) w):∀ {l:List ResultVar} {cs:List CRes} {vs:List CV},
 xD (xc P F N) l=some cs→zCx h tm cs=some vs→∃ xs,(l.mapM (zJe a.tmps)).run P w=.ok xs w∧zX ψ vs xs
 | [],cs,vs,hc,hv=>by
  injection hc with hc; subst hc
  injection hv with hv; subst hv
  exact ⟨[],rfl,zM.2 rfl⟩
 | r::l,cs,vs,hc,hv=>by
  unfold xD at hc
  cases h1:xc P F N r with
  | none=>rw [h1] at hc; cases hc
  | some c=>
   simp only [h1] at hc
   cases h2:xD (xc P F N) l with
   | none=>rw [h2] at hc; cases hc
   | some cs'=>
    simp only [h2] at hc
    injection hc with hc; subst hc
    unfold zCx at hv
    cases h3:zPT h tm c with
    | none=>rw [h3] at hv; cases hv
    | some v=>
     simp only [h3] at hv
     cases h4:zCx h tm cs' with
     | none=>rw [h4] at hv; cases hv
     | some vs'=>
      simp only [h4] at hv
      injection hv with hv; subst hv
      obtain ⟨x,g1,g2⟩:=zRA hf hrel h1 h3
      obtain ⟨xs,g3,g4⟩:=zE8 hf hrel h2 h4
      exact ⟨x::xs,by simp only [List.mapM_cons,Sem.run_bind,g1,Result.andThen_ok,g3,Sem.run_pure],zW.2 ⟨g2,g4⟩⟩
theorem zDx {F N:Nat} {ψ:Psi} {tm:Tm} {a:Act} {h:zC} {w:World} {fn:Func} (hf:xS ψ F N tm a) (hrel:qc ψ (zC.fam h) w) {cs:List CRes} {v:CV}
 (hc:xD (xc P F N) fn.results.toList=some cs) (hv:zCA h tm cs=some v):∃ x,(results fn a.tmps).run P w=.ok x w∧zH ψ v x:=by
 have hm:∀ {xs:List Value},(fn.results.toList.mapM (zJe a.tmps)).run P w=.ok xs w→(fn.results.mapM (zJe a.tmps)).run P w=.ok xs.toArray w:=by
  intro xs hx
  rw [Array.mapM_eq_mapM_toList,Sem.run_map,hx]; rfl
 have hres:(results fn a.tmps).run P w=((fn.results.mapM (zJe a.tmps)).run P w).andThen fun vs w=>.ok (if h:vs.size=1 then vs[0] else .tuple vs) w:=by
  have:results fn a.tmps=(fn.results.mapM (zJe a.tmps) >>= fun vs=>pure (if h:vs.size=1 then vs[0] else .tuple vs)):=by
   unfold results
   congr 1
  rw [this,Sem.run_bind]; rfl
 unfold zCA at hv
 split at hv
 · rename_i u hl
   injection hv with hv; subst hv
   obtain ⟨xs,h1,h2⟩:=zE8 hf hrel hc hl
   obtain ⟨x,r,rfl,h3,h4⟩:=za.1 h2
   rw [zM] at h4; subst h4
   exact ⟨x,by rw [hres,hm h1,Result.andThen_ok]; rfl,h3⟩
 · rename_i vs hne hl
   injection hv with hv; subst hv
   obtain ⟨xs,h1,h2⟩:=zE8 hf hrel hc hl
   refine ⟨.tuple xs.toArray,?_,yX.2 ⟨_,rfl,h2⟩⟩
   rw [hres,hm h1,Result.andThen_ok]
   have:¬ (xs.toArray.size=1):=by
    intro h
    have hl:=h2.length
    have:vs.length=1:=by simp at h; omega
    match vs,this with
    | [u],_=>exact hne u rfl
   rw [dif_neg this]
 · cases hv
theorem zKu {i j:Nat} (hi:i≤271) (hj:j≤271) (h:i≠j):Loc.ofNat i≠Loc.ofNat j:=fun e=>h (Loc.ofNat_inj hi hj e)
theorem zGE {ψ:Psi}:∀ (args:List CV) (as:List Value) (i:Nat) (tm:Tm) (t:Nat) (v:Value),zX ψ args as→t≤271→(t<i∨i+as.length≤t→zH ψ (qT (Loc.ofNat t) tm) v)→(∀ u,i≤t→as[t - i]? = some u→u=v) →
 (i≤t→qT (Loc.ofNat t) tm=.any)→zH ψ (qT (Loc.ofNat t) (qY args i tm)) v
 | [],as,i,tm,t,v,ha,ht,h1,h2,h3=>by
  rw [zM] at ha; subst ha
  show zH ψ (qT (Loc.ofNat t) tm) v
  rcases Nat.lt_or_ge t i with h | h
  · exact h1 (.inl h)
  · exact h1 (.inr (by simpa using h))
 | c::args,as,i,tm,t,v,ha,ht,h1,h2,h3=>by
  obtain ⟨x,r,rfl,hx,hr⟩:=za.1 ha
  unfold qY
  split
  · rename_i hle
    have hle:=zL hle
    refine zGE args r (i+1) (kg c (Loc.ofNat i) tm) t v hr ht (fun h=>?_) (fun u hu hg=>?_) (fun hu=>?_)
    · by_cases e:t=i
      · subst e
        rw [jx]
        have:x=v:=h2 x (Nat.le_refl _) (by simp)
        rw [← this]; exact hx
      · rw [xf _ _ _ _ (zKu ht hle e)]
        refine h1 ?_
        rcases h with h | h
        · exact .inl (by omega)
        · exact .inr (by simp; omega)
    · refine h2 u (by omega) ?_
      have:t - i=(t - (i+1))+1:=by omega
      rw [this]; simpa using hg
    · rw [xf _ _ _ _ (zKu ht hle (by omega))]
      exact h3 (by omega)
  · rename_i hle
    have hlt:¬ i≤271:=fun h=>by rw [Nat.ble_eq_true_of_le h] at hle; cases hle
    exact h1 (.inl (by omega))
theorem zPn {ψ:Psi} {F N:Nat} {args:List CV} {as:Array Value} (ha:zX ψ args as.toList):xS ψ F N (qY args 0 .nil) { tmps:=as++Array.replicate (N - as.size) undef,defers:=[] }:=by
 refine ⟨by simp; omega,fun t _ ht hN=>?_⟩
 refine zGE args as.toList 0 .nil t _ ha ht (fun _=>by rw [zEE]; exact xo) (fun u _ hu=>?_) (fun _=>zEE _)
 simp only [Nat.sub_zero,Array.getElem?_toList] at hu
 have hlt:t<as.size:=by
  rcases Nat.lt_or_ge t as.size with h | h
  · exact h
  · rw [Array.getElem?_eq_none h] at hu; cases hu
 rw [Array.getD_eq_getD_getElem?,Array.getElem?_append_left hlt,hu]; rfl
theorem zBz {rs:List CRes} {tm:Tm} {h:zC} {n:Key}:zi n (zC9 rs tm h n):=by
 unfold zC9; split
 · exact Nat.le_refl _
 · trivial
theorem zB4 {call:yh} {k:zC→Key→R} {f:FuncId} {args:List CV} {r:xd} {h:zC} {n:Key} :
 w5 call k ((f,args)::r) h n=jJ (fun _ h n=>w5 call k r h n) (call true f args h n):=rfl
theorem vU {call:yh} (hcall:yy call) {k:zC→Key→R} (hk:∀ h n,zi n (k h n)):∀ (ds:xd) (h:zC) (n:Key),zi n (w5 call k ds h n)
 | [],h,n=>hk h n
 | (f,args)::r,h,n=>by
  rw [zB4]
  exact qy (fun _ h n=>vU hcall hk r h n) (hcall _ _ _ _ _)
theorem w8 {call:yh} (hcall:yy call) (d:Bool) (rs:List CRes) (tm:Tm) (ds:xd) (h:zC) (n:Key):zi n (jv d call rs tm ds h n):=by
 unfold jv
 split
 · exact zBz
 · split
   · exact vU hcall (fun _ _=>zBz) _ _ _
   · trivial
theorem kS {call:yh} (hcall:yy call) {n:Key} (d:Bool) (rs:List CRes):∀ {r:R},zi n r→zi n (yt d call rs r)
 | .ok .normal tm ds h n',ha=>zi.le ha (w8 hcall d rs tm ds h n')
 | .ok (.exit _) ..,_=>trivial
 | .ok .ret tm ds h n',ha=>zi.le ha (w8 hcall d rs tm ds h n')
 | .ret ..,_=>trivial
 | .err _,_=>trivial
 | .fork _ _,h=>⟨kS hcall d rs h.1,kS hcall d rs h.2⟩
theorem xW {call:yh} (hcall:yy call) (d:Bool) (rs:List CRes):∀ {r:R},zb (yt d call rs r)→zb r
 | .ok .normal tm ds h n',hc=>uO hc (w8 hcall d rs tm ds h n')
 | .ok (.exit _) ..,hc=>hc.elim
 | .ok .ret tm ds h n',hc=>uO hc (w8 hcall d rs tm ds h n')
 | .ret ..,hc=>hc.elim
 | .err _,hc=>hc.elim
 | .fork _ _,h=>⟨xW hcall d rs h.1,xW hcall d rs h.2⟩
section
variable {F N:Nat} {call:yh} {fn:Func} {ψ₀:Psi} {g₀:Fam} {n₀:Key} {w₀:World}
theorem zl.trans {ψ₁:Psi} {g₁:Fam} {n₁:Key} {w₁:World} (hp:zy ψ₀ g₀ n₀ w₀ ψ₁ g₁ n₁ w₁) {v:Value} {w:World}:∀ {r:R},zl ψ₁ g₁ n₁ w₁ r v w→zl ψ₀ g₀ n₀ w₀ r v w
 | .ok ..,h=>h
 | .ret ..,⟨ψ,h1,h2⟩=>⟨ψ,hp.trans h1,h2⟩
 | .err _,h=>h
 | .fork _ _,h=>h.imp (zl.trans hp) (zl.trans hp)
theorem zAi {k:CV→zC→Key→R} {v:Value} {w:World} {Z:Prop}:∀ {r:R},zb (jJ k r)→zl ψ₀ g₀ n₀ w₀ r v w →
 (∀ cv h n ψ,zy ψ₀ g₀ n₀ w₀ ψ (zC.fam h) n w→zH ψ cv v→zb (k cv h n)→(∀ u w',zl ψ₀ g₀ n₀ w₀ (k cv h n) u w'→zl ψ₀ g₀ n₀ w₀ (jJ k r) u w')→Z)→Z
 | .ok ..,_,h,_=>h.elim
 | .err _,_,h,_=>h.elim
 | .ret cv h n,hc,⟨ψ,h1,h2⟩,hz=>hz cv h n ψ h1 h2 hc fun _ _ h=>h
 | .fork r s,hc,h,hz=>by
  rcases h with h | h
  · exact zAi hc.1 h fun cv h n ψ a b c d=>hz cv h n ψ a b c fun u w' q=>.inl (d u w' q)
  · exact zAi hc.2 h fun cv h n ψ a b c d=>hz cv h n ψ a b c fun u w' q=>.inr (d u w' q)
theorem jn {tmps:Array Value} {R R':Ending→World→Prop} (hR:∀ e w,R e w→R' e w):∀ (ds:List Deferred) (u:FrameMode) (w:World),Leaves P fn tmps R ds u w→Leaves P fn tmps R' ds u w
 | [],.returning,w,⟨v,h1,h2⟩=>⟨v,h1,hR _ _ h2⟩
 | [],.panicking _,w,h=>hR _ _ h
 | [],.run,w,h=>h
 | d::ds,u,w,⟨h0,fv,cap,f,args,h1,h2,h3⟩=>⟨h0,fv,cap,f,args,h1,h2,CallsD.mono h3 fun e u' w' he=>by
  cases e with
  | returned v=>exact jn hR ds _ _ he
  | panicked c=>exact jn hR ds _ _ he
  | outgrown=>exact hR _ _ he⟩
theorem zDF (hcall:ym P call) {rs:List CRes} {tm:Tm} (hrs:xD (xc P F N) fn.results.toList=some rs):∀ (ds:xd) {ψ:Psi} {h:zC} {n:Key} {a:Act} {w:World} {l:List Deferred},
 xS ψ F N tm a→kX P ψ ds l→Rel ψ (zC.fam h) w→kK P ψ→xe ψ n→zb (w5 call (fun h n=>zC9 rs tm h n) ds h n) →
 Leaves P fn a.tmps (fun e w'=>∃ v,e=.returned v∧zl ψ (zC.fam h) n w (w5 call (fun h n=>zC9 rs tm h n) ds h n) v w') l .returning w
 | [],ψ,h,n,a,w,l,hf,hd,hrel,hg,hfr,hc=>by
  unfold kX at hd; subst hd
  have hc:zb (zC9 rs tm h n):=hc
  show ∃ v,(results fn a.tmps).run P w=.ok v w∧∃ v',Ending.returned v=.returned v'∧zl ψ (zC.fam h) n w (zC9 rs tm h n) v' w
  unfold zC9 at hc ⊢
  cases hv:zCA h tm rs with
  | none=>rw [hv] at hc; exact hc.elim
  | some v=>
   obtain ⟨x,h1,h2⟩:=zDx hf hrel.on hrs hv
   exact ⟨x,h1,x,rfl,ψ,zy.refl hrel,h2⟩
 | (f,args)::r,ψ,h,n,a,w,l,hf,hd,hrel,hg,hfr,hc=>by
  obtain ⟨d,l',rfl,⟨fv,cap,args',e1,e2,e3⟩,hd'⟩:=hd
  rw [zB4] at hc ⊢
  have hcl:=qx (fun _ h n=>vU hcall.above (fun _ _=>zBz) r h n) hc
  obtain ⟨h1,h2⟩:=hcall.defers f args h n ψ w args' e3 hg hrel hfr hcl
  refine ⟨by simp,fv,cap,f,args',e1,by rw [e2,h1],CallsD.mono h2 fun e u w' ⟨hu,v,he,v',hr⟩=>?_⟩
  subst hu he
  show Leaves P fn a.tmps _ l' (settle .returning) w'
  refine zAi hc hr fun cv h' n' ψ' q1 q2 q3 q4=>?_
  have:=zDF hcall hrs r (hf.mono q1.ext) (hd'.mono q1.ext) q1.rel (hg.mono q1.ext) (q1.fresh hfr) q3
  refine jn (fun e w'' ⟨v,he,hr⟩=>⟨v,he,q4 _ _ (zl.trans q1 hr)⟩) _ _ _ this
theorem zGV (hcall:ym P call) {rs:List CRes} (hrs:xD (xc P F N) fn.results.toList=some rs) {ψ:Psi} {tm:Tm} {ds:xd} {h:zC} {n:Key} {a:Act} {w:World}
 (hst:St P F N ψ tm ds h n a w) (hc:zb (jv false call rs tm ds h n)) :
 Leaves P fn a.tmps (fun e w'=>∃ v,e=.returned v∧zl ψ (zC.fam h) n w (jv false call rs tm ds h n) v w') a.defers .returning w:=by
 have e:jv false call rs tm ds h n=w5 call (fun h n=>zC9 rs tm h n) ds h n:=by cases ds <;> rfl
 rw [e] at hc ⊢
 exact zDF hcall hrs ds hst.frame hst.dfr hst.rel hst.glob hst.fresh hc
theorem zGh {rs:List CRes} (hrs:xD (xc P F N) fn.results.toList=some rs) {ψ:Psi} {tm:Tm} {ds:xd} {h:zC} {n:Key} {a:Act} {w:World}
 (hst:St P F N ψ tm ds h n a w) (hc:zb (jv true call rs tm ds h n)) :
 a.defers=[]∧∃ v,(results fn a.tmps).run P w=.ok v w∧zl ψ (zC.fam h) n w (jv true call rs tm ds h n) v w:=by
 cases ds with
 | cons f ds=>exact hc.elim
 | nil=>
  have hd:=hst.dfr
  unfold kX at hd
  refine ⟨hd,?_⟩
  have hc:zb (zC9 rs tm h n):=hc
  show ∃ v,_∧zl ψ (zC.fam h) n w (zC9 rs tm h n) v w
  unfold zC9 at hc ⊢
  cases hv:zCA h tm rs with
  | none=>rw [hv] at hc; exact hc.elim
  | some v=>
   obtain ⟨x,h1,h2⟩:=zDx hst.frame hst.rel.on hrs hv
   exact ⟨x,h1,ψ,zy.refl hst.rel,h2⟩
theorem wO (d:Bool) (rs:List CRes) {e:Exit} {a:Act} {w:World} {Z:Prop}:∀ {r:R},zb (yt d call rs r)→xG P F N ψ₀ g₀ n₀ w₀ r e a w →
 (∀ tm ds h n ψ,(e=.normal∨e=.ret)→St P F N ψ tm ds h n a w→zy ψ₀ g₀ n₀ w₀ ψ (zC.fam h) n w→zb (jv d call rs tm ds h n) →
   (∀ u w',zl ψ₀ g₀ n₀ w₀ (jv d call rs tm ds h n) u w'→zl ψ₀ g₀ n₀ w₀ (yt d call rs r) u w')→Z)→Z
 | .ok .normal tm ds h n,hc,⟨h1,ψ,h2,h3,h4⟩,hz=>hz tm ds h n ψ (by cases e <;> first | exact .inl rfl | exact h1.elim) h2 h3 hc fun _ _ h=>h
 | .ok (.exit _) ..,hc,_,_=>hc.elim
 | .ok .ret tm ds h n,hc,⟨h1,ψ,h2,h3,h4⟩,hz=>hz tm ds h n ψ (by cases e <;> first | exact .inr rfl | exact h1.elim) h2 h3 hc fun _ _ h=>h
 | .ret ..,hc,_,_=>hc.elim
 | .err _,hc,_,_=>hc.elim
 | .fork r s,hc,ho,hz=>by
  rcases ho with ho | ho
  · exact wO d rs hc.1 ho fun tm ds h n ψ a b c d e=>hz tm ds h n ψ a b c d fun u w' q=>.inl (e u w' q)
  · exact wO d rs hc.2 ho fun tm ds h n ψ a b c d e=>hz tm ds h n ψ a b c d fun u w' q=>.inr (e u w' q)
end
end
end Go.Ev
namespace Go.Ev
variable [Sym]
noncomputable section
variable {P:Program}
variable [SymFact P]
structure NatsOk (P:Program) (nat:Nats):Prop where
 above:∀ f g,nat f=some g→∀ d args h n,zi n (g ‹Sym› d args h n)
 calls:∀ f g,nat f=some g→∀ args h n ψ w args',zX ψ args args'.toList→kK P ψ→Rel ψ (zC.fam h) w→xe ψ n→zb (g ‹Sym› false args h n) →
  yf P f args' w (zl ψ (zC.fam h) n w (g ‹Sym› false args h n))
 defers:∀ f g,nat f=some g→∀ args h n ψ w args',zX ψ args args'.toList→kK P ψ→Rel ψ (zC.fam h) w→xe ψ n→zb (g ‹Sym› true args h n) →
  zFs P f args' w fun w'=>∃ v,zl ψ (zC.fam h) n w (g ‹Sym› true args h n) v w'
omit [Sym] [SymFact P] in
theorem run_callFunc_enter {f:FuncId} {fn:Func} {c:Code} (hf:P.funcs[f]? = some fn) (hn:(fn.name == "runtime.NumGoroutine")=false) (hb:fn.body=some c) (args:Array Value) (w:World) :
 (callFunc f args).run P w=.ok (.enter f args) w:=by
 have h1:fn.name ≠ "runtime.NumGoroutine":=by simpa using hn
 simp [callFunc,hf,h1,hb]
section
variable {call:yh} (hcall:ym P call) (hdraw:∀ F N,kT P F N call)
include hcall
theorem zMl (e:Ext) (args:List CV) (h:zC) (n:Key):zi n (zQW (zCh e args h n) h n):=by
 have:=zK8 (h:=h) (n:=n) e args
 generalize zCh e args h n=r at this
 cases r <;> first | exact Nat.le_refl _ | exact this | trivial
theorem zKm (d:Bool) (fn:CFn) (args:List CV) (h:zC) (n:Key):zi n (zA4 P d call fn args h n):=by
 cases fn with
 | mk body res=>exact kS hcall.above d res (yv hcall.above body _ _ h n)
 | mkD ops body res=>
  show zi n (match d with
   | true=>yt true call res (qJ (zp P call body) (yo P call ops [] (qY args 0 .nil) [] h n))
   | false=>.err 311)
  cases d with
  | true=>exact kS hcall.above true res (qU (fun tm ds h n=>yv hcall.above body tm ds h n) (j6 hcall.above ops [] _ _ h n))
  | false=>trivial
 | ext e=>
  show zi n (match d with
   | true=>.err 313
   | false=>zQW (zCh e args h n) h n)
  cases d with
  | true=>trivial
  | false=>exact zMl hcall e args h n
 | bad c=>trivial
include hdraw
theorem zCJ {F N:Nat} {args:List CV} {args':Array Value} {h:zC} {n:Key} {ψ:Psi} {w:World} (ha:zX ψ args args'.toList) (hg:kK P ψ) (hrel:Rel ψ (zC.fam h) w) (hfr:xe ψ n) :
 St P F N ψ (qY args 0 .nil) [] h n { tmps:=args'++Array.replicate (N - args'.size) undef,defers:=[] } w:=
 ⟨zPn ha,rfl,hrel,hg,hfr⟩
theorem zDV {f:FuncId} {args:List CV} {args':Array Value} {h:zC} {n:Key} {ψ:Psi} {w:World} (ha:zX ψ args args'.toList) (hg:kK P ψ) (hrel:Rel ψ (zC.fam h) w) (hfr:xe ψ n)
 (hc:zb (zA4 P false call (compFn P f) args h n)):yf P f args' w (zl ψ (zC.fam h) n w (zA4 P false call (compFn P f) args h n)):=by
 unfold compFn at hc ⊢
 rw [ye] at hc ⊢
 cases hf:P.funcs.toList[f]? with
 | none=>simp only [hf] at hc; exact hc.elim
 | some fn=>
  have hf':P.funcs[f]? = some fn:=by simpa using hf
  simp only [hf] at hc ⊢
  cases hb:fn.body with
  | none=>
   simp only [hb] at hc ⊢
   cases he:zCI P fn with
   | none=>simp only [he] at hc; exact hc.elim
   | some e=>
    simp only [he] at hc ⊢
    obtain ⟨en,h1,h2,h3,h4⟩:=zGc he
    have hout:=zM8 (P:=P) (h:=h) (n:=n) (w:=w) he h1 ha
    have hrun:=run_callFunc_extern (P:=P) hf' h2 (by rw [hb]; rfl) h3 h4 args' w
    have hc:zb (zQW (zCh e args h n) h n):=hc
    show yf P f args' w (zl ψ (zC.fam h) n w (zQW (zCh e args h n) h n))
    have hoa:=zK8 (h:=h) (n:=n) e args
    generalize zCh e args h n=r at hout hc hoa
    unfold yf
    cases r <;> first | exact hout.elim | exact hc.elim | skip
    case val v=>
     obtain ⟨x,g1,g2⟩:=hout
     rw [hrun,g1]
     exact ⟨ψ,zy.refl hrel,g2⟩
    case eff v h' n'=>
     obtain ⟨w',x,ψ',g1,g2,g3⟩:=hout hrel (fun k hk _=>hfr k hk) hc
     rw [hrun,g1]
     exact ⟨ψ',g2,g3⟩
  | some c=>
   simp only [hb] at hc ⊢
   split at hc
   · exact hc.elim
   · rename_i hn
     have hn:(fn.name == "runtime.NumGoroutine")=false:=by simpa using hn
     rw [if_neg (by rw [hn]; simp)]
     unfold zBF at hc ⊢
     cases hrs:xD (xc P (frameBits fn c) fn.ntmps) fn.results.toList with
     | none=>simp only [hrs] at hc; exact hc.elim
     | some rs=>
      simp only [hrs] at hc ⊢
      split at hc
      · rename_i hnr
        rw [if_pos hnr]
        unfold yf
        rw [run_callFunc_enter hf' hn hb]
        have hc:zb (yt false call rs (zp P call (zU P (frameBits fn c) fn.ntmps c) (qY args 0 .nil) [] h n)):=hc
        show Calls P f args' w fun e w''=>∃ v,e=.returned v∧zl ψ (zC.fam h) n w (yt false call rs (zp P call (zU P (frameBits fn c) fn.ntmps c) (qY args 0 .nil) [] h n)) v w''
        refine calls_of_wp_defers hf' hb (wp_mono (vl hcall (hdraw _ _) c hnr (zCJ hcall hdraw ha hg hrel hfr) (xW hcall.above false rs hc)) fun e a w' ho=>?_)
        refine wO false rs hc ho fun tm ds h' n' ψ' q1 q2 q3 q4 q5=>?_
        have hl:=zGV hcall hrs q2 q4
        have:Leaves P fn a.tmps (fun e w''=>∃ v,e=.returned v∧zl ψ (zC.fam h) n w (yt false call rs (zp P call (zU P (frameBits fn c) fn.ntmps c) (qY args 0 .nil) [] h n)) v w'') a.defers .returning w':=
         jn (fun e w'' ⟨v,he,hr⟩=>⟨v,he,q5 _ _ (zl.trans q3 hr)⟩) _ _ _ hl
        rcases q1 with rfl | rfl
        · exact this
        · exact this
      · rename_i hnr
        split at hc
        · split at hc <;> exact hc.elim
        · exact hc.elim
theorem zB7 {f:FuncId} {args:List CV} {args':Array Value} {h:zC} {n:Key} {ψ:Psi} {w:World} (ha:zX ψ args args'.toList) (hg:kK P ψ) (hrel:Rel ψ (zC.fam h) w) (hfr:xe ψ n)
 (hc:zb (zA4 P true call (compFn P f) args h n)):zFs P f args' w fun w'=>∃ v,zl ψ (zC.fam h) n w (zA4 P true call (compFn P f) args h n) v w':=by
 unfold compFn at hc ⊢
 rw [ye] at hc ⊢
 cases hf:P.funcs.toList[f]? with
 | none=>simp only [hf] at hc; exact hc.elim
 | some fn=>
  have hf':P.funcs[f]? = some fn:=by simpa using hf
  simp only [hf] at hc ⊢
  cases hb:fn.body with
  | none=>
   simp only [hb] at hc
   cases he:zCI P fn with
   | none=>simp only [he] at hc; exact hc.elim
   | some e=>simp only [he] at hc; exact hc.elim
  | some c=>
   simp only [hb] at hc ⊢
   split at hc
   · exact hc.elim
   · rename_i hn
     have hn:(fn.name == "runtime.NumGoroutine")=false:=by simpa using hn
     rw [if_neg (by rw [hn]; simp)]
     unfold zBF at hc ⊢
     cases hrs:xD (xc P (frameBits fn c) fn.ntmps) fn.results.toList with
     | none=>simp only [hrs] at hc; exact hc.elim
     | some rs=>
      simp only [hrs] at hc ⊢
      refine ⟨run_callFunc_enter hf' hn hb _ _,?_⟩
      split at hc
      · rename_i hnr
        rw [if_pos hnr]
        have hc:zb (yt true call rs (zp P call (zU P (frameBits fn c) fn.ntmps c) (qY args 0 .nil) [] h n)):=hc
        show CallsD P f args' .returning w fun e u w'=>u=.returning∧∃ v,e=.returned v∧∃ v,zl ψ (zC.fam h) n w (yt true call rs (zp P call (zU P (frameBits fn c) fn.ntmps c) (qY args 0 .nil) [] h n)) v w'
        refine callsD_of_wp hf' hb (wp_mono (vl hcall (hdraw _ _) c hnr (zCJ hcall hdraw ha hg hrel hfr) (xW hcall.above true rs hc)) fun e a w' ho=>?_)
        refine wO true rs hc ho fun tm ds h' n' ψ' q1 q2 q3 q4 q5=>?_
        obtain ⟨g1,v,g2,g3⟩:=zGh (call:=call) hrs q2 q4
        rcases q1 with rfl | rfl
        · exact ⟨g1,v,g2,v,rfl,v,q5 _ _ (zl.trans q3 g3)⟩
        · exact ⟨g1,v,g2,v,rfl,v,q5 _ _ (zl.trans q3 g3)⟩
      · rename_i hnr
        rw [if_neg hnr]
        split at hc
        · rename_i c0 id ops r
          split at hc
          · rename_i hnr'
            rw [if_pos hnr']
            have hc:zb (yt true call rs (qJ (zp P call (zU P (frameBits fn (.seq (.region id ops false) r)) fn.ntmps r))
             (yo P call (jI P (frameBits fn (.seq (.region id ops false) r)) fn.ntmps ops.toList [] ops.toList) [] (qY args 0 .nil) [] h n))):=hc
            generalize hF:frameBits fn (.seq (.region id ops false) r)=F at hc hrs
            show CallsD P f args' .returning w fun e u w'=>u=.returning∧∃ v,e=.returned v∧∃ v,zl ψ (zC.fam h) n w (yt true call rs (qJ (zp P call (zU P F fn.ntmps r))
             (yo P call (jI P F fn.ntmps ops.toList [] ops.toList) [] (qY args 0 .nil) [] h n))) v w'
            have hc1:=xW hcall.above true rs hc
            have hab:=fun tm ds h n=>yv (P:=P) hcall.above (zU P F fn.ntmps r) tm ds h n
            have hc2:=xq hab hc1
            refine callsD_of_wpS hf' hb fun c₀ cs hm=>wpS_seq (wpS_region ?_)
            have hrec:recoverD (c₀::cs)=none:=by unfold recoverD; simp [hm]
            have:=zIS (F:=F) (N:=fn.ntmps) hcall (zGl (P:=P) ops (Exit.thenS (r.wpS P (bodyPostS P fn c₀ cs fun e u w'=>u=.returning∧∃ v,e=.returned v∧∃ v,zl ψ (zC.fam h) n w (yt true call rs (qJ (zp P call (zU P F fn.ntmps r))
             (yo P call (jI P F fn.ntmps ops.toList [] ops.toList) [] (qY args 0 .nil) [] h n))) v w'))
             (bodyPostS P fn c₀ cs fun e u w'=>u=.returning∧∃ v,e=.returned v∧∃ v,zl ψ (zC.fam h) n w (yt true call rs (qJ (zp P call (zU P F fn.ntmps r))
             (yo P call (jI P F fn.ntmps ops.toList [] ops.toList) [] (qY args 0 .nil) [] h n))) v w')) hrec)
             ops.toList 0 rfl (fun _ _ _=>rfl) (zCJ hcall hdraw (F:=F) (N:=fn.ntmps) ha hg hrel hfr) (dl:=[]) (es:=[]) (fun t i hi=>by cases hi) hc2
             (fun tm' ds' h' n' ψ' a' w' g1 g2 g3 g4=>by
               have k1:=g4 (fun r0=>zb (yt true call rs (qJ (zp P call (zU P F fn.ntmps r)) r0))→zb (yt true call rs (zp P call (zU P F fn.ntmps r) tm' ds' h' n')))
                (fun x y hx hc=>hx hc.1) (fun x y hy hc=>hy hc.2) (fun h=>h) hc
               have k2:=g4 (fun r0=>∀ u w'',zl ψ (zC.fam h) n w (yt true call rs (zp P call (zU P F fn.ntmps r) tm' ds' h' n')) u w'' →
                zl ψ (zC.fam h) n w (yt true call rs (qJ (zp P call (zU P F fn.ntmps r)) r0)) u w'')
                (fun x y hx u w'' q=>.inl (hx u w'' q)) (fun x y hy u w'' q=>.inr (hy u w'' q)) (fun u w'' q=>q)
               show r.wpS P _ a' (c₀::cs) w'
               refine wpS_of_wp (wp_mono (vl hcall (hdraw F fn.ntmps) r hnr' g1 (xW hcall.above true rs k1)) fun e a w'' ho=>?_)
               refine wO true rs k1 ho fun tm ds h'' n'' ψ'' q1 q2 q3 q4 q5=>?_
               obtain ⟨g1',v,g2',g3'⟩:=zGh (call:=call) hrs q2 q4
               have hfin:=k2 _ _ (zl.trans g2 (q5 _ _ (zl.trans q3 g3')))
               have hm':({ c₀ with mode:=.returning }:Frame)=c₀:=by rw [← hm]
               rcases q1 with rfl | rfl
               · exact ⟨g1',.returning,by rw [hm'],v,g2',rfl,v,rfl,v,hfin⟩
               · exact ⟨g1',.returning,by rw [hm'],v,g2',rfl,v,rfl,v,hfin⟩)
            rw [Array.length_toList] at this
            rw [List.range_eq_range']
            exact this
          · exact hc.elim
        · exact hc.elim
end
def CodeOk (P:Program) (code:FuncId→CFn):Prop:=∀ f,code f=compFn P f∨code f=zMO (compFn P f)∨∃ c,code f=.bad c
theorem zA5 (hdraw:∀ (call:yh),ym P call→∀ F N,kT P F N call) {code:FuncId→CFn} (hcode:CodeOk P code) {nat:Nats} (hnat:NatsOk P nat):∀ (fuel:Nat),ym P (ev P code nat fuel)
 | 0=>⟨fun _ _ _ _ _=>trivial,fun _ _ _ _ _ _ _ _ _ _ _ hc=>hc.elim,fun _ _ _ _ _ _ _ _ _ _ _ hc=>hc.elim⟩
 | fuel+1=>by
  have ih:=zA5 hdraw hcode hnat fuel
  have hev:∀ d f args h n,ev P code nat (fuel+1) d f args h n=(match nat f with
   | none=>zA4 P d (ev P code nat fuel) (code f) args h n
   | some g=>g ‹Sym› d args h n):=by
   intro d f args h n
   show Option.rec (motive:=fun _=>R) (zA4 P d (ev P code nat fuel) (code f) args h n) (fun g=>g ‹Sym› d args h n) (nat f)=_
   cases nat f <;> rfl
  refine ⟨fun d f args h n=>?_,fun f args h n ψ w args' h1 h2 h3 h4 hc=>?_,fun f args h n ψ w args' h1 h2 h3 h4 hc=>?_⟩
  · rw [hev]
    split
    · exact zKm ih d _ args h n
    · rename_i g hg
      exact hnat.above f g hg d args h n
  · rw [hev] at hc ⊢
    split at hc
    · rename_i hn
      rcases hcode f with e | e | ⟨c,e⟩
      · rw [e] at hc ⊢
        exact zDV ih (hdraw _ ih) h1 h2 h3 h4 hc
      · rw [e,zHZ] at hc ⊢
        exact zDV ih (hdraw _ ih) h1 h2 h3 h4 hc
      · rw [e] at hc; exact hc.elim
    · rename_i g hg
      exact hnat.calls f g hg args h n ψ w args' h1 h2 h3 h4 hc
  · rw [hev] at hc ⊢
    split at hc
    · rename_i hn
      rcases hcode f with e | e | ⟨c,e⟩
      · rw [e] at hc ⊢
        exact zB7 ih (hdraw _ ih) h1 h2 h3 h4 hc
      · rw [e,zHZ] at hc ⊢
        exact zB7 ih (hdraw _ ih) h1 h2 h3 h4 hc
      · rw [e] at hc; exact hc.elim
    · rename_i g hg
      exact hnat.defers f g hg args h n ψ w args' h1 h2 h3 h4 hc
end
end Go.Ev
