/- A verified evaluator for the model's code: EvU, EvV, EvW, EvX, EvY, EvZ, EvZa, EvZb, EvZc, EvZd. -/
import Derived.Test.YtkolecenifiaaaaGreatDoorEv4
import Derived.Laws.Externs
import Derived.KernelRfl
import Derived.Lib.Bytealg
import Derived.Recover
import Derived.Orders
import Derived.Scope
set_option linter.unusedSectionVars false
set_option linter.unusedVariables false
set_option linter.unusedSimpArgs false
namespace Go.Ev
variable [Sym]
open Go.MapKept
noncomputable section
variable {P:Program} {ψ:Psi} {es:List CV} {tm:Tm} {h:zC} {n:Key} {ρ:Operand→Value} {E:Env} {ty:TypeId} {w:World}
variable [SymFact P]
theorem zTJ {c:Call} {l:List Operand} (h:c.args.toList=l):c.args.map ρ=(l.map ρ).toArray:=by
 rw [zBz h]; simp
theorem zKw (c:Call) (b:Builtin) (hc:c.callee=.builtin b) (ha:yG P ψ es tm E ρ c.args.toList) :
 zD P ψ h n ρ (.call c) ty w (yU P (qE P E b c.argTypes.toList c.args.toList) es tm h n):=by
 have hrun:=fun w=>zCX (P:=P) (ρ:=ρ) (ty:=ty) hc w
 generalize hts:c.argTypes.toList=ts
 generalize has:c.args.toList=as at ha
 have hts':=zBz hts
 have has':=zTJ (ρ:=ρ) has
 rw [has',hts'] at hrun
 cases b <;> try exact zA _
 case append=>
  match ts,as with
  | t::u::r,[s,x]=>exact zL8 (fun w=>by rw [hrun w]; rfl) ha
  | _::_::_,[]=>exact zA _
  | _::_::_,[_]=>exact zA _
  | _::_::_,_::_::_::_=>exact zA _
  | [],_=>exact zA _
  | [_],_=>exact zA _
 case copy=>
  match ts,as with
  | t::r,[s,x]=>exact zQ5 (fun w=>by rw [hrun w]; rfl) ha
  | _::_,[]=>exact zA _
  | _::_,[_]=>exact zA _
  | _::_,_::_::_::_=>exact zA _
  | [],_=>exact zA _
 case len=>
  match ts,as with
  | t::r,[x]=>exact zTE (fun w=>by rw [hrun w]; rfl) ha
  | _::_,[]=>exact zA _
  | _::_,_::_::_=>exact zA _
  | [],_=>exact zA _
 case cap=>
  match ts,as with
  | t::r,[x]=>exact zTa (fun w=>by rw [hrun w]; rfl) ha
  | _::_,[]=>exact zA _
  | _::_,_::_::_=>exact zA _
  | [],_=>exact zA _
 case delete=>
  match ts,as with
  | t::r,[m,k]=>exact zMH (fun w=>by rw [hrun w]; rfl) ha
  | _::_,[]=>exact zA _
  | _::_,[_]=>exact zA _
  | _::_,_::_::_::_=>exact zA _
  | [],_=>exact zA _
 case clear=>
  match ts,as with
  | t::r,[x]=>exact zPh (fun w=>by rw [hrun w]; rfl) ha
  | _::_,[]=>exact zA _
  | _::_,_::_::_=>exact zA _
  | [],_=>exact zA _
 case min=>
  match as with
  | x::r=>exact zFq false (fun w=>by rw [hrun w]; rfl) ha
  | []=>exact zA _
 case max=>
  match as with
  | x::r=>exact zFq true (fun w=>by rw [hrun w]; rfl) ha
  | []=>exact zA _
 case recover=>
  match as with
  | []=>exact ⟨by unfold zDG; simp [hc],by rw [hrun w]; rfl⟩
  | _::_=>exact zA _
def zPB (ψ:Psi):uM→Place→Prop
 | .val c,x=>∃ v,x=.val v∧zH ψ c v
 | .var b off,x=>∃ p,ψ b=some p∧x=.var ⟨p.blk,p.off+off,none⟩
theorem zLg {b:Key} {off:Nat} {p:Pl} (hp:ψ b=some p):zPB ψ (.var b off) (.var ⟨p.blk,p.off+off,none⟩):=⟨p,hp,rfl⟩
theorem zEY {c:CV} {v:Value} (hv:zH ψ c v):zPB ψ (.val c) (.val v):=⟨v,rfl,hv⟩
theorem zIf (hrel:qk ψ (zC.fam h) w) {t:TypeId} {b:Key} {off:Nat} {c:CV} {p:Pl} (hp:ψ b=some p) (hc:zON P h t b off=some c) :
 ∃ v,(loadVar t ⟨p.blk,p.off+off,none⟩).run P w=.ok v w∧zH ψ c v:=by
 unfold zON at hc
 split at hc
 · rename_i a s vs ha hs hv
   have hcells:zAq ψ w p vs:=by
    unfold zAZ at hv
    split at hv
    · rename_i q hq; injection hv with hv; subst hv; exact yc.toRo (hrel b _ p hq hp)
    · rename_i q hq; injection hv with hv; subst hv; exact hrel b _ p hq hp
    · cases hv
   unfold zOM at hc
   cases a with
   | true=>
    simp only at hc
    cases hl:zAa vs off s with
    | none=>rw [hl] at hc; cases hc
    | some l=>
     rw [hl] at hc
     injection hc with hc; subst hc
     obtain ⟨xs,hrun,hxs⟩:=xk (P:=P) hcells hl
     exact ⟨.agg xs.toArray,by simp [loadVar,jC ha,ye hs,hrun],yn.2 ⟨_,rfl,by simpa using hxs⟩⟩
   | false=>
    simp only [qV] at hc
    obtain ⟨y,hrun,hy⟩:=zAJ (P:=P) hcells hc
    exact ⟨y,by simp only [loadVar,Sem.run_bind,jC ha,Result.andThen_ok,Bool.false_eq_true,if_false,hrun],hy⟩
 · cases hc
theorem zCf (hrel:qk ψ (zC.fam h) w) {t:TypeId} {x:uM} {y:Place} {c:CV} (hx:zPB ψ x y) (hc:x.get P h t=some c):∃ v,(y.get t).run P w=.ok v w∧zH ψ c v:=by
 cases x with
 | val d=>
  obtain ⟨v,rfl,hv⟩:=hx
  injection hc with hc; subst hc
  exact ⟨v,rfl,hv⟩
 | var b off=>
  obtain ⟨p,hp,rfl⟩:=hx
  exact zIf hrel hp hc
theorem zLV {s:FieldStep} {f:Field} (hs:zJi P s=some f):∃ fs,P.underlying s.struct=some (.struct fs)∧fs[s.index]? = some f∧∃ k,x6 P f.type=some (k+1):=by
 unfold zJi und at hs
 split at hs
 · rename_i fs ht
   rw [yg] at hs
   split at hs
   · rename_i g hg
     split at hs
     · rename_i k hk
       injection hs with hs; subst hs
       exact ⟨fs,ht,by simpa using hg,k,hk⟩
     · cases hs
   · cases hs
 · cases hs
theorem we (hrel:qk ψ (zC.fam h) w):∀ (l:List FieldStep) {t xt:TypeId} {x x':uM} {y:Place},zPB ψ x y→vG P h l t x=some (xt,x') →
 ∃ y',(follow l t y).run P w=.ok (xt,y') w∧zPB ψ x' y'
 | [],t,xt,x,x',y,hx,hf=>by
  injection hf with hf; injection hf with h1 h2; subst h1 h2
  exact ⟨y,rfl,hx⟩
 | s::rest,t,xt,x,x',y,hx,hf=>by
  unfold vG at hf
  cases hs:zJi P s with
  | none=>rw [hs] at hf; cases hf
  | some f=>
   simp only [hs] at hf
   obtain ⟨fs,h1,h2,k,h3⟩:=zLV hs
   split at hf
   · rename_i hd
     split at hf
     · rename_i b off hg
       obtain ⟨v,hv,hr⟩:=zCf hrel hx hg
       rw [zu] at hr
       obtain ⟨p,hp,rfl⟩:=hr
       obtain ⟨y',g1,g2⟩:=we hrel rest (zLg hp) hf
       refine ⟨y',?_,g2⟩
       rw [← g1]
       simp [follow,run_underlying h1,h2,hd,hv,asAddr,fieldPlace,ye h3,xN,Nat.add_assoc]
     · cases hf
   · rename_i hd
     split at hf
     · rename_i b off
       obtain ⟨p,hp,rfl⟩:=hx
       obtain ⟨y',g1,g2⟩:=we hrel rest (zLg hp) hf
       refine ⟨y',?_,g2⟩
       rw [← g1]
       simp [follow,run_underlying h1,h2,hd,fieldPlace,ye h3,xN,Nat.add_assoc]
     · rename_i cs
       obtain ⟨v,rfl,hv⟩:=hx
       rw [yn] at hv
       obtain ⟨vs,rfl,hv⟩:=hv
       split at hf
       · rename_i a s' ha hs'
         split at hf
         · rename_i c hc
           have hp:=zE3 (P:=P) (off:=f.offset) ha hs' hv w
           have:∃ u,(part f.type vs f.offset).run P w=.ok u w∧zH ψ c u:=by
            unfold zOM at hc
            cases a with
            | true=>
             simp only at hc
             cases hl:zAa cs f.offset s' with
             | none=>rw [hl] at hc; cases hc
             | some l=>rw [hl] at hc; injection hc with hc; subst hc; exact hp.2 rfl l hl
            | false=>exact hp.1 rfl c hc
           obtain ⟨u,hu,hur⟩:=this
           obtain ⟨y',g1,g2⟩:=we hrel rest (zEY hur) hf
           refine ⟨y',?_,g2⟩
           rw [← g1]
           simp [follow,run_underlying h1,h2,hd,hu]
         · cases hf
       · cases hf
     · cases hf
theorem zB2 (hrel:qk ψ (zC.fam h) w) {xt:TypeId} {x:uM} {y:Place} {pr:Bool} {c:CV} (wr:Option String) (hx:zPB ψ x y) (hc:zAW P h xt x pr=some c) :
 ∃ v,(receiverAt xt y pr wr).run P w=.ok v w∧zH ψ c v:=by
 unfold zAW und at hc
 split at hc
 · rename_i e ht
   obtain ⟨v,hv,hr⟩:=zCf hrel hx hc
   exact ⟨v,by simp [receiverAt,run_underlying ht,hv],hr⟩
 · rename_i e ht
   split at hc
   · rename_i b off hg
     obtain ⟨v,hv,hr⟩:=zCf hrel hx hg
     rw [zu] at hr
     obtain ⟨p,hp,rfl⟩:=hr
     obtain ⟨u,hu,hur⟩:=zIf hrel hp hc
     refine ⟨u,?_,hur⟩
     cases wr with
     | none=>simp [receiverAt,run_underlying ht,hv,asAddr,hu]
     | some nm=>
      have hck:(Builtin.ssaWrapNilChk_ #[xt] xt #[.pointer (some ⟨p.blk,p.off+off,none⟩),strVal "",strVal nm]).run P w=.ok (.pointer (some ⟨p.blk,p.off+off,none⟩)) w:=rfl
      simp only [receiverAt,Sem.run_bind,run_underlying ht,Result.andThen_ok,hv,hck,asAddr,Sem.run_pure,hu]
   · cases hc
 · rename_i D hD b off ht
   injection hc with hc; subst hc
   obtain ⟨p,hp,rfl⟩:=hx
   refine ⟨_,?_,zu.2 ⟨p,hp,rfl⟩⟩
   unfold receiverAt
   simp only [Sem.run_bind,run_underlying ht,Result.andThen_ok]
   cases D <;> first | rfl | exact absurd rfl (hD _)
 · cases hc
 · rename_i D hD ht
   obtain ⟨v,hv,hr⟩:=zCf hrel hx hc
   refine ⟨v,?_,hr⟩
   unfold receiverAt
   simp only [Sem.run_bind,run_underlying ht,Result.andThen_ok]
   cases D <;> first | exact hv | exact absurd rfl (hD _) | (exact absurd (Eq.refl _) (hD _))
 · cases hc
end
end Go.Ev
namespace Go.Ev
variable [Sym]
open Go.MapKept
noncomputable section
variable {P:Program} {ψ:Psi} {es:List CV} {tm:Tm} {h:zC} {n:Key} {ρ:Operand→Value} {E:Env} {ty:TypeId} {w:World}
variable [SymFact P]
theorem zJY (name:String):∀ (l:List Method),uR name l=l.find? (fun m=>m.name == name)
 | []=>rfl
 | m::r=>by
  unfold uR
  rw [List.find?_cons,zJY name r]
  by_cases e:(m.name == name)=true
  · rw [if_pos e,e]
  · rw [if_neg e]
    have:(m.name == name)=false:=by simpa using e
    rw [this]
theorem zFc (hrel:qk ψ (zC.fam h) w) (name:String):∀ (d fuel:Nat) {t:TypeId} {v:CV} {x:Value} {f:FuncId} {r:CV},d≤fuel→zH ψ v x→zEy P h d t v name=some (f,r) →
 ∃ y,(method fuel t x name).run P w=.ok (f,y) w∧zH ψ r y
 | 0,_,_,_,_,_,_,_,_,hm=>by cases hm
 | d+1,0,_,_,_,_,_,hle,_,_=>by omega
 | d+1,fuel+1,t,v,x,f,r,hle,hv,hm=>by
  unfold zEy at hm
  cases hrow:zIJ P t name with
  | none=>rw [hrow] at hm; cases hm
  | some m=>
   simp only [hrow] at hm
   unfold zIJ at hrow
   cases hi:P.info? t with
   | none=>rw [hi] at hrow; cases hrow
   | some ti=>
    rw [hi] at hrow
    simp only [Option.bind_some,zJY] at hrow
    have hrow:ti.methods.find? (fun m=>m.name == name)=some m:=by rw [← Array.find?_toList]; exact hrow
    cases hf:vG P h m.path.toList t (.val v) with
    | none=>rw [hf] at hm; cases hm
    | some q=>
     obtain ⟨xt,x'⟩:=q
     simp only [hf] at hm
     obtain ⟨y',g1,g2⟩:=we hrel _ (zEY hv) hf
     split at hm
     · rename_i hfn
       split at hm
       · rename_i t' v' hg
         obtain ⟨u,hu,hur⟩:=zCf hrel g2 hg
         rw [yf] at hur
         obtain ⟨u',rfl,hur⟩:=hur
         obtain ⟨y,k1,k2⟩:=zFc hrel name d fuel (by omega) hur hm
         refine ⟨y,?_,k2⟩
         rw [← k1]
         simp [method,typeInfo,hi,hrow,g1,hfn,hu]
       · cases hm
     · rename_i f' pr hfn
       split at hm
       · rename_i r' hrc
         injection hm with hm; injection hm with e1 e2; subst e1 e2
         obtain ⟨y,k1,k2⟩:=zB2 hrel (if m.path.isEmpty then some ((name.splitOn ".").getLastD name) else none) g2 hrc
         refine ⟨y,?_,k2⟩
         unfold method
         simp only [Sem.run_bind,jL hi,Result.andThen_ok,hrow,g1,hfn,k1,Sem.run_pure]
       · cases hm
section
variable {o:Op}
def zCv (P:Program) (ψ:Psi) (h:zC) (n:Key) (w:World) (run:Result Next):OR→Prop
 | .call f args=>qk ψ (zC.fam h) w→∃ args',run=(callFunc f args').run P w∧zS ψ args args'.toList
 | .err _=>True
 | _=>False
theorem zD7 {r:OR} {run:Result Next} (hrun:(execOp ρ (xw o ty)).run P w=run) (hc:zCv P ψ h n w run r):zD P ψ h n ρ o ty w r:=by
 cases r <;> first | exact hc.elim | exact trivial | skip
 case call f args=>
  intro hrel
  obtain ⟨args',h1,h2⟩:=hc hrel
  exact ⟨args',by rw [← h1]; exact hrun,h2⟩
theorem zAM {recv:CV} {x:Value} {args:List CV} {as:Array Value} (name:String) (hx:zH ψ recv x) (has:zS ψ args as.toList) :
 zCv P ψ h n w ((callMethod x name as).run P w) (zHv P h recv name args):=by
 refine xo (C:=zCv P ψ h n w ((callMethod x name as).run P w)) _ _ _ _ trivial (fun _=>trivial) fun t v hv=>?_
 rw [hv,yf] at hx
 obtain ⟨y,rfl,hy⟩:=hx
 split
 · rename_i f r hm
   intro hrel
   obtain ⟨u,h1,h2⟩:=zFc (P:=P) hrel name 8 (P.types.size+Made.depth) (by unfold Made.depth; omega) hy hm
   refine ⟨#[u]++as,?_,?_⟩
   · simp [callMethod,h1]
   · have:(#[u]++as).toList=u::as.toList:=by simp
     rw [this]
     exact zW.2 ⟨h2,has⟩
 · exact trivial
theorem zPo {f:CV} {fv:Value} {args:List CV} {as:Array Value} (hf:zH ψ f fv) (has:zS ψ args as.toList) :
 zCv P ψ h n w ((do let d ← Deferred.ofValue fv as; invoke d.target d.args:Sem Next).run P w) (zRq P h f args):=by
 refine w4 (C:=zCv P ψ h n w _) _ _ _ trivial fun fn first captured hv=>?_
 rw [hv,xH] at hf
 obtain ⟨a',c',rfl,h1,h2⟩:=hf
 have hfa:zS ψ (zC9 first args) (a'++as).toList:=by rw [vP,Array.toList_append]; exact h1.append has
 split
 · rename_i g
   intro _
   refine ⟨a'++as++c',by simp [Deferred.ofValue,invoke],?_⟩
   rw [vP,vP,Array.append_assoc,Array.toList_append,Array.toList_append]
   exact h1.append (has.append h2)
 · rename_i name
   split
   · rename_i recv rest hl
     rw [hl] at hfa
     obtain ⟨r,rs,e,hr,hrs⟩:=zd.1 hfa
     have e0:(a'++as)[0]? = some r:=by rw [← Array.getElem?_toList,e]; rfl
     have e1:((a'++as).extract 1 (a'++as).size).toList=rs:=by
      rw [Array.toList_extract,e,List.extract_eq_take_drop]
      have:(a'++as).size=rs.length+1:=by rw [← Array.length_toList,e]; rfl
      rw [this]; simp
     have:=zAM (P:=P) (h:=h) (n:=n) (w:=w) name hr (as:=(a'++as).extract 1 (a'++as).size) (by rw [e1]; exact hrs)
     have hrun:(do let d ← Deferred.ofValue (.func (.method name) a' c') as; invoke d.target d.args:Sem Next).run P w=(callMethod r name ((a'++as).extract 1 (a'++as).size)).run P w:=by
      simp only [Deferred.ofValue,Sem.run_bind,Sem.run_pure,Result.andThen_ok,invoke,e0]
     rw [hrun]; exact this
   · exact trivial
 · rename_i t name
   split
   · rename_i recv rest hl
     rw [hl] at hfa
     obtain ⟨r,rs,e,hr,hrs⟩:=zd.1 hfa
     have e0:(a'++as)[0]? = some r:=by rw [← Array.getElem?_toList,e]; rfl
     have e1:((a'++as).extract 1 (a'++as).size).toList=rs:=by
      rw [Array.toList_extract,e,List.extract_eq_take_drop]
      have:(a'++as).size=rs.length+1:=by rw [← Array.length_toList,e]; rfl
      rw [this]; simp
     unfold und
     split
     · rename_i ms ht
       have:=zAM (P:=P) (h:=h) (n:=n) (w:=w) name hr (as:=(a'++as).extract 1 (a'++as).size) (by rw [e1]; exact hrs)
       have hrun:(do let d ← Deferred.ofValue (.func (.methodOf t name) a' c') as; invoke d.target d.args:Sem Next).run P w=(callMethod r name ((a'++as).extract 1 (a'++as).size)).run P w:=by
        simp only [Deferred.ofValue,Sem.run_bind,Sem.run_pure,Result.andThen_ok,invoke,e0,run_underlying ht]
       rw [hrun]; exact this
     · rename_i D hD ht
       have:=zAM (P:=P) (h:=h) (n:=n) (w:=w) name (recv:=.iface t recv) (x:=.iface t r) (yf.2 ⟨r,rfl,hr⟩) (as:=(a'++as).extract 1 (a'++as).size) (by rw [e1]; exact hrs)
       have hrun:(do let d ← Deferred.ofValue (.func (.methodOf t name) a' c') as; invoke d.target d.args:Sem Next).run P w=(callMethod (.iface t r) name ((a'++as).extract 1 (a'++as).size)).run P w:=by
        simp only [Deferred.ofValue,Sem.run_bind,Sem.run_pure,Result.andThen_ok,invoke,e0,run_underlying ht]
       rw [hrun]; exact this
     · exact trivial
   · exact trivial
 · rename_i t path g pr
   split
   · rename_i recv rest hl
     rw [hl] at hfa
     obtain ⟨r,rs,e,hr,hrs⟩:=zd.1 hfa
     have e0:(a'++as)[0]? = some r:=by rw [← Array.getElem?_toList,e]; rfl
     have e1:((a'++as).extract 1 (a'++as).size).toList=rs:=by
      rw [Array.toList_extract,e,List.extract_eq_take_drop]
      have:(a'++as).size=rs.length+1:=by rw [← Array.length_toList,e]; rfl
      rw [this]; simp
     split
     · rename_i xt x hfo
       split
       · rename_i rc hrc
         intro hrel
         obtain ⟨y',g1,g2⟩:=we hrel _ (zEY hr) hfo
         obtain ⟨u,k1,k2⟩:=zB2 hrel none g2 hrc
         refine ⟨#[u]++(a'++as).extract 1 (a'++as).size,?_,?_⟩
         · simp only [Deferred.ofValue,Sem.run_bind,Sem.run_pure,Result.andThen_ok,invoke,e0,receiverVia,g1,k1]
         · have:(#[u]++(a'++as).extract 1 (a'++as).size).toList=u::rs:=by rw [Array.toList_append,e1]; rfl
           rw [this]
           exact zW.2 ⟨k2,hrs⟩
       · exact trivial
     · exact trivial
   · exact trivial
 · exact trivial
structure zOw (ρ:Operand→Value):Prop where
 const:∀ v,ρ (.const v)=v
 func:∀ f,ρ (.func f)=.func (.func f) #[] #[]
theorem zPC (c:Call) (ha:yG P ψ es tm E ρ c.operands.toList):zD P ψ h n ρ (.defer c) ty w (yU P (zh P E (.defer c)) es tm h n):=by
 rw [zh]
 split
 · rename_i f hcal
   split
   · rename_i f' args hf hargs
     refine w4 (C:=zD P ψ h n ρ (.defer c) ty w) _ _ _ (zA _) fun fn first captured hv=>?_
     have hfr:=ha f (by simp [Call.operands,hcal]) f' hf
     have has:=ky _ (ha.sub fun y hy=>by simp [Call.operands]; exact .inr (by simpa using hy)) hargs
     rw [hv,xH] at hfr
     obtain ⟨a',c',hfr,h1,h2⟩:=hfr
     split
     · rename_i g
       refine ⟨{ target:=.fn (.func g) c',args:=a'++c.args.map ρ },.func g,c',a'++c.args.map ρ++c',?_,rfl,fun w=>rfl,?_⟩
       · simp [execOp,resolve,hcal,hfr,Deferred.ofValue]
       · rw [vP,vP,Array.append_assoc,Array.toList_append,Array.toList_append,Array.toList_map]
         exact h1.append (has.append h2)
     · exact zA _
   · exact zA _
 · exact zA _
end
end
end Go.Ev
namespace Go.Ev
variable [Sym]
open Go.MapKept
noncomputable section
variable {P:Program} {ψ:Psi} {es:List CV} {tm:Tm} {h:zC} {n:Key} {ρ:Operand→Value} {E:Env} {ty:TypeId} {w:World}
variable [SymFact P]
theorem zEv {fn:Func} {nm:String} {e:Array Value→Sem Value} (ho:fn.origin = "") (hn:fn.name=nm)
 (h1:Extern.allNextRows.lookup nm=none) (h2:Extern.allGenericRows.lookup nm=none) (h3:Extern.allTypedRows.lookup nm=none) (h4:Extern.allRows.lookup nm=some e)
 (h5:Extern.allNextRows.lookup "" = none):Extern.findNext fn=none∧Extern.find fn=some e:=by
 constructor
 · unfold Extern.findNext
   simp only [hn,ho,h1,h5]; rfl
 · unfold Extern.find
   simp only [hn,h2,h3,h4]; rfl
theorem zB1:Extern.allNextRows.lookup "" = none:=by kernel_rfl
def zOJ (fn:Func):Ext→Option (Array Value→Sem Value)
 | .count=>some Extern.BytealgCount.count
 | .indexByte=>some Extern.BytealgIndexByte.indexByte
 | .cmp=>some Extern.BytealgCompare.compare
 | .mapsClone=>some Extern.MapsClone.clone
 | .overlaps=>some (Extern.SlicesOverlaps.overlaps fn.params fn.resultTypes)
 | _=>none
theorem zGu {fn:Func} {e:Ext} (he:zCS P fn=some e):∃ en,zOJ fn e=some en∧(fn.name == "runtime.NumGoroutine")=false∧Extern.findNext fn=none∧Extern.find fn=some en:=by
 unfold zCS at he
 split at he
 · rename_i ho
   have ho:fn.origin = "":=by simpa using ho
   split at he
   · rename_i hn
     have hn:fn.name=zHr "bytealg.CountString":=by simpa using hn
     injection he with he; subst he
     obtain ⟨h1,h2⟩:=zEv (e:=Extern.BytealgCount.count) ho hn (by kernel_rfl) (by kernel_rfl) (by kernel_rfl) (by kernel_rfl) zB1
     exact ⟨_,rfl,by rw [hn]; decide,h1,h2⟩
   · split at he
     · rename_i hn
       have hn:fn.name=zHr "bytealg.IndexByteString":=by simpa using hn
       injection he with he; subst he
       obtain ⟨h1,h2⟩:=zEv (e:=Extern.BytealgIndexByte.indexByte) ho hn (by kernel_rfl) (by kernel_rfl) (by kernel_rfl) (by kernel_rfl) zB1
       exact ⟨_,rfl,by rw [hn]; decide,h1,h2⟩
     · split at he
       · rename_i hn
         have hn:fn.name=zHr "bytealg.abigen_runtime_cmpstring":=by simpa using hn
         injection he with he; subst he
         obtain ⟨h1,h2⟩:=zEv (e:=Extern.BytealgCompare.compare) ho hn (by kernel_rfl) (by kernel_rfl) (by kernel_rfl) (by kernel_rfl) zB1
         exact ⟨_,rfl,by rw [hn]; decide,h1,h2⟩
       · split at he
         · rename_i hn
           have hn:fn.name = "maps.clone":=by simpa using hn
           injection he with he; subst he
           obtain ⟨h1,h2⟩:=zEv (e:=Extern.MapsClone.clone) ho hn (by kernel_rfl) (by kernel_rfl) (by kernel_rfl) (by kernel_rfl) zB1
           exact ⟨_,rfl,by rw [hn]; decide,h1,h2⟩
         · cases he
 · split at he
   · rename_i ho
     injection he with he; subst he
     rw [Bool.and_eq_true] at ho
     obtain ⟨ho,hok⟩:=ho
     have ho:fn.origin = "slices.overlaps":=by simpa using ho
     unfold zBl zLi at hok
     simp only [Bool.and_eq_true,Option.isNone_iff_eq_none] at hok
     obtain ⟨⟨gn,⟨⟨g1,g2⟩,g3⟩,g4⟩,_⟩:=hok
     refine ⟨_,rfl,?_,?_,?_⟩
     · simpa using gn
     · unfold Extern.findNext
       have h1:Extern.allNextRows.lookup "slices.overlaps" = none:=by kernel_rfl
       simp only [ho,g1,h1]; rfl
     · unfold Extern.find
       have h1:Extern.allGenericRows.lookup "slices.overlaps" = none:=by kernel_rfl
       have h2:Extern.allTypedRows.lookup "slices.overlaps" = some Extern.SlicesOverlaps.overlaps:=by kernel_rfl
       simp only [ho,g2,g3,g4,h1,h2]; rfl
   · cases he
theorem zBB {w:World} {params res:Array TypeId} {tS e:TypeId} (hp:params[0]? = some tS) (ht:P.underlying tS=some (.slice e)) {size:Nat} (hz:∀ w,(Go.sizeOf e).run P w=.ok size w)
 (a b:Addr) (la ca lb cb:Nat) (hne:a.block≠b.block) (tA tB:TypeId) (kA kB:Nat)
 (hsa:w.shape? a.block=some (tA,kA)) (hsb:w.shape? b.block=some (tB,kB)) (hkB:kB≠0)
 (hfa:w.frozen? a=false) (hfe:w.frozen? { block:=a.block,off:=kA }=false) :
 (Extern.SlicesOverlaps.overlaps params res #[.slice (some a) la ca,.slice (some b) lb cb]).run P w=.ok (.bool false) w:=by
 have hnb:(a.block != b.block)=true:=by simpa using hne
 have hnb':(a.block == b.block)=false:=by simpa using hne
 change Sem.run P (α:=Value) (do
  let some t:=params[0]? | stuck "slices.overlaps: no parameter types"
  let .slice elem ← underlying t | stuck "slices.overlaps: slice type expected"
  let size ← sizeOf elem
  match (some a:Option Addr),(some b:Option Addr) with
  | some a,some b=>
   if la=0∨lb=0∨size=0 then pure (Value.bool false)
   else if a.block != b.block&&(← frozen a)&&(← frozen b) then unsupported .addressObserved
   else do
    if a.block != b.block then do
     noView a; noView b
     if ← mayBeOne a b then return Value.bool ((← choose (.extern "sameAddr.stringBytes" 2)) == 1)
    pure (Value.bool (a.block == b.block&&a.off<b.off+lb*size&&b.off<a.off+la*size))
  | _,_=>pure (Value.bool false)) w=_
 by_cases h0:la=0∨lb=0∨size=0
 · simp [hp,run_underlying ht,hz,h0]
 · cases kB with
   | zero=>exact absurd rfl hkB
   | succ kB=>
    simp [hp,run_underlying ht,hz,h0,hnb,hnb',frozen,noView,viewAt,mayBeOne,stringish,shape,Sem.run,hsa,hsb,hfa,hfe]
def qd (P:Program) (ψ:Psi) (h:zC) (n:Key) (w:World) (en:Array Value→Sem Value) (args:Array Value):OR→Prop
 | .val v=>∃ x,(en args).run P w=.ok x w∧zH ψ v x
 | .eff v h' n'=>Rel ψ (zC.fam h) w→(∀ k,n.ix≤k.ix→k.ix<n'.ix→ψ k=none)→n'.room →
  ∃ w' x ψ',(en args).run P w=.ok x w'∧yH ψ (zC.fam h) n w ψ' (zC.fam h') n' w'∧zH ψ' v x
 | .err _=>True
 | _=>False
theorem zEe {c:CV} {b:Nat} {v:Value} (hb:vJ c=some b) (hv:zH ψ c v):v=.int .u8 (Int.ofNat b)∧b≤255:=by
 unfold vJ at hb
 split at hb
 · split at hb
   · rename_i hle
     injection hb with hb; subst hb
     exact ⟨zg.1 hv,zL hle⟩
   · cases hb
 · cases hb
theorem zQP (c:UInt8) (l:List UInt8):zJt c.toNat (l.map UInt8.toNat)=Lib.countByte l c:=by
 unfold Lib.countByte
 induction l with
 | nil=>rfl
 | cons x l ih=>
  show Bool.rec (motive:=fun _=>Nat) (zJt c.toNat (l.map UInt8.toNat)) (Nat.succ (zJt c.toNat (l.map UInt8.toNat))) (Nat.beq x.toNat c.toNat)=_
  rw [ih,List.count_cons]
  by_cases e:x=c
  · subst e; simp
  · rw [wb (fun h=>e (UInt8.toNat_inj.1 h))]; simp [e]
theorem zLo (c:UInt8):∀ (l:List UInt8) (i:Nat),(match zDm c.toNat (l.map UInt8.toNat) i with
 | some j=>(j:Int)
 | none=>-1)=(if Lib.indexByte l c = -1 then -1 else (i:Int)+Lib.indexByte l c) ∧ -1≤Lib.indexByte l c
 | [],i=>by simp [zDm,Lib.indexByte]
 | x::l,i=>by
  obtain ⟨h1,h2⟩:=zLo c l (i+1)
  rw [List.map_cons]
  unfold zDm Lib.indexByte
  by_cases e:x=c
  · subst e; simp
  · rw [wb (fun h=>e (UInt8.toNat_inj.1 h))]
    have e':(x == c)=false:=by simpa using e
    simp only [e']
    rw [h1]
    simp
    constructor
    · split <;> (try split) <;> omega
    · split <;> omega
theorem zFV:∀ (a b:List UInt8),Lib.compareBytes a b=if a=b then 0 else if Op.bytesLess a b then -1 else 1
 | [],[]=>by simp [Lib.compareBytes]
 | [],_::_=>by simp [Lib.compareBytes,Op.bytesLess]
 | _::_,[]=>by simp [Lib.compareBytes,Op.bytesLess]
 | x::a,y::b=>by
  unfold Lib.compareBytes Op.bytesLess
  rw [zFV a b]
  by_cases h1:x<y
  · have:x≠y:=fun e=>by subst e; exact absurd h1 (UInt8.lt_irrefl x)
    simp [h1,this]
  · by_cases h2:y<x
    · have:x≠y:=fun e=>by subst e; exact absurd h2 (UInt8.lt_irrefl x)
      simp [h1,h2,this]
    · have:x=y:=by
       apply UInt8.toNat_inj.1
       rw [UInt8.lt_iff_toNat_lt] at h1 h2
       omega
      subst this
      simp [h1]
theorem zNZ {fn:Func} {e:Ext} {en:Array Value→Sem Value} (hex:zCS P fn=some e) (he:zOJ fn e=some en) {args:List CV} {as:Array Value} (has:zS ψ args as.toList) :
 qd P ψ h n w en as (zCt e args h n):=by
 unfold zCt
 split
 · -- count
   rename_i a b
   injection he with he; subst he
   obtain ⟨x,r,e1,hx,hr⟩:=zd.1 has
   obtain ⟨y,r',e2,hy,hr'⟩:=zd.1 hr
   rw [zM] at hr'
   subst e2 hr'
   have:=zBz e1
   subst this
   refine yO (C:=qd P ψ h n w _ _) _ _ _ trivial fun s hs=>?_
   rw [hs,ze] at hx
   obtain ⟨bs,rfl,rfl⟩:=hx
   refine uF (C:=qd P ψ h n w _ _) _ _ _ trivial fun c hc=>?_
   obtain ⟨rfl,hle⟩:=zEe hc hy
   refine ⟨_,Lib.run_countString bs _ w,?_⟩
   have:((Int.ofNat c).toNat.toUInt8).toNat=c:=by simp; omega
   have h2:=zQP ((Int.ofNat c).toNat.toUInt8) bs.data.toList
   rw [this] at h2
   rw [← h2]
   exact xz _
 · -- index
   rename_i a b
   injection he with he; subst he
   obtain ⟨x,r,e1,hx,hr⟩:=zd.1 has
   obtain ⟨y,r',e2,hy,hr'⟩:=zd.1 hr
   rw [zM] at hr'
   subst e2 hr'
   have:=zBz e1
   subst this
   refine yO (C:=qd P ψ h n w _ _) _ _ _ trivial fun s hs=>?_
   rw [hs,ze] at hx
   obtain ⟨bs,rfl,rfl⟩:=hx
   refine uF (C:=qd P ψ h n w _ _) _ _ _ trivial fun c hc=>?_
   obtain ⟨rfl,hle⟩:=zEe hc hy
   have hrun:=Lib.run_indexByteString (P:=P) bs (Int.ofNat c) w
   have:((Int.ofNat c).toNat.toUInt8).toNat=c:=by simp; omega
   obtain ⟨h2,h3⟩:=zLo ((Int.ofNat c).toNat.toUInt8) bs.data.toList 0
   rw [this] at h2
   have h4:(match zDm c (zo bs) 0 with
    | some j=>(j:Int)
    | none=>-1)=Lib.indexByte bs.data.toList (Int.ofNat c).toNat.toUInt8:=by
    refine h2.trans ?_
    split <;> omega
   rw [← h4] at hrun
   split
   · rename_i i hi
     simp only [hi] at hrun
     exact ⟨_,hrun,xz _⟩
   · rename_i hi
     simp only [hi] at hrun
     exact ⟨_,hrun,zg.2 rfl⟩
 · -- compare
   rename_i a b
   injection he with he; subst he
   obtain ⟨x,r,e1,hx,hr⟩:=zd.1 has
   obtain ⟨y,r',e2,hy,hr'⟩:=zd.1 hr
   rw [zM] at hr'
   subst e2 hr'
   have:=zBz e1
   subst this
   refine yO (C:=qd P ψ h n w _ _) _ _ _ trivial fun s hs=>?_
   rw [hs,ze] at hx
   obtain ⟨bs,rfl,rfl⟩:=hx
   refine yO (C:=qd P ψ h n w _ _) _ _ _ trivial fun s hs=>?_
   rw [hs,ze] at hy
   obtain ⟨cs,rfl,rfl⟩:=hy
   have hrun:=Lib.run_compareString (P:=P) bs cs w
   rw [zFV] at hrun
   rw [ja,ja,qB,k7,ByteArray.toList_eq,ByteArray.toList_eq]
   by_cases e:bs.data.toList=cs.data.toList
   · rw [if_pos e] at hrun
     rw [if_pos (by simpa using e)]
     exact ⟨_,hrun,zX.2 rfl⟩
   · rw [if_neg e] at hrun
     rw [if_neg (by simpa using e)]
     by_cases hl:Op.bytesLess bs.data.toList cs.data.toList=true
     · rw [if_pos hl] at hrun
       rw [if_pos hl]
       exact ⟨_,hrun,zg.2 rfl⟩
     · rw [if_neg hl] at hrun
       rw [if_neg hl]
       exact ⟨_,hrun,zX.2 rfl⟩
 · -- overlaps
   rename_i a b
   injection he with he; subst he
   obtain ⟨x,r,e1,hx,hr⟩:=zd.1 has
   obtain ⟨y,r',e2,hy,hr'⟩:=zd.1 hr
   rw [zM] at hr'
   subst e2 hr'
   have:=zBz e1
   subst this
   refine yV (C:=qd P ψ h n w _ _) _ _ _ _ trivial (fun _=>trivial) fun k o l c s ex hk=>?_
   refine yV (C:=qd P ψ h n w _ _) _ _ _ _ trivial (fun _=>trivial) fun j o' m c' s' ex' hj=>?_
   refine zG (C:=qd P ψ h n w _ _) _ _ _ trivial fun hjk=>?_
   refine w7 (C:=qd P ψ h n w _ _) _ _ _ trivial fun u vs hvs=>?_
   refine zG (C:=qd P ψ h n w _ _) _ _ _ trivial fun hu=>?_
   refine yb (C:=qd P ψ h n w _ _) _ _ _ trivial fun vs' hvs'=>?_
   refine zG (C:=qd P ψ h n w _ _) _ _ _ trivial fun hl=>?_
   have hjk:j≠k:=by simpa using hjk
   subst hu
   intro hrel _ _
   rw [hk,yF] at hx
   rw [hj,yF] at hy
   obtain ⟨p,x1,cap1,hp,rfl,_⟩:=hx
   obtain ⟨q,x2,cap2,hq,rfl,_⟩:=hy
   have hne:p.blk≠q.blk:=fun e=>hjk (hrel.inj k j _ _ p q hvs hvs' hp hq (.inl rfl) e).symm
   obtain ⟨arr,el,fz,c1,c2,c3,c4,_⟩:jW ψ w p true vs:=hrel.on k _ p hvs hp
   obtain ⟨arr',el',fz',d1,d2,d3,_⟩:yc ψ w q vs':=hrel.on j _ q hvs' hq
   have hl:1≤wz vs':=zL hl
   have hll:=jv vs'
   have hfz:fz.1=fz.2:=by
    rcases c4 with h | h
    · exact h
    · cases h.1
   have hfr:∀ i,w.frozen? ⟨p.blk,i,none⟩=false:=by
    intro i
    unfold World.frozen?
    rw [c1]
    simp
    omega
   obtain ⟨tS,e,hp0,ht,sz,hsz⟩:∃ tS e,fn.params[0]? = some tS∧P.underlying tS=some (.slice e)∧∃ sz,x6 P e=some sz:=by
    unfold zCS at hex
    split at hex
    · split at hex
      · cases hex
      · split at hex
        · cases hex
        · split at hex
          · cases hex
          · split at hex <;> cases hex
    · split at hex
      · rename_i ho
        rw [Bool.and_eq_true] at ho
        have hok:=ho.2
        unfold zBl und at hok
        rw [Bool.and_eq_true] at hok
        have hok:=hok.2
        split at hok
        · rename_i t _ hpl
          split at hok
          · rename_i e ht
            obtain ⟨sz,hsz⟩:=Option.isSome_iff_exists.1 hok
            refine ⟨t,e,?_,ht,sz,hsz⟩
            have:=congrArg (·[0]?) hpl
            simpa using this
          · cases hok
        · cases hok
      · cases hex
   refine ⟨w,.bool false,ψ,?_,yH.refl hrel,zJ.2 rfl⟩
   exact zBB hp0 ht (fun w=>ye hsz w) ⟨p.blk,x1,none⟩ ⟨q.blk,x2,none⟩ _ _ _ _ hne el el' arr.size arr'.size (by unfold World.shape?; rw [c1]) (by unfold World.shape?; rw [d1])
    (by omega) (hfr _) (hfr _)
 · -- clone
   rename_i a
   injection he with he; subst he
   obtain ⟨x,r,e1,hx,hr⟩:=zd.1 has
   rw [zM] at hr
   subst hr
   have:=zBz e1
   subst this
   refine xo (C:=qd P ψ h n w _ _) _ _ _ _ trivial (fun _=>trivial) fun t v hv=>?_
   rw [hv,yf] at hx
   obtain ⟨y,rfl,hy⟩:=hx
   refine xC (C:=qd P ψ h n w _ _) _ _ _ _ trivial (fun _=>trivial) fun b hb=>?_
   rw [hb,yq] at hy
   obtain ⟨p,hp,rfl⟩:=hy
   refine yZ (C:=qd P ψ h n w _ _) _ _ _ trivial fun cs clock hl=>?_
   intro hrel hnew hroom
   obtain ⟨arr,h1,h2,hcp⟩:=hrel.on b _ p hl hp
   have hr:=Key.room_of_succ hroom
   have hix:=Key.ix_succ hr
   have hnone:ψ n=none:=hnew n (Nat.le_refl _) (by omega)
   have hw:=jI w (.map arr (p.ck clock))
   have hpost:=wc (n:=n) (sz:=0) (ck:=p.ck) (o:=.map cs clock) hrel hr hnone hw ⟨arr,by simp,h2.mono (Psi.le_upd _ hnone),hcp⟩
   refine ⟨_,.iface t (.map (some w.heap.size)),_,?_,by rw [z6]; exact hpost,yf.2 ⟨_,rfl,yq.2 ⟨_,Psi.upd_same _ _ _,rfl⟩⟩⟩
   have hget:=run_getObj_map (P:=P) h1
   rw [show Extern.MapsClone.clone #[Value.iface t (.map (some p.blk))]=(getObj p.blk >>= _) from rfl,Sem.run_bind,hget]
   simp
 · exact trivial
section
variable {o:Op}
theorem zTi {c:Call} {f:FuncId} {fn:Func} {e:Ext} {args:List zT} (hcal:c.callee=.value (.func f)) (hρ:zOw ρ) (hfn:P.funcs[f]? = some fn) (hb:fn.body.isNone=true)
 (he:zCS P fn=some e) (hargs:qi P E c.args.toList=some args) (ha:yG P ψ es tm E ρ c.args.toList):zD P ψ h n ρ (.call c) ty w (zCt e (aVs es tm args) h n):=by
 obtain ⟨en,h1,h2,h3,h4⟩:=zGu he
 have has:=ky _ ha hargs
 rw [← Array.toList_map] at has
 have hout:=zNZ (P:=P) (h:=h) (n:=n) (w:=w) he h1 has
 have hrun:∀ {x:Value} {w':World},(en (c.args.map ρ)).run P w=.ok x w'→(execOp ρ (xw (.call c) ty)).run P w=.ok (.value x) w':=by
  intro x w' hx
  have:=run_callFunc_extern (P:=P) hfn h2 hb h3 h4 (c.args.map ρ) w
  rw [hx] at this
  simp only [execOp,resolve,hcal,Sem.run_bind,hρ.func,Deferred.ofValue,Sem.run_pure,Result.andThen_ok,invoke]
  have e0:(#[]++c.args.map ρ ++ #[]:Array Value)=c.args.map ρ:=by simp
  rw [e0,this]; rfl
 generalize zCt e (aVs es tm args) h n=r at hout
 cases r <;> first | exact hout.elim | exact trivial | skip
 case val v=>
  obtain ⟨x,h5,h6⟩:=hout
  exact ⟨x,zR (hrun h5),h6⟩
 case eff v h' n'=>
  intro g1 g2 g3
  obtain ⟨w',x,ψ',h5,h6,h7⟩:=hout g1 g2 g3
  exact ⟨w',x,ψ',zR (hrun h5),h6,h7⟩
theorem zRH (hρ:zOw ρ) (c:Call) (ha:yG P ψ es tm E ρ c.operands.toList):zD P ψ h n ρ (.call c) ty w (yU P (zh P E (.call c)) es tm h n):=by
 have hargsok:yG P ψ es tm E ρ c.args.toList:=ha.sub fun y hy=>by simp [Call.operands]; exact .inr (by simpa using hy)
 rw [show zh P E (.call c)=zGa P E c from rfl]
 unfold zGa
 split
 · rename_i b hc
   exact zKw c b hc hargsok
 · rename_i r name hc
   split
   · rename_i r' args hr hargs
     have hx:=ha r (by simp [Call.operands,hc]) r' hr
     have has:=ky _ hargsok hargs
     rw [← Array.toList_map] at has
     refine zD7 ?_ (zAM (P:=P) (h:=h) (n:=n) (w:=w) name hx has)
     simp only [execOp,resolve,hc,Sem.run_bind,Sem.run_pure,Result.andThen_ok,invoke]
     have e0:(#[ρ r]++c.args.map ρ)[0]? = some (ρ r):=by rw [← Array.getElem?_toList,Array.toList_append]; rfl
     have e1:(#[ρ r]++c.args.map ρ).extract 1 (#[ρ r]++c.args.map ρ).size=c.args.map ρ:=by
      apply Array.ext'
      rw [Array.toList_extract,Array.toList_append,List.extract_eq_take_drop]
      show ((c.args.map ρ).toList).take _=_
      exact List.take_of_length_le (by simp)
     rw [e0]
     simp only
     rw [e1]
   · exact zA _
 · rename_i f hc
   split
   · exact zA _
   · rename_i args hargs
     have has:=ky _ hargsok hargs
     rw [← Array.toList_map] at has
     split
     · rename_i g
       rw [yg]
       split
       · exact zA _
       · rename_i fn hfn
         have hfn:P.funcs[g]? = some fn:=by simpa using hfn
         split
         · intro _
           refine ⟨c.args.map ρ,?_,has⟩
           simp only [execOp,resolve,hc,Sem.run_bind,hρ.func,Deferred.ofValue,Sem.run_pure,Result.andThen_ok,invoke]
           simp
         · rename_i hb
           split
           · rename_i e he
             exact zTi hc hρ hfn (by cases hbb:fn.body <;> simp_all) he hargs hargsok
           · exact zA _
     · split
       · rename_i f' hf
         have hx:=ha f (by simp [Call.operands,hc]) f' hf
         refine zD7 ?_ (zPo (P:=P) (h:=h) (n:=n) (w:=w) hx has)
         simp only [execOp,resolve,hc]
       · exact zA _
theorem zL4 (hρ:zOw ρ) (o:Op) (ha:yG P ψ es tm E ρ o.operands.toList):zD P ψ h n ρ o ty w (yU P (zh P E o) es tm h n):=by
 cases o <;> try exact zA _
 case move=>exact zRg _ ha
 case assign=>exact zM3 _ ha
 case pick=>exact zQy _ _ _ ha
 case alloc=>exact zO0 _
 case box=>exact zTn _ _ ha
 case build=>exact zO5 _ _ ha
 case buildSlice=>exact zGA _ _ _ ha
 case load=>exact zRA _ _ ha
 case store=>exact zPy _ _ _ ha
 case nilCheck=>exact zPJ _ ha
 case binOp=>exact zPP _ _ _ _ _ ha
 case unOp=>exact zR8 _ _ _ ha
 case convert=>exact zJD _ _ _ ha
 case makeInterface=>exact zCd _ _ ha
 case makeFunc=>exact zI1 _ _ _ (ha.sub fun y hy=>by simp [Op.operands] at hy ⊢; exact hy)
 case makeMap=>exact zJ3 _ _ hρ.const
 case makeSlice=>exact zGI _ _ _ ha
 case slice=>exact zPe _ _ _ _ _ (ha.sub fun y hy=>by simp [Op.operands] at hy ⊢; exact hy)
 case fieldAddr=>exact zGO _ _ _ ha
 case field=>exact zOT _ _ _ ha
 case indexAddr=>exact zGK _ _ _ ha
 case index=>exact zPl _ _ _ ha
 case lookup=>exact zLK _ _ _ _ ha
 case mapUpdate=>exact zGH _ _ _ _ ha
 case insert=>exact zLT _ _ _ _ ha
 case range=>exact zPR _ _ ha
 case next=>exact zRf _ _ ha
 case entry=>exact zPn _ ha
 case typeAssert=>exact zFF _ _ _ _ ha
 case extract=>exact zJM _ _ ha
 case call=>exact zRH hρ _ ha
 case defer=>exact zPC _ ha
end
end
end Go.Ev
namespace Go.Ev
variable [Sym]
noncomputable section
variable {P:Program} {es:List CV} {tm:Tm} {h:zC} {n:Key}
variable [SymFact P]
def zE (n:Key):OR→Prop
 | .eff _ _ n'=>n.ix≤n'.ix
 | .fork a b=>zE n a∧zE n b
 | _=>True
theorem zNJ {x:CV} (s:Nat) (nf:Nat→Nat) (k:Nat→List CV→OR) (e:Nat) (hk:∀ m l,zE n (k m l)):zE n (zMF h s x k nf e):=by
 unfold zMF
 split
 · refine zG (C:=zE n) _ _ _ trivial fun _=>?_
   exact yX (C:=zE n) _ _ _ trivial fun _ _=>hk _ _
 · refine zG (C:=zE n) _ _ _ trivial fun _=>?_
   exact yX (C:=zE n) _ _ _ trivial fun _ _=>hk _ _
 · exact zG (C:=zE n) _ _ _ trivial fun _=>hk _ _
 · refine yV (C:=zE n) _ _ _ _ trivial (fun _=>hk _ _) fun _ _ _ _ _ _ _=>?_
   refine xB (C:=zE n) _ _ _ trivial fun _ _=>?_
   exact yX (C:=zE n) _ _ _ trivial fun _ _=>hk _ _
theorem uP (v:Option CV) (e:Nat):zE n (zEf v e):=by cases v <;> trivial
theorem zG9 (k:IntKind):∀ (m:Nat),zE n (zMR k m)
 | 0=>trivial
 | m+1=>⟨zG9 k m,trivial⟩
theorem zHR (k:IntKind):∀ (m:Nat),zE n (zLY k m)
 | 0=>trivial
 | m+1=>⟨zHR k m,trivial,trivial⟩
theorem yt (op:BinOp) (j k:IntKind):zE n (jN op j k):=by
 refine zG (C:=zE n) _ _ _ trivial fun _=>?_
 cases op <;> first | trivial | exact ⟨trivial,trivial⟩
theorem zP6 (op:BinOp) (k:IntKind) (b:Int):zE n (zGn op k b):=by
 cases op
 case add=>exact yt .add k k
 case sub=>exact yt .sub k k
 case mul=>exact yt .mul k k
 case or=>exact yt .or k k
 case xor=>exact yt .xor k k
 case andNot=>exact yt .andNot k k
 case eql=>exact yt .eql k k
 case neq=>exact yt .neq k k
 case lss=>exact yt .lss k k
 case leq=>exact yt .leq k k
 case gtr=>exact yt .gtr k k
 case geq=>exact yt .geq k k
 case quo=>cases b with
  | ofNat m=>cases m <;> trivial
  | negSucc m=>trivial
 case rem=>cases b with
  | ofNat m=>cases m with
   | zero=>trivial
   | succ m=>
    refine zG (C:=zE n) _ _ _ trivial fun _=>?_
    split
    · exact zHR k m
    · trivial
  | negSucc m=>trivial
 case and=>cases b with
  | ofNat m=>
   refine zG (C:=zE n) _ _ _ trivial fun _=>?_
   exact zG9 k m
  | negSucc m=>trivial
 case shl=>cases b <;> trivial
 case shr=>cases b <;> trivial
theorem zPW (op:BinOp) (x y:CV):zE n (zLZ op x y):=by
 have right:∀ (k j:IntKind) (b:Int),zE n (yl (kEq k j || yv op) (zGn op k b) 118):=fun k j b=>zG (C:=zE n) _ _ _ trivial fun _=>zP6 _ _ _
 refine zH0 (C:=zE n) _ _ _ _ _ trivial (fun a _=>?_) (fun k a _=>?_) (fun k _=>?_) (fun s _=>?_)
 · refine kK (C:=zE n) _ _ _ _ trivial (fun _ _=>?_) (fun _ _ _=>?_) (fun _ _=>yt _ _ _)
   · exact zG (C:=zE n) _ _ _ trivial fun _=>uP _ _
   · exact zG (C:=zE n) _ _ _ trivial fun _=>uP _ _
 · refine kK (C:=zE n) _ _ _ _ trivial (fun _ _=>?_) (fun _ _ _=>?_) (fun _ _=>yt _ _ _)
   · exact zG (C:=zE n) _ _ _ trivial fun _=>uP _ _
   · exact zG (C:=zE n) _ _ _ trivial fun _=>uP _ _
 · exact kK (C:=zE n) _ _ _ _ trivial (fun _ _=>right _ _ _) (fun _ _ _=>right _ _ _) (fun _ _=>yt _ _ _)
 · exact yO (C:=zE n) _ _ _ trivial fun _ _=>uP _ _
theorem zOf (o:Option (List CV)) (e:Nat):zE n (zTL o e):=by
 have:∀ (l:List CV) (c:CV),zE n (forkL c l):=by
  intro l
  induction l with
  | nil=>intro c; trivial
  | cons d l ih=>intro c; exact ⟨trivial,ih d⟩
 cases o with
 | none=>trivial
 | some l=>cases l with
  | nil=>trivial
  | cons c l=>exact this l c
theorem zPI (op:BinOp) (x y:CV):zE n (kV op x y):=by
 unfold kV
 split
 · unfold zRO
   split <;> first | trivial | (rw [ja]; split <;> first | trivial | exact ⟨trivial,trivial⟩)
 · split
   · exact zOf _ _
   · exact zPW _ _ _
theorem zDs (c:Option zT) (y d:Nat) (k:Nat→OR) (e:Nat) (hk:∀ i,zE n (k i)):zE n (zBD es tm c y d k e):=by
 cases c with
 | none=>exact hk _
 | some c=>
  refine ya (C:=zE n) _ _ _ trivial fun _ _=>?_
  exact zG (C:=zE n) _ _ _ trivial fun _=>hk _
theorem jS (len cap:Nat) (lo hi mx:Option zT) (k:Nat→Nat→Nat→OR) (e:Nat) (hk:∀ i j l,zE n (k i j l)):zE n (jD es tm len cap lo hi mx k e):=
 zDs _ _ _ _ _ fun _=>zDs _ _ _ _ _ fun _=>zDs _ _ _ _ _ fun _=>hk _ _ _
theorem zBZ (b:Key) (off esz:Nat) (ex:Bool) (i j l:Nat):zE n (zN0 b off esz ex i j l):=by
 refine zG (C:=zE n) _ _ _ trivial fun _=>?_
 rw [zt,zt,zt]; trivial
theorem zKF (a:Bool) (s:Nat) (cs:List CV) (off e:Nat):zE n (zSD a s cs off e):=by
 cases a with
 | true=>exact wX (C:=zE n) _ _ trivial fun _ _=>trivial
 | false=>exact jA (C:=zE n) _ _ trivial fun _ _=>trivial
theorem zIS (ok:Bool) (z:Option CV):zE n (noV ok z):=by unfold noV; split <;> trivial
theorem zB4 (r:CV) (name:String) (args:List CV):zE n (zHv P h r name args):=by
 refine xo (C:=zE n) _ _ _ _ trivial (fun _=>trivial) fun _ _ _=>?_
 split <;> trivial
theorem zQl (f:CV) (args:List CV):zE n (zRq P h f args):=by
 refine w4 (C:=zE n) _ _ _ trivial fun fn a c _=>?_
 split
 · trivial
 · split
   · exact zB4 _ _ _
   · trivial
 · split
   · split
     · exact zB4 _ _ _
     · exact zB4 _ _ _
     · trivial
   · trivial
 · split
   · split
     · split <;> trivial
     · trivial
   · trivial
 · trivial
theorem zEP {f:CE→OR} (hf:∀ c,zE n (f c)):∀ (l:List CE) (e:CE),zE n (zEl f e l)
 | [],e=>hf e
 | e'::l,e=>⟨hf e,zEP hf l e'⟩
theorem zLR (e:Ext) (args:List CV):zE n (zCt e args h n):=by
 unfold zCt
 split
 · refine yO (C:=zE n) _ _ _ trivial fun _ _=>?_
   exact uF (C:=zE n) _ _ _ trivial fun _ _=>trivial
 · refine yO (C:=zE n) _ _ _ trivial fun _ _=>?_
   refine uF (C:=zE n) _ _ _ trivial fun _ _=>?_
   split <;> trivial
 · refine yO (C:=zE n) _ _ _ trivial fun _ _=>?_
   refine yO (C:=zE n) _ _ _ trivial fun _ _=>?_
   rw [ja,ja]
   split
   · trivial
   · split <;> trivial
 · refine yV (C:=zE n) _ _ _ _ trivial (fun _=>trivial) fun _ _ _ _ _ _ _=>?_
   refine yV (C:=zE n) _ _ _ _ trivial (fun _=>trivial) fun _ _ _ _ _ _ _=>?_
   refine zG (C:=zE n) _ _ _ trivial fun _=>?_
   refine w7 (C:=zE n) _ _ _ trivial fun _ _ _=>?_
   refine zG (C:=zE n) _ _ _ trivial fun _=>?_
   refine yb (C:=zE n) _ _ _ trivial fun _ _=>?_
   exact zG (C:=zE n) _ _ _ trivial fun _=>Nat.le_refl _
 · refine xo (C:=zE n) _ _ _ _ trivial (fun _=>trivial) fun _ _ _=>?_
   refine xC (C:=zE n) _ _ _ _ trivial (fun _=>trivial) fun _ _=>?_
   exact yZ (C:=zE n) _ _ _ trivial fun _ _ _=>Key.ix_le_succ n
 · trivial
theorem zKP (esz k:Nat) (xs:List CV) (sv:CV):zE n (zG3 esz k xs sv h n):=by
 unfold zG3
 refine yV (C:=zE n) _ _ _ _ trivial (fun _=>?_) fun _ _ _ _ _ _ _=>?_
 · cases k with
   | zero=>exact Nat.le_refl _
   | succ k=>
    refine zG (C:=zE n) _ _ _ trivial fun _=>?_
    rw [zt]; exact Key.ix_le_succ n
 · refine zG (C:=zE n) _ _ _ trivial fun _=>?_
   refine w7 (C:=zE n) _ _ _ ?_ fun _ _ _=>?_
   rotate_left
   · rw [zt]
     refine zG (C:=zE n) _ _ _ trivial fun _=>?_
     exact yX (C:=zE n) _ _ _ trivial fun _ _=>Key.ix_le_succ n
   refine yb (C:=zE n) _ _ _ trivial fun _ _=>?_
   rw [zt,ja]
   split
   · exact yX (C:=zE n) _ _ _ trivial fun _ _=>Nat.le_refl _
   · refine zG (C:=zE n) _ _ _ trivial fun _=>?_
     exact yX (C:=zE n) _ _ _ trivial fun _ _=>Key.ix_le_succ n
theorem w8 (op:COp):zE n (yU P op es tm h n):=by
 cases op
 case mv=>trivial
 case pick=>
  refine vR (C:=zE n) _ _ _ trivial fun b _=>?_
  cases b <;> trivial
 case alloc=>trivial
 case box=>exact yX (C:=zE n) _ _ _ trivial fun _ _=>trivial
 case build=>exact wX (C:=zE n) _ _ trivial fun _ _=>trivial
 case bslice=>exact yX (C:=zE n) _ _ _ trivial fun _ _=>trivial
 case load1=>
  refine zAL (C:=zE n) _ _ _ ?_ fun _ _ _=>?_
  · unfold zUI
    split
    · refine xB (C:=zE n) _ _ _ trivial fun _ _=>?_
      exact uI (C:=zE n) _ _ trivial fun _ _=>trivial
    · trivial
  refine xB (C:=zE n) _ _ _ trivial fun _ _=>?_
  exact uI (C:=zE n) _ _ trivial fun _ _=>trivial
 case loadN=>
  refine xE (C:=zE n) _ _ _ trivial fun _ _ _=>?_
  refine xB (C:=zE n) _ _ _ trivial fun _ _=>?_
  exact zEM (C:=zE n) _ _ trivial fun _ _=>trivial
 case store=>
  refine xE (C:=zE n) _ _ _ trivial fun _ _ _=>?_
  refine yb (C:=zE n) _ _ _ trivial fun _ _=>?_
  refine yX (C:=zE n) _ _ _ trivial fun _ _=>?_
  refine zG (C:=zE n) _ _ _ trivial fun _=>?_
  exact yX (C:=zE n) _ _ _ trivial fun _ _=>Nat.le_refl _
 case nilck x=>
  refine zAL (C:=zE n) _ _ _ ?_ fun _ _ _=>trivial
  show zE n (zFU (aV es tm x))
  unfold zFU
  split <;> trivial
 case arith op x y=>
  show zE n (zP3 (aV es tm x) (fun a=>zP3 (aV es tm y) (fun b=>zMO op a b (aV es tm x) (aV es tm y)) (kV op (aV es tm x) (aV es tm y))) (kV op (aV es tm x) (aV es tm y)))
  have hg:=zPI (n:=n) op (aV es tm x) (aV es tm y)
  cases hx:aV es tm x <;> try (rw [hx] at hg; exact hg)
  case nat a=>
   rw [hx] at hg
   cases hy:aV es tm y <;> try (rw [hy] at hg; exact hg)
   case nat b=>
    rw [hy] at hg
    show zE n (Option.rec (motive:=fun _=>BinOp→CV→CV→OR) (fun op x y=>kV op x y) (fun v _ _ _=>.val v) (zHb op a b) op (.nat a) (.nat b))
    cases zHb op a b with
    | none=>exact hg
    | some v=>trivial
 case eq neg k cst x y=>
  show zE n (match eqC k cst (aV es tm x) (aV es tm y) with
   | some b=>.val (.bool (xor neg b))
   | none=>match zHD k (aV es tm x) (aV es tm y) with
    | true=>kw
    | false=>.err 123)
  split
  · trivial
  · split
    · exact ⟨trivial,trivial⟩
    · trivial
 case un op x=>
  cases op with
  | neg=>exact uY (C:=zE n) _ _ _ trivial (fun _ _=>trivial) fun _ _ _=>trivial
  | xor=>exact uY (C:=zE n) _ _ _ trivial (fun _ _=>trivial) fun _ _ _=>trivial
  | not=>exact vR (C:=zE n) _ _ _ trivial fun _ _=>trivial
  | plus=>trivial
 case cvInt k x=>
  show zE n (zGp k (aV es tm x))
  unfold zGp
  split
  · exact zOf _ _
  · exact kK (C:=zE n) _ _ _ _ trivial (fun _ _=>trivial) (fun _ _ _=>trivial) fun _ _=>trivial
 case cvStr=>exact yO (C:=zE n) _ _ _ trivial fun _ _=>trivial
 case cvSB=>
  refine xv (C:=zE n) _ _ _ ?_ fun _ _=>by rw [zt]; trivial
  refine yO (C:=zE n) _ _ _ trivial fun _ _=>?_
  rw [zt]; trivial
 case cvMark=>
  refine yV (C:=zE n) _ _ _ _ trivial (fun _=>trivial) fun _ _ _ _ _ _ _=>?_
  exact yb (C:=zE n) _ _ _ trivial fun _ _=>Nat.le_refl _
 case cvBS=>
  refine qf (C:=zE n) _ _ _ ?_ fun _ _ _ _ _=>zG (C:=zE n) _ _ _ trivial fun _=>trivial
  refine yV (C:=zE n) _ _ _ _ trivial (fun _=>trivial) fun _ _ _ _ _ _ _=>?_
  refine xB (C:=zE n) _ _ _ trivial fun _ _=>?_
  refine yX (C:=zE n) _ _ _ trivial fun _ _=>?_
  unfold zLS
  split
  · trivial
  · split <;> trivial
 case iface=>trivial
 case mkfn=>trivial
 case mkmap=>trivial
 case mkslice=>
  refine ya (C:=zE n) _ _ _ trivial fun _ _=>?_
  refine ya (C:=zE n) _ _ _ trivial fun _ _=>?_
  refine zG (C:=zE n) _ _ _ trivial fun _=>?_
  rw [zt,zt]; trivial
 case slArr=>exact xE (C:=zE n) _ _ _ trivial fun _ _ _=>jS _ _ _ _ _ _ _ fun _ _ _=>zBZ _ _ _ _ _ _ _
 case slSl=>
  refine qf (C:=zE n) _ _ _ ?_ fun _ _ _ _ _=>by
   unfold zG0
   split
   · split
     · split
       · rw [zt]; trivial
       · trivial
     · trivial
   · trivial
  refine yV (C:=zE n) _ _ _ _ trivial (fun _=>jS _ _ _ _ _ _ _ fun _ _ _=>trivial) fun _ _ _ _ _ _ _=>?_
  refine zG (C:=zE n) _ _ _ trivial fun _=>?_
  unfold zA1
  split
  · split
    · split
      · refine yb (C:=zE n) _ _ _ trivial fun _ _=>?_
        refine zG (C:=zE n) _ _ _ trivial fun _=>?_
        rw [zt]; trivial
      · exact jS _ _ _ _ _ _ _ fun _ _ _=>zBZ _ _ _ _ _ _ _
    · exact jS _ _ _ _ _ _ _ fun _ _ _=>zBZ _ _ _ _ _ _ _
  · exact jS _ _ _ _ _ _ _ fun _ _ _=>zBZ _ _ _ _ _ _ _
 case slStr=>
  refine xv (C:=zE n) _ _ _ ?_ fun _ _=>by
   rw [zt]
   refine jS _ _ _ _ _ _ _ fun _ _ _=>?_
   refine zG (C:=zE n) _ _ _ trivial fun _=>?_
   exact yX (C:=zE n) _ _ _ trivial fun _ _=>trivial
  refine yO (C:=zE n) _ _ _ trivial fun _ _=>?_
  rw [zt]
  refine jS _ _ _ _ _ _ _ fun _ _ _=>?_
  refine zG (C:=zE n) _ _ _ trivial fun _=>?_
  exact zHH (C:=zE n) _ _ trivial fun _ _=>trivial
 case addOff=>
  refine xE (C:=zE n) _ _ _ trivial fun _ _ _=>?_
  rw [zt]; trivial
 case part=>exact uj (C:=zE n) _ _ _ trivial fun _ _=>zKF _ _ _ _ _
 case ixArr=>
  refine xE (C:=zE n) _ _ _ trivial fun _ _ _=>?_
  refine ya (C:=zE n) _ _ _ trivial fun _ _=>?_
  refine zG (C:=zE n) _ _ _ trivial fun _=>?_
  rw [zt]; trivial
 case ixSl=>
  refine qf (C:=zE n) _ _ _ ?_ fun _ _ _ _ _=>by
   unfold zQE
   split
   · split
     · split <;> trivial
     · trivial
   · unfold zLX
     split
     · split
       · rw [zt]; trivial
       · trivial
     · trivial
  refine yV (C:=zE n) _ _ _ _ trivial (fun _=>trivial) fun _ _ _ _ _ _ _=>?_
  refine zE7 (C:=zE n) ?_ fun _ _ _ _ _ _ _=>trivial
  refine ya (C:=zE n) _ _ _ trivial fun _ _=>?_
  refine zG (C:=zE n) _ _ _ trivial fun _=>?_
  rw [zt]; trivial
 case ixAgg=>
  refine uj (C:=zE n) _ _ _ trivial fun _ _=>?_
  refine ya (C:=zE n) _ _ _ trivial fun _ _=>?_
  exact zG (C:=zE n) _ _ _ trivial fun _=>zKF _ _ _ _ _
 case ixStr=>
  refine xv (C:=zE n) _ _ _ ?_ fun _ _=>by
   refine ya (C:=zE n) _ _ _ trivial fun _ _=>?_
   exact jA (C:=zE n) _ _ trivial fun _ _=>trivial
  refine yO (C:=zE n) _ _ _ trivial fun _ _=>?_
  refine ya (C:=zE n) _ _ _ trivial fun _ _=>?_
  exact uF (C:=zE n) _ _ _ trivial fun _ _=>trivial
 case lookup kk z ok x k=>
  have hl:∀ l,zE n (zCz kk z ok (aV es tm k) l):=by
   intro l
   refine zG (C:=zE n) _ _ _ trivial fun _=>?_
   split
   · trivial
   · trivial
   · unfold zSj
     split
     · exact zG (C:=zE n) _ _ _ trivial fun _=>trivial
     · trivial
  refine xC (C:=zE n) _ _ _ _ trivial (fun _=>hl _) fun _ _=>?_
  refine vO (C:=zE n) _ _ _ ?_ fun _ _=>by
   refine zG (C:=zE n) _ _ _ trivial fun _=>?_
   split <;> trivial
  exact yZ (C:=zE n) _ _ _ trivial fun _ _ _=>hl _
 case mapupd=>
  refine xC (C:=zE n) _ _ _ _ trivial (fun _=>trivial) fun _ _=>?_
  refine vO (C:=zE n) _ _ _ ?_ fun _ _=>by
   refine zG (C:=zE n) _ _ _ trivial fun _=>?_
   split
   · exact Nat.le_refl _
   · trivial
  refine yZ (C:=zE n) _ _ _ trivial fun _ _ _=>?_
  refine zG (C:=zE n) _ _ _ trivial fun _=>?_
  split
  · split
    · exact Nat.le_refl _
    · trivial
  · rw [zt]; exact Nat.le_refl _
  · trivial
 case rangeStr=>exact xv (C:=zE n) _ _ _ (yO (C:=zE n) _ _ _ trivial fun _ _=>trivial) fun _ _=>trivial
 case rangeMap=>
  refine xC (C:=zE n) _ _ _ _ trivial (fun _=>trivial) fun _ _=>?_
  exact yZ (C:=zE n) _ _ _ trivial fun _ _ _=>Key.ix_le_succ n
 case next=>
  refine xE (C:=zE n) _ _ _ trivial fun _ _ _=>?_
  refine zG (C:=zE n) _ _ _ trivial fun _=>?_
  unfold zSI
  split
  · unfold zIH
    split
    · exact Nat.le_refl _
    · split
      · rw [zt]; exact Nat.le_refl _
      · trivial
  · exact Nat.le_refl _
  · refine yZ (C:=zE n) _ _ _ trivial fun _ _ _=>?_
    split
    · trivial
    · split
      · exact Nat.le_refl _
      · exact zG (C:=zE n) _ _ _ trivial fun _=>zEP (fun _=>Nat.le_refl _) _ _
  · trivial
 case entry=>
  refine xE (C:=zE n) _ _ _ trivial fun _ _ _=>?_
  refine zG (C:=zE n) _ _ _ trivial fun _=>?_
  unfold zLE
  split
  · split
    · refine yZ (C:=zE n) _ _ _ trivial fun _ _ _=>?_
      split <;> trivial
    · trivial
  · trivial
 case tassert=>
  refine xo (C:=zE n) _ _ _ _ trivial (fun _=>zIS _ _) fun _ _ _=>?_
  rw [ja]
  split
  · trivial
  · exact zIS _ _
 case tiface=>
  refine xo (C:=zE n) _ _ _ _ trivial (fun _=>zIS _ _) fun _ _ _=>?_
  split
  · trivial
  · exact zIS _ _
  · trivial
 case extract=>exact zF9 (C:=zE n) _ _ _ trivial fun _ _=>uP _ _
 case call=>trivial
 case ext e args=>exact zLR e _
 case callv=>exact zQl _ _
 case invoke=>exact zB4 _ _ _
 case append esz bb s x=>
  show zE n (zA3 esz bb s x es tm h n)
  unfold zA3
  refine zNJ _ _ _ _ fun k l=>?_
  exact zG (C:=zE n) _ _ _ trivial fun _=>zKP _ _ _ _
 case appz zero esz s x=>
  refine ya (C:=zE n) _ _ _ trivial fun _ _=>?_
  refine zG (C:=zE n) _ _ _ trivial fun _=>?_
  rw [zt]
  exact zG (C:=zE n) _ _ _ trivial fun _=>zKP _ _ _ _
 case copy esz d x=>
  show zE n (zHB esz d x es tm h n)
  have hk:∀ nf,zE n (zMF h esz (aV es tm x) (fun k xs=>u7 (aV es tm d)
   (.eff (.nat 0) h n)
   (fun b off _ _ _ _=>kf (zn b h) (fun vs=>yl (xQ xs) (onL (jY xs (Nat.mul k esz) vs off) (fun l=>.eff (kz k) (yu (some (.cells l)) b h) n) 232) 233) 234) 235) nf 236):=by
   intro nf
   refine zNJ _ _ _ _ fun k l=>?_
   refine yV (C:=zE n) _ _ _ _ trivial (fun _=>Nat.le_refl _) fun _ _ _ _ _ _ _=>?_
   refine yb (C:=zE n) _ _ _ trivial fun _ _=>?_
   refine zG (C:=zE n) _ _ _ trivial fun _=>?_
   exact yX (C:=zE n) _ _ _ trivial fun _ _=>Nat.le_refl _
  unfold zHB zSe
  split
  · exact hk _
  · exact yV (C:=zE n) _ _ _ _ trivial (fun _=>hk _) fun _ _ _ _ _ _ _=>hk _
 case lenStr=>exact xv (C:=zE n) _ _ _ (yO (C:=zE n) _ _ _ trivial fun _ _=>trivial) fun _ _=>trivial
 case lenSl=>exact qf (C:=zE n) _ _ _ (yV (C:=zE n) _ _ _ _ trivial (fun _=>trivial) fun _ _ _ _ _ _ _=>trivial) fun _ _ _ _ _=>trivial
 case lenMap=>
  refine xC (C:=zE n) _ _ _ _ trivial (fun _=>trivial) fun _ _=>?_
  exact yZ (C:=zE n) _ _ _ trivial fun _ _ _=>trivial
 case capSl=>
  refine yV (C:=zE n) _ _ _ _ trivial (fun _=>trivial) fun _ _ _ _ _ ex _=>?_
  cases ex
  · show zE n (zSk _ _ _ _ _ h n)
    unfold zSk
    rw [ja]
    split
    · trivial
    · refine yb (C:=zE n) _ _ _ trivial fun _ _=>?_
      exact zG (C:=zE n) _ _ _ trivial fun _=>⟨Nat.le_refl _,Nat.le_refl _⟩
  · trivial
 case delete=>
  refine zG (C:=zE n) _ _ _ trivial fun _=>?_
  refine xC (C:=zE n) _ _ _ _ trivial (fun _=>Nat.le_refl _) fun _ _=>?_
  refine yZ (C:=zE n) _ _ _ trivial fun _ _ _=>?_
  split
  · split
    · exact Nat.le_refl _
    · trivial
  · exact Nat.le_refl _
  · trivial
 case clearMap=>
  refine xC (C:=zE n) _ _ _ _ trivial (fun _=>Nat.le_refl _) fun _ _=>?_
  exact yZ (C:=zE n) _ _ _ trivial fun _ _ _=>Nat.le_refl _
 case clearSl=>
  refine yV (C:=zE n) _ _ _ _ trivial (fun _=>Nat.le_refl _) fun _ _ _ _ _ _ _=>?_
  refine yb (C:=zE n) _ _ _ trivial fun _ _=>?_
  refine zG (C:=zE n) _ _ _ trivial fun _=>?_
  exact yX (C:=zE n) _ _ _ trivial fun _ _=>Nat.le_refl _
 case minmax=>exact uP _ _
 case defer=>
  refine w4 (C:=zE n) _ _ _ trivial fun _ _ _ _=>?_
  split <;> trivial
 case recov=>trivial
 case bad=>trivial
end
end Go.Ev
namespace Go.Ev
variable [Sym]
noncomputable section
variable {P:Program}
variable [SymFact P]
def zf:R→Prop
 | .ok _ _ _ _ n=>n.room
 | .ret _ _ n=>n.room
 | .err _=>False
 | .fork a b=>zf a∧zf b
def zk (n:Key):R→Prop
 | .ok _ _ _ _ n'=>n.ix≤n'.ix
 | .ret _ _ n'=>n.ix≤n'.ix
 | .err _=>True
 | .fork a b=>zk n a∧zk n b
theorem uW {n:Key}:∀ {r:R},zf r→zk n r→n.room
 | .ok _ _ _ _ n',h,h'=>Nat.lt_of_le_of_lt h' h
 | .ret _ _ n',h,h'=>Nat.lt_of_le_of_lt h' h
 | .fork a _,h,h'=>uW h.1 h'.1
theorem zk.le {n n':Key} (hle:n.ix≤n'.ix):∀ {r:R},zk n' r→zk n r
 | .ok _ _ _ _ _,h=>Nat.le_trans hle h
 | .ret _ _ _,h=>Nat.le_trans hle h
 | .err _,_=>trivial
 | .fork _ _,h=>⟨zk.le hle h.1,zk.le hle h.2⟩
def xA (call:ym):Prop:=∀ d f args h n,zk n (call d f args h n)
theorem yJ (d:Option Loc) (v:CV) (tm:Tm) (k:Tm→R):yN d v tm k=k (match d with | none=>tm | some p=>ko v p tm):=by cases d <;> rfl
def jQ (k:CV→zC→Key→R) (r:R):R:=R.rec (motive:=fun _=>R) (fun _ _ _ _ _=>.err 300) (fun v h n=>k v h n) (fun c=>.err c) (fun _ _ a b=>.fork a b) r
theorem jF {k:CV→zC→Key→R} (hk:∀ v h n,zk n (k v h n)):∀ {r:R},zf (jQ k r)→zf r
 | .ok ..,h=>h.elim
 | .ret v h n,hc=>uW hc (hk v h n)
 | .err _,h=>h.elim
 | .fork _ _,h=>⟨jF hk h.1,jF hk h.2⟩
theorem jG {n:Key} {k:CV→zC→Key→R} (hk:∀ v h n,zk n (k v h n)):∀ {r:R},zk n r→zk n (jQ k r)
 | .ok ..,_=>trivial
 | .ret v h n',hc=>zk.le hc (hk v h n')
 | .err _,_=>trivial
 | .fork _ _,h=>⟨jG hk h.1,jG hk h.2⟩
theorem kn {call:ym} (hcall:xA call) {k:KE} (hk:∀ es tm ds h n,zk n (k es tm ds h n)) (d:Option Loc) (es:List CV) (tm:Tm) (ds:xe) (h:zC) (n:Key) :
 ∀ (r:OR),zE n r→zk n (after r call k d es tm ds h n)
 | .val v,_=>by show zk n (yN _ _ _ _); rw [yJ]; exact hk _ _ _ _ _
 | .read v,_=>by show zk n (yN _ _ _ _); rw [yJ]; exact hk _ _ _ _ _
 | .alloc o v,_=>by show zk n (yN _ _ _ _); rw [yJ]; exact zk.le (Key.ix_le_succ n) (hk _ _ _ _ _)
 | .eff v h' n',ho=>by show zk n (yN _ _ _ _); rw [yJ]; exact zk.le ho (hk _ _ _ _ _)
 | .call f args,_=>jG (k:=fun v h n=>yN d v tm fun tm=>k (v::es) tm ds h n) (fun v h n=>by rw [yJ]; exact hk _ _ _ _ _) (hcall _ _ _ _ _)
 | .dfr f args,_=>by show zk n (yN _ _ _ _); rw [yJ]; exact hk _ _ _ _ _
 | .recov,_=>by show zk n (yN _ _ _ _); rw [yJ]; exact hk _ _ _ _ _
 | .err _,_=>trivial
 | .fork a b,ho=>⟨kn hcall hk d es tm ds h n a ho.1,kn hcall hk d es tm ds h n b ho.2⟩
theorem kF {call:ym} (hcall:xA call):∀ (l:List ql) (es:List CV) (tm:Tm) (ds:xe) (h:zC) (n:Key),zk n (yw P call l es tm ds h n)
 | [],_,_,_,_,_=>Nat.le_refl _
 | .i op::l,es,tm,ds,h,n=>kn hcall (fun es tm ds h n=>kF hcall l es tm ds h n) none es tm ds h n _ (w8 op)
 | .o op d::l,es,tm,ds,h,n=>kn hcall (fun es tm ds h n=>kF hcall l es tm ds h n) (some d) es tm ds h n _ (w8 op)
 | .g x wnt op d::l,es,tm,ds,h,n=>by
  show zk n (Bool.rec (motive:=fun _=>R)
   (Bool.rec (motive:=fun _=>R) (.err 299) (yN d .undef tm fun tm=>yw P call l (.undef::es) tm ds h n) (wE (aV es tm x)))
   (after (yU P op es tm h n) call (yw P call l) d es tm ds h n) (j0 wnt (aV es tm x)))
  cases j0 wnt (aV es tm x) with
  | true=>exact kn hcall (fun es tm ds h n=>kF hcall l es tm ds h n) d es tm ds h n _ (w8 op)
  | false=>
   cases wE (aV es tm x) with
   | true=>show zk n (yN _ _ _ _); rw [yJ]; exact kF hcall l _ _ _ _ _
   | false=>trivial
structure xR (ψ:Psi) (F N:Nat) (tm:Tm) (a:Act):Prop where
 size:N≤a.tmps.size
 tmp:∀ t,z8 F t=true→t≤271→t<N→zH ψ (qZ (Loc.ofNat t) tm) (a.tmps.getD t undef)
def u6 (ψ:Psi) (dl:List (Option Nat)) (es:List CV) (a:Act):Prop:=∀ t i,xL t dl 0=some i→zH ψ (zTX es i) (a.tmps.getD t undef)
def kR (P:Program) (ψ:Psi):Prop:=∀ g,g<P.globals.size→g≤4095→∃ sz,ψ (Key.ofNat g)=some ⟨g,0,sz,fun n=>n⟩
def xc (ψ:Psi) (n:Key):Prop:=∀ k:Key,n.ix≤k.ix→ψ k=none
def zVe (P:Program) (ψ:Psi) (f:FuncId × List CV) (d:Deferred):Prop:=
 ∃ fv cap args',d.target=.fn fv cap∧(∀ w,(invoke d.target d.args).run P w=(callFunc f.1 args').run P w)∧zS ψ f.2 args'.toList
def kc (P:Program) (ψ:Psi):xe→List Deferred→Prop
 | [],l=>l=[]
 | f::fs,l=>∃ d r,l=d::r∧zVe P ψ f d∧kc P ψ fs r
structure St (P:Program) (F N:Nat) (ψ:Psi) (tm:Tm) (ds:xe) (h:zC) (n:Key) (a:Act) (w:World):Prop where
 frame:xR ψ F N tm a
 dfr:kc P ψ ds a.defers
 rel:Rel ψ (zC.fam h) w
 glob:kR P ψ
 fresh:xc ψ n
theorem kR.mono {ψ ψ':Psi} (hle:ψ.le ψ') (h:kR P ψ):kR P ψ':=fun g h1 h2=>let ⟨sz,e⟩:=h g h1 h2; ⟨sz,hle _ _ e⟩
theorem kc.mono {ψ ψ':Psi} (hle:ψ.le ψ'):∀ {ds:xe} {l:List Deferred},kc P ψ ds l→kc P ψ' ds l
 | [],_,h=>h
 | f::fs,_,h=>by
  obtain ⟨d,r,rfl,⟨fv,cap,as,h1,h2,h3⟩,h4⟩:=h
  exact ⟨d,r,rfl,⟨fv,cap,as,h1,h2,h3.mono hle⟩,kc.mono hle h4⟩
theorem xR.mono {ψ ψ':Psi} (hle:ψ.le ψ') {F N:Nat} {tm:Tm} {a:Act} (h:xR ψ F N tm a):xR ψ' F N tm a:=⟨h.size,fun t h1 h2 h3=>(h.tmp t h1 h2 h3).mono hle⟩
theorem u6.mono {ψ ψ':Psi} (hle:ψ.le ψ') {dl:List (Option Nat)} {es:List CV} {a:Act} (h:u6 ψ dl es a):u6 ψ' dl es a:=fun t i h1=>(h t i h1).mono hle
theorem yH.fresh {ψ ψ':Psi} {g g':Fam} {n n':Key} {w w':World} (hp:yH ψ g n w ψ' g' n' w') (h:xc ψ n):xc ψ' n':=by
 intro k hk
 have:=hp.mono
 rw [hp.out k (.inr hk)]
 exact h k (by omega)
theorem wO (t:Nat):∀ (dl:List (Option Nat)) (i:Nat),xL t dl (i+1)=(xL t dl i).map (· + 1)
 | [],_=>rfl
 | none::r,i=>by
  show xL t r (i+1+1)=(xL t r (i+1)).map (· + 1)
  exact wO t r (i+1)
 | some u::r,i=>by
  unfold xL
  simp only
  cases Nat.beq u t with
  | true=>rfl
  | false=>exact wO t r (i+1)
theorem kW (a:Act) (t:Nat) (v:Value) (h:t<a.tmps.size):(a.put (some t) v).tmps.getD t undef=v:=by
 simp [Act.put,h]
theorem x9 (a:Act) (d:Option Nat) (v:Value) {t:Nat} (h:d≠some t):(a.put d v).tmps.getD t undef=a.tmps.getD t undef:=by
 cases d with
 | none=>rfl
 | some u=>
  have:u≠t:=fun e=>h (by rw [e])
  simp [Act.put,Array.getElem?_setIfInBounds_ne this]
theorem zEZ (a:Act) (d:Option Nat) (v:Value):(a.put d v).tmps.size=a.tmps.size:=by cases d <;> simp [Act.put]
theorem zBo (a:Act) (d:Option Nat) (v:Value):(a.put d v).defers=a.defers:=by cases d <;> rfl
abbrev zKO (d:Option Loc) (v:CV) (tm:Tm):Tm:=match d with | none=>tm | some p=>ko v p tm
theorem qy {F N:Nat} {dst:Option Nat} {d:Option Loc} (h:xT F N dst=some d) :
 (dst=none∧d=none)∨∃ t,dst=some t∧t<N∧((z8 F t=false∧d=none)∨(z8 F t=true∧t≤271∧d=some (Loc.ofNat t))):=by
 unfold xT at h
 split at h
 · injection h with h; exact .inl ⟨rfl,h.symm⟩
 · rename_i t
   split at h
   · cases h
   · rename_i hn
     have hn:t+1≤N:=zL hn
     split at h
     · rename_i hf; injection h with h; exact .inr ⟨t,rfl,by omega,.inl ⟨hf,h.symm⟩⟩
     · rename_i hf
       split at h
       · rename_i hl; injection h with h; exact .inr ⟨t,rfl,by omega,.inr ⟨hf,zL hl,h.symm⟩⟩
       · cases h
theorem zPd {ψ:Psi} {F N:Nat} {tm:Tm} {a:Act} {dst:Option Nat} {d:Option Loc} {v:CV} {x:Value} (hf:xR ψ F N tm a) (hd:xT F N dst=some d) (hv:zH ψ v x) :
 xR ψ F N (zKO d v tm) (a.put dst x):=by
 refine ⟨by rw [zEZ]; exact hf.size,fun t h1 h2 h3=>?_⟩
 rcases qy hd with ⟨rfl,rfl⟩ | ⟨u,rfl,hu,⟨hb,rfl⟩ | ⟨hb,hle,rfl⟩⟩
 · exact hf.tmp t h1 h2 h3
 · have hne:u≠t:=fun e=>by subst e; rw [hb] at h1; cases h1
   rw [x9 _ _ _ (by simpa using hne)]
   exact hf.tmp t h1 h2 h3
 · by_cases e:u=t
   · subst e
     rw [kW _ _ _ (Nat.lt_of_lt_of_le hu hf.size)]
     show zH ψ (qZ _ (ko v _ tm)) x
     rw [j5]; exact hv
   · rw [x9 _ _ _ (by simpa using e)]
     show zH ψ (qZ _ (ko v _ tm)) _
     rw [xf _ _ _ _ (fun h=>e (Loc.ofNat_inj hle h2 h.symm))]
     exact hf.tmp t h1 h2 h3
theorem zT5 {ψ:Psi} {F N:Nat} {dl:List (Option Nat)} {es:List CV} {a:Act} {dst:Option Nat} {d:Option Loc} {v:CV} {x:Value} (hs:N≤a.tmps.size) (he:u6 ψ dl es a) (hd:xT F N dst=some d)
 (hv:zH ψ v x):u6 ψ (dst::dl) (v::es) (a.put dst x):=by
 intro t i hi
 have other:dst≠some t→zH ψ (zTX (v::es) i) ((a.put dst x).tmps.getD t undef):=by
  intro hne
  have hi':xL t dl 1=some i:=by
   cases dst with
   | none=>exact hi
   | some u=>
    unfold xL at hi
    have:Nat.beq u t=false:=wb fun e=>hne (by rw [e])
    simp only [this] at hi
    exact hi
  rw [wO] at hi'
  cases hw:xL t dl 0 with
  | none=>rw [hw] at hi'; cases hi'
  | some j=>
   rw [hw] at hi'
   injection hi' with hi'; subst hi'
   rw [x9 _ _ _ hne]
   exact he t j hw
 by_cases e:dst=some t
 · subst e
   rcases qy hd with ⟨h1,_⟩ | ⟨u,h1,hu,_⟩
   · cases h1
   · injection h1 with h1; subst h1
     unfold xL at hi
     have hb:Nat.beq t t=true:=qe t
     simp only [hb] at hi
     injection hi with hi; subst hi
     rw [kW _ _ _ (Nat.lt_of_lt_of_le hu hs)]
     exact hv
 · exact other e
theorem zIL (a:Act):zOw a.eval:=⟨fun _=>rfl,fun _=>rfl⟩
theorem zJl {F N:Nat} {ψ:Psi} {tm:Tm} {ds:xe} {h:zC} {n:Key} {a:Act} {w:World} {dl:List (Option Nat)} {es:List CV} (hs:St P F N ψ tm ds h n a w) (he:u6 ψ dl es a) :
 ∀ L,yG P ψ es tm ⟨F,N,dl⟩ a.eval L:=by
 intro L x hxL c hc
 clear hxL
 unfold zi at hc
 split at hc
 · rename_i t
   split at hc
   · rename_i i hi
     injection hc with hc; subst hc
     exact he t i hi
   · split at hc
     · rename_i hb
       injection hc with hc; subst hc
       rw [Bool.and_eq_true,Bool.and_eq_true] at hb
       exact hs.frame.tmp t hb.1.1 (zL hb.1.2) (zL hb.2)
     · cases hc
 · rename_i v
   cases hv:u4 20 v with
   | none=>rw [hv] at hc; cases hc
   | some c'=>rw [hv] at hc; injection hc with hc; subst hc; exact kD 20 hv
 · rename_i g
   split at hc
   · rename_i hb
     injection hc with hc; subst hc
     rw [Bool.and_eq_true] at hb
     obtain ⟨sz,e⟩:=hs.glob g (zL hb.1) (zL hb.2)
     exact zu.2 ⟨_,e,rfl⟩
   · cases hc
 · rename_i f
   injection hc with hc; subst hc
   exact xH.2 ⟨#[],#[],rfl,zM.2 rfl,zM.2 rfl⟩
end
end Go.Ev
namespace Go.Ev
variable [Sym]
noncomputable section
variable {P:Program}
variable [SymFact P]
def zl (ψ₀:Psi) (g₀:Fam) (n₀:Key) (w₀:World):R→Value→World→Prop
 | .ret cv h n,v,w=>∃ ψ,yH ψ₀ g₀ n₀ w₀ ψ (zC.fam h) n w∧zH ψ cv v
 | .fork a b,v,w=>zl ψ₀ g₀ n₀ w₀ a v w∨zl ψ₀ g₀ n₀ w₀ b v w
 | _,_,_=>False
def yR (P:Program) (f:FuncId) (args:Array Value) (w:World) (K:Value→World→Prop):Prop:=match (callFunc f args).run P w with
 | .ok (.enter g as) w'=>Calls P g as w' fun e w''=>∃ v,e=.returned v∧K v w''
 | .ok (.value v) w'=>K v w'
 | _=>False
def zFK (P:Program) (f:FuncId) (args:Array Value) (w:World) (K:World→Prop):Prop:=
 (callFunc f args).run P w=.ok (.enter f args) w∧CallsD P f args .returning w fun e u w'=>u=.returning∧∃ v,e=.returned v∧K w'
structure yP (P:Program) (call:ym):Prop where
 above:xA call
 calls:∀ f args h n ψ w args',zS ψ args args'.toList→kR P ψ→Rel ψ (zC.fam h) w→xc ψ n→zf (call false f args h n) →
  yR P f args' w (zl ψ (zC.fam h) n w (call false f args h n))
 defers:∀ f args h n ψ w args',zS ψ args args'.toList→kR P ψ→Rel ψ (zC.fam h) w→xc ψ n→zf (call true f args h n) →
  zFK P f args' w fun w'=>∃ v,zl ψ (zC.fam h) n w (call true f args h n) v w'
def vY (P:Program) (rc:Bool) (o:Oper) (a:Act) (w:World) (K:Act→World→Prop):Prop:=match (execOp a.eval o).run P w with
 | .ok (.value v) w'=>K (a.put o.dst v) w'
 | .ok .skip w'=>K (a.put o.dst undef) w'
 | .ok (.defer d) w'=>K ({ a with defers:=d::a.defers }.put o.dst undef) w'
 | .ok (.enter f args) w'=>Calls P f args w' fun e w''=>∃ v,e=.returned v∧K (a.put o.dst v) w''
 | .ok .recover w'=>rc=true∧K (a.put o.dst .nilIface) w'
 | _=>False
theorem vY.mono {rc:Bool} {o:Oper} {a:Act} {w:World} {K K':Act→World→Prop} (hk:∀ a w,K a w→K' a w) (h:vY P rc o a w K):vY P rc o a w K':=by
 unfold vY at *
 generalize (execOp a.eval o).run P w=r at h ⊢
 cases r with
 | halt x w'=>exact h.elim
 | ok x w'=>
  cases x <;> first
   | exact hk _ _ h
   | exact Calls.mono h fun e w' ⟨v,e1,e2⟩=>⟨v,e1,hk _ _ e2⟩
   | exact ⟨h.1,hk _ _ h.2⟩
   | exact h.elim
structure zTj (P:Program) (ops:Array Oper) (rc:Bool) (Q:Act→World→Prop) (W:List Nat→Act→World→Prop):Prop where
 nil:∀ a w,Q a w→W [] a w
 skip:∀ i o rest a w,ops[i]? = some o→Region.wanted o (yielded ops a.tmps)=false→W rest (a.put o.dst undef) w→W (i::rest) a w
 step:∀ i o rest a w,ops[i]? = some o→Region.wanted o (yielded ops a.tmps)=true→vY P rc o a w (W rest)→W (i::rest) a w
theorem zMY (ops:Array Oper) (Q:Exit→Act→World→Prop):zTj P ops false (Q .normal) (wpOps P ops Q):=by
 refine ⟨fun a w h=>h,fun i o rest a w ho hw h=>?_,fun i o rest a w ho hw h=>?_⟩
 · simp only [wpOps,ho,hw,Bool.false_eq_true,if_false]; exact h
 · simp only [wpOps,ho,hw,if_true]
   refine .inl ?_
   unfold Oper.wp
   unfold vY at h
   generalize (execOp a.eval o).run P w=r at h ⊢
   cases r with
   | halt x w'=>exact h.elim
   | ok x w'=>
    cases x <;> first
     | exact h
     | exact Calls.mono h (fun e w' ⟨v,e1,e2⟩=>by subst e1; exact e2)
     | exact absurd h.1 (by simp)
     | exact h.elim
theorem zGE (ops:Array Oper) (Q:Exit→Act→List Frame→World→Prop) {cs:List Frame} (hcs:recoverD cs=none) :
 zTj P ops true (fun a w=>Q .normal a cs w) (fun l a w=>wpOpsS P ops Q l a cs w):=by
 refine ⟨fun a w h=>h,fun i o rest a w ho hw h=>?_,fun i o rest a w ho hw h=>?_⟩
 · simp only [wpOpsS,ho,hw,Bool.false_eq_true,if_false]; exact h
 · simp only [wpOpsS,ho,hw,if_true]
   unfold vY at h
   generalize (execOp a.eval o).run P w=r at h ⊢
   cases r with
   | halt x w'=>exact h.elim
   | ok x w'=>
    cases x <;> first
     | exact h
     | exact Calls.mono h (fun e w' ⟨v,e1,e2⟩=>by subst e1; exact e2)
     | (simp only [hcs]; exact h.2)
     | exact h.elim
def zVT:CX→Exit→Prop
 | .normal,.normal=>True
 | .exit i,.exit j=>i=j
 | .ret,.ret=>True
 | _,_=>False
section
variable {F N:Nat} {call:ym} {ψ:Psi} {tm:Tm} {ds:xe} {h:zC} {n:Key} {a:Act} {w:World} {dl:List (Option Nat)} {es:List CV}
def wJ (P:Program) (F N:Nat) (ψ:Psi) (h:zC) (n:Key) (w:World) (dl:List (Option Nat)) (k:KE) (r:R) (a':Act) (w':World):Prop:=
 ∃ es' tm' ds' h' n' ψ',St P F N ψ' tm' ds' h' n' a' w'∧u6 ψ' dl es' a'∧yH ψ (zC.fam h) n w ψ' (zC.fam h') n' w'∧zf (k es' tm' ds' h' n') ∧
  ∀ (O:R→Prop),(∀ x y,O x→O (.fork x y))→(∀ x y,O y→O (.fork x y))→O (k es' tm' ds' h' n')→O r
theorem wJ.forkL {k:KE} {r s:R} {a':Act} {w':World} (hx:wJ P F N ψ h n w dl k r a' w'):wJ P F N ψ h n w dl k (.fork r s) a' w':=by
 obtain ⟨es',tm',ds',h',n',ψ',h1,h2,h3,h4,h5⟩:=hx
 exact ⟨es',tm',ds',h',n',ψ',h1,h2,h3,h4,fun O f1 f2 ho=>f1 _ _ (h5 O f1 f2 ho)⟩
theorem wJ.forkR {k:KE} {r s:R} {a':Act} {w':World} (hx:wJ P F N ψ h n w dl k s a' w'):wJ P F N ψ h n w dl k (.fork r s) a' w':=by
 obtain ⟨es',tm',ds',h',n',ψ',h1,h2,h3,h4,h5⟩:=hx
 exact ⟨es',tm',ds',h',n',ψ',h1,h2,h3,h4,fun O f1 f2 ho=>f2 _ _ (h5 O f1 f2 ho)⟩
theorem wA {k:KE} {o:Oper} {d:Option Loc} {v:CV} {x:Value} {ψ':Psi} {h':zC} {n':Key} {w':World} (hst:St P F N ψ tm ds h n a w) (hev:u6 ψ dl es a) (hd:xT F N o.dst=some d)
 (hp:yH ψ (zC.fam h) n w ψ' (zC.fam h') n' w') (hv:zH ψ' v x) (hc:zf (yN d v tm fun tm=>k (v::es) tm ds h' n')) :
 wJ P F N ψ h n w (o.dst::dl) k (yN d v tm fun tm=>k (v::es) tm ds h' n') (a.put o.dst x) w':=by
 rw [yJ] at hc ⊢
 refine ⟨v::es,_,ds,h',n',ψ',⟨zPd (hst.frame.mono hp.ext) hd hv,?_,hp.rel,hst.glob.mono hp.ext,hp.fresh hst.fresh⟩,zT5 hst.frame.size (hev.mono hp.ext) hd hv,hp,hc,fun O _ _ ho=>ho⟩
 rw [zBo]
 exact hst.dfr.mono hp.ext
theorem zGB {k:KE} {o:Oper} {d:Option Loc} {x:Value} {w':World} (hst:St P F N ψ tm ds h n a w) (hev:u6 ψ dl es a) (hd:xT F N o.dst=some d) :
 ∀ {r:R},zl ψ (zC.fam h) n w r x w'→zf (jQ (fun v h n=>yN d v tm fun tm=>k (v::es) tm ds h n) r) →
  wJ P F N ψ h n w (o.dst::dl) k (jQ (fun v h n=>yN d v tm fun tm=>k (v::es) tm ds h n) r) (a.put o.dst x) w'
 | .ok ..,hr,_=>hr.elim
 | .err _,hr,_=>hr.elim
 | .ret cv h' n',hr,hc=>by
  obtain ⟨ψ',hp,hv⟩:=hr
  exact wA hst hev hd hp hv hc
 | .fork r s,hr,hc=>by
  rcases hr with hr | hr
  · exact wJ.forkL (zGB hst hev hd hr hc.1)
  · exact wJ.forkR (zGB hst hev hd hr hc.2)
theorem qH {o:Oper} {w':World} {x:Value} (hv:kS P a.eval o.op o.type w w' x) {K:Act→World→Prop} {rc:Bool} (hk:K (a.put o.dst x) w'):vY P rc o a w K:=by
 obtain ⟨nx,h1,h2⟩:=hv
 have h1:(execOp a.eval o).run P w=.ok nx w':=h1
 unfold vY
 rw [h1]
 rcases h2 with rfl | ⟨rfl,rfl⟩
 · exact hk
 · exact hk
theorem vn (hcall:yP P call) {k:KE} (hk:∀ es tm ds h n,zk n (k es tm ds h n)) {o:Oper} {d:Option Loc} (hst:St P F N ψ tm ds h n a w) (hev:u6 ψ dl es a)
 (hd:xT F N o.dst=some d) {rc:Bool} (hrc:zDG o.op=true→rc=true):∀ (r:OR),zD P ψ h n a.eval o.op o.type w r→zE n r→zf (after r call k d es tm ds h n) →
   vY P rc o a w (wJ P F N ψ h n w (o.dst::dl) k (after r call k d es tm ds h n))
 | .val v,hs,_,hc=>by
  obtain ⟨x,h1,h2⟩:=hs
  exact qH h1 (wA hst hev hd (yH.refl hst.rel) h2 hc)
 | .read v,hs,_,hc=>by
  obtain ⟨x,h1,h2⟩:=hs hst.rel.on
  exact qH h1 (wA hst hev hd (yH.refl hst.rel) h2 hc)
 | .alloc ob v,hs,_,hc=>by
  obtain ⟨w',x,sz,h1,h2,h3,_⟩:=hs
  have hroom:n.succ.room:=by
   have hc':zf (yN d v tm fun tm=>k (v::es) tm ds (yu (some ob) n h) n.succ):=hc
   rw [yJ] at hc'
   exact uW hc' (hk _ _ _ _ _)
  have hr:=Key.room_of_succ hroom
  have hnone:=hst.fresh n (Nat.le_refl _)
  have hle:=Psi.le_upd (ψ:=ψ) (k:=n) ⟨w.heap.size,0,sz,fun n=>n⟩ hnone
  obtain ⟨h4,h5⟩:=h3 _ hle (Psi.upd_same _ _ _)
  have hp:=wc hst.rel hr hnone h2 h5
  rw [← z6] at hp
  exact qH h1 (wA hst hev hd hp h4 hc)
 | .eff v h' n',hs,ha,hc=>by
  have hroom:n'.room:=by
   have hc':zf (yN d v tm fun tm=>k (v::es) tm ds h' n'):=hc
   rw [yJ] at hc'
   exact uW hc' (hk _ _ _ _ _)
  obtain ⟨w',x,ψ',h1,h2,h3⟩:=hs hst.rel (fun q hq _=>hst.fresh q hq) hroom
  exact qH h1 (wA hst hev hd h2 h3 hc)
 | .call f args,hs,_,hc=>by
  obtain ⟨args',h1,h2⟩:=hs hst.rel.on
  have hc':zf (jQ (fun v h n=>yN d v tm fun tm=>k (v::es) tm ds h n) (call false f args h n)):=hc
  have hcl:=jF (fun v h n=>by rw [yJ]; exact hk _ _ _ _ _) hc'
  have hcalls:=hcall.calls f args h n ψ w args' h2 hst.glob hst.rel hst.fresh hcl
  have hn:=fun (x:Value) (w':World) hr=>zGB (k:=k) (o:=o) (x:=x) (w':=w') hst hev hd (r:=call false f args h n) hr hc'
  have h1:(execOp a.eval o).run P w=(callFunc f args').run P w:=h1
  unfold vY
  rw [h1]
  unfold yR at hcalls
  generalize (callFunc f args').run P w=r at hcalls ⊢
  cases r with
  | halt x w'=>exact hcalls.elim
  | ok x w'=>
   cases x <;> first
    | exact hn _ _ hcalls
    | exact Calls.mono hcalls fun e w' ⟨v,e1,e2⟩=>⟨v,e1,hn v w' e2⟩
    | exact hcalls.elim
 | .dfr f args,hs,_,hc=>by
  obtain ⟨dd,fv,cap,args',h1,h2,h3,h4⟩:=hs
  have h1:(execOp a.eval o).run P w=.ok (.defer dd) w:=h1
  unfold vY
  rw [h1]
  have hc':zf (yN d .undef tm fun tm=>k (.undef::es) tm ((f,args)::ds) h n):=hc
  show wJ P F N ψ h n w (o.dst::dl) k (yN d .undef tm fun tm=>k (.undef::es) tm ((f,args)::ds) h n) ({ a with defers:=dd::a.defers }.put o.dst undef) w
  refine wA (a:={ a with defers:=dd::a.defers }) (ds:=(f,args)::ds) ⟨⟨hst.frame.size,hst.frame.tmp⟩,⟨dd,a.defers,rfl,⟨fv,cap,args',h2,h3,h4⟩,hst.dfr⟩,hst.rel,hst.glob,hst.fresh⟩ hev hd (yH.refl hst.rel) qF hc'
 | .recov,hs,_,hc=>by
  obtain ⟨h0,h1⟩:=hs
  have h1:(execOp a.eval o).run P w=.ok .recover w:=h1
  unfold vY
  rw [h1]
  exact ⟨hrc h0,wA hst hev hd (yH.refl hst.rel) (yj.2 rfl) hc⟩
 | .err _,_,_,hc=>hc.elim
 | .fork r s,hs,ha,hc=>by
  rcases hs hst.rel with hs | hs
  · exact vY.mono (fun _ _ h=>wJ.forkL h) (vn hcall hk hst hev hd hrc r hs ha.1 hc.1)
  · exact vY.mono (fun _ _ h=>wJ.forkR h) (vn hcall hk hst hev hd hrc s hs ha.2 hc.2)
end
end
end Go.Ev
namespace Go.Ev
variable [Sym]
noncomputable section
variable {P:Program}
variable [SymFact P]
theorem zHe {ψ:Psi} {ops:Array Oper} {o:Oper} {j t:Nat} {wnt:Bool} {a:Act} {c:CV} (hg:o.guard=some (j,wnt)) (ht:(ops[j]?).bind (·.dst)=some t) (hc:zH ψ c (a.tmps.getD t undef)) :
 (j0 wnt c=true→Region.wanted o (yielded ops a.tmps)=true)∧(j0 wnt c=false→wE c=true→Region.wanted o (yielded ops a.tmps)=false):=by
 have hw:Region.wanted o (yielded ops a.tmps)=(yielded ops a.tmps j == some wnt):=by unfold Region.wanted; rw [hg]
 have hy:yielded ops a.tmps j=(match a.tmps[t]? with | some (.bool b)=>some b | _=>none):=by unfold yielded; rw [ht]; rfl
 have hget:∀ b,a.tmps.getD t undef=.bool b→a.tmps[t]? = some (.bool b):=by
  intro b h
  rw [Array.getD_eq_getD_getElem?] at h
  cases hq:a.tmps[t]? with
  | none=>rw [hq] at h; cases h
  | some v=>rw [hq] at h; exact congrArg some h
 rw [hw,hy]
 constructor
 · intro hb
   unfold j0 at hb
   split at hb
   · rename_i b
     rw [zJ] at hc
     rw [hget _ hc]
     cases b <;> cases wnt <;> simp_all
   · cases hb
 · intro hb hn
   cases hq:a.tmps[t]? with
   | none=>rfl
   | some v=>
    have hv:a.tmps.getD t undef=v:=by rw [Array.getD_eq_getD_getElem?,hq]; rfl
    rw [hv] at hc
    cases v <;> try rfl
    rename_i b
    have hb':c=.bool b∨c=.any:=by
     cases c
     case bool b'=>rw [zJ] at hc; injection hc with hc; subst hc; exact .inl rfl
     case any=>exact .inr rfl
     case nat=>rw [zX] at hc; cases hc
     case int=>rw [zg] at hc; cases hc
     case anyi=>rw [yk] at hc; obtain ⟨_,hc⟩:=hc; cases hc
     case str=>rw [ze] at hc; obtain ⟨_,hc,_⟩:=hc; cases hc
     case big=>rw [k9] at hc; obtain ⟨_,hc,_⟩:=hc; cases hc
     case nilptr=>rw [xW] at hc; cases hc
     case ptr=>rw [zu] at hc; obtain ⟨_,_,hc⟩:=hc; cases hc
     case nilsl=>rw [zw] at hc; cases hc
     case sl=>rw [yF] at hc; obtain ⟨_,_,_,_,hc,_⟩:=hc; cases hc
     case sst=>rw [zy] at hc; obtain ⟨_,hc,_⟩:=hc; cases hc
     case elt=>rw [zAB] at hc; obtain ⟨_,_,_,_,_,hc⟩:=hc; cases hc
     case few=>rw [jp] at hc; obtain ⟨_,_,_,hc,_⟩:=hc; cases hc
     case win=>rw [qA] at hc; obtain ⟨_,_,_,_,_,hc,_⟩:=hc; cases hc
     case nilmap=>rw [yS] at hc; cases hc
     case map=>rw [yq] at hc; obtain ⟨_,_,hc⟩:=hc; cases hc
     case func=>rw [xH] at hc; obtain ⟨_,_,hc,_⟩:=hc; cases hc
     case nilfunc=>rw [xK] at hc; cases hc
     case iface=>rw [yf] at hc; obtain ⟨_,hc,_⟩:=hc; cases hc
     case niliface=>rw [yj] at hc; cases hc
     case agg=>rw [yn] at hc; obtain ⟨_,hc,_⟩:=hc; cases hc
     case sym i=>rw [zq] at hc; rcases Sym.one i with ⟨_,_,e⟩ | ⟨_,e⟩ <;> rw [e] at hc <;> cases hc
     case tup=>rw [yW] at hc; obtain ⟨_,hc,_⟩:=hc; cases hc
    rcases hb' with rfl | rfl
    · cases b <;> cases wnt <;> first | rfl | cases hb
    · cases hn
section
variable {F N:Nat} {call:ym} {ops:Array Oper} {rc:Bool} {Q:Act→World→Prop} {W:List Nat→Act→World→Prop}
theorem zNS {j:Nat}:(nth ops.toList j).bind (·.dst)=(ops[j]?).bind (·.dst):=by rw [yg,Array.getElem?_toList]
theorem zTU (hcall:yP P call) (walk:zTj P ops rc Q W) {k:KE} (hk:∀ es tm ds h n,zk n (k es tm ds h n)) {ψ:Psi} {tm:Tm} {ds:xe} {h:zC} {n:Key} {a:Act} {w:World} {dl:List (Option Nat)} {es:List CV}
 (hst:St P F N ψ tm ds h n a w) (hev:u6 ψ dl es a) {i:Nat} {o:Oper} {rest:List Nat} (ho:ops[i]? = some o) (hrc:zDG o.op=true→rc=true)
 (hc:zf (zVq P call (ut P F N ops.toList dl o) k es tm ds h n))
 (hnext:∀ a' w',wJ P F N ψ h n w (o.dst::dl) k (zVq P call (ut P F N ops.toList dl o) k es tm ds h n) a' w'→W rest a' w'):W (i::rest) a w:=by
 unfold ut at hc hnext
 cases hd:xT F N o.dst with
 | none=>simp only [hd] at hc; exact hc.elim
 | some d=>
  simp only [hd] at hc hnext
  have hsim:=fun (w:World)=>zL4 (ψ:=ψ) (h:=h) (n:=n) (es:=es) (tm:=tm) (ty:=o.type) (w:=w) (zIL a) o.op (zJl hst hev _)
  cases hg:o.guard with
  | none=>
   have hw:Region.wanted o (yielded ops a.tmps)=true:=by unfold Region.wanted; rw [hg]
   simp only [hg] at hc hnext
   refine walk.step i o rest a w ho hw ?_
   cases d with
   | none=>
    have:=vn hcall hk hst hev hd hrc _ (hsim w) (w8 _) hc
    exact vY.mono hnext this
   | some p=>
    have:=vn hcall hk hst hev hd hrc _ (hsim w) (w8 _) hc
    exact vY.mono hnext this
  | some jw=>
   obtain ⟨j,wnt⟩:=jw
   simp only [hg] at hc hnext
   cases ht:(nth ops.toList j).bind (·.dst) with
   | none=>simp only [ht] at hc; exact hc.elim
   | some t=>
    simp only [ht] at hc hnext
    cases hx:zi P ⟨F,N,dl⟩ (.tmp t) with
    | none=>simp only [hx] at hc; exact hc.elim
    | some x=>
     simp only [hx] at hc hnext
     have hv:=zJl hst hev [.tmp t] _ (by simp) _ hx
     have hv:zH ψ (aV es tm x) (a.tmps.getD t undef):=hv
     rw [zNS] at ht
     obtain ⟨w1,w2⟩:=zHe hg ht hv
     have hc':zf (Bool.rec (motive:=fun _=>R)
      (Bool.rec (motive:=fun _=>R) (.err 299) (yN d .undef tm fun tm=>k (.undef::es) tm ds h n) (wE (aV es tm x)))
      (after (yU P (zh P ⟨F,N,dl⟩ o.op) es tm h n) call k d es tm ds h n) (j0 wnt (aV es tm x))):=hc
     have hnext':∀ a' w',wJ P F N ψ h n w (o.dst::dl) k (Bool.rec (motive:=fun _=>R)
      (Bool.rec (motive:=fun _=>R) (.err 299) (yN d .undef tm fun tm=>k (.undef::es) tm ds h n) (wE (aV es tm x)))
      (after (yU P (zh P ⟨F,N,dl⟩ o.op) es tm h n) call k d es tm ds h n) (j0 wnt (aV es tm x))) a' w'→W rest a' w':=hnext
     cases hb:j0 wnt (aV es tm x) with
     | true=>
      rw [hb] at hc' hnext'
      refine walk.step i o rest a w ho (w1 hb) ?_
      exact vY.mono hnext' (vn hcall hk hst hev hd hrc _ (hsim w) (w8 _) hc')
     | false=>
      rw [hb] at hc' hnext'
      cases hn:wE (aV es tm x) with
      | false=>rw [hn] at hc'; exact hc'.elim
      | true=>
       rw [hn] at hc' hnext'
       exact walk.skip i o rest a w ho (w2 hb hn) (hnext' _ _ (wA hst hev hd (yH.refl hst.rel) qF hc'))
theorem zJm (hcall:yP P call) (walk:zTj P ops rc Q W):∀ (rest:List Oper) (i:Nat) {ψ:Psi} {tm:Tm} {ds:xe} {h:zC} {n:Key} {a:Act} {w:World} {dl:List (Option Nat)} {es:List CV},
 ops.toList.drop i=rest→(∀ o∈rest,zDG o.op=true→rc=true)→St P F N ψ tm ds h n a w→u6 ψ dl es a →
 zf (yw P call (jP P F N ops.toList dl rest) es tm ds h n) →
 (∀ tm' ds' h' n' ψ' a' w',St P F N ψ' tm' ds' h' n' a' w'→yH ψ (zC.fam h) n w ψ' (zC.fam h') n' w'→n'.room →
   (∀ (O:R→Prop),(∀ x y,O x→O (.fork x y))→(∀ x y,O y→O (.fork x y))→O (.ok .normal tm' ds' h' n')→O (yw P call (jP P F N ops.toList dl rest) es tm ds h n))→Q a' w') →
 W (List.range' i rest.length) a w
 | [],i,ψ,tm,ds,h,n,a,w,dl,es,_,_,hst,hev,hc,hQ=>walk.nil a w (hQ tm ds h n ψ a w hst (yH.refl hst.rel) hc fun O _ _ ho=>ho)
 | o::rest,i,ψ,tm,ds,h,n,a,w,dl,es,hi,hrc,hst,hev,hc,hQ=>by
  have ho:ops[i]? = some o:=by
   rw [← Array.getElem?_toList]
   have:(ops.toList.drop i)[0]? = some o:=by rw [hi]; rfl
   rw [List.getElem?_drop] at this
   exact this
  have hrest:ops.toList.drop (i+1)=rest:=by
   have:=congrArg (List.drop 1) hi
   rw [List.drop_drop] at this
   exact this
  rw [List.length_cons,List.range'_succ]
  refine zTU hcall walk (k:=yw P call (jP P F N ops.toList (o.dst::dl) rest)) (fun es tm ds h n=>kF hcall.above _ es tm ds h n) hst hev ho (hrc o (by simp)) hc fun a' w' hn=>?_
  obtain ⟨es',tm',ds',h',n',ψ',h1,h2,h3,h4,h5⟩:=hn
  refine zJm hcall walk rest (i+1) hrest (fun o ho=>hrc o (by simp [ho])) h1 h2 h4 fun tm'' ds'' h'' n'' ψ'' a'' w'' g1 g2 g3 g4=>?_
  exact hQ tm'' ds'' h'' n'' ψ'' a'' w'' g1 (h3.trans g2) g3 fun O f1 f2 ho=>h5 O f1 f2 (g4 O f1 f2 ho)
end
end
end Go.Ev
namespace Go.Ev
variable [Sym]
noncomputable section
variable {P:Program}
variable [SymFact P]
theorem qa {n:Key} {k:K} (hk:∀ tm ds h n,zk n (k tm ds h n)):∀ {r:R},zk n r→zk n (qK k r)
 | .ok .normal tm ds h n',ha=>zk.le ha (hk tm ds h n')
 | .ok (.exit _) _ _ _ _,ha=>ha
 | .ok .ret _ _ _ _,ha=>ha
 | .ret ..,_=>trivial
 | .err _,_=>trivial
 | .fork _ _,h=>⟨qa hk h.1,qa hk h.2⟩
theorem xq {k:K} (hk:∀ tm ds h n,zk n (k tm ds h n)):∀ {r:R},zf (qK k r)→zf r
 | .ok .normal tm ds h n',hc=>uW hc (hk tm ds h n')
 | .ok (.exit _) _ _ _ _,hc=>hc
 | .ok .ret _ _ _ _,hc=>hc
 | .ret ..,hc=>hc.elim
 | .err _,hc=>hc.elim
 | .fork _ _,h=>⟨xq hk h.1,xq hk h.2⟩
theorem zAh (id i:Nat) (tm:Tm) (ds:xe) (h:zC) (n:Key):uq id (.ok (.exit i) tm ds h n)=if i=id then .ok .normal tm ds h n else .ok (.exit i) tm ds h n:=by
 show Bool.rec (motive:=fun _=>R) (.ok (.exit i) tm ds h n) (.ok .normal tm ds h n) (Nat.beq i id)=_
 by_cases e:i=id
 · subst e; rw [qe,if_pos rfl]
 · rw [wb e,if_neg e]
theorem ue {n:Key} (id:Nat):∀ {r:R},zk n r→zk n (uq id r)
 | .ok .normal _ _ _ _,ha=>ha
 | .ok (.exit i) _ _ _ _,ha=>by rw [zAh]; split <;> exact ha
 | .ok .ret _ _ _ _,ha=>ha
 | .ret ..,_=>trivial
 | .err _,_=>trivial
 | .fork _ _,h=>⟨ue id h.1,ue id h.2⟩
theorem jx (id:Nat):∀ {r:R},zf (uq id r)→zf r
 | .ok .normal _ _ _ _,ha=>ha
 | .ok (.exit i) _ _ _ _,ha=>by rw [zAh] at ha; split at ha <;> exact ha
 | .ok .ret _ _ _ _,ha=>ha
 | .ret ..,h=>h.elim
 | .err _,h=>h.elim
 | .fork _ _,h=>⟨jx id h.1,jx id h.2⟩
theorem zEX {C:K→Prop} {a b:K} (v:CV) (ht:v=.bool true→C a) (hf:v=.bool false→C b) (he:C fun _ _ _ _=>.err 302):C (zGR a b v):=by
 unfold zGR
 split
 · exact ht rfl
 · exact hf rfl
 · exact he
section
variable {call:ym} (hcall:xA call)
include hcall
theorem zM1 {k:KD} (hk:∀ es hs tm ds h n,zk n (k es hs tm ds h n)) (d:Option Loc) (es:List CV) (hs:List zC) (tm:Tm) (ds:xe) (h:zC) (n:Key) (r:OR) (ho:zE n r) :
 zk n (zMC call d k r es hs tm ds h n):=by
 cases r with
 | val v=>show zk n (yN _ _ _ _); rw [yJ]; exact hk _ _ _ _ _ _
 | read v=>show zk n (yN _ _ _ _); rw [yJ]; exact hk _ _ _ _ _ _
 | alloc o v=>show zk n (yN _ _ _ _); rw [yJ]; exact zk.le (Key.ix_le_succ n) (hk _ _ _ _ _ _)
 | eff v h' n'=>show zk n (yN _ _ _ _); rw [yJ]; exact zk.le ho (hk _ _ _ _ _ _)
 | call f args=>exact jG (k:=fun v h' n'=>yN d v tm fun tm=>k (v::es) (h::hs) tm ds h' n') (fun v h n=>by rw [yJ]; exact hk _ _ _ _ _ _) (hcall _ _ _ _ _)
 | dfr f args=>trivial
 | recov=>trivial
 | err _=>trivial
 | fork a b=>trivial
omit hcall in
theorem zPM {k:KD} (hk:∀ es hs tm ds h n,zk n (k es hs tm ds h n)) (op:COp) (d:Option Loc) (chk:Nat) (es:List CV) (hs:List zC) (tm:Tm) (ds:xe) (h:zC) (n:Key) (r:OR) :
 zk n (dNo P op d chk k r es hs tm ds h n):=by
 cases r with
 | val v=>show zk n (yN _ _ _ _); rw [yJ]; exact hk _ _ _ _ _ _
 | read v=>
  show zk n (match jK P op es tm n v chk hs with
   | true=>yN d v tm fun tm=>k (v::es) hs tm ds h n
   | false=>.err 311)
  split
  · rw [yJ]; exact hk _ _ _ _ _ _
  · trivial
 | alloc o v=>show zk n (yN _ _ _ _); rw [yJ]; exact zk.le (Key.ix_le_succ n) (hk _ _ _ _ _ _)
 | eff v h' n'=>trivial
 | call f args=>trivial
 | dfr f args=>trivial
 | recov=>trivial
 | err _=>trivial
 | fork a b=>trivial
theorem zDa {k:KD} (hk:∀ es hs tm ds h n,zk n (k es hs tm ds h n)) (op:COp) (d:Option Loc) (e:Bool) (chk:Nat) (es:List CV) (hs:List zC) (tm:Tm) (ds:xe) (h:zC) (n:Key) :
 zk n (dOp P call op d e chk k es hs tm ds h n):=by
 unfold dOp
 split
 · exact zM1 hcall hk d es hs tm ds h n _ (w8 op)
 · exact zPM hk op d chk es hs tm ds h n _
theorem zIT:∀ (l:List zPL) (es:List CV) (hs:List zC) (tm:Tm) (ds:xe) (h:zC) (n:Key),zk n (evD P call l es hs tm ds h n)
 | [],_,_,_,_,_,_=>Nat.le_refl _
 | i::l,es,hs,tm,ds,h,n=>by
  unfold evD
  have ih:=fun es hs tm ds h n=>zIT l es hs tm ds h n
  split
  · exact zDa hcall ih _ _ _ _ _ _ _ _ _ _
  · exact zDa hcall ih _ _ _ _ _ _ _ _ _ _
  · split
    · exact zDa hcall ih _ _ _ _ _ _ _ _ _ _
    · split
      · unfold zEV
        rw [yJ]; exact ih _ _ _ _ _ _
      · trivial
theorem y9:∀ (c:CCode) (tm:Tm) (ds:xe) (h:zC) (n:Key),zk n (zp P call c tm ds h n)
 | .skip,_,_,_,_=>Nat.le_refl _
 | .region ops,tm,ds,h,n=>kF hcall ops [] tm ds h n
 | .dregion ops,tm,ds,h,n=>zIT hcall ops [] [] tm ds h n
 | .seq a b,tm,ds,h,n=>qa (fun tm ds h n=>y9 b tm ds h n) (y9 a tm ds h n)
 | .cond x a b,tm,ds,h,n=>by
  exact zEX (C:=fun k=>zk n (k tm ds h n)) _ (fun _=>y9 a tm ds h n) (fun _=>y9 b tm ds h n) trivial
 | .block id b,tm,ds,h,n=>ue id (y9 b tm ds h n)
 | .loop b,tm,ds,h,n=>by
  show zk n (zBf zAc (zp P call b) tm ds h n)
  have:∀ (fuel:Nat) (tm:Tm) (ds:xe) (h:zC) (n:Key),zk n (zBf fuel (zp P call b) tm ds h n):=by
   intro fuel
   induction fuel with
   | zero=>intros; trivial
   | succ m ih=>intro tm ds h n; exact qa ih (y9 b tm ds h n)
  exact this _ _ _ _ _
 | .exit _,_,_,_,_=>Nat.le_refl _
 | .ret,_,_,_,_=>Nat.le_refl _
 | .scope b,tm,ds,h,n=>y9 b tm ds h n
 | .bad _,_,_,_,_=>trivial
end
def xF (P:Program) (F N:Nat) (ψ₀:Psi) (g₀:Fam) (n₀:Key) (w₀:World):R→Exit→Act→World→Prop
 | .ok cx tm ds h n,e,a,w=>zVT cx e∧∃ ψ,St P F N ψ tm ds h n a w∧yH ψ₀ g₀ n₀ w₀ ψ (zC.fam h) n w∧n.room
 | .fork r s,e,a,w=>xF P F N ψ₀ g₀ n₀ w₀ r e a w∨xF P F N ψ₀ g₀ n₀ w₀ s e a w
 | _,_,_,_=>False
section
variable {F N:Nat} {ψ₀ ψ₁:Psi} {g₀ g₁:Fam} {n₀ n₁:Key} {w₀ w₁:World}
theorem xF.trans (hp:yH ψ₀ g₀ n₀ w₀ ψ₁ g₁ n₁ w₁) {e:Exit} {a:Act} {w:World}:∀ {r:R},xF P F N ψ₁ g₁ n₁ w₁ r e a w→xF P F N ψ₀ g₀ n₀ w₀ r e a w
 | .ok ..,⟨h1,ψ,h2,h3,h4⟩=>⟨h1,ψ,h2,hp.trans h3,h4⟩
 | .ret ..,h=>h
 | .err _,h=>h
 | .fork _ _,h=>h.imp (xF.trans hp) (xF.trans hp)
theorem kQ {k:K} {e:Exit} {a:Act} {w:World}:∀ {r:R},zf (qK k r)→xF P F N ψ₀ g₀ n₀ w₀ r e a w →
 (e=.normal∧∃ tm ds h n ψ,St P F N ψ tm ds h n a w∧yH ψ₀ g₀ n₀ w₀ ψ (zC.fam h) n w∧zf (k tm ds h n) ∧
   ∀ e' a' w',xF P F N ψ₀ g₀ n₀ w₀ (k tm ds h n) e' a' w'→xF P F N ψ₀ g₀ n₀ w₀ (qK k r) e' a' w') ∨
 (e≠.normal∧xF P F N ψ₀ g₀ n₀ w₀ (qK k r) e a w)
 | .ok .normal tm ds h n,hc,⟨h1,ψ,h2,h3,h4⟩=>by
  cases e <;> first | exact h1.elim | skip
  exact .inl ⟨rfl,tm,ds,h,n,ψ,h2,h3,hc,fun e' a' w' ho=>ho⟩
 | .ok (.exit i) tm ds h n,hc,⟨h1,ψ,h2,h3,h4⟩=>.inr ⟨by rintro rfl; exact h1.elim,h1,ψ,h2,h3,h4⟩
 | .ok .ret tm ds h n,hc,⟨h1,ψ,h2,h3,h4⟩=>.inr ⟨by rintro rfl; exact h1.elim,h1,ψ,h2,h3,h4⟩
 | .ret ..,hc,_=>hc.elim
 | .err _,hc,_=>hc.elim
 | .fork r s,hc,ho=>by
  rcases ho with ho | ho
  · rcases kQ hc.1 ho with ⟨h1,tm,ds,h,n,ψ,h2,h3,h4,h5⟩ | ⟨h1,h2⟩
    · exact .inl ⟨h1,tm,ds,h,n,ψ,h2,h3,h4,fun e' a' w' q=>.inl (h5 e' a' w' q)⟩
    · exact .inr ⟨h1,.inl h2⟩
  · rcases kQ hc.2 ho with ⟨h1,tm,ds,h,n,ψ,h2,h3,h4,h5⟩ | ⟨h1,h2⟩
    · exact .inl ⟨h1,tm,ds,h,n,ψ,h2,h3,h4,fun e' a' w' q=>.inr (h5 e' a' w' q)⟩
    · exact .inr ⟨h1,.inr h2⟩
theorem uh {id:Nat} {e:Exit} {a:Act} {w:World} {Q:Exit→Act→World→Prop}:∀ {r:R},(∀ e a w,xF P F N ψ₀ g₀ n₀ w₀ (uq id r) e a w→Q e a w)→xF P F N ψ₀ g₀ n₀ w₀ r e a w→Exit.inBlock id Q e a w
 | .ok .normal tm ds h n,hq,⟨h1,ψ,h2,h3,h4⟩=>by
  cases e <;> first | exact h1.elim | skip
  exact hq .normal a w ⟨trivial,ψ,h2,h3,h4⟩
 | .ok (.exit i) tm ds h n,hq,⟨h1,ψ,h2,h3,h4⟩=>by
  cases e <;> first | exact h1.elim | skip
  rename_i j
  have h1:i=j:=h1
  subst h1
  rw [zAh] at hq
  unfold Exit.inBlock
  simp only
  split
  · rename_i e
    rw [if_pos e] at hq
    exact hq .normal a w ⟨trivial,ψ,h2,h3,h4⟩
  · rename_i e
    rw [if_neg e] at hq
    exact hq (.exit i) a w ⟨rfl,ψ,h2,h3,h4⟩
 | .ok .ret tm ds h n,hq,⟨h1,ψ,h2,h3,h4⟩=>by
  cases e <;> first | exact h1.elim | skip
  exact hq .ret a w ⟨trivial,ψ,h2,h3,h4⟩
 | .ret ..,_,ho=>ho.elim
 | .err _,_,ho=>ho.elim
 | .fork r s,hq,ho=>by
  rcases ho with ho | ho
  · exact uh (fun e a w h=>hq e a w (.inl h)) ho
  · exact uh (fun e a w h=>hq e a w (.inr h)) ho
theorem zBp {Q:Exit→Act→World→Prop} {e:Exit} {a:Act} {w:World}:∀ {r:R},(xF P F N ψ₀ g₀ n₀ w₀ r e a w→Q e a w)→xF P F N ψ₀ g₀ n₀ w₀ r e a w→Exit.noGoto Q e a w
 | .ok cx tm ds h n,hq,ho=>by
  cases e <;> first | exact hq ho | (cases cx <;> exact ho.1.elim)
 | .ret ..,_,ho=>ho.elim
 | .err _,_,ho=>ho.elim
 | .fork r s,hq,ho=>by
  rcases ho with ho | ho
  · exact zBp (fun h=>hq (.inl h)) ho
  · exact zBp (fun h=>hq (.inr h)) ho
end
theorem zJS (call:ym) (b:CCode):zp P call (.loop b)=zBf zAc (zp P call b):=rfl
theorem zGN (F N:Nat) (b:Code):zU P F N (.loop b)=.loop (zU P F N b):=rfl
def up (P:Program) (c:Code) (Q:Exit→Act→World→Prop) (a:Act) (w:World):Prop:=
 ∀ (b:Frame) (k:List Item) (cs:List Frame),∃ e a' w',Q e a' w'∧Arrives P (lone (b.at a (.code c::.inLoop c::k)) cs w) b k cs e a' w'
theorem zH1 {c:Code} {Q:Exit→Act→World→Prop} {a:Act} {w:World} (h:c.wp P (Exit.then (up P c Q) Q) a w):up P c Q a w:=by
 intro b k cs
 obtain ⟨e,a₁,w₁,hq,harr⟩:=h b (.inLoop c::k) cs
 cases e with
 | normal=>
  obtain ⟨e₂,a₂,w₂,hq₂,harr₂⟩:=hq b k cs
  exact ⟨e₂,a₂,w₂,hq₂,.of_steps (Steps.trans harr (.one step_inLoop)) harr₂⟩
 | exit id=>exact ⟨_,a₁,w₁,hq,.pass (x:=.inLoop c) rfl (fun _ _=>.inl (by simp)) harr⟩
 | goto l=>exact ⟨_,a₁,w₁,hq,.pass (x:=.inLoop c) rfl (fun _ _=>.inl (by simp)) harr⟩
 | ret=>exact ⟨_,a₁,w₁,hq,.pass (x:=.inLoop c) rfl (fun _ _=>.inl (by simp)) harr⟩
 | panic ch=>exact ⟨_,a₁,w₁,hq,.pass (x:=.inLoop c) rfl (fun _ _=>.inl (by simp)) harr⟩
 | outgrown=>exact ⟨_,a₁,w₁,hq,.pass (x:=.inLoop c) rfl (fun _ _=>.inl (by simp)) harr⟩
theorem zFO {c:Code} {Q:Exit→Act→World→Prop} {a:Act} {w:World} (h:up P c Q a w):(Code.loop c).wp P Q a w:=by
 intro b k cs
 obtain ⟨e,a',w',hq,harr⟩:=h b k cs
 exact ⟨e,a',w',hq,.of_steps (.one step_loop) harr⟩
def kY (P:Program) (F N:Nat) (call:ym):Prop:=∀ (id:Nat) (ops:Array Oper) (ψ:Psi) (tm:Tm) (ds:xe) (h:zC) (n:Key) (a:Act) (w:World),zFZ ops.toList=true →
 St P F N ψ tm ds h n a w→zf (zp P call (zIQ P F N ops.toList) tm ds h n) →
 (Code.region id ops true).wp P (xF P F N ψ (zC.fam h) n w (zp P call (zIQ P F N ops.toList) tm ds h n)) a w
theorem zKG (l:List Oper) (h:zFZ l=true):∀ o∈l,zDG o.op=false:=by
 induction l with
 | nil=>intro o ho; cases ho
 | cons x l ih=>
  intro o ho
  unfold zFZ at h
  rw [Bool.and_eq_true] at h
  rcases List.mem_cons.1 ho with rfl | ho
  · have:=h.1
    cases hr:zDG o.op with
    | false=>rfl
    | true=>rw [hr] at this; cases this
  · exact ih h.2 o ho
theorem vv {F N:Nat} {call:ym} (hcall:yP P call) (hdraw:kY P F N call):∀ (c:Code) {ψ:Psi} {tm:Tm} {ds:xe} {h:zC} {n:Key} {a:Act} {w:World},
 yY c=true→St P F N ψ tm ds h n a w→zf (zp P call (zU P F N c) tm ds h n)→c.wp P (xF P F N ψ (zC.fam h) n w (zp P call (zU P F N c) tm ds h n)) a w:=by
 intro c
 induction c with
 | skip=>intro ψ tm ds h n a w _ hst hc; exact wp_skip ⟨trivial,ψ,hst,yH.refl hst.rel,hc⟩
 | label l=>intro ψ tm ds h n a w _ hst hc; exact wp_label ⟨trivial,ψ,hst,yH.refl hst.rel,hc⟩
 | region id ops dr=>
  intro ψ tm ds h n a w hnr hst hc
  cases dr with
  | true=>exact hdraw id ops ψ tm ds h n a w hnr hst hc
  | false=>
   refine wp_region ?_
   have hc':zf (yw P call (jP P F N ops.toList [] ops.toList) [] tm ds h n):=hc
   have:=zJm (F:=F) (N:=N) hcall (zMY (P:=P) ops (xF P F N ψ (zC.fam h) n w (yw P call (jP P F N ops.toList [] ops.toList) [] tm ds h n)))
    ops.toList 0 rfl (fun o ho hr=>by rw [zKG _ hnr o ho] at hr; cases hr) hst (dl:=[]) (es:=[]) (fun t i hi=>by cases hi) hc'
    (fun tm' ds' h' n' ψ' a' w' g1 g2 g3 g4=>g4 (fun r=>xF P F N ψ (zC.fam h) n w r .normal a' w') (fun _ _ h=>.inl h) (fun _ _ h=>.inr h) ⟨trivial,ψ',g1,g2,g3⟩)
   rw [Array.length_toList] at this
   rw [List.range_eq_range']
   exact this
 | seq x y ihx ihy=>
  intro ψ tm ds h n a w hnr hst hc
  have hnr:yY x=true∧yY y=true:=by simpa [yY] using hnr
  have hc:zf (qK (zp P call (zU P F N y)) (zp P call (zU P F N x) tm ds h n)):=hc
  have hab:=fun tm ds h n=>y9 (P:=P) hcall.above (zU P F N y) tm ds h n
  refine wp_seq (wp_mono (ihx hnr.1 hst (xq hab hc)) fun e a' w' ho=>?_)
  rcases kQ hc ho with ⟨rfl,tm',ds',h',n',ψ',h2,h3,h4,h5⟩ | ⟨h1,h2⟩
  · exact wp_mono (ihy hnr.2 h2 h4) fun e'' a'' w'' ho'=>h5 e'' a'' w'' (xF.trans h3 ho')
  · cases e <;> first | exact absurd rfl h1 | exact h2
 | cond x p q ihp ihq=>
  intro ψ tm ds h n a w hnr hst hc
  have hnr:yY p=true∧yY q=true:=by simpa [yY] using hnr
  unfold zU at hc ⊢
  cases hx:zi P ⟨F,N,[]⟩ x with
  | none=>simp only [hx] at hc; exact hc.elim
  | some cx=>
   simp only [hx] at hc ⊢
   have hv:=zJl hst (dl:=[]) (es:=[]) (fun t i hi=>by cases hi) [x] x (by simp) cx hx
   have hc:zf (zGR (zp P call (zU P F N p)) (zp P call (zU P F N q)) (aV [] tm cx) tm ds h n):=hc
   show (Code.cond x p q).wp P (xF P F N ψ (zC.fam h) n w (zGR (zp P call (zU P F N p)) (zp P call (zU P F N q)) (aV [] tm cx) tm ds h n)) a w
   revert hc
   refine zEX (C:=fun k=>zf (k tm ds h n)→(Code.cond x p q).wp P (xF P F N ψ (zC.fam h) n w (k tm ds h n)) a w) _ (fun e hc=>?_) (fun e hc=>?_) (fun hc=>hc.elim)
   · rw [e] at hv
     exact wp_cond_true (zJ.1 hv) (ihp hnr.1 hst hc)
   · rw [e] at hv
     exact wp_cond_false (zJ.1 hv) (ihq hnr.2 hst hc)
 | block id b ih=>
  intro ψ tm ds h n a w hnr hst hc
  have hc:zf (uq id (zp P call (zU P F N b) tm ds h n)):=hc
  refine wp_block (wp_mono (ih hnr hst (jx id hc)) fun e a' w' ho=>?_)
  exact uh (fun _ _ _ h=>h) ho
 | loop b ih=>
  intro ψ tm ds h n a w hnr hst hc
  rw [zGN,zJS] at hc ⊢
  have main:∀ (fuel:Nat) {ψ:Psi} {tm:Tm} {ds:xe} {h:zC} {n:Key} {a:Act} {w:World},St P F N ψ tm ds h n a w→zf (zBf fuel (zp P call (zU P F N b)) tm ds h n) →
   up P b (xF P F N ψ (zC.fam h) n w (zBf fuel (zp P call (zU P F N b)) tm ds h n)) a w:=by
   intro fuel
   induction fuel with
   | zero=>intro ψ tm ds h n a w _ hc; exact hc.elim
   | succ m ihm=>
    intro ψ tm ds h n a w hst hc
    have hc:zf (qK (zBf m (zp P call (zU P F N b))) (zp P call (zU P F N b) tm ds h n)):=hc
    have hab:∀ tm ds h n,zk n (zBf m (zp P call (zU P F N b)) tm ds h n):=by
     have:∀ (fuel:Nat) (tm:Tm) (ds:xe) (h:zC) (n:Key),zk n (zBf fuel (zp P call (zU P F N b)) tm ds h n):=by
      intro fuel
      induction fuel with
      | zero=>intros; trivial
      | succ m ih=>intro tm ds h n; exact qa ih (y9 hcall.above _ tm ds h n)
     exact this m
    refine zH1 (wp_mono (ih hnr hst (xq hab hc)) fun e a' w' ho=>?_)
    rcases kQ hc ho with ⟨rfl,tm',ds',h',n',ψ',h2,h3,h4,h5⟩ | ⟨h1,h2⟩
    · intro b' k cs
      obtain ⟨e,a'',w'',hq,harr⟩:=ihm h2 h4 b' k cs
      exact ⟨e,a'',w'',h5 e a'' w'' (xF.trans h3 hq),harr⟩
    · cases e <;> first | exact absurd rfl h1 | exact h2
  exact zFO (main zAc hst hc)
 | exit id=>intro ψ tm ds h n a w _ hst hc; exact wp_exit ⟨rfl,ψ,hst,yH.refl hst.rel,hc⟩
 | ret=>intro ψ tm ds h n a w _ hst hc; exact wp_ret ⟨trivial,ψ,hst,yH.refl hst.rel,hc⟩
 | scope b ih=>
  intro ψ tm ds h n a w hnr hst hc
  exact wp_scope_straight (wp_mono (ih hnr hst hc) fun e a' w' ho=>zBp (fun h=>h) ho)
 | _=>intro ψ tm ds h n a w _ hst hc; exact hc.elim
end
end Go.Ev
namespace Go.Ev
variable [Sym]
noncomputable section
variable {P:Program}
variable [SymFact P]
theorem zAl {F N:Nat} {ψ:Psi} {tm:Tm} {a:Act} {t:Nat} {x:zT} (hf:xR ψ F N tm a) (hx:zi P ⟨F,N,[]⟩ (.tmp t)=some x):zH ψ (aV [] tm x) (a.tmps.getD t undef):=by
 unfold zi xL at hx
 simp only at hx
 split at hx
 · rename_i hb
   injection hx with hx; subst hx
   rw [Bool.and_eq_true,Bool.and_eq_true] at hb
   exact hf.tmp t hb.1.1 (zL hb.1.2) (zL hb.2)
 · cases hx
theorem zDY {ψ:Psi} {h:zC} {w:World} (hrel:qk ψ (zC.fam h) w) {b:Key} {p:Pl} {vs:List CV} (hp:ψ b=some p) (hv:zAZ h b=some vs):zAq ψ w p vs:=by
 unfold zAZ at hv
 split at hv
 · rename_i q hq; injection hv with hv; subst hv; exact yc.toRo (hrel b _ p hq hp)
 · rename_i q hq; injection hv with hv; subst hv; exact hrel b _ p hq hp
 · cases hv
def zJI (tmps:Array Value):ResultVar→Sem Value
 | .tmp t=>pure (tmps.getD t undef)
 | .cell a t=>do loadVar t (← asAddr (tmps.getD a undef))
theorem zSx {F N:Nat} {ψ:Psi} {tm:Tm} {a:Act} {h:zC} {w:World} (hf:xR ψ F N tm a) (hrel:qk ψ (zC.fam h) w) {r:ResultVar} {c:CRes} {v:CV} (hc:xd P F N r=some c)
 (hv:zQS h tm c=some v):∃ x,(zJI a.tmps r).run P w=.ok x w∧zH ψ v x:=by
 unfold xd at hc
 split at hc
 · rename_i t
   cases hx:zi P ⟨F,N,[]⟩ (.tmp t) with
   | none=>rw [hx] at hc; cases hc
   | some x=>
    rw [hx] at hc
    injection hc with hc; subst hc
    injection hv with hv; subst hv
    exact ⟨_,rfl,zAl hf hx⟩
 · rename_i t ty
   split at hc
   · rename_i s x ha hs hx
     injection hc with hc; subst hc
     have hr:=zAl hf hx
     unfold zQS at hv
     simp only at hv
     split at hv
     · rename_i b off he
       rw [he,zu] at hr
       obtain ⟨p,hp,hr⟩:=hr
       split at hv
       · rename_i cs hcs
         have hcells:=zDY hrel hp hcs
         cases hl:zAa cs off s with
         | none=>rw [hl] at hv; cases hv
         | some l=>
          rw [hl] at hv
          injection hv with hv; subst hv
          obtain ⟨xs,hrun,hxs⟩:=xk (P:=P) hcells hl
          exact ⟨.agg xs.toArray,by simp only [zJI,hr,asAddr,Sem.run_bind,Sem.run_pure,Result.andThen_ok,loadVar,jC ha,if_true,ye hs,hrun],yn.2 ⟨_,rfl,by simpa using hxs⟩⟩
       · cases hv
     · cases hv
   · rename_i s x ha hs hx
     injection hc with hc; subst hc
     have hr:=zAl hf hx
     unfold zQS at hv
     simp only at hv
     split at hv
     · rename_i b off he
       rw [he,zu] at hr
       obtain ⟨p,hp,hr⟩:=hr
       split at hv
       · rename_i cs hcs
         have hcells:=zDY hrel hp hcs
         rw [qV] at hv
         obtain ⟨y,hrun,hy⟩:=zAJ (P:=P) hcells hv
         exact ⟨y,by simp only [zJI,hr,asAddr,Sem.run_bind,Sem.run_pure,Result.andThen_ok,loadVar,jC ha,Bool.false_eq_true,if_false,hrun],hy⟩
       · cases hv
     · cases hv
   · cases hc
theorem zFr {F N:Nat} {ψ:Psi} {tm:Tm} {a:Act} {h:zC} {w:World} (hf:xR ψ F N tm a) (hrel:qk ψ (zC.fam h) w):∀ {l:List ResultVar} {cs:List CRes} {vs:List CV},
 xD (xd P F N) l=some cs→zCH h tm cs=some vs→∃ xs,(l.mapM (zJI a.tmps)).run P w=.ok xs w∧zS ψ vs xs
 | [],cs,vs,hc,hv=>by
  injection hc with hc; subst hc
  injection hv with hv; subst hv
  exact ⟨[],rfl,zM.2 rfl⟩
 | r::l,cs,vs,hc,hv=>by
  unfold xD at hc
  cases h1:xd P F N r with
  | none=>rw [h1] at hc; cases hc
  | some c=>
   simp only [h1] at hc
   cases h2:xD (xd P F N) l with
   | none=>rw [h2] at hc; cases hc
   | some cs'=>
    simp only [h2] at hc
    injection hc with hc; subst hc
    unfold zCH at hv
    cases h3:zQS h tm c with
    | none=>rw [h3] at hv; cases hv
    | some v=>
     simp only [h3] at hv
     cases h4:zCH h tm cs' with
     | none=>rw [h4] at hv; cases hv
     | some vs'=>
      simp only [h4] at hv
      injection hv with hv; subst hv
      obtain ⟨x,g1,g2⟩:=zSx hf hrel h1 h3
      obtain ⟨xs,g3,g4⟩:=zFr hf hrel h2 h4
      exact ⟨x::xs,by simp only [List.mapM_cons,Sem.run_bind,g1,Result.andThen_ok,g3,Sem.run_pure],zW.2 ⟨g2,g4⟩⟩
theorem zDE {F N:Nat} {ψ:Psi} {tm:Tm} {a:Act} {h:zC} {w:World} {fn:Func} (hf:xR ψ F N tm a) (hrel:qk ψ (zC.fam h) w) {cs:List CRes} {v:CV}
 (hc:xD (xd P F N) fn.results.toList=some cs) (hv:zCK h tm cs=some v):∃ x,(results fn a.tmps).run P w=.ok x w∧zH ψ v x:=by
 have hm:∀ {xs:List Value},(fn.results.toList.mapM (zJI a.tmps)).run P w=.ok xs w→(fn.results.mapM (zJI a.tmps)).run P w=.ok xs.toArray w:=by
  intro xs hx
  rw [Array.mapM_eq_mapM_toList,Sem.run_map,hx]; rfl
 have hres:(results fn a.tmps).run P w=((fn.results.mapM (zJI a.tmps)).run P w).andThen fun vs w=>.ok (if h:vs.size=1 then vs[0] else .tuple vs) w:=by
  have:results fn a.tmps=(fn.results.mapM (zJI a.tmps) >>= fun vs=>pure (if h:vs.size=1 then vs[0] else .tuple vs)):=by
   unfold results
   congr 1
  rw [this,Sem.run_bind]; rfl
 unfold zCK at hv
 split at hv
 · rename_i u hl
   injection hv with hv; subst hv
   obtain ⟨xs,h1,h2⟩:=zFr hf hrel hc hl
   obtain ⟨x,r,rfl,h3,h4⟩:=zd.1 h2
   rw [zM] at h4; subst h4
   exact ⟨x,by rw [hres,hm h1,Result.andThen_ok]; rfl,h3⟩
 · rename_i vs hne hl
   injection hv with hv; subst hv
   obtain ⟨xs,h1,h2⟩:=zFr hf hrel hc hl
   refine ⟨.tuple xs.toArray,?_,yW.2 ⟨_,rfl,h2⟩⟩
   rw [hres,hm h1,Result.andThen_ok]
   have:¬ (xs.toArray.size=1):=by
    intro h
    have hl:=h2.length
    have:vs.length=1:=by simp at h; omega
    match vs,this with
    | [u],_=>exact hne u rfl
   rw [dif_neg this]
 · cases hv
theorem zK6 {i j:Nat} (hi:i≤271) (hj:j≤271) (h:i≠j):Loc.ofNat i≠Loc.ofNat j:=fun e=>h (Loc.ofNat_inj hi hj e)
theorem zGV {ψ:Psi}:∀ (args:List CV) (as:List Value) (i:Nat) (tm:Tm) (t:Nat) (v:Value),zS ψ args as→t≤271→(t<i∨i+as.length≤t→zH ψ (qZ (Loc.ofNat t) tm) v)→(∀ u,i≤t→as[t - i]? = some u→u=v) →
 (i≤t→qZ (Loc.ofNat t) tm=.any)→zH ψ (qZ (Loc.ofNat t) (qg args i tm)) v
 | [],as,i,tm,t,v,ha,ht,h1,h2,h3=>by
  rw [zM] at ha; subst ha
  show zH ψ (qZ (Loc.ofNat t) tm) v
  rcases Nat.lt_or_ge t i with h | h
  · exact h1 (.inl h)
  · exact h1 (.inr (by simpa using h))
 | c::args,as,i,tm,t,v,ha,ht,h1,h2,h3=>by
  obtain ⟨x,r,rfl,hx,hr⟩:=zd.1 ha
  unfold qg
  split
  · rename_i hle
    have hle:=zL hle
    refine zGV args r (i+1) (ko c (Loc.ofNat i) tm) t v hr ht (fun h=>?_) (fun u hu hg=>?_) (fun hu=>?_)
    · by_cases e:t=i
      · subst e
        rw [j5]
        have:x=v:=h2 x (Nat.le_refl _) (by simp)
        rw [← this]; exact hx
      · rw [xf _ _ _ _ (zK6 ht hle e)]
        refine h1 ?_
        rcases h with h | h
        · exact .inl (by omega)
        · exact .inr (by simp; omega)
    · refine h2 u (by omega) ?_
      have:t - i=(t - (i+1))+1:=by omega
      rw [this]; simpa using hg
    · rw [xf _ _ _ _ (zK6 ht hle (by omega))]
      exact h3 (by omega)
  · rename_i hle
    have hlt:¬ i≤271:=fun h=>by rw [Nat.ble_eq_true_of_le h] at hle; cases hle
    exact h1 (.inl (by omega))
theorem zQm {ψ:Psi} {F N:Nat} {args:List CV} {as:Array Value} (ha:zS ψ args as.toList):xR ψ F N (qg args 0 .nil) { tmps:=as++Array.replicate (N - as.size) undef,defers:=[] }:=by
 refine ⟨by simp; omega,fun t _ ht hN=>?_⟩
 refine zGV args as.toList 0 .nil t _ ha ht (fun _=>by rw [zEU]; exact x7) (fun u _ hu=>?_) (fun _=>zEU _)
 simp only [Nat.sub_zero,Array.getElem?_toList] at hu
 have hlt:t<as.size:=by
  rcases Nat.lt_or_ge t as.size with h | h
  · exact h
  · rw [Array.getElem?_eq_none h] at hu; cases hu
 rw [Array.getD_eq_getD_getElem?,Array.getElem?_append_left hlt,hu]; rfl
theorem zBL {rs:List CRes} {tm:Tm} {h:zC} {n:Key}:zk n (zDe rs tm h n):=by
 unfold zDe; split
 · exact Nat.le_refl _
 · trivial
theorem zCh {call:ym} {k:zC→Key→R} {f:FuncId} {args:List CV} {r:xe} {h:zC} {n:Key} :
 vB call k ((f,args)::r) h n=jQ (fun _ h n=>vB call k r h n) (call true f args h n):=rfl
theorem vb {call:ym} (hcall:xA call) {k:zC→Key→R} (hk:∀ h n,zk n (k h n)):∀ (ds:xe) (h:zC) (n:Key),zk n (vB call k ds h n)
 | [],h,n=>hk h n
 | (f,args)::r,h,n=>by
  rw [zCh]
  exact jG (fun _ h n=>vb hcall hk r h n) (hcall _ _ _ _ _)
theorem vE {call:ym} (hcall:xA call) (d:Bool) (rs:List CRes) (tm:Tm) (ds:xe) (h:zC) (n:Key):zk n (j4 d call rs tm ds h n):=by
 unfold j4
 split
 · exact zBL
 · split
   · exact vb hcall (fun _ _=>zBL) _ _ _
   · trivial
theorem kX {call:ym} (hcall:xA call) {n:Key} (d:Bool) (rs:List CRes):∀ {r:R},zk n r→zk n (y6 d call rs r)
 | .ok .normal tm ds h n',ha=>zk.le ha (vE hcall d rs tm ds h n')
 | .ok (.exit _) ..,_=>trivial
 | .ok .ret tm ds h n',ha=>zk.le ha (vE hcall d rs tm ds h n')
 | .ret ..,_=>trivial
 | .err _,_=>trivial
 | .fork _ _,h=>⟨kX hcall d rs h.1,kX hcall d rs h.2⟩
theorem xX {call:ym} (hcall:xA call) (d:Bool) (rs:List CRes):∀ {r:R},zf (y6 d call rs r)→zf r
 | .ok .normal tm ds h n',hc=>uW hc (vE hcall d rs tm ds h n')
 | .ok (.exit _) ..,hc=>hc.elim
 | .ok .ret tm ds h n',hc=>uW hc (vE hcall d rs tm ds h n')
 | .ret ..,hc=>hc.elim
 | .err _,hc=>hc.elim
 | .fork _ _,h=>⟨xX hcall d rs h.1,xX hcall d rs h.2⟩
section
variable {F N:Nat} {call:ym} {fn:Func} {ψ₀:Psi} {g₀:Fam} {n₀:Key} {w₀:World}
theorem zl.trans {ψ₁:Psi} {g₁:Fam} {n₁:Key} {w₁:World} (hp:yH ψ₀ g₀ n₀ w₀ ψ₁ g₁ n₁ w₁) {v:Value} {w:World}:∀ {r:R},zl ψ₁ g₁ n₁ w₁ r v w→zl ψ₀ g₀ n₀ w₀ r v w
 | .ok ..,h=>h
 | .ret ..,⟨ψ,h1,h2⟩=>⟨ψ,hp.trans h1,h2⟩
 | .err _,h=>h
 | .fork _ _,h=>h.imp (zl.trans hp) (zl.trans hp)
theorem zAs {k:CV→zC→Key→R} {v:Value} {w:World} {Z:Prop}:∀ {r:R},zf (jQ k r)→zl ψ₀ g₀ n₀ w₀ r v w →
 (∀ cv h n ψ,yH ψ₀ g₀ n₀ w₀ ψ (zC.fam h) n w→zH ψ cv v→zf (k cv h n)→(∀ u w',zl ψ₀ g₀ n₀ w₀ (k cv h n) u w'→zl ψ₀ g₀ n₀ w₀ (jQ k r) u w')→Z)→Z
 | .ok ..,_,h,_=>h.elim
 | .err _,_,h,_=>h.elim
 | .ret cv h n,hc,⟨ψ,h1,h2⟩,hz=>hz cv h n ψ h1 h2 hc fun _ _ h=>h
 | .fork r s,hc,h,hz=>by
  rcases h with h | h
  · exact zAs hc.1 h fun cv h n ψ a b c d=>hz cv h n ψ a b c fun u w' q=>.inl (d u w' q)
  · exact zAs hc.2 h fun cv h n ψ a b c d=>hz cv h n ψ a b c fun u w' q=>.inr (d u w' q)
theorem ju {tmps:Array Value} {R R':Ending→World→Prop} (hR:∀ e w,R e w→R' e w):∀ (ds:List Deferred) (u:FrameMode) (w:World),Leaves P fn tmps R ds u w→Leaves P fn tmps R' ds u w
 | [],.returning,w,⟨v,h1,h2⟩=>⟨v,h1,hR _ _ h2⟩
 | [],.panicking _,w,h=>hR _ _ h
 | [],.run,w,h=>h
 | d::ds,u,w,⟨h0,fv,cap,f,args,h1,h2,h3⟩=>⟨h0,fv,cap,f,args,h1,h2,CallsD.mono h3 fun e u' w' he=>by
  cases e with
  | returned v=>exact ju hR ds _ _ he
  | panicked c=>exact ju hR ds _ _ he
  | outgrown=>exact hR _ _ he⟩
theorem zDM (hcall:yP P call) {rs:List CRes} {tm:Tm} (hrs:xD (xd P F N) fn.results.toList=some rs):∀ (ds:xe) {ψ:Psi} {h:zC} {n:Key} {a:Act} {w:World} {l:List Deferred},
 xR ψ F N tm a→kc P ψ ds l→Rel ψ (zC.fam h) w→kR P ψ→xc ψ n→zf (vB call (fun h n=>zDe rs tm h n) ds h n) →
 Leaves P fn a.tmps (fun e w'=>∃ v,e=.returned v∧zl ψ (zC.fam h) n w (vB call (fun h n=>zDe rs tm h n) ds h n) v w') l .returning w
 | [],ψ,h,n,a,w,l,hf,hd,hrel,hg,hfr,hc=>by
  unfold kc at hd; subst hd
  have hc:zf (zDe rs tm h n):=hc
  show ∃ v,(results fn a.tmps).run P w=.ok v w∧∃ v',Ending.returned v=.returned v'∧zl ψ (zC.fam h) n w (zDe rs tm h n) v' w
  unfold zDe at hc ⊢
  cases hv:zCK h tm rs with
  | none=>rw [hv] at hc; exact hc.elim
  | some v=>
   obtain ⟨x,h1,h2⟩:=zDE hf hrel.on hrs hv
   exact ⟨x,h1,x,rfl,ψ,yH.refl hrel,h2⟩
 | (f,args)::r,ψ,h,n,a,w,l,hf,hd,hrel,hg,hfr,hc=>by
  obtain ⟨d,l',rfl,⟨fv,cap,args',e1,e2,e3⟩,hd'⟩:=hd
  rw [zCh] at hc ⊢
  have hcl:=jF (fun _ h n=>vb hcall.above (fun _ _=>zBL) r h n) hc
  obtain ⟨h1,h2⟩:=hcall.defers f args h n ψ w args' e3 hg hrel hfr hcl
  refine ⟨by simp,fv,cap,f,args',e1,by rw [e2,h1],CallsD.mono h2 fun e u w' ⟨hu,v,he,v',hr⟩=>?_⟩
  subst hu he
  show Leaves P fn a.tmps _ l' (settle .returning) w'
  refine zAs hc hr fun cv h' n' ψ' q1 q2 q3 q4=>?_
  have:=zDM hcall hrs r (hf.mono q1.ext) (hd'.mono q1.ext) q1.rel (hg.mono q1.ext) (q1.fresh hfr) q3
  refine ju (fun e w'' ⟨v,he,hr⟩=>⟨v,he,q4 _ _ (zl.trans q1 hr)⟩) _ _ _ this
theorem zHc (hcall:yP P call) {rs:List CRes} (hrs:xD (xd P F N) fn.results.toList=some rs) {ψ:Psi} {tm:Tm} {ds:xe} {h:zC} {n:Key} {a:Act} {w:World}
 (hst:St P F N ψ tm ds h n a w) (hc:zf (j4 false call rs tm ds h n)) :
 Leaves P fn a.tmps (fun e w'=>∃ v,e=.returned v∧zl ψ (zC.fam h) n w (j4 false call rs tm ds h n) v w') a.defers .returning w:=by
 have e:j4 false call rs tm ds h n=vB call (fun h n=>zDe rs tm h n) ds h n:=by cases ds <;> rfl
 rw [e] at hc ⊢
 exact zDM hcall hrs ds hst.frame hst.dfr hst.rel hst.glob hst.fresh hc
theorem zGz {rs:List CRes} (hrs:xD (xd P F N) fn.results.toList=some rs) {ψ:Psi} {tm:Tm} {ds:xe} {h:zC} {n:Key} {a:Act} {w:World}
 (hst:St P F N ψ tm ds h n a w) (hc:zf (j4 true call rs tm ds h n)) :
 a.defers=[]∧∃ v,(results fn a.tmps).run P w=.ok v w∧zl ψ (zC.fam h) n w (j4 true call rs tm ds h n) v w:=by
 cases ds with
 | cons f ds=>exact hc.elim
 | nil=>
  have hd:=hst.dfr
  unfold kc at hd
  refine ⟨hd,?_⟩
  have hc:zf (zDe rs tm h n):=hc
  show ∃ v,_∧zl ψ (zC.fam h) n w (zDe rs tm h n) v w
  unfold zDe at hc ⊢
  cases hv:zCK h tm rs with
  | none=>rw [hv] at hc; exact hc.elim
  | some v=>
   obtain ⟨x,h1,h2⟩:=zDE hst.frame hst.rel.on hrs hv
   exact ⟨x,h1,ψ,yH.refl hst.rel,h2⟩
theorem wW (d:Bool) (rs:List CRes) {e:Exit} {a:Act} {w:World} {Z:Prop}:∀ {r:R},zf (y6 d call rs r)→xF P F N ψ₀ g₀ n₀ w₀ r e a w →
 (∀ tm ds h n ψ,(e=.normal∨e=.ret)→St P F N ψ tm ds h n a w→yH ψ₀ g₀ n₀ w₀ ψ (zC.fam h) n w→zf (j4 d call rs tm ds h n) →
   (∀ u w',zl ψ₀ g₀ n₀ w₀ (j4 d call rs tm ds h n) u w'→zl ψ₀ g₀ n₀ w₀ (y6 d call rs r) u w')→Z)→Z
 | .ok .normal tm ds h n,hc,⟨h1,ψ,h2,h3,h4⟩,hz=>hz tm ds h n ψ (by cases e <;> first | exact .inl rfl | exact h1.elim) h2 h3 hc fun _ _ h=>h
 | .ok (.exit _) ..,hc,_,_=>hc.elim
 | .ok .ret tm ds h n,hc,⟨h1,ψ,h2,h3,h4⟩,hz=>hz tm ds h n ψ (by cases e <;> first | exact .inr rfl | exact h1.elim) h2 h3 hc fun _ _ h=>h
 | .ret ..,hc,_,_=>hc.elim
 | .err _,hc,_,_=>hc.elim
 | .fork r s,hc,ho,hz=>by
  rcases ho with ho | ho
  · exact wW d rs hc.1 ho fun tm ds h n ψ a b c d e=>hz tm ds h n ψ a b c d fun u w' q=>.inl (e u w' q)
  · exact wW d rs hc.2 ho fun tm ds h n ψ a b c d e=>hz tm ds h n ψ a b c d fun u w' q=>.inr (e u w' q)
end
end
end Go.Ev
namespace Go.Ev
variable [Sym]
noncomputable section
variable {P:Program}
variable [SymFact P]
structure NatsOk (P:Program) (nat:Nats):Prop where
 above:∀ f g,nat f=some g→∀ d args h n,zk n (g ‹Sym› d args h n)
 calls:∀ f g,nat f=some g→∀ args h n ψ w args',zS ψ args args'.toList→kR P ψ→Rel ψ (zC.fam h) w→xc ψ n→zf (g ‹Sym› false args h n) →
  yR P f args' w (zl ψ (zC.fam h) n w (g ‹Sym› false args h n))
 defers:∀ f g,nat f=some g→∀ args h n ψ w args',zS ψ args args'.toList→kR P ψ→Rel ψ (zC.fam h) w→xc ψ n→zf (g ‹Sym› true args h n) →
  zFK P f args' w fun w'=>∃ v,zl ψ (zC.fam h) n w (g ‹Sym› true args h n) v w'
omit [Sym] [SymFact P] in
theorem run_callFunc_enter {f:FuncId} {fn:Func} {c:Code} (hf:P.funcs[f]? = some fn) (hn:(fn.name == "runtime.NumGoroutine")=false) (hb:fn.body=some c) (args:Array Value) (w:World) :
 (callFunc f args).run P w=.ok (.enter f args) w:=by
 have h1:fn.name ≠ "runtime.NumGoroutine":=by simpa using hn
 simp [callFunc,hf,h1,hb]
section
variable {call:ym} (hcall:yP P call) (hdraw:∀ F N,kY P F N call)
include hcall
theorem zM8 (e:Ext) (args:List CV) (h:zC) (n:Key):zk n (zRV (zCt e args h n) h n):=by
 have:=zLR (h:=h) (n:=n) e args
 generalize zCt e args h n=r at this
 cases r <;> first | exact Nat.le_refl _ | exact this | trivial
theorem zKU (d:Bool) (fn:CFn) (args:List CV) (h:zC) (n:Key):zk n (zBb P d call fn args h n):=by
 cases fn with
 | mk body res=>exact kX hcall.above d res (y9 hcall.above body _ _ h n)
 | mkD ops body res=>
  show zk n (match d with
   | true=>y6 true call res (qK (zp P call body) (yw P call ops [] (qg args 0 .nil) [] h n))
   | false=>.err 311)
  cases d with
  | true=>exact kX hcall.above true res (qa (fun tm ds h n=>y9 hcall.above body tm ds h n) (kF hcall.above ops [] _ _ h n))
  | false=>trivial
 | ext e=>
  show zk n (match d with
   | true=>.err 313
   | false=>zRV (zCt e args h n) h n)
  cases d with
  | true=>trivial
  | false=>exact zM8 hcall e args h n
 | bad c=>trivial
include hdraw
theorem zCT {F N:Nat} {args:List CV} {args':Array Value} {h:zC} {n:Key} {ψ:Psi} {w:World} (ha:zS ψ args args'.toList) (hg:kR P ψ) (hrel:Rel ψ (zC.fam h) w) (hfr:xc ψ n) :
 St P F N ψ (qg args 0 .nil) [] h n { tmps:=args'++Array.replicate (N - args'.size) undef,defers:=[] } w:=
 ⟨zQm ha,rfl,hrel,hg,hfr⟩
theorem zD3 {f:FuncId} {args:List CV} {args':Array Value} {h:zC} {n:Key} {ψ:Psi} {w:World} (ha:zS ψ args args'.toList) (hg:kR P ψ) (hrel:Rel ψ (zC.fam h) w) (hfr:xc ψ n)
 (hc:zf (zBb P false call (compFn P f) args h n)):yR P f args' w (zl ψ (zC.fam h) n w (zBb P false call (compFn P f) args h n)):=by
 unfold compFn at hc ⊢
 rw [yg] at hc ⊢
 cases hf:P.funcs.toList[f]? with
 | none=>simp only [hf] at hc; exact hc.elim
 | some fn=>
  have hf':P.funcs[f]? = some fn:=by simpa using hf
  simp only [hf] at hc ⊢
  cases hb:fn.body with
  | none=>
   simp only [hb] at hc ⊢
   cases he:zCS P fn with
   | none=>simp only [he] at hc; exact hc.elim
   | some e=>
    simp only [he] at hc ⊢
    obtain ⟨en,h1,h2,h3,h4⟩:=zGu he
    have hout:=zNZ (P:=P) (h:=h) (n:=n) (w:=w) he h1 ha
    have hrun:=run_callFunc_extern (P:=P) hf' h2 (by rw [hb]; rfl) h3 h4 args' w
    have hc:zf (zRV (zCt e args h n) h n):=hc
    show yR P f args' w (zl ψ (zC.fam h) n w (zRV (zCt e args h n) h n))
    have hoa:=zLR (h:=h) (n:=n) e args
    generalize zCt e args h n=r at hout hc hoa
    unfold yR
    cases r <;> first | exact hout.elim | exact hc.elim | skip
    case val v=>
     obtain ⟨x,g1,g2⟩:=hout
     rw [hrun,g1]
     exact ⟨ψ,yH.refl hrel,g2⟩
    case eff v h' n'=>
     obtain ⟨w',x,ψ',g1,g2,g3⟩:=hout hrel (fun k hk _=>hfr k hk) hc
     rw [hrun,g1]
     exact ⟨ψ',g2,g3⟩
  | some c=>
   simp only [hb] at hc ⊢
   split at hc
   · exact hc.elim
   · rename_i hn
     have hn:(fn.name == "runtime.NumGoroutine")=false:=by simpa using hn
     rw [if_neg (by rw [hn]; simp)]
     unfold zBR at hc ⊢
     cases hrs:xD (xd P (frameBits fn c) fn.ntmps) fn.results.toList with
     | none=>simp only [hrs] at hc; exact hc.elim
     | some rs=>
      simp only [hrs] at hc ⊢
      split at hc
      · rename_i hnr
        rw [if_pos hnr]
        unfold yR
        rw [run_callFunc_enter hf' hn hb]
        have hc:zf (y6 false call rs (zp P call (zU P (frameBits fn c) fn.ntmps c) (qg args 0 .nil) [] h n)):=hc
        show Calls P f args' w fun e w''=>∃ v,e=.returned v∧zl ψ (zC.fam h) n w (y6 false call rs (zp P call (zU P (frameBits fn c) fn.ntmps c) (qg args 0 .nil) [] h n)) v w''
        refine calls_of_wp_defers hf' hb (wp_mono (vv hcall (hdraw _ _) c hnr (zCT hcall hdraw ha hg hrel hfr) (xX hcall.above false rs hc)) fun e a w' ho=>?_)
        refine wW false rs hc ho fun tm ds h' n' ψ' q1 q2 q3 q4 q5=>?_
        have hl:=zHc hcall hrs q2 q4
        have:Leaves P fn a.tmps (fun e w''=>∃ v,e=.returned v∧zl ψ (zC.fam h) n w (y6 false call rs (zp P call (zU P (frameBits fn c) fn.ntmps c) (qg args 0 .nil) [] h n)) v w'') a.defers .returning w':=
         ju (fun e w'' ⟨v,he,hr⟩=>⟨v,he,q5 _ _ (zl.trans q3 hr)⟩) _ _ _ hl
        rcases q1 with rfl | rfl
        · exact this
        · exact this
      · rename_i hnr
        split at hc
        · split at hc <;> exact hc.elim
        · exact hc.elim
theorem zCj {f:FuncId} {args:List CV} {args':Array Value} {h:zC} {n:Key} {ψ:Psi} {w:World} (ha:zS ψ args args'.toList) (hg:kR P ψ) (hrel:Rel ψ (zC.fam h) w) (hfr:xc ψ n)
 (hc:zf (zBb P true call (compFn P f) args h n)):zFK P f args' w fun w'=>∃ v,zl ψ (zC.fam h) n w (zBb P true call (compFn P f) args h n) v w':=by
 unfold compFn at hc ⊢
 rw [yg] at hc ⊢
 cases hf:P.funcs.toList[f]? with
 | none=>simp only [hf] at hc; exact hc.elim
 | some fn=>
  have hf':P.funcs[f]? = some fn:=by simpa using hf
  simp only [hf] at hc ⊢
  cases hb:fn.body with
  | none=>
   simp only [hb] at hc
   cases he:zCS P fn with
   | none=>simp only [he] at hc; exact hc.elim
   | some e=>simp only [he] at hc; exact hc.elim
  | some c=>
   simp only [hb] at hc ⊢
   split at hc
   · exact hc.elim
   · rename_i hn
     have hn:(fn.name == "runtime.NumGoroutine")=false:=by simpa using hn
     rw [if_neg (by rw [hn]; simp)]
     unfold zBR at hc ⊢
     cases hrs:xD (xd P (frameBits fn c) fn.ntmps) fn.results.toList with
     | none=>simp only [hrs] at hc; exact hc.elim
     | some rs=>
      simp only [hrs] at hc ⊢
      refine ⟨run_callFunc_enter hf' hn hb _ _,?_⟩
      split at hc
      · rename_i hnr
        rw [if_pos hnr]
        have hc:zf (y6 true call rs (zp P call (zU P (frameBits fn c) fn.ntmps c) (qg args 0 .nil) [] h n)):=hc
        show CallsD P f args' .returning w fun e u w'=>u=.returning∧∃ v,e=.returned v∧∃ v,zl ψ (zC.fam h) n w (y6 true call rs (zp P call (zU P (frameBits fn c) fn.ntmps c) (qg args 0 .nil) [] h n)) v w'
        refine callsD_of_wp hf' hb (wp_mono (vv hcall (hdraw _ _) c hnr (zCT hcall hdraw ha hg hrel hfr) (xX hcall.above true rs hc)) fun e a w' ho=>?_)
        refine wW true rs hc ho fun tm ds h' n' ψ' q1 q2 q3 q4 q5=>?_
        obtain ⟨g1,v,g2,g3⟩:=zGz (call:=call) hrs q2 q4
        rcases q1 with rfl | rfl
        · exact ⟨g1,v,g2,v,rfl,v,q5 _ _ (zl.trans q3 g3)⟩
        · exact ⟨g1,v,g2,v,rfl,v,q5 _ _ (zl.trans q3 g3)⟩
      · rename_i hnr
        rw [if_neg hnr]
        split at hc
        · rename_i c0 id ops r
          split at hc
          · rename_i hnr'
            rw [if_pos hnr']
            have hc:zf (y6 true call rs (qK (zp P call (zU P (frameBits fn (.seq (.region id ops false) r)) fn.ntmps r))
             (yw P call (jP P (frameBits fn (.seq (.region id ops false) r)) fn.ntmps ops.toList [] ops.toList) [] (qg args 0 .nil) [] h n))):=hc
            generalize hF:frameBits fn (.seq (.region id ops false) r)=F at hc hrs
            show CallsD P f args' .returning w fun e u w'=>u=.returning∧∃ v,e=.returned v∧∃ v,zl ψ (zC.fam h) n w (y6 true call rs (qK (zp P call (zU P F fn.ntmps r))
             (yw P call (jP P F fn.ntmps ops.toList [] ops.toList) [] (qg args 0 .nil) [] h n))) v w'
            have hc1:=xX hcall.above true rs hc
            have hab:=fun tm ds h n=>y9 (P:=P) hcall.above (zU P F fn.ntmps r) tm ds h n
            have hc2:=xq hab hc1
            refine callsD_of_wpS hf' hb fun c₀ cs hm=>wpS_seq (wpS_region ?_)
            have hrec:recoverD (c₀::cs)=none:=by unfold recoverD; simp [hm]
            have:=zJm (F:=F) (N:=fn.ntmps) hcall (zGE (P:=P) ops (Exit.thenS (r.wpS P (bodyPostS P fn c₀ cs fun e u w'=>u=.returning∧∃ v,e=.returned v∧∃ v,zl ψ (zC.fam h) n w (y6 true call rs (qK (zp P call (zU P F fn.ntmps r))
             (yw P call (jP P F fn.ntmps ops.toList [] ops.toList) [] (qg args 0 .nil) [] h n))) v w'))
             (bodyPostS P fn c₀ cs fun e u w'=>u=.returning∧∃ v,e=.returned v∧∃ v,zl ψ (zC.fam h) n w (y6 true call rs (qK (zp P call (zU P F fn.ntmps r))
             (yw P call (jP P F fn.ntmps ops.toList [] ops.toList) [] (qg args 0 .nil) [] h n))) v w')) hrec)
             ops.toList 0 rfl (fun _ _ _=>rfl) (zCT hcall hdraw (F:=F) (N:=fn.ntmps) ha hg hrel hfr) (dl:=[]) (es:=[]) (fun t i hi=>by cases hi) hc2
             (fun tm' ds' h' n' ψ' a' w' g1 g2 g3 g4=>by
               have k1:=g4 (fun r0=>zf (y6 true call rs (qK (zp P call (zU P F fn.ntmps r)) r0))→zf (y6 true call rs (zp P call (zU P F fn.ntmps r) tm' ds' h' n')))
                (fun x y hx hc=>hx hc.1) (fun x y hy hc=>hy hc.2) (fun h=>h) hc
               have k2:=g4 (fun r0=>∀ u w'',zl ψ (zC.fam h) n w (y6 true call rs (zp P call (zU P F fn.ntmps r) tm' ds' h' n')) u w'' →
                zl ψ (zC.fam h) n w (y6 true call rs (qK (zp P call (zU P F fn.ntmps r)) r0)) u w'')
                (fun x y hx u w'' q=>.inl (hx u w'' q)) (fun x y hy u w'' q=>.inr (hy u w'' q)) (fun u w'' q=>q)
               show r.wpS P _ a' (c₀::cs) w'
               refine wpS_of_wp (wp_mono (vv hcall (hdraw F fn.ntmps) r hnr' g1 (xX hcall.above true rs k1)) fun e a w'' ho=>?_)
               refine wW true rs k1 ho fun tm ds h'' n'' ψ'' q1 q2 q3 q4 q5=>?_
               obtain ⟨g1',v,g2',g3'⟩:=zGz (call:=call) hrs q2 q4
               have hfin:=k2 _ _ (zl.trans g2 (q5 _ _ (zl.trans q3 g3')))
               have hm':({ c₀ with mode:=.returning }:Frame)=c₀:=by rw [← hm]
               rcases q1 with rfl | rfl
               · exact ⟨g1',.returning,by rw [hm'],v,g2',rfl,v,rfl,v,hfin⟩
               · exact ⟨g1',.returning,by rw [hm'],v,g2',rfl,v,rfl,v,hfin⟩)
            rw [Array.length_toList] at this
            rw [List.range_eq_range']
            exact this
          · exact hc.elim
        · exact hc.elim
end
def CodeOk (P:Program) (code:FuncId→CFn):Prop:=∀ f,code f=compFn P f∨code f=zNC (compFn P f)∨∃ c,code f=.bad c
theorem vu (hdraw:∀ (call:ym),yP P call→∀ F N,kY P F N call) {code:FuncId→CFn} (hcode:CodeOk P code) {nat:Nats} (hnat:NatsOk P nat):∀ (fuel:Nat),yP P (ev P code nat fuel)
 | 0=>⟨fun _ _ _ _ _=>trivial,fun _ _ _ _ _ _ _ _ _ _ _ hc=>hc.elim,fun _ _ _ _ _ _ _ _ _ _ _ hc=>hc.elim⟩
 | fuel+1=>by
  have ih:=vu hdraw hcode hnat fuel
  have hev:∀ d f args h n,ev P code nat (fuel+1) d f args h n=(match nat f with
   | none=>zBb P d (ev P code nat fuel) (code f) args h n
   | some g=>g ‹Sym› d args h n):=by
   intro d f args h n
   show Option.rec (motive:=fun _=>R) (zBb P d (ev P code nat fuel) (code f) args h n) (fun g=>g ‹Sym› d args h n) (nat f)=_
   cases nat f <;> rfl
  refine ⟨fun d f args h n=>?_,fun f args h n ψ w args' h1 h2 h3 h4 hc=>?_,fun f args h n ψ w args' h1 h2 h3 h4 hc=>?_⟩
  · rw [hev]
    split
    · exact zKU ih d _ args h n
    · rename_i g hg
      exact hnat.above f g hg d args h n
  · rw [hev] at hc ⊢
    split at hc
    · rename_i hn
      rcases hcode f with e | e | ⟨c,e⟩
      · rw [e] at hc ⊢
        exact zD3 ih (hdraw _ ih) h1 h2 h3 h4 hc
      · rw [e,zIj] at hc ⊢
        exact zD3 ih (hdraw _ ih) h1 h2 h3 h4 hc
      · rw [e] at hc; exact hc.elim
    · rename_i g hg
      exact hnat.calls f g hg args h n ψ w args' h1 h2 h3 h4 hc
  · rw [hev] at hc ⊢
    split at hc
    · rename_i hn
      rcases hcode f with e | e | ⟨c,e⟩
      · rw [e] at hc ⊢
        exact zCj ih (hdraw _ ih) h1 h2 h3 h4 hc
      · rw [e,zIj] at hc ⊢
        exact zCj ih (hdraw _ ih) h1 h2 h3 h4 hc
      · rw [e] at hc; exact hc.elim
    · rename_i g hg
      exact hnat.defers f g hg args h n ψ w args' h1 h2 h3 h4 hc
end
end Go.Ev
