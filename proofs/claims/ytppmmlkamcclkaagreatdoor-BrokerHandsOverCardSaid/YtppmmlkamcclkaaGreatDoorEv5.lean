/- A verified evaluator for the model's code: EvU, EvV, EvW, EvX, EvY, EvZ, EvZa, EvZb, EvZc, EvZd. -/
import Derived.Test.YtppmmlkamcclkaaGreatDoorEv4
import Derived.Laws.Externs
import Derived.KernelRfl
import Derived.Lib.Bytealg
import Derived.Recover
import Derived.Orders
import Derived.Scope
set_option linter.unusedSectionVars false
set_option linter.unusedVariables false
set_option linter.unusedSimpArgs false
namespace Go.Ev
variable [Sym]
open Go.MapKept
noncomputable section
variable {P:Program} {ψ:Psi} {es:List CV} {tm:Tm} {h:zC} {n:Key} {ρ:Operand→Value} {E:Env} {ty:TypeId} {w:World}
variable [SymFact P]
theorem zSf {c:Call} {l:List Operand} (h:c.args.toList=l):c.args.map ρ=(l.map ρ).toArray:=by
 rw [zBf h]; simp
theorem zJR (c:Call) (b:Builtin) (hc:c.callee=.builtin b) (ha:zx P ψ es tm E ρ c.args.toList) :
 zD P ψ h n ρ (.call c) ty w (yI P (xw P E b c.argTypes.toList c.args.toList) es tm h n):=by
 have hrun:=fun w=>zCH (P:=P) (ρ:=ρ) (ty:=ty) hc w
 generalize hts:c.argTypes.toList=ts
 generalize has:c.args.toList=as at ha
 have hts':=zBf hts
 have has':=zSf (ρ:=ρ) has
 rw [has',hts'] at hrun
 cases b <;> try exact zA _
 case append=>
  match ts,as with
  | t::u::r,[s,x]=>exact zLe (fun w=>by rw [hrun w]; rfl) ha
  | _::_::_,[]=>exact zA _
  | _::_::_,[_]=>exact zA _
  | _::_::_,_::_::_::_=>exact zA _
  | [],_=>exact zA _
  | [_],_=>exact zA _
 case copy=>
  match ts,as with
  | t::r,[s,x]=>exact zPT (fun w=>by rw [hrun w]; rfl) ha
  | _::_,[]=>exact zA _
  | _::_,[_]=>exact zA _
  | _::_,_::_::_::_=>exact zA _
  | [],_=>exact zA _
 case len=>
  match ts,as with
  | t::r,[x]=>exact zR9 (fun w=>by rw [hrun w]; rfl) ha
  | _::_,[]=>exact zA _
  | _::_,_::_::_=>exact zA _
  | [],_=>exact zA _
 case cap=>
  match ts,as with
  | t::r,[x]=>exact zRM (fun w=>by rw [hrun w]; rfl) ha
  | _::_,[]=>exact zA _
  | _::_,_::_::_=>exact zA _
  | [],_=>exact zA _
 case delete=>
  match ts,as with
  | t::r,[m,k]=>exact zLI (fun w=>by rw [hrun w]; rfl) ha
  | _::_,[]=>exact zA _
  | _::_,[_]=>exact zA _
  | _::_,_::_::_::_=>exact zA _
  | [],_=>exact zA _
 case clear=>
  match ts,as with
  | t::r,[x]=>exact zN2 (fun w=>by rw [hrun w]; rfl) ha
  | _::_,[]=>exact zA _
  | _::_,_::_::_=>exact zA _
  | [],_=>exact zA _
 case min=>
  match as with
  | x::r=>exact zE1 false (fun w=>by rw [hrun w]; rfl) ha
  | []=>exact zA _
 case max=>
  match as with
  | x::r=>exact zE1 true (fun w=>by rw [hrun w]; rfl) ha
  | []=>exact zA _
 case recover=>
  match as with
  | []=>exact ⟨by unfold zDr; simp [hc],by rw [hrun w]; rfl⟩
  | _::_=>exact zA _
def zOo (ψ:Psi):v7→Place→Prop
 | .val c,x=>∃ v,x=.val v∧zH ψ c v
 | .var b off,x=>∃ p,ψ b=some p∧x=.var ⟨p.blk,p.off+off,none⟩
theorem zKv {b:Key} {off:Nat} {p:Pl} (hp:ψ b=some p):zOo ψ (.var b off) (.var ⟨p.blk,p.off+off,none⟩):=⟨p,hp,rfl⟩
theorem zED {c:CV} {v:Value} (hv:zH ψ c v):zOo ψ (.val c) (.val v):=⟨v,rfl,hv⟩
theorem zHP (hrel:qT ψ (zC.fam h) w) {t:TypeId} {b:Key} {off:Nat} {c:CV} {p:Pl} (hp:ψ b=some p) (hc:zNy P h t b off=some c) :
 ∃ v,(loadVar t ⟨p.blk,p.off+off,none⟩).run P w=.ok v w∧zH ψ c v:=by
 unfold zNy at hc
 split at hc
 · rename_i a s vs ha hs hv
   have hcells:zAa ψ w p vs:=by
    unfold zAF at hv
    split at hv
    · rename_i q hq; injection hv with hv; subst hv; exact yS.toRo (hrel b _ p hq hp)
    · rename_i q hq; injection hv with hv; subst hv; exact hrel b _ p hq hp
    · cases hv
   unfold zNx at hc
   cases a with
   | true=>
    simp only at hc
    cases hl:up vs off s with
    | none=>rw [hl] at hc; cases hc
    | some l=>
     rw [hl] at hc
     injection hc with hc; subst hc
     obtain ⟨xs,hrun,hxs⟩:=xX (P:=P) hcells hl
     exact ⟨.agg xs.toArray,by simp [loadVar,qh ha,yT hs,hrun],yi.2 ⟨_,rfl,by simpa using hxs⟩⟩
   | false=>
    simp only [jY] at hc
    obtain ⟨y,hrun,hy⟩:=zAs (P:=P) hcells hc
    exact ⟨y,by simp only [loadVar,Sem.run_bind,qh ha,Result.andThen_ok,Bool.false_eq_true,if_false,hrun],hy⟩
 · cases hc
theorem zBU (hrel:qT ψ (zC.fam h) w) {t:TypeId} {x:v7} {y:Place} {c:CV} (hx:zOo ψ x y) (hc:x.get P h t=some c):∃ v,(y.get t).run P w=.ok v w∧zH ψ c v:=by
 cases x with
 | val d=>
  obtain ⟨v,rfl,hv⟩:=hx
  injection hc with hc; subst hc
  exact ⟨v,rfl,hv⟩
 | var b off=>
  obtain ⟨p,hp,rfl⟩:=hx
  exact zHP hrel hp hc
theorem zK2 {s:FieldStep} {f:Field} (hs:zII P s=some f):∃ fs,P.underlying s.struct=some (.struct fs)∧fs[s.index]? = some f∧∃ k,xk P f.type=some (k+1):=by
 unfold zII und at hs
 split at hs
 · rename_i fs ht
   rw [nth_eq] at hs
   split at hs
   · rename_i g hg
     split at hs
     · rename_i k hk
       injection hs with hs; subst hs
       exact ⟨fs,ht,by simpa using hg,k,hk⟩
     · cases hs
   · cases hs
 · cases hs
theorem wL (hrel:qT ψ (zC.fam h) w):∀ (l:List FieldStep) {t xt:TypeId} {x x':v7} {y:Place},zOo ψ x y→wv P h l t x=some (xt,x') →
 ∃ y',(follow l t y).run P w=.ok (xt,y') w∧zOo ψ x' y'
 | [],t,xt,x,x',y,hx,hf=>by
  injection hf with hf; injection hf with h1 h2; subst h1 h2
  exact ⟨y,rfl,hx⟩
 | s::rest,t,xt,x,x',y,hx,hf=>by
  unfold wv at hf
  cases hs:zII P s with
  | none=>rw [hs] at hf; cases hf
  | some f=>
   simp only [hs] at hf
   obtain ⟨fs,h1,h2,k,h3⟩:=zK2 hs
   split at hf
   · rename_i hd
     split at hf
     · rename_i b off hg
       obtain ⟨v,hv,hr⟩:=zBU hrel hx hg
       rw [zn] at hr
       obtain ⟨p,hp,rfl⟩:=hr
       obtain ⟨y',g1,g2⟩:=wL hrel rest (zKv hp) hf
       refine ⟨y',?_,g2⟩
       rw [← g1]
       simp [follow,run_underlying h1,h2,hd,hv,asAddr,fieldPlace,yT h3,xG,Nat.add_assoc]
     · cases hf
   · rename_i hd
     split at hf
     · rename_i b off
       obtain ⟨p,hp,rfl⟩:=hx
       obtain ⟨y',g1,g2⟩:=wL hrel rest (zKv hp) hf
       refine ⟨y',?_,g2⟩
       rw [← g1]
       simp [follow,run_underlying h1,h2,hd,fieldPlace,yT h3,xG,Nat.add_assoc]
     · rename_i cs
       obtain ⟨v,rfl,hv⟩:=hx
       rw [yi] at hv
       obtain ⟨vs,rfl,hv⟩:=hv
       split at hf
       · rename_i a s' ha hs'
         split at hf
         · rename_i c hc
           have hp:=zEH (P:=P) (off:=f.offset) ha hs' hv w
           have:∃ u,(part f.type vs f.offset).run P w=.ok u w∧zH ψ c u:=by
            unfold zNx at hc
            cases a with
            | true=>
             simp only at hc
             cases hl:up cs f.offset s' with
             | none=>rw [hl] at hc; cases hc
             | some l=>rw [hl] at hc; injection hc with hc; subst hc; exact hp.2 rfl l hl
            | false=>exact hp.1 rfl c hc
           obtain ⟨u,hu,hur⟩:=this
           obtain ⟨y',g1,g2⟩:=wL hrel rest (zED hur) hf
           refine ⟨y',?_,g2⟩
           rw [← g1]
           simp [follow,run_underlying h1,h2,hd,hu]
         · cases hf
       · cases hf
     · cases hf
theorem zBF (hrel:qT ψ (zC.fam h) w) {xt:TypeId} {x:v7} {y:Place} {pr:Bool} {c:CV} (wr:Option String) (hx:zOo ψ x y) (hc:zAB P h xt x pr=some c) :
 ∃ v,(receiverAt xt y pr wr).run P w=.ok v w∧zH ψ c v:=by
 unfold zAB und at hc
 split at hc
 · rename_i e ht
   obtain ⟨v,hv,hr⟩:=zBU hrel hx hc
   exact ⟨v,by simp [receiverAt,run_underlying ht,hv],hr⟩
 · rename_i e ht
   split at hc
   · rename_i b off hg
     obtain ⟨v,hv,hr⟩:=zBU hrel hx hg
     rw [zn] at hr
     obtain ⟨p,hp,rfl⟩:=hr
     obtain ⟨u,hu,hur⟩:=zHP hrel hp hc
     refine ⟨u,?_,hur⟩
     cases wr with
     | none=>simp [receiverAt,run_underlying ht,hv,asAddr,hu]
     | some nm=>
      have hck:(Builtin.ssaWrapNilChk_ #[xt] xt #[.pointer (some ⟨p.blk,p.off+off,none⟩),strVal "",strVal nm]).run P w=.ok (.pointer (some ⟨p.blk,p.off+off,none⟩)) w:=rfl
      simp only [receiverAt,Sem.run_bind,run_underlying ht,Result.andThen_ok,hv,hck,asAddr,Sem.run_pure,hu]
   · cases hc
 · rename_i D hD b off ht
   injection hc with hc; subst hc
   obtain ⟨p,hp,rfl⟩:=hx
   refine ⟨_,?_,zn.2 ⟨p,hp,rfl⟩⟩
   unfold receiverAt
   simp only [Sem.run_bind,run_underlying ht,Result.andThen_ok]
   cases D <;> first | rfl | exact absurd rfl (hD _)
 · cases hc
 · rename_i D hD ht
   obtain ⟨v,hv,hr⟩:=zBU hrel hx hc
   refine ⟨v,?_,hr⟩
   unfold receiverAt
   simp only [Sem.run_bind,run_underlying ht,Result.andThen_ok]
   cases D <;> first | exact hv | exact absurd rfl (hD _) | (exact absurd (Eq.refl _) (hD _))
 · cases hc
end
end Go.Ev
namespace Go.Ev
variable [Sym]
open Go.MapKept
noncomputable section
variable {P:Program} {ψ:Psi} {es:List CV} {tm:Tm} {h:zC} {n:Key} {ρ:Operand→Value} {E:Env} {ty:TypeId} {w:World}
variable [SymFact P]
theorem zJk (name:String):∀ (l:List Method),uD name l=l.find? (fun m=>m.name == name)
 | []=>rfl
 | m::r=>by
  unfold uD
  rw [List.find?_cons,zJk name r]
  by_cases e:(m.name == name)=true
  · rw [if_pos e,e]
  · rw [if_neg e]
    have:(m.name == name)=false:=by simpa using e
    rw [this]
theorem zEO (hrel:qT ψ (zC.fam h) w) (name:String):∀ (d fuel:Nat) {t:TypeId} {v:CV} {x:Value} {f:FuncId} {r:CV},d≤fuel→zH ψ v x→zEf P h d t v name=some (f,r) →
 ∃ y,(method fuel t x name).run P w=.ok (f,y) w∧zH ψ r y
 | 0,_,_,_,_,_,_,_,_,hm=>by cases hm
 | d+1,0,_,_,_,_,_,hle,_,_=>by omega
 | d+1,fuel+1,t,v,x,f,r,hle,hv,hm=>by
  unfold zEf at hm
  cases hrow:zIf P t name with
  | none=>rw [hrow] at hm; cases hm
  | some m=>
   simp only [hrow] at hm
   unfold zIf at hrow
   cases hi:P.info? t with
   | none=>rw [hi] at hrow; cases hrow
   | some ti=>
    rw [hi] at hrow
    simp only [Option.bind_some,zJk] at hrow
    have hrow:ti.methods.find? (fun m=>m.name == name)=some m:=by rw [← Array.find?_toList]; exact hrow
    cases hf:wv P h m.path.toList t (.val v) with
    | none=>rw [hf] at hm; cases hm
    | some q=>
     obtain ⟨xt,x'⟩:=q
     simp only [hf] at hm
     obtain ⟨y',g1,g2⟩:=wL hrel _ (zED hv) hf
     split at hm
     · rename_i hfn
       split at hm
       · rename_i t' v' hg
         obtain ⟨u,hu,hur⟩:=zBU hrel g2 hg
         rw [yU] at hur
         obtain ⟨u',rfl,hur⟩:=hur
         obtain ⟨y,k1,k2⟩:=zEO hrel name d fuel (by omega) hur hm
         refine ⟨y,?_,k2⟩
         rw [← k1]
         simp [method,typeInfo,hi,hrow,g1,hfn,hu]
       · cases hm
     · rename_i f' pr hfn
       split at hm
       · rename_i r' hrc
         injection hm with hm; injection hm with e1 e2; subst e1 e2
         obtain ⟨y,k1,k2⟩:=zBF hrel (if m.path.isEmpty then some ((name.splitOn ".").getLastD name) else none) g2 hrc
         refine ⟨y,?_,k2⟩
         unfold method
         simp only [Sem.run_bind,qq hi,Result.andThen_ok,hrow,g1,hfn,k1,Sem.run_pure]
       · cases hm
section
variable {o:Op}
def zCb (P:Program) (ψ:Psi) (h:zC) (n:Key) (w:World) (run:Result Next):OR→Prop
 | .call f args=>qT ψ (zC.fam h) w→∃ args',run=(callFunc f args').run P w∧zT ψ args args'.toList
 | .err _=>True
 | _=>False
theorem zDQ {r:OR} {run:Result Next} (hrun:(execOp ρ (xi o ty)).run P w=run) (hc:zCb P ψ h n w run r):zD P ψ h n ρ o ty w r:=by
 cases r <;> first | exact hc.elim | exact trivial | skip
 case call f args=>
  intro hrel
  obtain ⟨args',h1,h2⟩:=hc hrel
  exact ⟨args',by rw [← h1]; exact hrun,h2⟩
theorem zAu {recv:CV} {x:Value} {args:List CV} {as:Array Value} (name:String) (hx:zH ψ recv x) (has:zT ψ args as.toList) :
 zCb P ψ h n w ((callMethod x name as).run P w) (zHc P h recv name args):=by
 refine xY (C:=zCb P ψ h n w ((callMethod x name as).run P w)) _ _ _ _ trivial (fun _=>trivial) fun t v hv=>?_
 rw [hv,yU] at hx
 obtain ⟨y,rfl,hy⟩:=hx
 split
 · rename_i f r hm
   intro hrel
   obtain ⟨u,h1,h2⟩:=zEO (P:=P) hrel name 8 (P.types.size+Made.depth) (by unfold Made.depth; omega) hy hm
   refine ⟨#[u]++as,?_,?_⟩
   · simp [callMethod,h1]
   · have:(#[u]++as).toList=u::as.toList:=by simp
     rw [this]
     exact zW.2 ⟨h2,has⟩
 · exact trivial
theorem zOa {f:CV} {fv:Value} {args:List CV} {as:Array Value} (hf:zH ψ f fv) (has:zT ψ args as.toList) :
 zCb P ψ h n w ((do let d ← Deferred.ofValue fv as; invoke d.target d.args:Sem Next).run P w) (zQa P h f args):=by
 refine wg (C:=zCb P ψ h n w _) _ _ _ trivial fun fn first captured hv=>?_
 rw [hv,xC] at hf
 obtain ⟨a',c',rfl,h1,h2⟩:=hf
 have hfa:zT ψ (zCV first args) (a'++as).toList:=by rw [w8,Array.toList_append]; exact h1.append has
 split
 · rename_i g
   intro _
   refine ⟨a'++as++c',by simp [Deferred.ofValue,invoke],?_⟩
   rw [w8,w8,Array.append_assoc,Array.toList_append,Array.toList_append]
   exact h1.append (has.append h2)
 · rename_i name
   split
   · rename_i recv rest hl
     rw [hl] at hfa
     obtain ⟨r,rs,e,hr,hrs⟩:=zY.1 hfa
     have e0:(a'++as)[0]? = some r:=by rw [← Array.getElem?_toList,e]; rfl
     have e1:((a'++as).extract 1 (a'++as).size).toList=rs:=by
      rw [Array.toList_extract,e,List.extract_eq_take_drop]
      have:(a'++as).size=rs.length+1:=by rw [← Array.length_toList,e]; rfl
      rw [this]; simp
     have:=zAu (P:=P) (h:=h) (n:=n) (w:=w) name hr (as:=(a'++as).extract 1 (a'++as).size) (by rw [e1]; exact hrs)
     have hrun:(do let d ← Deferred.ofValue (.func (.method name) a' c') as; invoke d.target d.args:Sem Next).run P w=(callMethod r name ((a'++as).extract 1 (a'++as).size)).run P w:=by
      simp only [Deferred.ofValue,Sem.run_bind,Sem.run_pure,Result.andThen_ok,invoke,e0]
     rw [hrun]; exact this
   · exact trivial
 · rename_i t name
   split
   · rename_i recv rest hl
     rw [hl] at hfa
     obtain ⟨r,rs,e,hr,hrs⟩:=zY.1 hfa
     have e0:(a'++as)[0]? = some r:=by rw [← Array.getElem?_toList,e]; rfl
     have e1:((a'++as).extract 1 (a'++as).size).toList=rs:=by
      rw [Array.toList_extract,e,List.extract_eq_take_drop]
      have:(a'++as).size=rs.length+1:=by rw [← Array.length_toList,e]; rfl
      rw [this]; simp
     unfold und
     split
     · rename_i ms ht
       have:=zAu (P:=P) (h:=h) (n:=n) (w:=w) name hr (as:=(a'++as).extract 1 (a'++as).size) (by rw [e1]; exact hrs)
       have hrun:(do let d ← Deferred.ofValue (.func (.methodOf t name) a' c') as; invoke d.target d.args:Sem Next).run P w=(callMethod r name ((a'++as).extract 1 (a'++as).size)).run P w:=by
        simp only [Deferred.ofValue,Sem.run_bind,Sem.run_pure,Result.andThen_ok,invoke,e0,run_underlying ht]
       rw [hrun]; exact this
     · rename_i D hD ht
       have:=zAu (P:=P) (h:=h) (n:=n) (w:=w) name (recv:=.iface t recv) (x:=.iface t r) (yU.2 ⟨r,rfl,hr⟩) (as:=(a'++as).extract 1 (a'++as).size) (by rw [e1]; exact hrs)
       have hrun:(do let d ← Deferred.ofValue (.func (.methodOf t name) a' c') as; invoke d.target d.args:Sem Next).run P w=(callMethod (.iface t r) name ((a'++as).extract 1 (a'++as).size)).run P w:=by
        simp only [Deferred.ofValue,Sem.run_bind,Sem.run_pure,Result.andThen_ok,invoke,e0,run_underlying ht]
       rw [hrun]; exact this
     · exact trivial
   · exact trivial
 · rename_i t path g pr
   split
   · rename_i recv rest hl
     rw [hl] at hfa
     obtain ⟨r,rs,e,hr,hrs⟩:=zY.1 hfa
     have e0:(a'++as)[0]? = some r:=by rw [← Array.getElem?_toList,e]; rfl
     have e1:((a'++as).extract 1 (a'++as).size).toList=rs:=by
      rw [Array.toList_extract,e,List.extract_eq_take_drop]
      have:(a'++as).size=rs.length+1:=by rw [← Array.length_toList,e]; rfl
      rw [this]; simp
     split
     · rename_i xt x hfo
       split
       · rename_i rc hrc
         intro hrel
         obtain ⟨y',g1,g2⟩:=wL hrel _ (zED hr) hfo
         obtain ⟨u,k1,k2⟩:=zBF hrel none g2 hrc
         refine ⟨#[u]++(a'++as).extract 1 (a'++as).size,?_,?_⟩
         · simp only [Deferred.ofValue,Sem.run_bind,Sem.run_pure,Result.andThen_ok,invoke,e0,receiverVia,g1,k1]
         · have:(#[u]++(a'++as).extract 1 (a'++as).size).toList=u::rs:=by rw [Array.toList_append,e1]; rfl
           rw [this]
           exact zW.2 ⟨k2,hrs⟩
       · exact trivial
     · exact trivial
   · exact trivial
 · exact trivial
structure zNl (ρ:Operand→Value):Prop where
 const:∀ v,ρ (.const v)=v
 func:∀ f,ρ (.func f)=.func (.func f) #[] #[]
theorem zOp (c:Call) (ha:zx P ψ es tm E ρ c.operands.toList):zD P ψ h n ρ (.defer c) ty w (yI P (zc P E (.defer c)) es tm h n):=by
 rw [zc]
 split
 · rename_i f hcal
   split
   · rename_i f' args hf hargs
     refine wg (C:=zD P ψ h n ρ (.defer c) ty w) _ _ _ (zA _) fun fn first captured hv=>?_
     have hfr:=ha f (by simp [Call.operands,hcal]) f' hf
     have has:=kR _ (ha.sub fun y hy=>by simp [Call.operands]; exact .inr (by simpa using hy)) hargs
     rw [hv,xC] at hfr
     obtain ⟨a',c',hfr,h1,h2⟩:=hfr
     split
     · rename_i g
       refine ⟨{ target:=.fn (.func g) c',args:=a'++c.args.map ρ },.func g,c',a'++c.args.map ρ++c',?_,rfl,fun w=>rfl,?_⟩
       · simp [execOp,resolve,hcal,hfr,Deferred.ofValue]
       · rw [w8,w8,Array.append_assoc,Array.toList_append,Array.toList_append,Array.toList_map]
         exact h1.append (has.append h2)
     · exact zA _
   · exact zA _
 · exact zA _
end
end
end Go.Ev
namespace Go.Ev
variable [Sym]
open Go.MapKept
noncomputable section
variable {P:Program} {ψ:Psi} {es:List CV} {tm:Tm} {h:zC} {n:Key} {ρ:Operand→Value} {E:Env} {ty:TypeId} {w:World}
variable [SymFact P]
theorem zEd {fn:Func} {nm:String} {e:Array Value→Sem Value} (ho:fn.origin = "") (hn:fn.name=nm)
 (h1:Extern.allNextRows.lookup nm=none) (h2:Extern.allGenericRows.lookup nm=none) (h3:Extern.allTypedRows.lookup nm=none) (h4:Extern.allRows.lookup nm=some e)
 (h5:Extern.allNextRows.lookup "" = none):Extern.findNext fn=none∧Extern.find fn=some e:=by
 constructor
 · unfold Extern.findNext
   simp only [hn,ho,h1,h5]; rfl
 · unfold Extern.find
   simp only [hn,h2,h3,h4]; rfl
theorem zBE:Extern.allNextRows.lookup "" = none:=by kernel_rfl
def zNv (fn:Func):Ext→Option (Array Value→Sem Value)
 | .count=>some Extern.BytealgCount.count
 | .indexByte=>some Extern.BytealgIndexByte.indexByte
 | .cmp=>some Extern.BytealgCompare.compare
 | .mapsClone=>some Extern.MapsClone.clone
 | .overlaps=>some (Extern.SlicesOverlaps.overlaps fn.params fn.resultTypes)
 | _=>none
theorem zF9 {fn:Func} {e:Ext} (he:zCC P fn=some e):∃ en,zNv fn e=some en∧(fn.name == "runtime.NumGoroutine")=false∧Extern.findNext fn=none∧Extern.find fn=some en:=by
 unfold zCC at he
 split at he
 · rename_i ho
   have ho:fn.origin = "":=by simpa using ho
   split at he
   · rename_i hn
     have hn:fn.name=zG8 "bytealg.CountString":=by simpa using hn
     injection he with he; subst he
     obtain ⟨h1,h2⟩:=zEd (e:=Extern.BytealgCount.count) ho hn (by kernel_rfl) (by kernel_rfl) (by kernel_rfl) (by kernel_rfl) zBE
     exact ⟨_,rfl,by rw [hn]; decide,h1,h2⟩
   · split at he
     · rename_i hn
       have hn:fn.name=zG8 "bytealg.IndexByteString":=by simpa using hn
       injection he with he; subst he
       obtain ⟨h1,h2⟩:=zEd (e:=Extern.BytealgIndexByte.indexByte) ho hn (by kernel_rfl) (by kernel_rfl) (by kernel_rfl) (by kernel_rfl) zBE
       exact ⟨_,rfl,by rw [hn]; decide,h1,h2⟩
     · split at he
       · rename_i hn
         have hn:fn.name=zG8 "bytealg.abigen_runtime_cmpstring":=by simpa using hn
         injection he with he; subst he
         obtain ⟨h1,h2⟩:=zEd (e:=Extern.BytealgCompare.compare) ho hn (by kernel_rfl) (by kernel_rfl) (by kernel_rfl) (by kernel_rfl) zBE
         exact ⟨_,rfl,by rw [hn]; decide,h1,h2⟩
       · split at he
         · rename_i hn
           have hn:fn.name = "maps.clone":=by simpa using hn
           injection he with he; subst he
           obtain ⟨h1,h2⟩:=zEd (e:=Extern.MapsClone.clone) ho hn (by kernel_rfl) (by kernel_rfl) (by kernel_rfl) (by kernel_rfl) zBE
           exact ⟨_,rfl,by rw [hn]; decide,h1,h2⟩
         · cases he
 · split at he
   · rename_i ho
     injection he with he; subst he
     rw [Bool.and_eq_true] at ho
     obtain ⟨ho,hok⟩:=ho
     have ho:fn.origin = "slices.overlaps":=by simpa using ho
     unfold zA1 zKy at hok
     simp only [Bool.and_eq_true,Option.isNone_iff_eq_none] at hok
     obtain ⟨⟨gn,⟨⟨g1,g2⟩,g3⟩,g4⟩,_⟩:=hok
     refine ⟨_,rfl,?_,?_,?_⟩
     · simpa using gn
     · unfold Extern.findNext
       have h1:Extern.allNextRows.lookup "slices.overlaps" = none:=by kernel_rfl
       simp only [ho,g1,h1]; rfl
     · unfold Extern.find
       have h1:Extern.allGenericRows.lookup "slices.overlaps" = none:=by kernel_rfl
       have h2:Extern.allTypedRows.lookup "slices.overlaps" = some Extern.SlicesOverlaps.overlaps:=by kernel_rfl
       simp only [ho,g2,g3,g4,h1,h2]; rfl
   · cases he
theorem zBh {w:World} {params res:Array TypeId} {tS e:TypeId} (hp:params[0]? = some tS) (ht:P.underlying tS=some (.slice e)) {size:Nat} (hz:∀ w,(Go.sizeOf e).run P w=.ok size w)
 (a b:Addr) (la ca lb cb:Nat) (hne:a.block≠b.block) (tA tB:TypeId) (kA kB:Nat)
 (hsa:w.shape? a.block=some (tA,kA)) (hsb:w.shape? b.block=some (tB,kB)) (hkB:kB≠0)
 (hfa:w.frozen? a=false) (hfe:w.frozen? { block:=a.block,off:=kA }=false) :
 (Extern.SlicesOverlaps.overlaps params res #[.slice (some a) la ca,.slice (some b) lb cb]).run P w=.ok (.bool false) w:=by
 have hnb:(a.block != b.block)=true:=by simpa using hne
 have hnb':(a.block == b.block)=false:=by simpa using hne
 change Sem.run P (α:=Value) (do
  let some t:=params[0]? | stuck "slices.overlaps: no parameter types"
  let .slice elem ← underlying t | stuck "slices.overlaps: slice type expected"
  let size ← sizeOf elem
  match (some a:Option Addr),(some b:Option Addr) with
  | some a,some b=>
   if la=0∨lb=0∨size=0 then pure (Value.bool false)
   else if a.block != b.block&&(← frozen a)&&(← frozen b) then unsupported .addressObserved
   else do
    if a.block != b.block then do
     noView a; noView b
     if ← mayBeOne a b then return Value.bool ((← choose (.extern "sameAddr.stringBytes" 2)) == 1)
    pure (Value.bool (a.block == b.block&&a.off<b.off+lb*size&&b.off<a.off+la*size))
  | _,_=>pure (Value.bool false)) w=_
 by_cases h0:la=0∨lb=0∨size=0
 · simp [hp,run_underlying ht,hz,h0]
 · cases kB with
   | zero=>exact absurd rfl hkB
   | succ kB=>
    simp [hp,run_underlying ht,hz,h0,hnb,hnb',frozen,noView,viewAt,mayBeOne,stringish,shape,Sem.run,hsa,hsb,hfa,hfe]
def qO (P:Program) (ψ:Psi) (h:zC) (n:Key) (w:World) (en:Array Value→Sem Value) (args:Array Value):OR→Prop
 | .val v=>∃ x,(en args).run P w=.ok x w∧zH ψ v x
 | .eff v h' n'=>Rel ψ (zC.fam h) w→(∀ k,n.ix≤k.ix→k.ix<n'.ix→ψ k=none)→n'.room →
  ∃ w' x ψ',(en args).run P w=.ok x w'∧yF ψ (zC.fam h) n w ψ' (zC.fam h') n' w'∧zH ψ' v x
 | .err _=>True
 | _=>False
theorem zDX {c:CV} {b:Nat} {v:Value} (hb:wz c=some b) (hv:zH ψ c v):v=.int .u8 (Int.ofNat b)∧b≤255:=by
 unfold wz at hb
 split at hb
 · split at hb
   · rename_i hle
     injection hb with hb; subst hb
     exact ⟨zd.1 hv,zL hle⟩
   · cases hb
 · cases hb
theorem zPE (c:UInt8) (l:List UInt8):zIU c.toNat (l.map UInt8.toNat)=Lib.countByte l c:=by
 unfold Lib.countByte
 induction l with
 | nil=>rfl
 | cons x l ih=>
  show Bool.rec (motive:=fun _=>Nat) (zIU c.toNat (l.map UInt8.toNat)) (Nat.succ (zIU c.toNat (l.map UInt8.toNat))) (Nat.beq x.toNat c.toNat)=_
  rw [ih,List.count_cons]
  by_cases e:x=c
  · subst e; simp
  · rw [wH (fun h=>e (UInt8.toNat_inj.1 h))]; simp [e]
theorem zKD (c:UInt8):∀ (l:List UInt8) (i:Nat),(match zC8 c.toNat (l.map UInt8.toNat) i with
 | some j=>(j:Int)
 | none=>-1)=(if Lib.indexByte l c = -1 then -1 else (i:Int)+Lib.indexByte l c) ∧ -1≤Lib.indexByte l c
 | [],i=>by simp [zC8,Lib.indexByte]
 | x::l,i=>by
  obtain ⟨h1,h2⟩:=zKD c l (i+1)
  rw [List.map_cons]
  unfold zC8 Lib.indexByte
  by_cases e:x=c
  · subst e; simp
  · rw [wH (fun h=>e (UInt8.toNat_inj.1 h))]
    have e':(x == c)=false:=by simpa using e
    simp only [e']
    rw [h1]
    simp
    constructor
    · split <;> (try split) <;> omega
    · split <;> omega
theorem zFy:∀ (a b:List UInt8),Lib.compareBytes a b=if a=b then 0 else if Op.bytesLess a b then -1 else 1
 | [],[]=>by simp [Lib.compareBytes]
 | [],_::_=>by simp [Lib.compareBytes,Op.bytesLess]
 | _::_,[]=>by simp [Lib.compareBytes,Op.bytesLess]
 | x::a,y::b=>by
  unfold Lib.compareBytes Op.bytesLess
  rw [zFy a b]
  by_cases h1:x<y
  · have:x≠y:=fun e=>by subst e; exact absurd h1 (UInt8.lt_irrefl x)
    simp [h1,this]
  · by_cases h2:y<x
    · have:x≠y:=fun e=>by subst e; exact absurd h2 (UInt8.lt_irrefl x)
      simp [h1,h2,this]
    · have:x=y:=by
       apply UInt8.toNat_inj.1
       rw [UInt8.lt_iff_toNat_lt] at h1 h2
       omega
      subst this
      simp [h1]
theorem zMV {fn:Func} {e:Ext} {en:Array Value→Sem Value} (hex:zCC P fn=some e) (he:zNv fn e=some en) {args:List CV} {as:Array Value} (has:zT ψ args as.toList) :
 qO P ψ h n w en as (zB8 e args h n):=by
 unfold zB8
 split
 · -- count
   rename_i a b
   injection he with he; subst he
   obtain ⟨x,r,e1,hx,hr⟩:=zY.1 has
   obtain ⟨y,r',e2,hy,hr'⟩:=zY.1 hr
   rw [zP] at hr'
   subst e2 hr'
   have:=zBf e1
   subst this
   refine yG (C:=qO P ψ h n w _ _) _ _ _ trivial fun s hs=>?_
   rw [hs,zf] at hx
   obtain ⟨bs,rfl,rfl⟩:=hx
   refine vt (C:=qO P ψ h n w _ _) _ _ _ trivial fun c hc=>?_
   obtain ⟨rfl,hle⟩:=zDX hc hy
   refine ⟨_,Lib.run_countString bs _ w,?_⟩
   have:((Int.ofNat c).toNat.toUInt8).toNat=c:=by simp; omega
   have h2:=zPE ((Int.ofNat c).toNat.toUInt8) bs.data.toList
   rw [this] at h2
   rw [← h2]
   exact xj _
 · -- index
   rename_i a b
   injection he with he; subst he
   obtain ⟨x,r,e1,hx,hr⟩:=zY.1 has
   obtain ⟨y,r',e2,hy,hr'⟩:=zY.1 hr
   rw [zP] at hr'
   subst e2 hr'
   have:=zBf e1
   subst this
   refine yG (C:=qO P ψ h n w _ _) _ _ _ trivial fun s hs=>?_
   rw [hs,zf] at hx
   obtain ⟨bs,rfl,rfl⟩:=hx
   refine vt (C:=qO P ψ h n w _ _) _ _ _ trivial fun c hc=>?_
   obtain ⟨rfl,hle⟩:=zDX hc hy
   have hrun:=Lib.run_indexByteString (P:=P) bs (Int.ofNat c) w
   have:((Int.ofNat c).toNat.toUInt8).toNat=c:=by simp; omega
   obtain ⟨h2,h3⟩:=zKD ((Int.ofNat c).toNat.toUInt8) bs.data.toList 0
   rw [this] at h2
   have h4:(match zC8 c (zp bs) 0 with
    | some j=>(j:Int)
    | none=>-1)=Lib.indexByte bs.data.toList (Int.ofNat c).toNat.toUInt8:=by
    refine h2.trans ?_
    split <;> omega
   rw [← h4] at hrun
   split
   · rename_i i hi
     simp only [hi] at hrun
     exact ⟨_,hrun,xj _⟩
   · rename_i hi
     simp only [hi] at hrun
     exact ⟨_,hrun,zd.2 rfl⟩
 · -- compare
   rename_i a b
   injection he with he; subst he
   obtain ⟨x,r,e1,hx,hr⟩:=zY.1 has
   obtain ⟨y,r',e2,hy,hr'⟩:=zY.1 hr
   rw [zP] at hr'
   subst e2 hr'
   have:=zBf e1
   subst this
   refine yG (C:=qO P ψ h n w _ _) _ _ _ trivial fun s hs=>?_
   rw [hs,zf] at hx
   obtain ⟨bs,rfl,rfl⟩:=hx
   refine yG (C:=qO P ψ h n w _ _) _ _ _ trivial fun s hs=>?_
   rw [hs,zf] at hy
   obtain ⟨cs,rfl,rfl⟩:=hy
   have hrun:=Lib.run_compareString (P:=P) bs cs w
   rw [zFy] at hrun
   rw [jI,jI,qK,kT,ByteArray.toList_eq,ByteArray.toList_eq]
   by_cases e:bs.data.toList=cs.data.toList
   · rw [if_pos e] at hrun
     rw [if_pos (by simpa using e)]
     exact ⟨_,hrun,zS.2 rfl⟩
   · rw [if_neg e] at hrun
     rw [if_neg (by simpa using e)]
     by_cases hl:Op.bytesLess bs.data.toList cs.data.toList=true
     · rw [if_pos hl] at hrun
       rw [if_pos hl]
       exact ⟨_,hrun,zd.2 rfl⟩
     · rw [if_neg hl] at hrun
       rw [if_neg hl]
       exact ⟨_,hrun,zS.2 rfl⟩
 · -- overlaps
   rename_i a b
   injection he with he; subst he
   obtain ⟨x,r,e1,hx,hr⟩:=zY.1 has
   obtain ⟨y,r',e2,hy,hr'⟩:=zY.1 hr
   rw [zP] at hr'
   subst e2 hr'
   have:=zBf e1
   subst this
   refine yJ (C:=qO P ψ h n w _ _) _ _ _ _ trivial (fun _=>trivial) fun k o l c s ex hk=>?_
   refine yJ (C:=qO P ψ h n w _ _) _ _ _ _ trivial (fun _=>trivial) fun j o' m c' s' ex' hj=>?_
   refine zG (C:=qO P ψ h n w _ _) _ _ _ trivial fun hjk=>?_
   refine wh (C:=qO P ψ h n w _ _) _ _ _ trivial fun u vs hvs=>?_
   refine zG (C:=qO P ψ h n w _ _) _ _ _ trivial fun hu=>?_
   refine yO (C:=qO P ψ h n w _ _) _ _ _ trivial fun vs' hvs'=>?_
   refine zG (C:=qO P ψ h n w _ _) _ _ _ trivial fun hl=>?_
   have hjk:j≠k:=by simpa using hjk
   subst hu
   intro hrel _ _
   rw [hk,yC] at hx
   rw [hj,yC] at hy
   obtain ⟨p,x1,cap1,hp,rfl,_⟩:=hx
   obtain ⟨q,x2,cap2,hq,rfl,_⟩:=hy
   have hne:p.blk≠q.blk:=fun e=>hjk (hrel.inj k j _ _ p q hvs hvs' hp hq (.inl rfl) e).symm
   obtain ⟨arr,el,fz,c1,c2,c3,c4,_⟩:jE ψ w p true vs:=hrel.on k _ p hvs hp
   obtain ⟨arr',el',fz',d1,d2,d3,_⟩:yS ψ w q vs':=hrel.on j _ q hvs' hq
   have hl:1≤vg vs':=zL hl
   have hll:=wS vs'
   have hfz:fz.1=fz.2:=by
    rcases c4 with h | h
    · exact h
    · cases h.1
   have hfr:∀ i,w.frozen? ⟨p.blk,i,none⟩=false:=by
    intro i
    unfold World.frozen?
    rw [c1]
    simp
    omega
   obtain ⟨tS,e,hp0,ht,sz,hsz⟩:∃ tS e,fn.params[0]? = some tS∧P.underlying tS=some (.slice e)∧∃ sz,xk P e=some sz:=by
    unfold zCC at hex
    split at hex
    · split at hex
      · cases hex
      · split at hex
        · cases hex
        · split at hex
          · cases hex
          · split at hex <;> cases hex
    · split at hex
      · rename_i ho
        rw [Bool.and_eq_true] at ho
        have hok:=ho.2
        unfold zA1 und at hok
        rw [Bool.and_eq_true] at hok
        have hok:=hok.2
        split at hok
        · rename_i t _ hpl
          split at hok
          · rename_i e ht
            obtain ⟨sz,hsz⟩:=Option.isSome_iff_exists.1 hok
            refine ⟨t,e,?_,ht,sz,hsz⟩
            have:=congrArg (·[0]?) hpl
            simpa using this
          · cases hok
        · cases hok
      · cases hex
   refine ⟨w,.bool false,ψ,?_,yF.refl hrel,zJ.2 rfl⟩
   exact zBh hp0 ht (fun w=>yT hsz w) ⟨p.blk,x1,none⟩ ⟨q.blk,x2,none⟩ _ _ _ _ hne el el' arr.size arr'.size (by unfold World.shape?; rw [c1]) (by unfold World.shape?; rw [d1])
    (by omega) (hfr _) (hfr _)
 · -- clone
   rename_i a
   injection he with he; subst he
   obtain ⟨x,r,e1,hx,hr⟩:=zY.1 has
   rw [zP] at hr
   subst hr
   have:=zBf e1
   subst this
   refine xY (C:=qO P ψ h n w _ _) _ _ _ _ trivial (fun _=>trivial) fun t v hv=>?_
   rw [hv,yU] at hx
   obtain ⟨y,rfl,hy⟩:=hx
   refine y6 (C:=qO P ψ h n w _ _) _ _ _ _ trivial (fun _=>trivial) fun b hb=>?_
   rw [hb,ye] at hy
   obtain ⟨p,hp,rfl⟩:=hy
   refine yL (C:=qO P ψ h n w _ _) _ _ _ trivial fun cs clock hl=>?_
   intro hrel hnew hroom
   obtain ⟨arr,h1,h2,hcp⟩:=hrel.on b _ p hl hp
   have hr:=Key.room_of_succ hroom
   have hix:=Key.ix_succ hr
   have hnone:ψ n=none:=hnew n (Nat.le_refl _) (by omega)
   have hw:=qm w (.map arr (p.ck clock))
   have hpost:=wJ (n:=n) (sz:=0) (ck:=p.ck) (o:=.map cs clock) hrel hr hnone hw ⟨arr,by simp,h2.mono (Psi.le_upd _ hnone),hcp⟩
   refine ⟨_,.iface t (.map (some w.heap.size)),_,?_,by rw [yB]; exact hpost,yU.2 ⟨_,rfl,ye.2 ⟨_,Psi.upd_same _ _ _,rfl⟩⟩⟩
   have hget:=run_getObj_map (P:=P) h1
   rw [show Extern.MapsClone.clone #[Value.iface t (.map (some p.blk))]=(getObj p.blk >>= _) from rfl,Sem.run_bind,hget]
   simp
 · exact trivial
section
variable {o:Op}
theorem zRT {c:Call} {f:FuncId} {fn:Func} {e:Ext} {args:List zU} (hcal:c.callee=.value (.func f)) (hρ:zNl ρ) (hfn:P.funcs[f]? = some fn) (hb:fn.body.isNone=true)
 (he:zCC P fn=some e) (hargs:qS P E c.args.toList=some args) (ha:zx P ψ es tm E ρ c.args.toList):zD P ψ h n ρ (.call c) ty w (zB8 e (aVs es tm args) h n):=by
 obtain ⟨en,h1,h2,h3,h4⟩:=zF9 he
 have has:=kR _ ha hargs
 rw [← Array.toList_map] at has
 have hout:=zMV (P:=P) (h:=h) (n:=n) (w:=w) he h1 has
 have hrun:∀ {x:Value} {w':World},(en (c.args.map ρ)).run P w=.ok x w'→(execOp ρ (xi (.call c) ty)).run P w=.ok (.value x) w':=by
  intro x w' hx
  have:=run_callFunc_extern (P:=P) hfn h2 hb h3 h4 (c.args.map ρ) w
  rw [hx] at this
  simp only [execOp,resolve,hcal,Sem.run_bind,hρ.func,Deferred.ofValue,Sem.run_pure,Result.andThen_ok,invoke]
  have e0:(#[]++c.args.map ρ ++ #[]:Array Value)=c.args.map ρ:=by simp
  rw [e0,this]; rfl
 generalize zB8 e (aVs es tm args) h n=r at hout
 cases r <;> first | exact hout.elim | exact trivial | skip
 case val v=>
  obtain ⟨x,h5,h6⟩:=hout
  exact ⟨x,zM (hrun h5),h6⟩
 case eff v h' n'=>
  intro g1 g2 g3
  obtain ⟨w',x,ψ',h5,h6,h7⟩:=hout g1 g2 g3
  exact ⟨w',x,ψ',zM (hrun h5),h6,h7⟩
theorem zQp (hρ:zNl ρ) (c:Call) (ha:zx P ψ es tm E ρ c.operands.toList):zD P ψ h n ρ (.call c) ty w (yI P (zc P E (.call c)) es tm h n):=by
 have hargsok:zx P ψ es tm E ρ c.args.toList:=ha.sub fun y hy=>by simp [Call.operands]; exact .inr (by simpa using hy)
 rw [show zc P E (.call c)=zFN P E c from rfl]
 unfold zFN
 split
 · rename_i b hc
   exact zJR c b hc hargsok
 · rename_i r name hc
   split
   · rename_i r' args hr hargs
     have hx:=ha r (by simp [Call.operands,hc]) r' hr
     have has:=kR _ hargsok hargs
     rw [← Array.toList_map] at has
     refine zDQ ?_ (zAu (P:=P) (h:=h) (n:=n) (w:=w) name hx has)
     simp only [execOp,resolve,hc,Sem.run_bind,Sem.run_pure,Result.andThen_ok,invoke]
     have e0:(#[ρ r]++c.args.map ρ)[0]? = some (ρ r):=by rw [← Array.getElem?_toList,Array.toList_append]; rfl
     have e1:(#[ρ r]++c.args.map ρ).extract 1 (#[ρ r]++c.args.map ρ).size=c.args.map ρ:=by
      apply Array.ext'
      rw [Array.toList_extract,Array.toList_append,List.extract_eq_take_drop]
      show ((c.args.map ρ).toList).take _=_
      exact List.take_of_length_le (by simp)
     rw [e0]
     simp only
     rw [e1]
   · exact zA _
 · rename_i f hc
   split
   · exact zA _
   · rename_i args hargs
     have has:=kR _ hargsok hargs
     rw [← Array.toList_map] at has
     split
     · rename_i g
       rw [nth_eq]
       split
       · exact zA _
       · rename_i fn hfn
         have hfn:P.funcs[g]? = some fn:=by simpa using hfn
         split
         · intro _
           refine ⟨c.args.map ρ,?_,has⟩
           simp only [execOp,resolve,hc,Sem.run_bind,hρ.func,Deferred.ofValue,Sem.run_pure,Result.andThen_ok,invoke]
           simp
         · rename_i hb
           split
           · rename_i e he
             exact zRT hc hρ hfn (by cases hbb:fn.body <;> simp_all) he hargs hargsok
           · exact zA _
     · split
       · rename_i f' hf
         have hx:=ha f (by simp [Call.operands,hc]) f' hf
         refine zDQ ?_ (zOa (P:=P) (h:=h) (n:=n) (w:=w) hx has)
         simp only [execOp,resolve,hc]
       · exact zA _
theorem zK8 (hρ:zNl ρ) (o:Op) (ha:zx P ψ es tm E ρ o.operands.toList):zD P ψ h n ρ o ty w (yI P (zc P E o) es tm h n):=by
 cases o <;> try exact zA _
 case move=>exact zP4 _ ha
 case assign=>exact zL4 _ ha
 case pick=>exact zPn _ _ _ ha
 case alloc=>exact zNK _
 case box=>exact zRW _ _ ha
 case build=>exact zNP _ _ ha
 case buildSlice=>exact zGg _ _ _ ha
 case load=>exact zQj _ _ ha
 case store=>exact zOl _ _ _ ha
 case nilCheck=>exact zOz _ ha
 case binOp=>exact zOF _ _ _ _ _ ha
 case unOp=>exact zQT _ _ _ ha
 case convert=>exact zI4 _ _ _ ha
 case makeInterface=>exact zBQ _ _ ha
 case makeFunc=>exact zIu _ _ _ (ha.sub fun y hy=>by simp [Op.operands] at hy ⊢; exact hy)
 case makeMap=>exact zJp _ _ hρ.const
 case makeSlice=>exact zGo _ _ _ ha
 case slice=>exact zNZ _ _ _ _ _ (ha.sub fun y hy=>by simp [Op.operands] at hy ⊢; exact hy)
 case fieldAddr=>exact zGu _ _ _ ha
 case field=>exact zND _ _ _ ha
 case indexAddr=>exact zGq _ _ _ ha
 case index=>exact zN7 _ _ _ ha
 case lookup=>exact zKV _ _ _ _ ha
 case mapUpdate=>exact zGm _ _ _ _ ha
 case insert=>exact zK1 _ _ _ _ ha
 case range=>exact zOG _ _ ha
 case next=>exact zP3 _ _ ha
 case entry=>exact zN9 _ ha
 case typeAssert=>exact zFl _ _ _ _ ha
 case extract=>exact zJa _ _ ha
 case call=>exact zQp hρ _ ha
 case defer=>exact zOp _ ha
end
end
end Go.Ev
namespace Go.Ev
variable [Sym]
noncomputable section
variable {P:Program} {es:List CV} {tm:Tm} {h:zC} {n:Key}
variable [SymFact P]
def zE (n:Key):OR→Prop
 | .eff _ _ n'=>n.ix≤n'.ix
 | .fork a b=>zE n a∧zE n b
 | _=>True
theorem zMI {x:CV} (s:Nat) (nf:Nat→Nat) (k:Nat→List CV→OR) (e:Nat) (hk:∀ m l,zE n (k m l)):zE n (zLG h s x k nf e):=by
 unfold zLG
 split
 · refine zG (C:=zE n) _ _ _ trivial fun _=>?_
   exact yK (C:=zE n) _ _ _ trivial fun _ _=>hk _ _
 · refine zG (C:=zE n) _ _ _ trivial fun _=>?_
   exact yK (C:=zE n) _ _ _ trivial fun _ _=>hk _ _
 · exact zG (C:=zE n) _ _ _ trivial fun _=>hk _ _
 · refine yJ (C:=zE n) _ _ _ _ trivial (fun _=>hk _ _) fun _ _ _ _ _ _ _=>?_
   refine yv (C:=zE n) _ _ _ trivial fun _ _=>?_
   exact yK (C:=zE n) _ _ _ trivial fun _ _=>hk _ _
theorem uA (v:Option CV) (e:Nat):zE n (zDZ v e):=by cases v <;> trivial
theorem zGQ (k:IntKind):∀ (m:Nat),zE n (zLR k m)
 | 0=>trivial
 | m+1=>⟨zGQ k m,trivial⟩
theorem zHu (k:IntKind):∀ (m:Nat),zE n (zK4 k m)
 | 0=>trivial
 | m+1=>⟨zHu k m,trivial,trivial⟩
theorem yc (op:BinOp) (j k:IntKind):zE n (qt op j k):=by
 refine zG (C:=zE n) _ _ _ trivial fun _=>?_
 cases op <;> first | trivial | exact ⟨trivial,trivial⟩
theorem zOU (op:BinOp) (k:IntKind) (b:Int):zE n (zF2 op k b):=by
 cases op
 case add=>exact yc .add k k
 case sub=>exact yc .sub k k
 case mul=>exact yc .mul k k
 case or=>exact yc .or k k
 case xor=>exact yc .xor k k
 case andNot=>exact yc .andNot k k
 case eql=>exact yc .eql k k
 case neq=>exact yc .neq k k
 case lss=>exact yc .lss k k
 case leq=>exact yc .leq k k
 case gtr=>exact yc .gtr k k
 case geq=>exact yc .geq k k
 case quo=>cases b with
  | ofNat m=>cases m <;> trivial
  | negSucc m=>trivial
 case rem=>cases b with
  | ofNat m=>cases m with
   | zero=>trivial
   | succ m=>
    refine zG (C:=zE n) _ _ _ trivial fun _=>?_
    split
    · exact zHu k m
    · trivial
  | negSucc m=>trivial
 case and=>cases b with
  | ofNat m=>
   refine zG (C:=zE n) _ _ _ trivial fun _=>?_
   exact zGQ k m
  | negSucc m=>trivial
 case shl=>cases b <;> trivial
 case shr=>cases b <;> trivial
theorem zOL (op:BinOp) (x y:CV):zE n (zK5 op x y):=by
 have right:∀ (k j:IntKind) (b:Int),zE n (yb (kEq k j || yu op) (zF2 op k b) 118):=fun k j b=>zG (C:=zE n) _ _ _ trivial fun _=>zOU _ _ _
 refine zHE (C:=zE n) _ _ _ _ _ trivial (fun a _=>?_) (fun k a _=>?_) (fun k _=>?_) (fun s _=>?_)
 · refine jy (C:=zE n) _ _ _ _ trivial (fun _ _=>?_) (fun _ _ _=>?_) (fun _ _=>yc _ _ _)
   · exact zG (C:=zE n) _ _ _ trivial fun _=>uA _ _
   · exact zG (C:=zE n) _ _ _ trivial fun _=>uA _ _
 · refine jy (C:=zE n) _ _ _ _ trivial (fun _ _=>?_) (fun _ _ _=>?_) (fun _ _=>yc _ _ _)
   · exact zG (C:=zE n) _ _ _ trivial fun _=>uA _ _
   · exact zG (C:=zE n) _ _ _ trivial fun _=>uA _ _
 · exact jy (C:=zE n) _ _ _ _ trivial (fun _ _=>right _ _ _) (fun _ _ _=>right _ _ _) (fun _ _=>yc _ _ _)
 · exact yG (C:=zE n) _ _ _ trivial fun _ _=>uA _ _
theorem zNa (o:Option (List CV)) (e:Nat):zE n (zSh o e):=by
 have:∀ (l:List CV) (c:CV),zE n (forkL c l):=by
  intro l
  induction l with
  | nil=>intro c; trivial
  | cons d l ih=>intro c; exact ⟨trivial,ih d⟩
 cases o with
 | none=>trivial
 | some l=>cases l with
  | nil=>trivial
  | cons c l=>exact this l c
theorem zOx (op:BinOp) (x y:CV):zE n (j8 op x y):=by
 unfold j8
 split
 · unfold zQw
   split <;> first | trivial | (rw [jI]; split <;> first | trivial | exact ⟨trivial,trivial⟩)
 · split
   · exact zNa _ _
   · exact zOL _ _ _
theorem zDd (c:Option zU) (y d:Nat) (k:Nat→OR) (e:Nat) (hk:∀ i,zE n (k i)):zE n (zBi es tm c y d k e):=by
 cases c with
 | none=>exact hk _
 | some c=>
  refine yM (C:=zE n) _ _ _ trivial fun _ _=>?_
  exact zG (C:=zE n) _ _ _ trivial fun _=>hk _
theorem jA (len cap:Nat) (lo hi mx:Option zU) (k:Nat→Nat→Nat→OR) (e:Nat) (hk:∀ i j l,zE n (k i j l)):zE n (qi es tm len cap lo hi mx k e):=
 zDd _ _ _ _ _ fun _=>zDd _ _ _ _ _ fun _=>zDd _ _ _ _ _ fun _=>hk _ _ _
theorem zBA (b:Key) (off esz:Nat) (ex:Bool) (i j l:Nat):zE n (zMW b off esz ex i j l):=by
 refine zG (C:=zE n) _ _ _ trivial fun _=>?_
 rw [zm,zm,zm]; trivial
theorem zJZ (a:Bool) (s:Nat) (cs:List CV) (off e:Nat):zE n (zRn a s cs off e):=by
 cases a with
 | true=>exact wC (C:=zE n) _ _ trivial fun _ _=>trivial
 | false=>exact qe (C:=zE n) _ _ trivial fun _ _=>trivial
theorem zIm (ok:Bool) (z:Option CV):zE n (noV ok z):=by unfold noV; split <;> trivial
theorem zBH (r:CV) (name:String) (args:List CV):zE n (zHc P h r name args):=by
 refine xY (C:=zE n) _ _ _ _ trivial (fun _=>trivial) fun _ _ _=>?_
 split <;> trivial
theorem zO8 (f:CV) (args:List CV):zE n (zQa P h f args):=by
 refine wg (C:=zE n) _ _ _ trivial fun fn a c _=>?_
 split
 · trivial
 · split
   · exact zBH _ _ _
   · trivial
 · split
   · split
     · exact zBH _ _ _
     · exact zBH _ _ _
     · trivial
   · trivial
 · split
   · split
     · split <;> trivial
     · trivial
   · trivial
 · trivial
theorem zEw {f:CE→OR} (hf:∀ c,zE n (f c)):∀ (l:List CE) (e:CE),zE n (zD6 f e l)
 | [],e=>hf e
 | e'::l,e=>⟨hf e,zEw hf l e'⟩
theorem zKZ (e:Ext) (args:List CV):zE n (zB8 e args h n):=by
 unfold zB8
 split
 · refine yG (C:=zE n) _ _ _ trivial fun _ _=>?_
   exact vt (C:=zE n) _ _ _ trivial fun _ _=>trivial
 · refine yG (C:=zE n) _ _ _ trivial fun _ _=>?_
   refine vt (C:=zE n) _ _ _ trivial fun _ _=>?_
   split <;> trivial
 · refine yG (C:=zE n) _ _ _ trivial fun _ _=>?_
   refine yG (C:=zE n) _ _ _ trivial fun _ _=>?_
   rw [jI,jI]
   split
   · trivial
   · split <;> trivial
 · refine yJ (C:=zE n) _ _ _ _ trivial (fun _=>trivial) fun _ _ _ _ _ _ _=>?_
   refine yJ (C:=zE n) _ _ _ _ trivial (fun _=>trivial) fun _ _ _ _ _ _ _=>?_
   refine zG (C:=zE n) _ _ _ trivial fun _=>?_
   refine wh (C:=zE n) _ _ _ trivial fun _ _ _=>?_
   refine zG (C:=zE n) _ _ _ trivial fun _=>?_
   refine yO (C:=zE n) _ _ _ trivial fun _ _=>?_
   exact zG (C:=zE n) _ _ _ trivial fun _=>Nat.le_refl _
 · refine xY (C:=zE n) _ _ _ _ trivial (fun _=>trivial) fun _ _ _=>?_
   refine y6 (C:=zE n) _ _ _ _ trivial (fun _=>trivial) fun _ _=>?_
   exact yL (C:=zE n) _ _ _ trivial fun _ _ _=>Key.ix_le_succ n
 · trivial
theorem zJ9 (esz k:Nat) (xs:List CV) (sv:CV):zE n (zGK esz k xs sv h n):=by
 unfold zGK
 refine yJ (C:=zE n) _ _ _ _ trivial (fun _=>?_) fun _ _ _ _ _ _ _=>?_
 · cases k with
   | zero=>exact Nat.le_refl _
   | succ k=>
    refine zG (C:=zE n) _ _ _ trivial fun _=>?_
    rw [zm]; exact Key.ix_le_succ n
 · refine zG (C:=zE n) _ _ _ trivial fun _=>?_
   refine wh (C:=zE n) _ _ _ ?_ fun _ _ _=>?_
   rotate_left
   · rw [zm]
     refine zG (C:=zE n) _ _ _ trivial fun _=>?_
     exact yK (C:=zE n) _ _ _ trivial fun _ _=>Key.ix_le_succ n
   refine yO (C:=zE n) _ _ _ trivial fun _ _=>?_
   rw [zm,jI]
   split
   · exact yK (C:=zE n) _ _ _ trivial fun _ _=>Nat.le_refl _
   · refine zG (C:=zE n) _ _ _ trivial fun _=>?_
     exact yK (C:=zE n) _ _ _ trivial fun _ _=>Key.ix_le_succ n
theorem wj (op:COp):zE n (yI P op es tm h n):=by
 cases op
 case mv=>trivial
 case pick=>
  refine vA (C:=zE n) _ _ _ trivial fun b _=>?_
  cases b <;> trivial
 case alloc=>trivial
 case box=>exact yK (C:=zE n) _ _ _ trivial fun _ _=>trivial
 case build=>exact wC (C:=zE n) _ _ trivial fun _ _=>trivial
 case bslice=>exact yK (C:=zE n) _ _ _ trivial fun _ _=>trivial
 case load1=>
  refine zAt (C:=zE n) _ _ _ ?_ fun _ _ _=>?_
  · unfold zS7
    split
    · refine yv (C:=zE n) _ _ _ trivial fun _ _=>?_
      exact vw (C:=zE n) _ _ trivial fun _ _=>trivial
    · trivial
  refine yv (C:=zE n) _ _ _ trivial fun _ _=>?_
  exact vw (C:=zE n) _ _ trivial fun _ _=>trivial
 case loadN=>
  refine y9 (C:=zE n) _ _ _ trivial fun _ _ _=>?_
  refine yv (C:=zE n) _ _ _ trivial fun _ _=>?_
  exact zEt (C:=zE n) _ _ trivial fun _ _=>trivial
 case store=>
  refine y9 (C:=zE n) _ _ _ trivial fun _ _ _=>?_
  refine yO (C:=zE n) _ _ _ trivial fun _ _=>?_
  refine yK (C:=zE n) _ _ _ trivial fun _ _=>?_
  refine zG (C:=zE n) _ _ _ trivial fun _=>?_
  exact yK (C:=zE n) _ _ _ trivial fun _ _=>Nat.le_refl _
 case nilck x=>
  refine zAt (C:=zE n) _ _ _ ?_ fun _ _ _=>trivial
  show zE n (zFx (aV es tm x))
  unfold zFx
  split <;> trivial
 case arith op x y=>
  show zE n (zOS (aV es tm x) (fun a=>zOS (aV es tm y) (fun b=>zLP op a b (aV es tm x) (aV es tm y)) (j8 op (aV es tm x) (aV es tm y))) (j8 op (aV es tm x) (aV es tm y)))
  have hg:=zOx (n:=n) op (aV es tm x) (aV es tm y)
  cases hx:aV es tm x <;> try (rw [hx] at hg; exact hg)
  case nat a=>
   rw [hx] at hg
   cases hy:aV es tm y <;> try (rw [hy] at hg; exact hg)
   case nat b=>
    rw [hy] at hg
    show zE n (Option.rec (motive:=fun _=>BinOp→CV→CV→OR) (fun op x y=>j8 op x y) (fun v _ _ _=>.val v) (zGT op a b) op (.nat a) (.nat b))
    cases zGT op a b with
    | none=>exact hg
    | some v=>trivial
 case eq neg k cst x y=>
  show zE n (match eqC k cst (aV es tm x) (aV es tm y) with
   | some b=>.val (.bool (xor neg b))
   | none=>.err 123)
  split <;> trivial
 case un op x=>
  cases op with
  | neg=>exact uK (C:=zE n) _ _ _ trivial (fun _ _=>trivial) fun _ _ _=>trivial
  | xor=>exact uK (C:=zE n) _ _ _ trivial (fun _ _=>trivial) fun _ _ _=>trivial
  | not=>exact vA (C:=zE n) _ _ _ trivial fun _ _=>trivial
  | plus=>trivial
 case cvInt k x=>
  show zE n (zF4 k (aV es tm x))
  unfold zF4
  split
  · exact zNa _ _
  · exact jy (C:=zE n) _ _ _ _ trivial (fun _ _=>trivial) (fun _ _ _=>trivial) fun _ _=>trivial
 case cvStr=>exact yG (C:=zE n) _ _ _ trivial fun _ _=>trivial
 case cvSB=>
  refine xg (C:=zE n) _ _ _ ?_ fun _ _=>by rw [zm]; trivial
  refine yG (C:=zE n) _ _ _ trivial fun _ _=>?_
  rw [zm]; trivial
 case cvMark=>
  refine yJ (C:=zE n) _ _ _ _ trivial (fun _=>trivial) fun _ _ _ _ _ _ _=>?_
  exact yO (C:=zE n) _ _ _ trivial fun _ _=>Nat.le_refl _
 case cvBS=>
  refine qP (C:=zE n) _ _ _ ?_ fun _ _ _ _ _=>zG (C:=zE n) _ _ _ trivial fun _=>trivial
  refine yJ (C:=zE n) _ _ _ _ trivial (fun _=>trivial) fun _ _ _ _ _ _ _=>?_
  refine yv (C:=zE n) _ _ _ trivial fun _ _=>?_
  refine yK (C:=zE n) _ _ _ trivial fun _ _=>?_
  unfold zK0
  split
  · trivial
  · split <;> trivial
 case iface=>trivial
 case mkfn=>trivial
 case mkmap=>trivial
 case mkslice=>
  refine yM (C:=zE n) _ _ _ trivial fun _ _=>?_
  refine yM (C:=zE n) _ _ _ trivial fun _ _=>?_
  refine zG (C:=zE n) _ _ _ trivial fun _=>?_
  rw [zm,zm]; trivial
 case slArr=>exact y9 (C:=zE n) _ _ _ trivial fun _ _ _=>jA _ _ _ _ _ _ _ fun _ _ _=>zBA _ _ _ _ _ _ _
 case slSl=>
  refine qP (C:=zE n) _ _ _ ?_ fun _ _ _ _ _=>by
   unfold zGH
   split
   · split
     · split
       · rw [zm]; trivial
       · trivial
     · trivial
   · trivial
  refine yJ (C:=zE n) _ _ _ _ trivial (fun _=>jA _ _ _ _ _ _ _ fun _ _ _=>trivial) fun _ _ _ _ _ _ _=>?_
  refine zG (C:=zE n) _ _ _ trivial fun _=>?_
  unfold zAH
  split
  · split
    · split
      · refine yO (C:=zE n) _ _ _ trivial fun _ _=>?_
        refine zG (C:=zE n) _ _ _ trivial fun _=>?_
        rw [zm]; trivial
      · exact jA _ _ _ _ _ _ _ fun _ _ _=>zBA _ _ _ _ _ _ _
    · exact jA _ _ _ _ _ _ _ fun _ _ _=>zBA _ _ _ _ _ _ _
  · exact jA _ _ _ _ _ _ _ fun _ _ _=>zBA _ _ _ _ _ _ _
 case slStr=>
  refine xg (C:=zE n) _ _ _ ?_ fun _ _=>by
   rw [zm]
   refine jA _ _ _ _ _ _ _ fun _ _ _=>?_
   refine zG (C:=zE n) _ _ _ trivial fun _=>?_
   exact yK (C:=zE n) _ _ _ trivial fun _ _=>trivial
  refine yG (C:=zE n) _ _ _ trivial fun _ _=>?_
  rw [zm]
  refine jA _ _ _ _ _ _ _ fun _ _ _=>?_
  refine zG (C:=zE n) _ _ _ trivial fun _=>?_
  exact zHm (C:=zE n) _ _ trivial fun _ _=>trivial
 case addOff=>
  refine y9 (C:=zE n) _ _ _ trivial fun _ _ _=>?_
  rw [zm]; trivial
 case part=>exact uX (C:=zE n) _ _ _ trivial fun _ _=>zJZ _ _ _ _ _
 case ixArr=>
  refine y9 (C:=zE n) _ _ _ trivial fun _ _ _=>?_
  refine yM (C:=zE n) _ _ _ trivial fun _ _=>?_
  refine zG (C:=zE n) _ _ _ trivial fun _=>?_
  rw [zm]; trivial
 case ixSl=>
  refine qP (C:=zE n) _ _ _ ?_ fun _ _ _ _ _=>by
   unfold zPt
   split
   · split
     · split <;> trivial
     · trivial
   · unfold zK3
     split
     · split
       · rw [zm]; trivial
       · trivial
     · trivial
  refine yJ (C:=zE n) _ _ _ _ trivial (fun _=>trivial) fun _ _ _ _ _ _ _=>?_
  refine zEL (C:=zE n) ?_ fun _ _ _ _ _ _ _=>trivial
  refine yM (C:=zE n) _ _ _ trivial fun _ _=>?_
  refine zG (C:=zE n) _ _ _ trivial fun _=>?_
  rw [zm]; trivial
 case ixAgg=>
  refine uX (C:=zE n) _ _ _ trivial fun _ _=>?_
  refine yM (C:=zE n) _ _ _ trivial fun _ _=>?_
  exact zG (C:=zE n) _ _ _ trivial fun _=>zJZ _ _ _ _ _
 case ixStr=>
  refine xg (C:=zE n) _ _ _ ?_ fun _ _=>by
   refine yM (C:=zE n) _ _ _ trivial fun _ _=>?_
   exact qe (C:=zE n) _ _ trivial fun _ _=>trivial
  refine yG (C:=zE n) _ _ _ trivial fun _ _=>?_
  refine yM (C:=zE n) _ _ _ trivial fun _ _=>?_
  exact vt (C:=zE n) _ _ _ trivial fun _ _=>trivial
 case lookup kk z ok x k=>
  have hl:∀ l,zE n (zCg kk z ok (aV es tm k) l):=by
   intro l
   refine zG (C:=zE n) _ _ _ trivial fun _=>?_
   split <;> trivial
  refine y6 (C:=zE n) _ _ _ _ trivial (fun _=>hl _) fun _ _=>?_
  refine w7 (C:=zE n) _ _ _ ?_ fun _ _=>by
   refine zG (C:=zE n) _ _ _ trivial fun _=>?_
   split <;> trivial
  exact yL (C:=zE n) _ _ _ trivial fun _ _ _=>hl _
 case mapupd=>
  refine y6 (C:=zE n) _ _ _ _ trivial (fun _=>trivial) fun _ _=>?_
  refine w7 (C:=zE n) _ _ _ ?_ fun _ _=>by
   refine zG (C:=zE n) _ _ _ trivial fun _=>?_
   split
   · exact Nat.le_refl _
   · trivial
  refine yL (C:=zE n) _ _ _ trivial fun _ _ _=>?_
  refine zG (C:=zE n) _ _ _ trivial fun _=>?_
  split
  · split
    · exact Nat.le_refl _
    · trivial
  · rw [zm]; exact Nat.le_refl _
  · trivial
 case rangeStr=>exact xg (C:=zE n) _ _ _ (yG (C:=zE n) _ _ _ trivial fun _ _=>trivial) fun _ _=>trivial
 case rangeMap=>
  refine y6 (C:=zE n) _ _ _ _ trivial (fun _=>trivial) fun _ _=>?_
  exact yL (C:=zE n) _ _ _ trivial fun _ _ _=>Key.ix_le_succ n
 case next=>
  refine y9 (C:=zE n) _ _ _ trivial fun _ _ _=>?_
  refine zG (C:=zE n) _ _ _ trivial fun _=>?_
  unfold zRp
  split
  · unfold zId
    split
    · exact Nat.le_refl _
    · split
      · rw [zm]; exact Nat.le_refl _
      · trivial
  · exact Nat.le_refl _
  · refine yL (C:=zE n) _ _ _ trivial fun _ _ _=>?_
    split
    · trivial
    · split
      · exact Nat.le_refl _
      · exact zG (C:=zE n) _ _ _ trivial fun _=>zEw (fun _=>Nat.le_refl _) _ _
  · trivial
 case entry=>
  refine y9 (C:=zE n) _ _ _ trivial fun _ _ _=>?_
  refine zG (C:=zE n) _ _ _ trivial fun _=>?_
  unfold zKR
  split
  · split
    · refine yL (C:=zE n) _ _ _ trivial fun _ _ _=>?_
      split <;> trivial
    · trivial
  · trivial
 case tassert=>
  refine xY (C:=zE n) _ _ _ _ trivial (fun _=>zIm _ _) fun _ _ _=>?_
  rw [jI]
  split
  · trivial
  · exact zIm _ _
 case tiface=>
  refine xY (C:=zE n) _ _ _ _ trivial (fun _=>zIm _ _) fun _ _ _=>?_
  split
  · trivial
  · exact zIm _ _
  · trivial
 case extract=>exact zFM (C:=zE n) _ _ _ trivial fun _ _=>uA _ _
 case call=>trivial
 case ext e args=>exact zKZ e _
 case callv=>exact zO8 _ _
 case invoke=>exact zBH _ _ _
 case append esz bb s x=>
  show zE n (zAK esz bb s x es tm h n)
  unfold zAK
  refine zMI _ _ _ _ fun k l=>?_
  exact zG (C:=zE n) _ _ _ trivial fun _=>zJ9 _ _ _ _
 case appz zero esz s x=>
  refine yM (C:=zE n) _ _ _ trivial fun _ _=>?_
  refine zG (C:=zE n) _ _ _ trivial fun _=>?_
  rw [zm]
  exact zG (C:=zE n) _ _ _ trivial fun _=>zJ9 _ _ _ _
 case copy esz d x=>
  show zE n (zHh esz d x es tm h n)
  have hk:∀ nf,zE n (zLG h esz (aV es tm x) (fun k xs=>um (aV es tm d)
   (.eff (.nat 0) h n)
   (fun b off _ _ _ _=>kH (ze b h) (fun vs=>yb (xJ xs) (onL (jG xs (Nat.mul k esz) vs off) (fun l=>.eff (kS k) (yj (some (.cells l)) b h) n) 232) 233) 234) 235) nf 236):=by
   intro nf
   refine zMI _ _ _ _ fun k l=>?_
   refine yJ (C:=zE n) _ _ _ _ trivial (fun _=>Nat.le_refl _) fun _ _ _ _ _ _ _=>?_
   refine yO (C:=zE n) _ _ _ trivial fun _ _=>?_
   refine zG (C:=zE n) _ _ _ trivial fun _=>?_
   exact yK (C:=zE n) _ _ _ trivial fun _ _=>Nat.le_refl _
  unfold zHh zQZ
  split
  · exact hk _
  · exact yJ (C:=zE n) _ _ _ _ trivial (fun _=>hk _) fun _ _ _ _ _ _ _=>hk _
 case lenStr=>exact xg (C:=zE n) _ _ _ (yG (C:=zE n) _ _ _ trivial fun _ _=>trivial) fun _ _=>trivial
 case lenSl=>exact qP (C:=zE n) _ _ _ (yJ (C:=zE n) _ _ _ _ trivial (fun _=>trivial) fun _ _ _ _ _ _ _=>trivial) fun _ _ _ _ _=>trivial
 case lenMap=>
  refine y6 (C:=zE n) _ _ _ _ trivial (fun _=>trivial) fun _ _=>?_
  exact yL (C:=zE n) _ _ _ trivial fun _ _ _=>trivial
 case capSl=>
  refine yJ (C:=zE n) _ _ _ _ trivial (fun _=>trivial) fun _ _ _ _ _ ex _=>?_
  cases ex
  · show zE n (zQ5 _ _ _ _ _ h n)
    unfold zQ5
    rw [jI]
    split
    · trivial
    · refine yO (C:=zE n) _ _ _ trivial fun _ _=>?_
      exact zG (C:=zE n) _ _ _ trivial fun _=>⟨Nat.le_refl _,Nat.le_refl _⟩
  · trivial
 case delete=>
  refine zG (C:=zE n) _ _ _ trivial fun _=>?_
  refine y6 (C:=zE n) _ _ _ _ trivial (fun _=>Nat.le_refl _) fun _ _=>?_
  refine yL (C:=zE n) _ _ _ trivial fun _ _ _=>?_
  split
  · split
    · exact Nat.le_refl _
    · trivial
  · exact Nat.le_refl _
  · trivial
 case clearMap=>
  refine y6 (C:=zE n) _ _ _ _ trivial (fun _=>Nat.le_refl _) fun _ _=>?_
  exact yL (C:=zE n) _ _ _ trivial fun _ _ _=>Nat.le_refl _
 case clearSl=>
  refine yJ (C:=zE n) _ _ _ _ trivial (fun _=>Nat.le_refl _) fun _ _ _ _ _ _ _=>?_
  refine yO (C:=zE n) _ _ _ trivial fun _ _=>?_
  refine zG (C:=zE n) _ _ _ trivial fun _=>?_
  exact yK (C:=zE n) _ _ _ trivial fun _ _=>Nat.le_refl _
 case minmax=>exact uA _ _
 case defer=>
  refine wg (C:=zE n) _ _ _ trivial fun _ _ _ _=>?_
  split <;> trivial
 case recov=>trivial
 case bad=>trivial
end
end Go.Ev
namespace Go.Ev
variable [Sym]
noncomputable section
variable {P:Program}
variable [SymFact P]
def zX:R→Prop
 | .ok _ _ _ _ n=>n.room
 | .ret _ _ n=>n.room
 | .err _=>False
 | .fork a b=>zX a∧zX b
def zj (n:Key):R→Prop
 | .ok _ _ _ _ n'=>n.ix≤n'.ix
 | .ret _ _ n'=>n.ix≤n'.ix
 | .err _=>True
 | .fork a b=>zj n a∧zj n b
theorem uI {n:Key}:∀ {r:R},zX r→zj n r→n.room
 | .ok _ _ _ _ n',h,h'=>Nat.lt_of_le_of_lt h' h
 | .ret _ _ n',h,h'=>Nat.lt_of_le_of_lt h' h
 | .fork a _,h,h'=>uI h.1 h'.1
theorem zj.le {n n':Key} (hle:n.ix≤n'.ix):∀ {r:R},zj n' r→zj n r
 | .ok _ _ _ _ _,h=>Nat.le_trans hle h
 | .ret _ _ _,h=>Nat.le_trans hle h
 | .err _,_=>trivial
 | .fork _ _,h=>⟨zj.le hle h.1,zj.le hle h.2⟩
def yt (call:yX):Prop:=∀ d f args h n,zj n (call d f args h n)
theorem z7 (d:Option Loc) (v:CV) (tm:Tm) (k:Tm→R):yD d v tm k=k (match d with | none=>tm | some p=>wF v p tm):=by cases d <;> rfl
def qx (k:CV→zC→Key→R) (r:R):R:=R.rec (motive:=fun _=>R) (fun _ _ _ _ _=>.err 300) (fun v h n=>k v h n) (fun c=>.err c) (fun _ _ a b=>.fork a b) r
theorem qk {k:CV→zC→Key→R} (hk:∀ v h n,zj n (k v h n)):∀ {r:R},zX (qx k r)→zX r
 | .ok ..,h=>h.elim
 | .ret v h n,hc=>uI hc (hk v h n)
 | .err _,h=>h.elim
 | .fork _ _,h=>⟨qk hk h.1,qk hk h.2⟩
theorem ql {n:Key} {k:CV→zC→Key→R} (hk:∀ v h n,zj n (k v h n)):∀ {r:R},zj n r→zj n (qx k r)
 | .ok ..,_=>trivial
 | .ret v h n',hc=>zj.le hc (hk v h n')
 | .err _,_=>trivial
 | .fork _ _,h=>⟨ql hk h.1,ql hk h.2⟩
theorem kM {call:yX} (hcall:yt call) {k:KE} (hk:∀ es tm ds h n,zj n (k es tm ds h n)) (d:Option Loc) (es:List CV) (tm:Tm) (ds:xP) (h:zC) (n:Key) :
 ∀ (r:OR),zE n r→zj n (after r call k d es tm ds h n)
 | .val v,_=>by show zj n (yD _ _ _ _); rw [z7]; exact hk _ _ _ _ _
 | .read v,_=>by show zj n (yD _ _ _ _); rw [z7]; exact hk _ _ _ _ _
 | .alloc o v,_=>by show zj n (yD _ _ _ _); rw [z7]; exact zj.le (Key.ix_le_succ n) (hk _ _ _ _ _)
 | .eff v h' n',ho=>by show zj n (yD _ _ _ _); rw [z7]; exact zj.le ho (hk _ _ _ _ _)
 | .call f args,_=>ql (k:=fun v h n=>yD d v tm fun tm=>k (v::es) tm ds h n) (fun v h n=>by rw [z7]; exact hk _ _ _ _ _) (hcall _ _ _ _ _)
 | .dfr f args,_=>by show zj n (yD _ _ _ _); rw [z7]; exact hk _ _ _ _ _
 | .recov,_=>by show zj n (yD _ _ _ _); rw [z7]; exact hk _ _ _ _ _
 | .err _,_=>trivial
 | .fork a b,ho=>⟨kM hcall hk d es tm ds h n a ho.1,kM hcall hk d es tm ds h n b ho.2⟩
theorem jr {call:yX} (hcall:yt call):∀ (l:List qU) (es:List CV) (tm:Tm) (ds:xP) (h:zC) (n:Key),zj n (yg P call l es tm ds h n)
 | [],_,_,_,_,_=>Nat.le_refl _
 | .i op::l,es,tm,ds,h,n=>kM hcall (fun es tm ds h n=>jr hcall l es tm ds h n) none es tm ds h n _ (wj op)
 | .o op d::l,es,tm,ds,h,n=>kM hcall (fun es tm ds h n=>jr hcall l es tm ds h n) (some d) es tm ds h n _ (wj op)
 | .g x wnt op d::l,es,tm,ds,h,n=>by
  show zj n (Bool.rec (motive:=fun _=>R)
   (Bool.rec (motive:=fun _=>R) (.err 299) (yD d .undef tm fun tm=>yg P call l (.undef::es) tm ds h n) (kc (aV es tm x)))
   (after (yI P op es tm h n) call (yg P call l) d es tm ds h n) (jd wnt (aV es tm x)))
  cases jd wnt (aV es tm x) with
  | true=>exact kM hcall (fun es tm ds h n=>jr hcall l es tm ds h n) d es tm ds h n _ (wj op)
  | false=>
   cases kc (aV es tm x) with
   | true=>show zj n (yD _ _ _ _); rw [z7]; exact jr hcall l _ _ _ _ _
   | false=>trivial
structure yx (ψ:Psi) (F N:Nat) (tm:Tm) (a:Act):Prop where
 size:N≤a.tmps.size
 tmp:∀ t,zr F t=true→t≤271→t<N→zH ψ (x7 (Loc.ofNat t) tm) (a.tmps.getD t undef)
def ul (ψ:Psi) (dl:List (Option Nat)) (es:List CV) (a:Act):Prop:=∀ t i,xF t dl 0=some i→zH ψ (zSs es i) (a.tmps.getD t undef)
def wd (P:Program) (ψ:Psi):Prop:=∀ g,g<P.globals.size→g≤4095→∃ sz,ψ (Key.ofNat g)=some ⟨g,0,sz,fun n=>n⟩
def qW (ψ:Psi) (n:Key):Prop:=∀ k:Key,n.ix≤k.ix→ψ k=none
def zTA (P:Program) (ψ:Psi) (f:FuncId × List CV) (d:Deferred):Prop:=
 ∃ fv cap args',d.target=.fn fv cap∧(∀ w,(invoke d.target d.args).run P w=(callFunc f.1 args').run P w)∧zT ψ f.2 args'.toList
def qy (P:Program) (ψ:Psi):xP→List Deferred→Prop
 | [],l=>l=[]
 | f::fs,l=>∃ d r,l=d::r∧zTA P ψ f d∧qy P ψ fs r
structure St (P:Program) (F N:Nat) (ψ:Psi) (tm:Tm) (ds:xP) (h:zC) (n:Key) (a:Act) (w:World):Prop where
 frame:yx ψ F N tm a
 dfr:qy P ψ ds a.defers
 rel:Rel ψ (zC.fam h) w
 glob:wd P ψ
 fresh:qW ψ n
theorem wd.mono {ψ ψ':Psi} (hle:ψ.le ψ') (h:wd P ψ):wd P ψ':=fun g h1 h2=>let ⟨sz,e⟩:=h g h1 h2; ⟨sz,hle _ _ e⟩
theorem qy.mono {ψ ψ':Psi} (hle:ψ.le ψ'):∀ {ds:xP} {l:List Deferred},qy P ψ ds l→qy P ψ' ds l
 | [],_,h=>h
 | f::fs,_,h=>by
  obtain ⟨d,r,rfl,⟨fv,cap,as,h1,h2,h3⟩,h4⟩:=h
  exact ⟨d,r,rfl,⟨fv,cap,as,h1,h2,h3.mono hle⟩,qy.mono hle h4⟩
theorem yx.mono {ψ ψ':Psi} (hle:ψ.le ψ') {F N:Nat} {tm:Tm} {a:Act} (h:yx ψ F N tm a):yx ψ' F N tm a:=⟨h.size,fun t h1 h2 h3=>(h.tmp t h1 h2 h3).mono hle⟩
theorem ul.mono {ψ ψ':Psi} (hle:ψ.le ψ') {dl:List (Option Nat)} {es:List CV} {a:Act} (h:ul ψ dl es a):ul ψ' dl es a:=fun t i h1=>(h t i h1).mono hle
theorem yF.fresh {ψ ψ':Psi} {g g':Fam} {n n':Key} {w w':World} (hp:yF ψ g n w ψ' g' n' w') (h:qW ψ n):qW ψ' n':=by
 intro k hk
 have:=hp.mono
 rw [hp.out k (.inr hk)]
 exact h k (by omega)
theorem ku (t:Nat):∀ (dl:List (Option Nat)) (i:Nat),xF t dl (i+1)=(xF t dl i).map (· + 1)
 | [],_=>rfl
 | none::r,i=>by
  show xF t r (i+1+1)=(xF t r (i+1)).map (· + 1)
  exact ku t r (i+1)
 | some u::r,i=>by
  unfold xF
  simp only
  cases Nat.beq u t with
  | true=>rfl
  | false=>exact ku t r (i+1)
theorem j9 (a:Act) (t:Nat) (v:Value) (h:t<a.tmps.size):(a.put (some t) v).tmps.getD t undef=v:=by
 simp [Act.put,h]
theorem xp (a:Act) (d:Option Nat) (v:Value) {t:Nat} (h:d≠some t):(a.put d v).tmps.getD t undef=a.tmps.getD t undef:=by
 cases d with
 | none=>rfl
 | some u=>
  have:u≠t:=fun e=>h (by rw [e])
  simp [Act.put,Array.getElem?_setIfInBounds_ne this]
theorem zEE (a:Act) (d:Option Nat) (v:Value):(a.put d v).tmps.size=a.tmps.size:=by cases d <;> simp [Act.put]
theorem zA3 (a:Act) (d:Option Nat) (v:Value):(a.put d v).defers=a.defers:=by cases d <;> rfl
abbrev zJ8 (d:Option Loc) (v:CV) (tm:Tm):Tm:=match d with | none=>tm | some p=>wF v p tm
theorem qd {F N:Nat} {dst:Option Nat} {d:Option Loc} (h:xL F N dst=some d) :
 (dst=none∧d=none)∨∃ t,dst=some t∧t<N∧((zr F t=false∧d=none)∨(zr F t=true∧t≤271∧d=some (Loc.ofNat t))):=by
 unfold xL at h
 split at h
 · injection h with h; exact .inl ⟨rfl,h.symm⟩
 · rename_i t
   split at h
   · cases h
   · rename_i hn
     have hn:t+1≤N:=zL hn
     split at h
     · rename_i hf; injection h with h; exact .inr ⟨t,rfl,by omega,.inl ⟨hf,h.symm⟩⟩
     · rename_i hf
       split at h
       · rename_i hl; injection h with h; exact .inr ⟨t,rfl,by omega,.inr ⟨hf,zL hl,h.symm⟩⟩
       · cases h
theorem zNY {ψ:Psi} {F N:Nat} {tm:Tm} {a:Act} {dst:Option Nat} {d:Option Loc} {v:CV} {x:Value} (hf:yx ψ F N tm a) (hd:xL F N dst=some d) (hv:zH ψ v x) :
 yx ψ F N (zJ8 d v tm) (a.put dst x):=by
 refine ⟨by rw [zEE]; exact hf.size,fun t h1 h2 h3=>?_⟩
 rcases qd hd with ⟨rfl,rfl⟩ | ⟨u,rfl,hu,⟨hb,rfl⟩ | ⟨hb,hle,rfl⟩⟩
 · exact hf.tmp t h1 h2 h3
 · have hne:u≠t:=fun e=>by subst e; rw [hb] at h1; cases h1
   rw [xp _ _ _ (by simpa using hne)]
   exact hf.tmp t h1 h2 h3
 · by_cases e:u=t
   · subst e
     rw [j9 _ _ _ (Nat.lt_of_lt_of_le hu hf.size)]
     show zH ψ (x7 _ (wF v _ tm)) x
     rw [jg]; exact hv
   · rw [xp _ _ _ (by simpa using e)]
     show zH ψ (x7 _ (wF v _ tm)) _
     rw [xT _ _ _ _ (fun h=>e (Loc.ofNat_inj hle h2 h.symm))]
     exact hf.tmp t h1 h2 h3
theorem zSA {ψ:Psi} {F N:Nat} {dl:List (Option Nat)} {es:List CV} {a:Act} {dst:Option Nat} {d:Option Loc} {v:CV} {x:Value} (hs:N≤a.tmps.size) (he:ul ψ dl es a) (hd:xL F N dst=some d)
 (hv:zH ψ v x):ul ψ (dst::dl) (v::es) (a.put dst x):=by
 intro t i hi
 have other:dst≠some t→zH ψ (zSs (v::es) i) ((a.put dst x).tmps.getD t undef):=by
  intro hne
  have hi':xF t dl 1=some i:=by
   cases dst with
   | none=>exact hi
   | some u=>
    unfold xF at hi
    have:Nat.beq u t=false:=wH fun e=>hne (by rw [e])
    simp only [this] at hi
    exact hi
  rw [ku] at hi'
  cases hw:xF t dl 0 with
  | none=>rw [hw] at hi'; cases hi'
  | some j=>
   rw [hw] at hi'
   injection hi' with hi'; subst hi'
   rw [xp _ _ _ hne]
   exact he t j hw
 by_cases e:dst=some t
 · subst e
   rcases qd hd with ⟨h1,_⟩ | ⟨u,h1,hu,_⟩
   · cases h1
   · injection h1 with h1; subst h1
     unfold xF at hi
     have hb:Nat.beq t t=true:=qn t
     simp only [hb] at hi
     injection hi with hi; subst hi
     rw [j9 _ _ _ (Nat.lt_of_lt_of_le hu hs)]
     exact hv
 · exact other e
theorem zIg (a:Act):zNl a.eval:=⟨fun _=>rfl,fun _=>rfl⟩
theorem zIK {F N:Nat} {ψ:Psi} {tm:Tm} {ds:xP} {h:zC} {n:Key} {a:Act} {w:World} {dl:List (Option Nat)} {es:List CV} (hs:St P F N ψ tm ds h n a w) (he:ul ψ dl es a) :
 ∀ L,zx P ψ es tm ⟨F,N,dl⟩ a.eval L:=by
 intro L x hxL c hc
 clear hxL
 unfold zg at hc
 split at hc
 · rename_i t
   split at hc
   · rename_i i hi
     injection hc with hc; subst hc
     exact he t i hi
   · split at hc
     · rename_i hb
       injection hc with hc; subst hc
       rw [Bool.and_eq_true,Bool.and_eq_true] at hb
       exact hs.frame.tmp t hb.1.1 (zL hb.1.2) (zL hb.2)
     · cases hc
 · rename_i v
   cases hv:uj 20 v with
   | none=>rw [hv] at hc; cases hc
   | some c'=>rw [hv] at hc; injection hc with hc; subst hc; exact jp 20 hv
 · rename_i g
   split at hc
   · rename_i hb
     injection hc with hc; subst hc
     rw [Bool.and_eq_true] at hb
     obtain ⟨sz,e⟩:=hs.glob g (zL hb.1) (zL hb.2)
     exact zn.2 ⟨_,e,rfl⟩
   · cases hc
 · rename_i f
   injection hc with hc; subst hc
   exact xC.2 ⟨#[],#[],rfl,zP.2 rfl,zP.2 rfl⟩
end
end Go.Ev
namespace Go.Ev
variable [Sym]
noncomputable section
variable {P:Program}
variable [SymFact P]
def zo (ψ₀:Psi) (g₀:Fam) (n₀:Key) (w₀:World):R→Value→World→Prop
 | .ret cv h n,v,w=>∃ ψ,yF ψ₀ g₀ n₀ w₀ ψ (zC.fam h) n w∧zH ψ cv v
 | .fork a b,v,w=>zo ψ₀ g₀ n₀ w₀ a v w∨zo ψ₀ g₀ n₀ w₀ b v w
 | _,_,_=>False
def ya (P:Program) (f:FuncId) (args:Array Value) (w:World) (K:Value→World→Prop):Prop:=match (callFunc f args).run P w with
 | .ok (.enter g as) w'=>Calls P g as w' fun e w''=>∃ v,e=.returned v∧K v w''
 | .ok (.value v) w'=>K v w'
 | _=>False
def zFo (P:Program) (f:FuncId) (args:Array Value) (w:World) (K:World→Prop):Prop:=
 (callFunc f args).run P w=.ok (.enter f args) w∧CallsD P f args .returning w fun e u w'=>u=.returning∧∃ v,e=.returned v∧K w'
structure yY (P:Program) (call:yX):Prop where
 above:yt call
 calls:∀ f args h n ψ w args',zT ψ args args'.toList→wd P ψ→Rel ψ (zC.fam h) w→qW ψ n→zX (call false f args h n) →
  ya P f args' w (zo ψ (zC.fam h) n w (call false f args h n))
 defers:∀ f args h n ψ w args',zT ψ args args'.toList→wd P ψ→Rel ψ (zC.fam h) w→qW ψ n→zX (call true f args h n) →
  zFo P f args' w fun w'=>∃ v,zo ψ (zC.fam h) n w (call true f args h n) v w'
def vG (P:Program) (rc:Bool) (o:Oper) (a:Act) (w:World) (K:Act→World→Prop):Prop:=match (execOp a.eval o).run P w with
 | .ok (.value v) w'=>K (a.put o.dst v) w'
 | .ok .skip w'=>K (a.put o.dst undef) w'
 | .ok (.defer d) w'=>K ({ a with defers:=d::a.defers }.put o.dst undef) w'
 | .ok (.enter f args) w'=>Calls P f args w' fun e w''=>∃ v,e=.returned v∧K (a.put o.dst v) w''
 | .ok .recover w'=>rc=true∧K (a.put o.dst .nilIface) w'
 | _=>False
theorem vG.mono {rc:Bool} {o:Oper} {a:Act} {w:World} {K K':Act→World→Prop} (hk:∀ a w,K a w→K' a w) (h:vG P rc o a w K):vG P rc o a w K':=by
 unfold vG at *
 generalize (execOp a.eval o).run P w=r at h ⊢
 cases r with
 | halt x w'=>exact h.elim
 | ok x w'=>
  cases x <;> first
   | exact hk _ _ h
   | exact Calls.mono h fun e w' ⟨v,e1,e2⟩=>⟨v,e1,hk _ _ e2⟩
   | exact ⟨h.1,hk _ _ h.2⟩
   | exact h.elim
structure zRU (P:Program) (ops:Array Oper) (rc:Bool) (Q:Act→World→Prop) (W:List Nat→Act→World→Prop):Prop where
 nil:∀ a w,Q a w→W [] a w
 skip:∀ i o rest a w,ops[i]? = some o→Region.wanted o (yielded ops a.tmps)=false→W rest (a.put o.dst undef) w→W (i::rest) a w
 step:∀ i o rest a w,ops[i]? = some o→Region.wanted o (yielded ops a.tmps)=true→vG P rc o a w (W rest)→W (i::rest) a w
theorem zLZ (ops:Array Oper) (Q:Exit→Act→World→Prop):zRU P ops false (Q .normal) (wpOps P ops Q):=by
 refine ⟨fun a w h=>h,fun i o rest a w ho hw h=>?_,fun i o rest a w ho hw h=>?_⟩
 · simp only [wpOps,ho,hw,Bool.false_eq_true,if_false]; exact h
 · simp only [wpOps,ho,hw,if_true]
   refine .inl ?_
   unfold Oper.wp
   unfold vG at h
   generalize (execOp a.eval o).run P w=r at h ⊢
   cases r with
   | halt x w'=>exact h.elim
   | ok x w'=>
    cases x <;> first
     | exact h
     | exact Calls.mono h (fun e w' ⟨v,e1,e2⟩=>by subst e1; exact e2)
     | exact absurd h.1 (by simp)
     | exact h.elim
theorem zGk (ops:Array Oper) (Q:Exit→Act→List Frame→World→Prop) {cs:List Frame} (hcs:recoverD cs=none) :
 zRU P ops true (fun a w=>Q .normal a cs w) (fun l a w=>wpOpsS P ops Q l a cs w):=by
 refine ⟨fun a w h=>h,fun i o rest a w ho hw h=>?_,fun i o rest a w ho hw h=>?_⟩
 · simp only [wpOpsS,ho,hw,Bool.false_eq_true,if_false]; exact h
 · simp only [wpOpsS,ho,hw,if_true]
   unfold vG at h
   generalize (execOp a.eval o).run P w=r at h ⊢
   cases r with
   | halt x w'=>exact h.elim
   | ok x w'=>
    cases x <;> first
     | exact h
     | exact Calls.mono h (fun e w' ⟨v,e1,e2⟩=>by subst e1; exact e2)
     | (simp only [hcs]; exact h.2)
     | exact h.elim
def zT5:CX→Exit→Prop
 | .normal,.normal=>True
 | .exit i,.exit j=>i=j
 | .ret,.ret=>True
 | _,_=>False
section
variable {F N:Nat} {call:yX} {ψ:Psi} {tm:Tm} {ds:xP} {h:zC} {n:Key} {a:Act} {w:World} {dl:List (Option Nat)} {es:List CV}
def km (P:Program) (F N:Nat) (ψ:Psi) (h:zC) (n:Key) (w:World) (dl:List (Option Nat)) (k:KE) (r:R) (a':Act) (w':World):Prop:=
 ∃ es' tm' ds' h' n' ψ',St P F N ψ' tm' ds' h' n' a' w'∧ul ψ' dl es' a'∧yF ψ (zC.fam h) n w ψ' (zC.fam h') n' w'∧zX (k es' tm' ds' h' n') ∧
  ∀ (O:R→Prop),(∀ x y,O x→O (.fork x y))→(∀ x y,O y→O (.fork x y))→O (k es' tm' ds' h' n')→O r
theorem km.forkL {k:KE} {r s:R} {a':Act} {w':World} (hx:km P F N ψ h n w dl k r a' w'):km P F N ψ h n w dl k (.fork r s) a' w':=by
 obtain ⟨es',tm',ds',h',n',ψ',h1,h2,h3,h4,h5⟩:=hx
 exact ⟨es',tm',ds',h',n',ψ',h1,h2,h3,h4,fun O f1 f2 ho=>f1 _ _ (h5 O f1 f2 ho)⟩
theorem km.forkR {k:KE} {r s:R} {a':Act} {w':World} (hx:km P F N ψ h n w dl k s a' w'):km P F N ψ h n w dl k (.fork r s) a' w':=by
 obtain ⟨es',tm',ds',h',n',ψ',h1,h2,h3,h4,h5⟩:=hx
 exact ⟨es',tm',ds',h',n',ψ',h1,h2,h3,h4,fun O f1 f2 ho=>f2 _ _ (h5 O f1 f2 ho)⟩
theorem kX {k:KE} {o:Oper} {d:Option Loc} {v:CV} {x:Value} {ψ':Psi} {h':zC} {n':Key} {w':World} (hst:St P F N ψ tm ds h n a w) (hev:ul ψ dl es a) (hd:xL F N o.dst=some d)
 (hp:yF ψ (zC.fam h) n w ψ' (zC.fam h') n' w') (hv:zH ψ' v x) (hc:zX (yD d v tm fun tm=>k (v::es) tm ds h' n')) :
 km P F N ψ h n w (o.dst::dl) k (yD d v tm fun tm=>k (v::es) tm ds h' n') (a.put o.dst x) w':=by
 rw [z7] at hc ⊢
 refine ⟨v::es,_,ds,h',n',ψ',⟨zNY (hst.frame.mono hp.ext) hd hv,?_,hp.rel,hst.glob.mono hp.ext,hp.fresh hst.fresh⟩,zSA hst.frame.size (hev.mono hp.ext) hd hv,hp,hc,fun O _ _ ho=>ho⟩
 rw [zA3]
 exact hst.dfr.mono hp.ext
theorem zGh {k:KE} {o:Oper} {d:Option Loc} {x:Value} {w':World} (hst:St P F N ψ tm ds h n a w) (hev:ul ψ dl es a) (hd:xL F N o.dst=some d) :
 ∀ {r:R},zo ψ (zC.fam h) n w r x w'→zX (qx (fun v h n=>yD d v tm fun tm=>k (v::es) tm ds h n) r) →
  km P F N ψ h n w (o.dst::dl) k (qx (fun v h n=>yD d v tm fun tm=>k (v::es) tm ds h n) r) (a.put o.dst x) w'
 | .ok ..,hr,_=>hr.elim
 | .err _,hr,_=>hr.elim
 | .ret cv h' n',hr,hc=>by
  obtain ⟨ψ',hp,hv⟩:=hr
  exact kX hst hev hd hp hv hc
 | .fork r s,hr,hc=>by
  rcases hr with hr | hr
  · exact km.forkL (zGh hst hev hd hr hc.1)
  · exact km.forkR (zGh hst hev hd hr hc.2)
theorem xz {o:Oper} {w':World} {x:Value} (hv:kj P a.eval o.op o.type w w' x) {K:Act→World→Prop} {rc:Bool} (hk:K (a.put o.dst x) w'):vG P rc o a w K:=by
 obtain ⟨nx,h1,h2⟩:=hv
 have h1:(execOp a.eval o).run P w=.ok nx w':=h1
 unfold vG
 rw [h1]
 rcases h2 with rfl | ⟨rfl,rfl⟩
 · exact hk
 · exact hk
theorem va (hcall:yY P call) {k:KE} (hk:∀ es tm ds h n,zj n (k es tm ds h n)) {o:Oper} {d:Option Loc} (hst:St P F N ψ tm ds h n a w) (hev:ul ψ dl es a)
 (hd:xL F N o.dst=some d) {rc:Bool} (hrc:zDr o.op=true→rc=true):∀ (r:OR),zD P ψ h n a.eval o.op o.type w r→zE n r→zX (after r call k d es tm ds h n) →
   vG P rc o a w (km P F N ψ h n w (o.dst::dl) k (after r call k d es tm ds h n))
 | .val v,hs,_,hc=>by
  obtain ⟨x,h1,h2⟩:=hs
  exact xz h1 (kX hst hev hd (yF.refl hst.rel) h2 hc)
 | .read v,hs,_,hc=>by
  obtain ⟨x,h1,h2⟩:=hs hst.rel.on
  exact xz h1 (kX hst hev hd (yF.refl hst.rel) h2 hc)
 | .alloc ob v,hs,_,hc=>by
  obtain ⟨w',x,sz,h1,h2,h3,_⟩:=hs
  have hroom:n.succ.room:=by
   have hc':zX (yD d v tm fun tm=>k (v::es) tm ds (yj (some ob) n h) n.succ):=hc
   rw [z7] at hc'
   exact uI hc' (hk _ _ _ _ _)
  have hr:=Key.room_of_succ hroom
  have hnone:=hst.fresh n (Nat.le_refl _)
  have hle:=Psi.le_upd (ψ:=ψ) (k:=n) ⟨w.heap.size,0,sz,fun n=>n⟩ hnone
  obtain ⟨h4,h5⟩:=h3 _ hle (Psi.upd_same _ _ _)
  have hp:=wJ hst.rel hr hnone h2 h5
  rw [← yB] at hp
  exact xz h1 (kX hst hev hd hp h4 hc)
 | .eff v h' n',hs,ha,hc=>by
  have hroom:n'.room:=by
   have hc':zX (yD d v tm fun tm=>k (v::es) tm ds h' n'):=hc
   rw [z7] at hc'
   exact uI hc' (hk _ _ _ _ _)
  obtain ⟨w',x,ψ',h1,h2,h3⟩:=hs hst.rel (fun q hq _=>hst.fresh q hq) hroom
  exact xz h1 (kX hst hev hd h2 h3 hc)
 | .call f args,hs,_,hc=>by
  obtain ⟨args',h1,h2⟩:=hs hst.rel.on
  have hc':zX (qx (fun v h n=>yD d v tm fun tm=>k (v::es) tm ds h n) (call false f args h n)):=hc
  have hcl:=qk (fun v h n=>by rw [z7]; exact hk _ _ _ _ _) hc'
  have hcalls:=hcall.calls f args h n ψ w args' h2 hst.glob hst.rel hst.fresh hcl
  have hn:=fun (x:Value) (w':World) hr=>zGh (k:=k) (o:=o) (x:=x) (w':=w') hst hev hd (r:=call false f args h n) hr hc'
  have h1:(execOp a.eval o).run P w=(callFunc f args').run P w:=h1
  unfold vG
  rw [h1]
  unfold ya at hcalls
  generalize (callFunc f args').run P w=r at hcalls ⊢
  cases r with
  | halt x w'=>exact hcalls.elim
  | ok x w'=>
   cases x <;> first
    | exact hn _ _ hcalls
    | exact Calls.mono hcalls fun e w' ⟨v,e1,e2⟩=>⟨v,e1,hn v w' e2⟩
    | exact hcalls.elim
 | .dfr f args,hs,_,hc=>by
  obtain ⟨dd,fv,cap,args',h1,h2,h3,h4⟩:=hs
  have h1:(execOp a.eval o).run P w=.ok (.defer dd) w:=h1
  unfold vG
  rw [h1]
  have hc':zX (yD d .undef tm fun tm=>k (.undef::es) tm ((f,args)::ds) h n):=hc
  show km P F N ψ h n w (o.dst::dl) k (yD d .undef tm fun tm=>k (.undef::es) tm ((f,args)::ds) h n) ({ a with defers:=dd::a.defers }.put o.dst undef) w
  refine kX (a:={ a with defers:=dd::a.defers }) (ds:=(f,args)::ds) ⟨⟨hst.frame.size,hst.frame.tmp⟩,⟨dd,a.defers,rfl,⟨fv,cap,args',h2,h3,h4⟩,hst.dfr⟩,hst.rel,hst.glob,hst.fresh⟩ hev hd (yF.refl hst.rel) xx hc'
 | .recov,hs,_,hc=>by
  obtain ⟨h0,h1⟩:=hs
  have h1:(execOp a.eval o).run P w=.ok .recover w:=h1
  unfold vG
  rw [h1]
  exact ⟨hrc h0,kX hst hev hd (yF.refl hst.rel) (yV.2 rfl) hc⟩
 | .err _,_,_,hc=>hc.elim
 | .fork r s,hs,ha,hc=>by
  rcases hs hst.rel with hs | hs
  · exact vG.mono (fun _ _ h=>km.forkL h) (va hcall hk hst hev hd hrc r hs ha.1 hc.1)
  · exact vG.mono (fun _ _ h=>km.forkR h) (va hcall hk hst hev hd hrc s hs ha.2 hc.2)
end
end
end Go.Ev
namespace Go.Ev
variable [Sym]
noncomputable section
variable {P:Program}
variable [SymFact P]
theorem zGV {ψ:Psi} {ops:Array Oper} {o:Oper} {j t:Nat} {wnt:Bool} {a:Act} {c:CV} (hg:o.guard=some (j,wnt)) (ht:(ops[j]?).bind (·.dst)=some t) (hc:zH ψ c (a.tmps.getD t undef)) :
 (jd wnt c=true→Region.wanted o (yielded ops a.tmps)=true)∧(jd wnt c=false→kc c=true→Region.wanted o (yielded ops a.tmps)=false):=by
 have hw:Region.wanted o (yielded ops a.tmps)=(yielded ops a.tmps j == some wnt):=by unfold Region.wanted; rw [hg]
 have hy:yielded ops a.tmps j=(match a.tmps[t]? with | some (.bool b)=>some b | _=>none):=by unfold yielded; rw [ht]; rfl
 have hget:∀ b,a.tmps.getD t undef=.bool b→a.tmps[t]? = some (.bool b):=by
  intro b h
  rw [Array.getD_eq_getD_getElem?] at h
  cases hq:a.tmps[t]? with
  | none=>rw [hq] at h; cases h
  | some v=>rw [hq] at h; exact congrArg some h
 rw [hw,hy]
 constructor
 · intro hb
   unfold jd at hb
   split at hb
   · rename_i b
     rw [zJ] at hc
     rw [hget _ hc]
     cases b <;> cases wnt <;> simp_all
   · cases hb
 · intro hb hn
   cases hq:a.tmps[t]? with
   | none=>rfl
   | some v=>
    have hv:a.tmps.getD t undef=v:=by rw [Array.getD_eq_getD_getElem?,hq]; rfl
    rw [hv] at hc
    cases v <;> try rfl
    rename_i b
    have hb':c=.bool b∨c=.any:=by
     cases c
     case bool b'=>rw [zJ] at hc; injection hc with hc; subst hc; exact .inl rfl
     case any=>exact .inr rfl
     case nat=>rw [zS] at hc; cases hc
     case int=>rw [zd] at hc; cases hc
     case anyi=>rw [yW] at hc; obtain ⟨_,hc⟩:=hc; cases hc
     case str=>rw [zf] at hc; obtain ⟨_,hc,_⟩:=hc; cases hc
     case big=>rw [kV] at hc; obtain ⟨_,hc,_⟩:=hc; cases hc
     case nilptr=>rw [xN] at hc; cases hc
     case ptr=>rw [zn] at hc; obtain ⟨_,_,hc⟩:=hc; cases hc
     case nilsl=>rw [zw] at hc; cases hc
     case sl=>rw [yC] at hc; obtain ⟨_,_,_,_,hc,_⟩:=hc; cases hc
     case sst=>rw [yz] at hc; obtain ⟨_,hc,_⟩:=hc; cases hc
     case elt=>rw [zAj] at hc; obtain ⟨_,_,_,_,_,hc⟩:=hc; cases hc
     case few=>rw [jS] at hc; obtain ⟨_,_,_,hc,_⟩:=hc; cases hc
     case win=>rw [xq] at hc; obtain ⟨_,_,_,_,_,hc,_⟩:=hc; cases hc
     case nilmap=>rw [yN] at hc; cases hc
     case map=>rw [ye] at hc; obtain ⟨_,_,hc⟩:=hc; cases hc
     case func=>rw [xC] at hc; obtain ⟨_,_,hc,_⟩:=hc; cases hc
     case nilfunc=>rw [xE] at hc; cases hc
     case iface=>rw [yU] at hc; obtain ⟨_,hc,_⟩:=hc; cases hc
     case niliface=>rw [yV] at hc; cases hc
     case agg=>rw [yi] at hc; obtain ⟨_,hc,_⟩:=hc; cases hc
     case sym i=>rw [zq] at hc; rcases Sym.one i with ⟨_,_,e⟩ | ⟨_,e⟩ <;> rw [e] at hc <;> cases hc
     case tup=>rw [yQ] at hc; obtain ⟨_,hc,_⟩:=hc; cases hc
    rcases hb' with rfl | rfl
    · cases b <;> cases wnt <;> first | rfl | cases hb
    · cases hn
section
variable {F N:Nat} {call:yX} {ops:Array Oper} {rc:Bool} {Q:Act→World→Prop} {W:List Nat→Act→World→Prop}
theorem zMP {j:Nat}:(nth ops.toList j).bind (·.dst)=(ops[j]?).bind (·.dst):=by rw [nth_eq,Array.getElem?_toList]
theorem zSp (hcall:yY P call) (walk:zRU P ops rc Q W) {k:KE} (hk:∀ es tm ds h n,zj n (k es tm ds h n)) {ψ:Psi} {tm:Tm} {ds:xP} {h:zC} {n:Key} {a:Act} {w:World} {dl:List (Option Nat)} {es:List CV}
 (hst:St P F N ψ tm ds h n a w) (hev:ul ψ dl es a) {i:Nat} {o:Oper} {rest:List Nat} (ho:ops[i]? = some o) (hrc:zDr o.op=true→rc=true)
 (hc:zX (zTH P call (ue P F N ops.toList dl o) k es tm ds h n))
 (hnext:∀ a' w',km P F N ψ h n w (o.dst::dl) k (zTH P call (ue P F N ops.toList dl o) k es tm ds h n) a' w'→W rest a' w'):W (i::rest) a w:=by
 unfold ue at hc hnext
 cases hd:xL F N o.dst with
 | none=>simp only [hd] at hc; exact hc.elim
 | some d=>
  simp only [hd] at hc hnext
  have hsim:=fun (w:World)=>zK8 (ψ:=ψ) (h:=h) (n:=n) (es:=es) (tm:=tm) (ty:=o.type) (w:=w) (zIg a) o.op (zIK hst hev _)
  cases hg:o.guard with
  | none=>
   have hw:Region.wanted o (yielded ops a.tmps)=true:=by unfold Region.wanted; rw [hg]
   simp only [hg] at hc hnext
   refine walk.step i o rest a w ho hw ?_
   cases d with
   | none=>
    have:=va hcall hk hst hev hd hrc _ (hsim w) (wj _) hc
    exact vG.mono hnext this
   | some p=>
    have:=va hcall hk hst hev hd hrc _ (hsim w) (wj _) hc
    exact vG.mono hnext this
  | some jw=>
   obtain ⟨j,wnt⟩:=jw
   simp only [hg] at hc hnext
   cases ht:(nth ops.toList j).bind (·.dst) with
   | none=>simp only [ht] at hc; exact hc.elim
   | some t=>
    simp only [ht] at hc hnext
    cases hx:zg P ⟨F,N,dl⟩ (.tmp t) with
    | none=>simp only [hx] at hc; exact hc.elim
    | some x=>
     simp only [hx] at hc hnext
     have hv:=zIK hst hev [.tmp t] _ (by simp) _ hx
     have hv:zH ψ (aV es tm x) (a.tmps.getD t undef):=hv
     rw [zMP] at ht
     obtain ⟨w1,w2⟩:=zGV hg ht hv
     have hc':zX (Bool.rec (motive:=fun _=>R)
      (Bool.rec (motive:=fun _=>R) (.err 299) (yD d .undef tm fun tm=>k (.undef::es) tm ds h n) (kc (aV es tm x)))
      (after (yI P (zc P ⟨F,N,dl⟩ o.op) es tm h n) call k d es tm ds h n) (jd wnt (aV es tm x))):=hc
     have hnext':∀ a' w',km P F N ψ h n w (o.dst::dl) k (Bool.rec (motive:=fun _=>R)
      (Bool.rec (motive:=fun _=>R) (.err 299) (yD d .undef tm fun tm=>k (.undef::es) tm ds h n) (kc (aV es tm x)))
      (after (yI P (zc P ⟨F,N,dl⟩ o.op) es tm h n) call k d es tm ds h n) (jd wnt (aV es tm x))) a' w'→W rest a' w':=hnext
     cases hb:jd wnt (aV es tm x) with
     | true=>
      rw [hb] at hc' hnext'
      refine walk.step i o rest a w ho (w1 hb) ?_
      exact vG.mono hnext' (va hcall hk hst hev hd hrc _ (hsim w) (wj _) hc')
     | false=>
      rw [hb] at hc' hnext'
      cases hn:kc (aV es tm x) with
      | false=>rw [hn] at hc'; exact hc'.elim
      | true=>
       rw [hn] at hc' hnext'
       exact walk.skip i o rest a w ho (w2 hb hn) (hnext' _ _ (kX hst hev hd (yF.refl hst.rel) xx hc'))
theorem zIL (hcall:yY P call) (walk:zRU P ops rc Q W):∀ (rest:List Oper) (i:Nat) {ψ:Psi} {tm:Tm} {ds:xP} {h:zC} {n:Key} {a:Act} {w:World} {dl:List (Option Nat)} {es:List CV},
 ops.toList.drop i=rest→(∀ o∈rest,zDr o.op=true→rc=true)→St P F N ψ tm ds h n a w→ul ψ dl es a →
 zX (yg P call (qw P F N ops.toList dl rest) es tm ds h n) →
 (∀ tm' ds' h' n' ψ' a' w',St P F N ψ' tm' ds' h' n' a' w'→yF ψ (zC.fam h) n w ψ' (zC.fam h') n' w'→n'.room →
   (∀ (O:R→Prop),(∀ x y,O x→O (.fork x y))→(∀ x y,O y→O (.fork x y))→O (.ok .normal tm' ds' h' n')→O (yg P call (qw P F N ops.toList dl rest) es tm ds h n))→Q a' w') →
 W (List.range' i rest.length) a w
 | [],i,ψ,tm,ds,h,n,a,w,dl,es,_,_,hst,hev,hc,hQ=>walk.nil a w (hQ tm ds h n ψ a w hst (yF.refl hst.rel) hc fun O _ _ ho=>ho)
 | o::rest,i,ψ,tm,ds,h,n,a,w,dl,es,hi,hrc,hst,hev,hc,hQ=>by
  have ho:ops[i]? = some o:=by
   rw [← Array.getElem?_toList]
   have:(ops.toList.drop i)[0]? = some o:=by rw [hi]; rfl
   rw [List.getElem?_drop] at this
   exact this
  have hrest:ops.toList.drop (i+1)=rest:=by
   have:=congrArg (List.drop 1) hi
   rw [List.drop_drop] at this
   exact this
  rw [List.length_cons,List.range'_succ]
  refine zSp hcall walk (k:=yg P call (qw P F N ops.toList (o.dst::dl) rest)) (fun es tm ds h n=>jr hcall.above _ es tm ds h n) hst hev ho (hrc o (by simp)) hc fun a' w' hn=>?_
  obtain ⟨es',tm',ds',h',n',ψ',h1,h2,h3,h4,h5⟩:=hn
  refine zIL hcall walk rest (i+1) hrest (fun o ho=>hrc o (by simp [ho])) h1 h2 h4 fun tm'' ds'' h'' n'' ψ'' a'' w'' g1 g2 g3 g4=>?_
  exact hQ tm'' ds'' h'' n'' ψ'' a'' w'' g1 (h3.trans g2) g3 fun O f1 f2 ho=>h5 O f1 f2 (g4 O f1 f2 ho)
end
end
end Go.Ev
namespace Go.Ev
variable [Sym]
noncomputable section
variable {P:Program}
variable [SymFact P]
theorem qM {n:Key} {k:K} (hk:∀ tm ds h n,zj n (k tm ds h n)):∀ {r:R},zj n r→zj n (x8 k r)
 | .ok .normal tm ds h n',ha=>zj.le ha (hk tm ds h n')
 | .ok (.exit _) _ _ _ _,ha=>ha
 | .ok .ret _ _ _ _,ha=>ha
 | .ret ..,_=>trivial
 | .err _,_=>trivial
 | .fork _ _,h=>⟨qM hk h.1,qM hk h.2⟩
theorem xc {k:K} (hk:∀ tm ds h n,zj n (k tm ds h n)):∀ {r:R},zX (x8 k r)→zX r
 | .ok .normal tm ds h n',hc=>uI hc (hk tm ds h n')
 | .ok (.exit _) _ _ _ _,hc=>hc
 | .ok .ret _ _ _ _,hc=>hc
 | .ret ..,hc=>hc.elim
 | .err _,hc=>hc.elim
 | .fork _ _,h=>⟨xc hk h.1,xc hk h.2⟩
theorem ux (id i:Nat) (tm:Tm) (ds:xP) (h:zC) (n:Key):uc id (.ok (.exit i) tm ds h n)=if i=id then .ok .normal tm ds h n else .ok (.exit i) tm ds h n:=by
 show Bool.rec (motive:=fun _=>R) (.ok (.exit i) tm ds h n) (.ok .normal tm ds h n) (Nat.beq i id)=_
 by_cases e:i=id
 · subst e; rw [qn,if_pos rfl]
 · rw [wH e,if_neg e]
theorem uQ {n:Key} (id:Nat):∀ {r:R},zj n r→zj n (uc id r)
 | .ok .normal _ _ _ _,ha=>ha
 | .ok (.exit i) _ _ _ _,ha=>by rw [ux]; split <;> exact ha
 | .ok .ret _ _ _ _,ha=>ha
 | .ret ..,_=>trivial
 | .err _,_=>trivial
 | .fork _ _,h=>⟨uQ id h.1,uQ id h.2⟩
theorem jZ (id:Nat):∀ {r:R},zX (uc id r)→zX r
 | .ok .normal _ _ _ _,ha=>ha
 | .ok (.exit i) _ _ _ _,ha=>by rw [ux] at ha; split at ha <;> exact ha
 | .ok .ret _ _ _ _,ha=>ha
 | .ret ..,h=>h.elim
 | .err _,h=>h.elim
 | .fork _ _,h=>⟨jZ id h.1,jZ id h.2⟩
theorem zEC {C:K→Prop} {a b:K} (v:CV) (ht:v=.bool true→C a) (hf:v=.bool false→C b) (he:C fun _ _ _ _=>.err 302):C (zGy a b v):=by
 unfold zGy
 split
 · exact ht rfl
 · exact hf rfl
 · exact he
section
variable {call:yX} (hcall:yt call)
include hcall
theorem zL2 {k:KD} (hk:∀ es hs tm ds h n,zj n (k es hs tm ds h n)) (d:Option Loc) (es:List CV) (hs:List zC) (tm:Tm) (ds:xP) (h:zC) (n:Key) (r:OR) (ho:zE n r) :
 zj n (zLD call d k r es hs tm ds h n):=by
 cases r with
 | val v=>show zj n (yD _ _ _ _); rw [z7]; exact hk _ _ _ _ _ _
 | read v=>show zj n (yD _ _ _ _); rw [z7]; exact hk _ _ _ _ _ _
 | alloc o v=>show zj n (yD _ _ _ _); rw [z7]; exact zj.le (Key.ix_le_succ n) (hk _ _ _ _ _ _)
 | eff v h' n'=>show zj n (yD _ _ _ _); rw [z7]; exact zj.le ho (hk _ _ _ _ _ _)
 | call f args=>exact ql (k:=fun v h' n'=>yD d v tm fun tm=>k (v::es) (h::hs) tm ds h' n') (fun v h n=>by rw [z7]; exact hk _ _ _ _ _ _) (hcall _ _ _ _ _)
 | dfr f args=>trivial
 | recov=>trivial
 | err _=>trivial
 | fork a b=>trivial
omit hcall in
theorem zOC {k:KD} (hk:∀ es hs tm ds h n,zj n (k es hs tm ds h n)) (op:COp) (d:Option Loc) (chk:Nat) (es:List CV) (hs:List zC) (tm:Tm) (ds:xP) (h:zC) (n:Key) (r:OR) :
 zj n (dNo P op d chk k r es hs tm ds h n):=by
 cases r with
 | val v=>show zj n (yD _ _ _ _); rw [z7]; exact hk _ _ _ _ _ _
 | read v=>
  show zj n (match qp P op es tm n v chk hs with
   | true=>yD d v tm fun tm=>k (v::es) hs tm ds h n
   | false=>.err 311)
  split
  · rw [z7]; exact hk _ _ _ _ _ _
  · trivial
 | alloc o v=>show zj n (yD _ _ _ _); rw [z7]; exact zj.le (Key.ix_le_succ n) (hk _ _ _ _ _ _)
 | eff v h' n'=>trivial
 | call f args=>trivial
 | dfr f args=>trivial
 | recov=>trivial
 | err _=>trivial
 | fork a b=>trivial
theorem zCW {k:KD} (hk:∀ es hs tm ds h n,zj n (k es hs tm ds h n)) (op:COp) (d:Option Loc) (e:Bool) (chk:Nat) (es:List CV) (hs:List zC) (tm:Tm) (ds:xP) (h:zC) (n:Key) :
 zj n (dOp P call op d e chk k es hs tm ds h n):=by
 unfold dOp
 split
 · exact zL2 hcall hk d es hs tm ds h n _ (wj op)
 · exact zOC hk op d chk es hs tm ds h n _
theorem zIn:∀ (l:List zOB) (es:List CV) (hs:List zC) (tm:Tm) (ds:xP) (h:zC) (n:Key),zj n (evD P call l es hs tm ds h n)
 | [],_,_,_,_,_,_=>Nat.le_refl _
 | i::l,es,hs,tm,ds,h,n=>by
  unfold evD
  have ih:=fun es hs tm ds h n=>zIn l es hs tm ds h n
  split
  · exact zCW hcall ih _ _ _ _ _ _ _ _ _ _
  · exact zCW hcall ih _ _ _ _ _ _ _ _ _ _
  · split
    · exact zCW hcall ih _ _ _ _ _ _ _ _ _ _
    · split
      · unfold zEA
        rw [z7]; exact ih _ _ _ _ _ _
      · trivial
theorem ym:∀ (c:CCode) (tm:Tm) (ds:xP) (h:zC) (n:Key),zj n (zi P call c tm ds h n)
 | .skip,_,_,_,_=>Nat.le_refl _
 | .region ops,tm,ds,h,n=>jr hcall ops [] tm ds h n
 | .dregion ops,tm,ds,h,n=>zIn hcall ops [] [] tm ds h n
 | .seq a b,tm,ds,h,n=>qM (fun tm ds h n=>ym b tm ds h n) (ym a tm ds h n)
 | .cond x a b,tm,ds,h,n=>by
  exact zEC (C:=fun k=>zj n (k tm ds h n)) _ (fun _=>ym a tm ds h n) (fun _=>ym b tm ds h n) trivial
 | .block id b,tm,ds,h,n=>uQ id (ym b tm ds h n)
 | .loop b,tm,ds,h,n=>by
  show zj n (zAW uu (zi P call b) tm ds h n)
  have:∀ (fuel:Nat) (tm:Tm) (ds:xP) (h:zC) (n:Key),zj n (zAW fuel (zi P call b) tm ds h n):=by
   intro fuel
   induction fuel with
   | zero=>intros; trivial
   | succ m ih=>intro tm ds h n; exact qM ih (ym b tm ds h n)
  exact this _ _ _ _ _
 | .exit _,_,_,_,_=>Nat.le_refl _
 | .ret,_,_,_,_=>Nat.le_refl _
 | .scope b,tm,ds,h,n=>ym b tm ds h n
 | .bad _,_,_,_,_=>trivial
end
def xA (P:Program) (F N:Nat) (ψ₀:Psi) (g₀:Fam) (n₀:Key) (w₀:World):R→Exit→Act→World→Prop
 | .ok cx tm ds h n,e,a,w=>zT5 cx e∧∃ ψ,St P F N ψ tm ds h n a w∧yF ψ₀ g₀ n₀ w₀ ψ (zC.fam h) n w∧n.room
 | .fork r s,e,a,w=>xA P F N ψ₀ g₀ n₀ w₀ r e a w∨xA P F N ψ₀ g₀ n₀ w₀ s e a w
 | _,_,_,_=>False
section
variable {F N:Nat} {ψ₀ ψ₁:Psi} {g₀ g₁:Fam} {n₀ n₁:Key} {w₀ w₁:World}
theorem xA.trans (hp:yF ψ₀ g₀ n₀ w₀ ψ₁ g₁ n₁ w₁) {e:Exit} {a:Act} {w:World}:∀ {r:R},xA P F N ψ₁ g₁ n₁ w₁ r e a w→xA P F N ψ₀ g₀ n₀ w₀ r e a w
 | .ok ..,⟨h1,ψ,h2,h3,h4⟩=>⟨h1,ψ,h2,hp.trans h3,h4⟩
 | .ret ..,h=>h
 | .err _,h=>h
 | .fork _ _,h=>h.imp (xA.trans hp) (xA.trans hp)
theorem j4 {k:K} {e:Exit} {a:Act} {w:World}:∀ {r:R},zX (x8 k r)→xA P F N ψ₀ g₀ n₀ w₀ r e a w →
 (e=.normal∧∃ tm ds h n ψ,St P F N ψ tm ds h n a w∧yF ψ₀ g₀ n₀ w₀ ψ (zC.fam h) n w∧zX (k tm ds h n) ∧
   ∀ e' a' w',xA P F N ψ₀ g₀ n₀ w₀ (k tm ds h n) e' a' w'→xA P F N ψ₀ g₀ n₀ w₀ (x8 k r) e' a' w') ∨
 (e≠.normal∧xA P F N ψ₀ g₀ n₀ w₀ (x8 k r) e a w)
 | .ok .normal tm ds h n,hc,⟨h1,ψ,h2,h3,h4⟩=>by
  cases e <;> first | exact h1.elim | skip
  exact .inl ⟨rfl,tm,ds,h,n,ψ,h2,h3,hc,fun e' a' w' ho=>ho⟩
 | .ok (.exit i) tm ds h n,hc,⟨h1,ψ,h2,h3,h4⟩=>.inr ⟨by rintro rfl; exact h1.elim,h1,ψ,h2,h3,h4⟩
 | .ok .ret tm ds h n,hc,⟨h1,ψ,h2,h3,h4⟩=>.inr ⟨by rintro rfl; exact h1.elim,h1,ψ,h2,h3,h4⟩
 | .ret ..,hc,_=>hc.elim
 | .err _,hc,_=>hc.elim
 | .fork r s,hc,ho=>by
  rcases ho with ho | ho
  · rcases j4 hc.1 ho with ⟨h1,tm,ds,h,n,ψ,h2,h3,h4,h5⟩ | ⟨h1,h2⟩
    · exact .inl ⟨h1,tm,ds,h,n,ψ,h2,h3,h4,fun e' a' w' q=>.inl (h5 e' a' w' q)⟩
    · exact .inr ⟨h1,.inl h2⟩
  · rcases j4 hc.2 ho with ⟨h1,tm,ds,h,n,ψ,h2,h3,h4,h5⟩ | ⟨h1,h2⟩
    · exact .inl ⟨h1,tm,ds,h,n,ψ,h2,h3,h4,fun e' a' w' q=>.inr (h5 e' a' w' q)⟩
    · exact .inr ⟨h1,.inr h2⟩
theorem uV {id:Nat} {e:Exit} {a:Act} {w:World} {Q:Exit→Act→World→Prop}:∀ {r:R},(∀ e a w,xA P F N ψ₀ g₀ n₀ w₀ (uc id r) e a w→Q e a w)→xA P F N ψ₀ g₀ n₀ w₀ r e a w→Exit.inBlock id Q e a w
 | .ok .normal tm ds h n,hq,⟨h1,ψ,h2,h3,h4⟩=>by
  cases e <;> first | exact h1.elim | skip
  exact hq .normal a w ⟨trivial,ψ,h2,h3,h4⟩
 | .ok (.exit i) tm ds h n,hq,⟨h1,ψ,h2,h3,h4⟩=>by
  cases e <;> first | exact h1.elim | skip
  rename_i j
  have h1:i=j:=h1
  subst h1
  rw [ux] at hq
  unfold Exit.inBlock
  simp only
  split
  · rename_i e
    rw [if_pos e] at hq
    exact hq .normal a w ⟨trivial,ψ,h2,h3,h4⟩
  · rename_i e
    rw [if_neg e] at hq
    exact hq (.exit i) a w ⟨rfl,ψ,h2,h3,h4⟩
 | .ok .ret tm ds h n,hq,⟨h1,ψ,h2,h3,h4⟩=>by
  cases e <;> first | exact h1.elim | skip
  exact hq .ret a w ⟨trivial,ψ,h2,h3,h4⟩
 | .ret ..,_,ho=>ho.elim
 | .err _,_,ho=>ho.elim
 | .fork r s,hq,ho=>by
  rcases ho with ho | ho
  · exact uV (fun e a w h=>hq e a w (.inl h)) ho
  · exact uV (fun e a w h=>hq e a w (.inr h)) ho
theorem zA4 {Q:Exit→Act→World→Prop} {e:Exit} {a:Act} {w:World}:∀ {r:R},(xA P F N ψ₀ g₀ n₀ w₀ r e a w→Q e a w)→xA P F N ψ₀ g₀ n₀ w₀ r e a w→Exit.noGoto Q e a w
 | .ok cx tm ds h n,hq,ho=>by
  cases e <;> first | exact hq ho | (cases cx <;> exact ho.1.elim)
 | .ret ..,_,ho=>ho.elim
 | .err _,_,ho=>ho.elim
 | .fork r s,hq,ho=>by
  rcases ho with ho | ho
  · exact zA4 (fun h=>hq (.inl h)) ho
  · exact zA4 (fun h=>hq (.inr h)) ho
end
theorem zJe (call:yX) (b:CCode):zi P call (.loop b)=zAW uu (zi P call b):=rfl
theorem zGt (F N:Nat) (b:Code):zR P F N (.loop b)=.loop (zR P F N b):=rfl
def vN (P:Program) (c:Code) (Q:Exit→Act→World→Prop) (a:Act) (w:World):Prop:=
 ∀ (b:Frame) (k:List Item) (cs:List Frame),∃ e a' w',Q e a' w'∧Arrives P (lone (b.at a (.code c::.inLoop c::k)) cs w) b k cs e a' w'
theorem zAJ {c:Code} {Q:Exit→Act→World→Prop} {a:Act} {w:World} (h:c.wp P (Exit.then (vN P c Q) Q) a w):vN P c Q a w:=by
 intro b k cs
 obtain ⟨e,a₁,w₁,hq,harr⟩:=h b (.inLoop c::k) cs
 cases e with
 | normal=>
  obtain ⟨e₂,a₂,w₂,hq₂,harr₂⟩:=hq b k cs
  exact ⟨e₂,a₂,w₂,hq₂,.of_steps (Steps.trans harr (.one step_inLoop)) harr₂⟩
 | exit id=>exact ⟨_,a₁,w₁,hq,.pass (x:=.inLoop c) rfl (fun _ _=>.inl (by simp)) harr⟩
 | goto l=>exact ⟨_,a₁,w₁,hq,.pass (x:=.inLoop c) rfl (fun _ _=>.inl (by simp)) harr⟩
 | ret=>exact ⟨_,a₁,w₁,hq,.pass (x:=.inLoop c) rfl (fun _ _=>.inl (by simp)) harr⟩
 | panic ch=>exact ⟨_,a₁,w₁,hq,.pass (x:=.inLoop c) rfl (fun _ _=>.inl (by simp)) harr⟩
 | outgrown=>exact ⟨_,a₁,w₁,hq,.pass (x:=.inLoop c) rfl (fun _ _=>.inl (by simp)) harr⟩
theorem zFr {c:Code} {Q:Exit→Act→World→Prop} {a:Act} {w:World} (h:vN P c Q a w):(Code.loop c).wp P Q a w:=by
 intro b k cs
 obtain ⟨e,a',w',hq,harr⟩:=h b k cs
 exact ⟨e,a',w',hq,.of_steps (.one step_loop) harr⟩
def qv (P:Program) (F N:Nat) (call:yX):Prop:=∀ (id:Nat) (ops:Array Oper) (ψ:Psi) (tm:Tm) (ds:xP) (h:zC) (n:Key) (a:Act) (w:World),zFC ops.toList=true →
 St P F N ψ tm ds h n a w→zX (zi P call (zIk P F N ops.toList) tm ds h n) →
 (Code.region id ops true).wp P (xA P F N ψ (zC.fam h) n w (zi P call (zIk P F N ops.toList) tm ds h n)) a w
theorem zJ0 (l:List Oper) (h:zFC l=true):∀ o∈l,zDr o.op=false:=by
 induction l with
 | nil=>intro o ho; cases ho
 | cons x l ih=>
  intro o ho
  unfold zFC at h
  rw [Bool.and_eq_true] at h
  rcases List.mem_cons.1 ho with rfl | ho
  · have:=h.1
    cases hr:zDr o.op with
    | false=>rfl
    | true=>rw [hr] at this; cases this
  · exact ih h.2 o ho
theorem kO {F N:Nat} {call:yX} (hcall:yY P call) (hdraw:qv P F N call):∀ (c:Code) {ψ:Psi} {tm:Tm} {ds:xP} {h:zC} {n:Key} {a:Act} {w:World},
 zu c=true→St P F N ψ tm ds h n a w→zX (zi P call (zR P F N c) tm ds h n)→c.wp P (xA P F N ψ (zC.fam h) n w (zi P call (zR P F N c) tm ds h n)) a w:=by
 intro c
 induction c with
 | skip=>intro ψ tm ds h n a w _ hst hc; exact wp_skip ⟨trivial,ψ,hst,yF.refl hst.rel,hc⟩
 | label l=>intro ψ tm ds h n a w _ hst hc; exact wp_label ⟨trivial,ψ,hst,yF.refl hst.rel,hc⟩
 | region id ops dr=>
  intro ψ tm ds h n a w hnr hst hc
  cases dr with
  | true=>exact hdraw id ops ψ tm ds h n a w hnr hst hc
  | false=>
   refine wp_region ?_
   have hc':zX (yg P call (qw P F N ops.toList [] ops.toList) [] tm ds h n):=hc
   have:=zIL (F:=F) (N:=N) hcall (zLZ (P:=P) ops (xA P F N ψ (zC.fam h) n w (yg P call (qw P F N ops.toList [] ops.toList) [] tm ds h n)))
    ops.toList 0 rfl (fun o ho hr=>by rw [zJ0 _ hnr o ho] at hr; cases hr) hst (dl:=[]) (es:=[]) (fun t i hi=>by cases hi) hc'
    (fun tm' ds' h' n' ψ' a' w' g1 g2 g3 g4=>g4 (fun r=>xA P F N ψ (zC.fam h) n w r .normal a' w') (fun _ _ h=>.inl h) (fun _ _ h=>.inr h) ⟨trivial,ψ',g1,g2,g3⟩)
   rw [Array.length_toList] at this
   rw [List.range_eq_range']
   exact this
 | seq x y ihx ihy=>
  intro ψ tm ds h n a w hnr hst hc
  have hnr:zu x=true∧zu y=true:=by simpa [zu] using hnr
  have hc:zX (x8 (zi P call (zR P F N y)) (zi P call (zR P F N x) tm ds h n)):=hc
  have hab:=fun tm ds h n=>ym (P:=P) hcall.above (zR P F N y) tm ds h n
  refine wp_seq (wp_mono (ihx hnr.1 hst (xc hab hc)) fun e a' w' ho=>?_)
  rcases j4 hc ho with ⟨rfl,tm',ds',h',n',ψ',h2,h3,h4,h5⟩ | ⟨h1,h2⟩
  · exact wp_mono (ihy hnr.2 h2 h4) fun e'' a'' w'' ho'=>h5 e'' a'' w'' (xA.trans h3 ho')
  · cases e <;> first | exact absurd rfl h1 | exact h2
 | cond x p q ihp ihq=>
  intro ψ tm ds h n a w hnr hst hc
  have hnr:zu p=true∧zu q=true:=by simpa [zu] using hnr
  unfold zR at hc ⊢
  cases hx:zg P ⟨F,N,[]⟩ x with
  | none=>simp only [hx] at hc; exact hc.elim
  | some cx=>
   simp only [hx] at hc ⊢
   have hv:=zIK hst (dl:=[]) (es:=[]) (fun t i hi=>by cases hi) [x] x (by simp) cx hx
   have hc:zX (zGy (zi P call (zR P F N p)) (zi P call (zR P F N q)) (aV [] tm cx) tm ds h n):=hc
   show (Code.cond x p q).wp P (xA P F N ψ (zC.fam h) n w (zGy (zi P call (zR P F N p)) (zi P call (zR P F N q)) (aV [] tm cx) tm ds h n)) a w
   revert hc
   refine zEC (C:=fun k=>zX (k tm ds h n)→(Code.cond x p q).wp P (xA P F N ψ (zC.fam h) n w (k tm ds h n)) a w) _ (fun e hc=>?_) (fun e hc=>?_) (fun hc=>hc.elim)
   · rw [e] at hv
     exact wp_cond_true (zJ.1 hv) (ihp hnr.1 hst hc)
   · rw [e] at hv
     exact wp_cond_false (zJ.1 hv) (ihq hnr.2 hst hc)
 | block id b ih=>
  intro ψ tm ds h n a w hnr hst hc
  have hc:zX (uc id (zi P call (zR P F N b) tm ds h n)):=hc
  refine wp_block (wp_mono (ih hnr hst (jZ id hc)) fun e a' w' ho=>?_)
  exact uV (fun _ _ _ h=>h) ho
 | loop b ih=>
  intro ψ tm ds h n a w hnr hst hc
  rw [zGt,zJe] at hc ⊢
  have main:∀ (fuel:Nat) {ψ:Psi} {tm:Tm} {ds:xP} {h:zC} {n:Key} {a:Act} {w:World},St P F N ψ tm ds h n a w→zX (zAW fuel (zi P call (zR P F N b)) tm ds h n) →
   vN P b (xA P F N ψ (zC.fam h) n w (zAW fuel (zi P call (zR P F N b)) tm ds h n)) a w:=by
   intro fuel
   induction fuel with
   | zero=>intro ψ tm ds h n a w _ hc; exact hc.elim
   | succ m ihm=>
    intro ψ tm ds h n a w hst hc
    have hc:zX (x8 (zAW m (zi P call (zR P F N b))) (zi P call (zR P F N b) tm ds h n)):=hc
    have hab:∀ tm ds h n,zj n (zAW m (zi P call (zR P F N b)) tm ds h n):=by
     have:∀ (fuel:Nat) (tm:Tm) (ds:xP) (h:zC) (n:Key),zj n (zAW fuel (zi P call (zR P F N b)) tm ds h n):=by
      intro fuel
      induction fuel with
      | zero=>intros; trivial
      | succ m ih=>intro tm ds h n; exact qM ih (ym hcall.above _ tm ds h n)
     exact this m
    refine zAJ (wp_mono (ih hnr hst (xc hab hc)) fun e a' w' ho=>?_)
    rcases j4 hc ho with ⟨rfl,tm',ds',h',n',ψ',h2,h3,h4,h5⟩ | ⟨h1,h2⟩
    · intro b' k cs
      obtain ⟨e,a'',w'',hq,harr⟩:=ihm h2 h4 b' k cs
      exact ⟨e,a'',w'',h5 e a'' w'' (xA.trans h3 hq),harr⟩
    · cases e <;> first | exact absurd rfl h1 | exact h2
  exact zFr (main uu hst hc)
 | exit id=>intro ψ tm ds h n a w _ hst hc; exact wp_exit ⟨rfl,ψ,hst,yF.refl hst.rel,hc⟩
 | ret=>intro ψ tm ds h n a w _ hst hc; exact wp_ret ⟨trivial,ψ,hst,yF.refl hst.rel,hc⟩
 | scope b ih=>
  intro ψ tm ds h n a w hnr hst hc
  exact wp_scope_straight (wp_mono (ih hnr hst hc) fun e a' w' ho=>zA4 (fun h=>h) ho)
 | _=>intro ψ tm ds h n a w _ hst hc; exact hc.elim
end
end Go.Ev
namespace Go.Ev
variable [Sym]
noncomputable section
variable {P:Program}
variable [SymFact P]
theorem u0 {F N:Nat} {ψ:Psi} {tm:Tm} {a:Act} {t:Nat} {x:zU} (hf:yx ψ F N tm a) (hx:zg P ⟨F,N,[]⟩ (.tmp t)=some x):zH ψ (aV [] tm x) (a.tmps.getD t undef):=by
 unfold zg xF at hx
 simp only at hx
 split at hx
 · rename_i hb
   injection hx with hx; subst hx
   rw [Bool.and_eq_true,Bool.and_eq_true] at hb
   exact hf.tmp t hb.1.1 (zL hb.1.2) (zL hb.2)
 · cases hx
theorem zDH {ψ:Psi} {h:zC} {w:World} (hrel:qT ψ (zC.fam h) w) {b:Key} {p:Pl} {vs:List CV} (hp:ψ b=some p) (hv:zAF h b=some vs):zAa ψ w p vs:=by
 unfold zAF at hv
 split at hv
 · rename_i q hq; injection hv with hv; subst hv; exact yS.toRo (hrel b _ p hq hp)
 · rename_i q hq; injection hv with hv; subst hv; exact hrel b _ p hq hp
 · cases hv
def zI8 (tmps:Array Value):ResultVar→Sem Value
 | .tmp t=>pure (tmps.getD t undef)
 | .cell a t=>do loadVar t (← asAddr (tmps.getD a undef))
theorem zRi {F N:Nat} {ψ:Psi} {tm:Tm} {a:Act} {h:zC} {w:World} (hf:yx ψ F N tm a) (hrel:qT ψ (zC.fam h) w) {r:ResultVar} {c:CRes} {v:CV} (hc:xI P F N r=some c)
 (hv:zPH h tm c=some v):∃ x,(zI8 a.tmps r).run P w=.ok x w∧zH ψ v x:=by
 unfold xI at hc
 split at hc
 · rename_i t
   cases hx:zg P ⟨F,N,[]⟩ (.tmp t) with
   | none=>rw [hx] at hc; cases hc
   | some x=>
    rw [hx] at hc
    injection hc with hc; subst hc
    injection hv with hv; subst hv
    exact ⟨_,rfl,u0 hf hx⟩
 · rename_i t ty
   split at hc
   · rename_i s x ha hs hx
     injection hc with hc; subst hc
     have hr:=u0 hf hx
     unfold zPH at hv
     simp only at hv
     split at hv
     · rename_i b off he
       rw [he,zn] at hr
       obtain ⟨p,hp,hr⟩:=hr
       split at hv
       · rename_i cs hcs
         have hcells:=zDH hrel hp hcs
         cases hl:up cs off s with
         | none=>rw [hl] at hv; cases hv
         | some l=>
          rw [hl] at hv
          injection hv with hv; subst hv
          obtain ⟨xs,hrun,hxs⟩:=xX (P:=P) hcells hl
          exact ⟨.agg xs.toArray,by simp only [zI8,hr,asAddr,Sem.run_bind,Sem.run_pure,Result.andThen_ok,loadVar,qh ha,if_true,yT hs,hrun],yi.2 ⟨_,rfl,by simpa using hxs⟩⟩
       · cases hv
     · cases hv
   · rename_i s x ha hs hx
     injection hc with hc; subst hc
     have hr:=u0 hf hx
     unfold zPH at hv
     simp only at hv
     split at hv
     · rename_i b off he
       rw [he,zn] at hr
       obtain ⟨p,hp,hr⟩:=hr
       split at hv
       · rename_i cs hcs
         have hcells:=zDH hrel hp hcs
         rw [jY] at hv
         obtain ⟨y,hrun,hy⟩:=zAs (P:=P) hcells hv
         exact ⟨y,by simp only [zI8,hr,asAddr,Sem.run_bind,Sem.run_pure,Result.andThen_ok,loadVar,qh ha,Bool.false_eq_true,if_false,hrun],hy⟩
       · cases hv
     · cases hv
   · cases hc
theorem zE3 {F N:Nat} {ψ:Psi} {tm:Tm} {a:Act} {h:zC} {w:World} (hf:yx ψ F N tm a) (hrel:qT ψ (zC.fam h) w):∀ {l:List ResultVar} {cs:List CRes} {vs:List CV},
 yn (xI P F N) l=some cs→zCq h tm cs=some vs→∃ xs,(l.mapM (zI8 a.tmps)).run P w=.ok xs w∧zT ψ vs xs
 | [],cs,vs,hc,hv=>by
  injection hc with hc; subst hc
  injection hv with hv; subst hv
  exact ⟨[],rfl,zP.2 rfl⟩
 | r::l,cs,vs,hc,hv=>by
  unfold yn at hc
  cases h1:xI P F N r with
  | none=>rw [h1] at hc; cases hc
  | some c=>
   simp only [h1] at hc
   cases h2:yn (xI P F N) l with
   | none=>rw [h2] at hc; cases hc
   | some cs'=>
    simp only [h2] at hc
    injection hc with hc; subst hc
    unfold zCq at hv
    cases h3:zPH h tm c with
    | none=>rw [h3] at hv; cases hv
    | some v=>
     simp only [h3] at hv
     cases h4:zCq h tm cs' with
     | none=>rw [h4] at hv; cases hv
     | some vs'=>
      simp only [h4] at hv
      injection hv with hv; subst hv
      obtain ⟨x,g1,g2⟩:=zRi hf hrel h1 h3
      obtain ⟨xs,g3,g4⟩:=zE3 hf hrel h2 h4
      exact ⟨x::xs,by simp only [List.mapM_cons,Sem.run_bind,g1,Result.andThen_ok,g3,Sem.run_pure],zW.2 ⟨g2,g4⟩⟩
theorem zDp {F N:Nat} {ψ:Psi} {tm:Tm} {a:Act} {h:zC} {w:World} {fn:Func} (hf:yx ψ F N tm a) (hrel:qT ψ (zC.fam h) w) {cs:List CRes} {v:CV}
 (hc:yn (xI P F N) fn.results.toList=some cs) (hv:zCt h tm cs=some v):∃ x,(results fn a.tmps).run P w=.ok x w∧zH ψ v x:=by
 have hm:∀ {xs:List Value},(fn.results.toList.mapM (zI8 a.tmps)).run P w=.ok xs w→(fn.results.mapM (zI8 a.tmps)).run P w=.ok xs.toArray w:=by
  intro xs hx
  rw [Array.mapM_eq_mapM_toList,Sem.run_map,hx]; rfl
 have hres:(results fn a.tmps).run P w=((fn.results.mapM (zI8 a.tmps)).run P w).andThen fun vs w=>.ok (if h:vs.size=1 then vs[0] else .tuple vs) w:=by
  have:results fn a.tmps=(fn.results.mapM (zI8 a.tmps) >>= fun vs=>pure (if h:vs.size=1 then vs[0] else .tuple vs)):=by
   unfold results
   congr 1
  rw [this,Sem.run_bind]; rfl
 unfold zCt at hv
 split at hv
 · rename_i u hl
   injection hv with hv; subst hv
   obtain ⟨xs,h1,h2⟩:=zE3 hf hrel hc hl
   obtain ⟨x,r,rfl,h3,h4⟩:=zY.1 h2
   rw [zP] at h4; subst h4
   exact ⟨x,by rw [hres,hm h1,Result.andThen_ok]; rfl,h3⟩
 · rename_i vs hne hl
   injection hv with hv; subst hv
   obtain ⟨xs,h1,h2⟩:=zE3 hf hrel hc hl
   refine ⟨.tuple xs.toArray,?_,yQ.2 ⟨_,rfl,h2⟩⟩
   rw [hres,hm h1,Result.andThen_ok]
   have:¬ (xs.toArray.size=1):=by
    intro h
    have hl:=h2.length
    have:vs.length=1:=by simp at h; omega
    match vs,this with
    | [u],_=>exact hne u rfl
   rw [dif_neg this]
 · cases hv
theorem zKn {i j:Nat} (hi:i≤271) (hj:j≤271) (h:i≠j):Loc.ofNat i≠Loc.ofNat j:=fun e=>h (Loc.ofNat_inj hi hj e)
theorem zGC {ψ:Psi}:∀ (args:List CV) (as:List Value) (i:Nat) (tm:Tm) (t:Nat) (v:Value),zT ψ args as→t≤271→(t<i∨i+as.length≤t→zH ψ (x7 (Loc.ofNat t) tm) v)→(∀ u,i≤t→as[t - i]? = some u→u=v) →
 (i≤t→x7 (Loc.ofNat t) tm=.any)→zH ψ (x7 (Loc.ofNat t) (qQ args i tm)) v
 | [],as,i,tm,t,v,ha,ht,h1,h2,h3=>by
  rw [zP] at ha; subst ha
  show zH ψ (x7 (Loc.ofNat t) tm) v
  rcases Nat.lt_or_ge t i with h | h
  · exact h1 (.inl h)
  · exact h1 (.inr (by simpa using h))
 | c::args,as,i,tm,t,v,ha,ht,h1,h2,h3=>by
  obtain ⟨x,r,rfl,hx,hr⟩:=zY.1 ha
  unfold qQ
  split
  · rename_i hle
    have hle:=zL hle
    refine zGC args r (i+1) (wF c (Loc.ofNat i) tm) t v hr ht (fun h=>?_) (fun u hu hg=>?_) (fun hu=>?_)
    · by_cases e:t=i
      · subst e
        rw [jg]
        have:x=v:=h2 x (Nat.le_refl _) (by simp)
        rw [← this]; exact hx
      · rw [xT _ _ _ _ (zKn ht hle e)]
        refine h1 ?_
        rcases h with h | h
        · exact .inl (by omega)
        · exact .inr (by simp; omega)
    · refine h2 u (by omega) ?_
      have:t - i=(t - (i+1))+1:=by omega
      rw [this]; simpa using hg
    · rw [xT _ _ _ _ (zKn ht hle (by omega))]
      exact h3 (by omega)
  · rename_i hle
    have hlt:¬ i≤271:=fun h=>by rw [Nat.ble_eq_true_of_le h] at hle; cases hle
    exact h1 (.inl (by omega))
theorem zO9 {ψ:Psi} {F N:Nat} {args:List CV} {as:Array Value} (ha:zT ψ args as.toList):yx ψ F N (qQ args 0 .nil) { tmps:=as++Array.replicate (N - as.size) undef,defers:=[] }:=by
 refine ⟨by simp; omega,fun t _ ht hN=>?_⟩
 refine zGC args as.toList 0 .nil t _ ha ht (fun _=>by rw [zEz]; exact qA) (fun u _ hu=>?_) (fun _=>zEz _)
 simp only [Nat.sub_zero,Array.getElem?_toList] at hu
 have hlt:t<as.size:=by
  rcases Nat.lt_or_ge t as.size with h | h
  · exact h
  · rw [Array.getElem?_eq_none h] at hu; cases hu
 rw [Array.getD_eq_getD_getElem?,Array.getElem?_append_left hlt,hu]; rfl
theorem zBo {rs:List CRes} {tm:Tm} {h:zC} {n:Key}:zj n (zC1 rs tm h n):=by
 unfold zC1; split
 · exact Nat.le_refl _
 · trivial
theorem zBW {call:yX} {k:zC→Key→R} {f:FuncId} {args:List CV} {r:xP} {h:zC} {n:Key} :
 wl call k ((f,args)::r) h n=qx (fun _ h n=>wl call k r h n) (call true f args h n):=rfl
theorem vK {call:yX} (hcall:yt call) {k:zC→Key→R} (hk:∀ h n,zj n (k h n)):∀ (ds:xP) (h:zC) (n:Key),zj n (wl call k ds h n)
 | [],h,n=>hk h n
 | (f,args)::r,h,n=>by
  rw [zBW]
  exact ql (fun _ h n=>vK hcall hk r h n) (hcall _ _ _ _ _)
theorem wo {call:yX} (hcall:yt call) (d:Bool) (rs:List CRes) (tm:Tm) (ds:xP) (h:zC) (n:Key):zj n (jf d call rs tm ds h n):=by
 unfold jf
 split
 · exact zBo
 · split
   · exact vK hcall (fun _ _=>zBo) _ _ _
   · trivial
theorem kC {call:yX} (hcall:yt call) {n:Key} (d:Bool) (rs:List CRes):∀ {r:R},zj n r→zj n (yk d call rs r)
 | .ok .normal tm ds h n',ha=>zj.le ha (wo hcall d rs tm ds h n')
 | .ok (.exit _) ..,_=>trivial
 | .ok .ret tm ds h n',ha=>zj.le ha (wo hcall d rs tm ds h n')
 | .ret ..,_=>trivial
 | .err _,_=>trivial
 | .fork _ _,h=>⟨kC hcall d rs h.1,kC hcall d rs h.2⟩
theorem xO {call:yX} (hcall:yt call) (d:Bool) (rs:List CRes):∀ {r:R},zX (yk d call rs r)→zX r
 | .ok .normal tm ds h n',hc=>uI hc (wo hcall d rs tm ds h n')
 | .ok (.exit _) ..,hc=>hc.elim
 | .ok .ret tm ds h n',hc=>uI hc (wo hcall d rs tm ds h n')
 | .ret ..,hc=>hc.elim
 | .err _,hc=>hc.elim
 | .fork _ _,h=>⟨xO hcall d rs h.1,xO hcall d rs h.2⟩
section
variable {F N:Nat} {call:yX} {fn:Func} {ψ₀:Psi} {g₀:Fam} {n₀:Key} {w₀:World}
theorem zo.trans {ψ₁:Psi} {g₁:Fam} {n₁:Key} {w₁:World} (hp:yF ψ₀ g₀ n₀ w₀ ψ₁ g₁ n₁ w₁) {v:Value} {w:World}:∀ {r:R},zo ψ₁ g₁ n₁ w₁ r v w→zo ψ₀ g₀ n₀ w₀ r v w
 | .ok ..,h=>h
 | .ret ..,⟨ψ,h1,h2⟩=>⟨ψ,hp.trans h1,h2⟩
 | .err _,h=>h
 | .fork _ _,h=>h.imp (zo.trans hp) (zo.trans hp)
theorem zAc {k:CV→zC→Key→R} {v:Value} {w:World} {Z:Prop}:∀ {r:R},zX (qx k r)→zo ψ₀ g₀ n₀ w₀ r v w →
 (∀ cv h n ψ,yF ψ₀ g₀ n₀ w₀ ψ (zC.fam h) n w→zH ψ cv v→zX (k cv h n)→(∀ u w',zo ψ₀ g₀ n₀ w₀ (k cv h n) u w'→zo ψ₀ g₀ n₀ w₀ (qx k r) u w')→Z)→Z
 | .ok ..,_,h,_=>h.elim
 | .err _,_,h,_=>h.elim
 | .ret cv h n,hc,⟨ψ,h1,h2⟩,hz=>hz cv h n ψ h1 h2 hc fun _ _ h=>h
 | .fork r s,hc,h,hz=>by
  rcases h with h | h
  · exact zAc hc.1 h fun cv h n ψ a b c d=>hz cv h n ψ a b c fun u w' q=>.inl (d u w' q)
  · exact zAc hc.2 h fun cv h n ψ a b c d=>hz cv h n ψ a b c fun u w' q=>.inr (d u w' q)
theorem jX {tmps:Array Value} {R R':Ending→World→Prop} (hR:∀ e w,R e w→R' e w):∀ (ds:List Deferred) (u:FrameMode) (w:World),Leaves P fn tmps R ds u w→Leaves P fn tmps R' ds u w
 | [],.returning,w,⟨v,h1,h2⟩=>⟨v,h1,hR _ _ h2⟩
 | [],.panicking _,w,h=>hR _ _ h
 | [],.run,w,h=>h
 | d::ds,u,w,⟨h0,fv,cap,f,args,h1,h2,h3⟩=>⟨h0,fv,cap,f,args,h1,h2,CallsD.mono h3 fun e u' w' he=>by
  cases e with
  | returned v=>exact jX hR ds _ _ he
  | panicked c=>exact jX hR ds _ _ he
  | outgrown=>exact hR _ _ he⟩
theorem zDw (hcall:yY P call) {rs:List CRes} {tm:Tm} (hrs:yn (xI P F N) fn.results.toList=some rs):∀ (ds:xP) {ψ:Psi} {h:zC} {n:Key} {a:Act} {w:World} {l:List Deferred},
 yx ψ F N tm a→qy P ψ ds l→Rel ψ (zC.fam h) w→wd P ψ→qW ψ n→zX (wl call (fun h n=>zC1 rs tm h n) ds h n) →
 Leaves P fn a.tmps (fun e w'=>∃ v,e=.returned v∧zo ψ (zC.fam h) n w (wl call (fun h n=>zC1 rs tm h n) ds h n) v w') l .returning w
 | [],ψ,h,n,a,w,l,hf,hd,hrel,hg,hfr,hc=>by
  unfold qy at hd; subst hd
  have hc:zX (zC1 rs tm h n):=hc
  show ∃ v,(results fn a.tmps).run P w=.ok v w∧∃ v',Ending.returned v=.returned v'∧zo ψ (zC.fam h) n w (zC1 rs tm h n) v' w
  unfold zC1 at hc ⊢
  cases hv:zCt h tm rs with
  | none=>rw [hv] at hc; exact hc.elim
  | some v=>
   obtain ⟨x,h1,h2⟩:=zDp hf hrel.on hrs hv
   exact ⟨x,h1,x,rfl,ψ,yF.refl hrel,h2⟩
 | (f,args)::r,ψ,h,n,a,w,l,hf,hd,hrel,hg,hfr,hc=>by
  obtain ⟨d,l',rfl,⟨fv,cap,args',e1,e2,e3⟩,hd'⟩:=hd
  rw [zBW] at hc ⊢
  have hcl:=qk (fun _ h n=>vK hcall.above (fun _ _=>zBo) r h n) hc
  obtain ⟨h1,h2⟩:=hcall.defers f args h n ψ w args' e3 hg hrel hfr hcl
  refine ⟨by simp,fv,cap,f,args',e1,by rw [e2,h1],CallsD.mono h2 fun e u w' ⟨hu,v,he,v',hr⟩=>?_⟩
  subst hu he
  show Leaves P fn a.tmps _ l' (settle .returning) w'
  refine zAc hc hr fun cv h' n' ψ' q1 q2 q3 q4=>?_
  have:=zDw hcall hrs r (hf.mono q1.ext) (hd'.mono q1.ext) q1.rel (hg.mono q1.ext) (q1.fresh hfr) q3
  refine jX (fun e w'' ⟨v,he,hr⟩=>⟨v,he,q4 _ _ (zo.trans q1 hr)⟩) _ _ _ this
theorem zGU (hcall:yY P call) {rs:List CRes} (hrs:yn (xI P F N) fn.results.toList=some rs) {ψ:Psi} {tm:Tm} {ds:xP} {h:zC} {n:Key} {a:Act} {w:World}
 (hst:St P F N ψ tm ds h n a w) (hc:zX (jf false call rs tm ds h n)) :
 Leaves P fn a.tmps (fun e w'=>∃ v,e=.returned v∧zo ψ (zC.fam h) n w (jf false call rs tm ds h n) v w') a.defers .returning w:=by
 have e:jf false call rs tm ds h n=wl call (fun h n=>zC1 rs tm h n) ds h n:=by cases ds <;> rfl
 rw [e] at hc ⊢
 exact zDw hcall hrs ds hst.frame hst.dfr hst.rel hst.glob hst.fresh hc
theorem zGf {rs:List CRes} (hrs:yn (xI P F N) fn.results.toList=some rs) {ψ:Psi} {tm:Tm} {ds:xP} {h:zC} {n:Key} {a:Act} {w:World}
 (hst:St P F N ψ tm ds h n a w) (hc:zX (jf true call rs tm ds h n)) :
 a.defers=[]∧∃ v,(results fn a.tmps).run P w=.ok v w∧zo ψ (zC.fam h) n w (jf true call rs tm ds h n) v w:=by
 cases ds with
 | cons f ds=>exact hc.elim
 | nil=>
  have hd:=hst.dfr
  unfold qy at hd
  refine ⟨hd,?_⟩
  have hc:zX (zC1 rs tm h n):=hc
  show ∃ v,_∧zo ψ (zC.fam h) n w (zC1 rs tm h n) v w
  unfold zC1 at hc ⊢
  cases hv:zCt h tm rs with
  | none=>rw [hv] at hc; exact hc.elim
  | some v=>
   obtain ⟨x,h1,h2⟩:=zDp hst.frame hst.rel.on hrs hv
   exact ⟨x,h1,ψ,yF.refl hst.rel,h2⟩
theorem wB (d:Bool) (rs:List CRes) {e:Exit} {a:Act} {w:World} {Z:Prop}:∀ {r:R},zX (yk d call rs r)→xA P F N ψ₀ g₀ n₀ w₀ r e a w →
 (∀ tm ds h n ψ,(e=.normal∨e=.ret)→St P F N ψ tm ds h n a w→yF ψ₀ g₀ n₀ w₀ ψ (zC.fam h) n w→zX (jf d call rs tm ds h n) →
   (∀ u w',zo ψ₀ g₀ n₀ w₀ (jf d call rs tm ds h n) u w'→zo ψ₀ g₀ n₀ w₀ (yk d call rs r) u w')→Z)→Z
 | .ok .normal tm ds h n,hc,⟨h1,ψ,h2,h3,h4⟩,hz=>hz tm ds h n ψ (by cases e <;> first | exact .inl rfl | exact h1.elim) h2 h3 hc fun _ _ h=>h
 | .ok (.exit _) ..,hc,_,_=>hc.elim
 | .ok .ret tm ds h n,hc,⟨h1,ψ,h2,h3,h4⟩,hz=>hz tm ds h n ψ (by cases e <;> first | exact .inr rfl | exact h1.elim) h2 h3 hc fun _ _ h=>h
 | .ret ..,hc,_,_=>hc.elim
 | .err _,hc,_,_=>hc.elim
 | .fork r s,hc,ho,hz=>by
  rcases ho with ho | ho
  · exact wB d rs hc.1 ho fun tm ds h n ψ a b c d e=>hz tm ds h n ψ a b c d fun u w' q=>.inl (e u w' q)
  · exact wB d rs hc.2 ho fun tm ds h n ψ a b c d e=>hz tm ds h n ψ a b c d fun u w' q=>.inr (e u w' q)
end
end
end Go.Ev
namespace Go.Ev
variable [Sym]
noncomputable section
variable {P:Program}
variable [SymFact P]
structure NatsOk (P:Program) (nat:Nats):Prop where
 above:∀ f g,nat f=some g→∀ d args h n,zj n (g ‹Sym› d args h n)
 calls:∀ f g,nat f=some g→∀ args h n ψ w args',zT ψ args args'.toList→wd P ψ→Rel ψ (zC.fam h) w→qW ψ n→zX (g ‹Sym› false args h n) →
  ya P f args' w (zo ψ (zC.fam h) n w (g ‹Sym› false args h n))
 defers:∀ f g,nat f=some g→∀ args h n ψ w args',zT ψ args args'.toList→wd P ψ→Rel ψ (zC.fam h) w→qW ψ n→zX (g ‹Sym› true args h n) →
  zFo P f args' w fun w'=>∃ v,zo ψ (zC.fam h) n w (g ‹Sym› true args h n) v w'
omit [Sym] [SymFact P] in
theorem run_callFunc_enter {f:FuncId} {fn:Func} {c:Code} (hf:P.funcs[f]? = some fn) (hn:(fn.name == "runtime.NumGoroutine")=false) (hb:fn.body=some c) (args:Array Value) (w:World) :
 (callFunc f args).run P w=.ok (.enter f args) w:=by
 have h1:fn.name ≠ "runtime.NumGoroutine":=by simpa using hn
 simp [callFunc,hf,h1,hb]
section
variable {call:yX} (hcall:yY P call) (hdraw:∀ F N,qv P F N call)
include hcall
theorem zL8 (e:Ext) (args:List CV) (h:zC) (n:Key):zj n (zQF (zB8 e args h n) h n):=by
 have:=zKZ (h:=h) (n:=n) e args
 generalize zB8 e args h n=r at this
 cases r <;> first | exact Nat.le_refl _ | exact this | trivial
theorem zKg (d:Bool) (fn:CFn) (args:List CV) (h:zC) (n:Key):zj n (zAV P d call fn args h n):=by
 cases fn with
 | mk body res=>exact kC hcall.above d res (ym hcall.above body _ _ h n)
 | mkD ops body res=>
  show zj n (match d with
   | true=>yk true call res (x8 (zi P call body) (yg P call ops [] (qQ args 0 .nil) [] h n))
   | false=>.err 311)
  cases d with
  | true=>exact kC hcall.above true res (qM (fun tm ds h n=>ym hcall.above body tm ds h n) (jr hcall.above ops [] _ _ h n))
  | false=>trivial
 | ext e=>
  show zj n (match d with
   | true=>.err 313
   | false=>zQF (zB8 e args h n) h n)
  cases d with
  | true=>trivial
  | false=>exact zL8 hcall e args h n
 | bad c=>trivial
include hdraw
theorem zCD {F N:Nat} {args:List CV} {args':Array Value} {h:zC} {n:Key} {ψ:Psi} {w:World} (ha:zT ψ args args'.toList) (hg:wd P ψ) (hrel:Rel ψ (zC.fam h) w) (hfr:qW ψ n) :
 St P F N ψ (qQ args 0 .nil) [] h n { tmps:=args'++Array.replicate (N - args'.size) undef,defers:=[] } w:=
 ⟨zO9 ha,rfl,hrel,hg,hfr⟩
theorem zDM {f:FuncId} {args:List CV} {args':Array Value} {h:zC} {n:Key} {ψ:Psi} {w:World} (ha:zT ψ args args'.toList) (hg:wd P ψ) (hrel:Rel ψ (zC.fam h) w) (hfr:qW ψ n)
 (hc:zX (zAV P false call (compFn P f) args h n)):ya P f args' w (zo ψ (zC.fam h) n w (zAV P false call (compFn P f) args h n)):=by
 unfold compFn at hc ⊢
 rw [nth_eq] at hc ⊢
 cases hf:P.funcs.toList[f]? with
 | none=>simp only [hf] at hc; exact hc.elim
 | some fn=>
  have hf':P.funcs[f]? = some fn:=by simpa using hf
  simp only [hf] at hc ⊢
  cases hb:fn.body with
  | none=>
   simp only [hb] at hc ⊢
   cases he:zCC P fn with
   | none=>simp only [he] at hc; exact hc.elim
   | some e=>
    simp only [he] at hc ⊢
    obtain ⟨en,h1,h2,h3,h4⟩:=zF9 he
    have hout:=zMV (P:=P) (h:=h) (n:=n) (w:=w) he h1 ha
    have hrun:=run_callFunc_extern (P:=P) hf' h2 (by rw [hb]; rfl) h3 h4 args' w
    have hc:zX (zQF (zB8 e args h n) h n):=hc
    show ya P f args' w (zo ψ (zC.fam h) n w (zQF (zB8 e args h n) h n))
    have hoa:=zKZ (h:=h) (n:=n) e args
    generalize zB8 e args h n=r at hout hc hoa
    unfold ya
    cases r <;> first | exact hout.elim | exact hc.elim | skip
    case val v=>
     obtain ⟨x,g1,g2⟩:=hout
     rw [hrun,g1]
     exact ⟨ψ,yF.refl hrel,g2⟩
    case eff v h' n'=>
     obtain ⟨w',x,ψ',g1,g2,g3⟩:=hout hrel (fun k hk _=>hfr k hk) hc
     rw [hrun,g1]
     exact ⟨ψ',g2,g3⟩
  | some c=>
   simp only [hb] at hc ⊢
   split at hc
   · exact hc.elim
   · rename_i hn
     have hn:(fn.name == "runtime.NumGoroutine")=false:=by simpa using hn
     rw [if_neg (by rw [hn]; simp)]
     unfold zBt at hc ⊢
     cases hrs:yn (xI P (frameBits fn c) fn.ntmps) fn.results.toList with
     | none=>simp only [hrs] at hc; exact hc.elim
     | some rs=>
      simp only [hrs] at hc ⊢
      split at hc
      · rename_i hnr
        rw [if_pos hnr]
        unfold ya
        rw [run_callFunc_enter hf' hn hb]
        have hc:zX (yk false call rs (zi P call (zR P (frameBits fn c) fn.ntmps c) (qQ args 0 .nil) [] h n)):=hc
        show Calls P f args' w fun e w''=>∃ v,e=.returned v∧zo ψ (zC.fam h) n w (yk false call rs (zi P call (zR P (frameBits fn c) fn.ntmps c) (qQ args 0 .nil) [] h n)) v w''
        refine calls_of_wp_defers hf' hb (wp_mono (kO hcall (hdraw _ _) c hnr (zCD hcall hdraw ha hg hrel hfr) (xO hcall.above false rs hc)) fun e a w' ho=>?_)
        refine wB false rs hc ho fun tm ds h' n' ψ' q1 q2 q3 q4 q5=>?_
        have hl:=zGU hcall hrs q2 q4
        have:Leaves P fn a.tmps (fun e w''=>∃ v,e=.returned v∧zo ψ (zC.fam h) n w (yk false call rs (zi P call (zR P (frameBits fn c) fn.ntmps c) (qQ args 0 .nil) [] h n)) v w'') a.defers .returning w':=
         jX (fun e w'' ⟨v,he,hr⟩=>⟨v,he,q5 _ _ (zo.trans q3 hr)⟩) _ _ _ hl
        rcases q1 with rfl | rfl
        · exact this
        · exact this
      · rename_i hnr
        split at hc
        · split at hc <;> exact hc.elim
        · exact hc.elim
theorem zBZ {f:FuncId} {args:List CV} {args':Array Value} {h:zC} {n:Key} {ψ:Psi} {w:World} (ha:zT ψ args args'.toList) (hg:wd P ψ) (hrel:Rel ψ (zC.fam h) w) (hfr:qW ψ n)
 (hc:zX (zAV P true call (compFn P f) args h n)):zFo P f args' w fun w'=>∃ v,zo ψ (zC.fam h) n w (zAV P true call (compFn P f) args h n) v w':=by
 unfold compFn at hc ⊢
 rw [nth_eq] at hc ⊢
 cases hf:P.funcs.toList[f]? with
 | none=>simp only [hf] at hc; exact hc.elim
 | some fn=>
  have hf':P.funcs[f]? = some fn:=by simpa using hf
  simp only [hf] at hc ⊢
  cases hb:fn.body with
  | none=>
   simp only [hb] at hc
   cases he:zCC P fn with
   | none=>simp only [he] at hc; exact hc.elim
   | some e=>simp only [he] at hc; exact hc.elim
  | some c=>
   simp only [hb] at hc ⊢
   split at hc
   · exact hc.elim
   · rename_i hn
     have hn:(fn.name == "runtime.NumGoroutine")=false:=by simpa using hn
     rw [if_neg (by rw [hn]; simp)]
     unfold zBt at hc ⊢
     cases hrs:yn (xI P (frameBits fn c) fn.ntmps) fn.results.toList with
     | none=>simp only [hrs] at hc; exact hc.elim
     | some rs=>
      simp only [hrs] at hc ⊢
      refine ⟨run_callFunc_enter hf' hn hb _ _,?_⟩
      split at hc
      · rename_i hnr
        rw [if_pos hnr]
        have hc:zX (yk true call rs (zi P call (zR P (frameBits fn c) fn.ntmps c) (qQ args 0 .nil) [] h n)):=hc
        show CallsD P f args' .returning w fun e u w'=>u=.returning∧∃ v,e=.returned v∧∃ v,zo ψ (zC.fam h) n w (yk true call rs (zi P call (zR P (frameBits fn c) fn.ntmps c) (qQ args 0 .nil) [] h n)) v w'
        refine callsD_of_wp hf' hb (wp_mono (kO hcall (hdraw _ _) c hnr (zCD hcall hdraw ha hg hrel hfr) (xO hcall.above true rs hc)) fun e a w' ho=>?_)
        refine wB true rs hc ho fun tm ds h' n' ψ' q1 q2 q3 q4 q5=>?_
        obtain ⟨g1,v,g2,g3⟩:=zGf (call:=call) hrs q2 q4
        rcases q1 with rfl | rfl
        · exact ⟨g1,v,g2,v,rfl,v,q5 _ _ (zo.trans q3 g3)⟩
        · exact ⟨g1,v,g2,v,rfl,v,q5 _ _ (zo.trans q3 g3)⟩
      · rename_i hnr
        rw [if_neg hnr]
        split at hc
        · rename_i c0 id ops r
          split at hc
          · rename_i hnr'
            rw [if_pos hnr']
            have hc:zX (yk true call rs (x8 (zi P call (zR P (frameBits fn (.seq (.region id ops false) r)) fn.ntmps r))
             (yg P call (qw P (frameBits fn (.seq (.region id ops false) r)) fn.ntmps ops.toList [] ops.toList) [] (qQ args 0 .nil) [] h n))):=hc
            generalize hF:frameBits fn (.seq (.region id ops false) r)=F at hc hrs
            show CallsD P f args' .returning w fun e u w'=>u=.returning∧∃ v,e=.returned v∧∃ v,zo ψ (zC.fam h) n w (yk true call rs (x8 (zi P call (zR P F fn.ntmps r))
             (yg P call (qw P F fn.ntmps ops.toList [] ops.toList) [] (qQ args 0 .nil) [] h n))) v w'
            have hc1:=xO hcall.above true rs hc
            have hab:=fun tm ds h n=>ym (P:=P) hcall.above (zR P F fn.ntmps r) tm ds h n
            have hc2:=xc hab hc1
            refine callsD_of_wpS hf' hb fun c₀ cs hm=>wpS_seq (wpS_region ?_)
            have hrec:recoverD (c₀::cs)=none:=by unfold recoverD; simp [hm]
            have:=zIL (F:=F) (N:=fn.ntmps) hcall (zGk (P:=P) ops (Exit.thenS (r.wpS P (bodyPostS P fn c₀ cs fun e u w'=>u=.returning∧∃ v,e=.returned v∧∃ v,zo ψ (zC.fam h) n w (yk true call rs (x8 (zi P call (zR P F fn.ntmps r))
             (yg P call (qw P F fn.ntmps ops.toList [] ops.toList) [] (qQ args 0 .nil) [] h n))) v w'))
             (bodyPostS P fn c₀ cs fun e u w'=>u=.returning∧∃ v,e=.returned v∧∃ v,zo ψ (zC.fam h) n w (yk true call rs (x8 (zi P call (zR P F fn.ntmps r))
             (yg P call (qw P F fn.ntmps ops.toList [] ops.toList) [] (qQ args 0 .nil) [] h n))) v w')) hrec)
             ops.toList 0 rfl (fun _ _ _=>rfl) (zCD hcall hdraw (F:=F) (N:=fn.ntmps) ha hg hrel hfr) (dl:=[]) (es:=[]) (fun t i hi=>by cases hi) hc2
             (fun tm' ds' h' n' ψ' a' w' g1 g2 g3 g4=>by
               have k1:=g4 (fun r0=>zX (yk true call rs (x8 (zi P call (zR P F fn.ntmps r)) r0))→zX (yk true call rs (zi P call (zR P F fn.ntmps r) tm' ds' h' n')))
                (fun x y hx hc=>hx hc.1) (fun x y hy hc=>hy hc.2) (fun h=>h) hc
               have k2:=g4 (fun r0=>∀ u w'',zo ψ (zC.fam h) n w (yk true call rs (zi P call (zR P F fn.ntmps r) tm' ds' h' n')) u w'' →
                zo ψ (zC.fam h) n w (yk true call rs (x8 (zi P call (zR P F fn.ntmps r)) r0)) u w'')
                (fun x y hx u w'' q=>.inl (hx u w'' q)) (fun x y hy u w'' q=>.inr (hy u w'' q)) (fun u w'' q=>q)
               show r.wpS P _ a' (c₀::cs) w'
               refine wpS_of_wp (wp_mono (kO hcall (hdraw F fn.ntmps) r hnr' g1 (xO hcall.above true rs k1)) fun e a w'' ho=>?_)
               refine wB true rs k1 ho fun tm ds h'' n'' ψ'' q1 q2 q3 q4 q5=>?_
               obtain ⟨g1',v,g2',g3'⟩:=zGf (call:=call) hrs q2 q4
               have hfin:=k2 _ _ (zo.trans g2 (q5 _ _ (zo.trans q3 g3')))
               have hm':({ c₀ with mode:=.returning }:Frame)=c₀:=by rw [← hm]
               rcases q1 with rfl | rfl
               · exact ⟨g1',.returning,by rw [hm'],v,g2',rfl,v,rfl,v,hfin⟩
               · exact ⟨g1',.returning,by rw [hm'],v,g2',rfl,v,rfl,v,hfin⟩)
            rw [Array.length_toList] at this
            rw [List.range_eq_range']
            exact this
          · exact hc.elim
        · exact hc.elim
end
def CodeOk (P:Program) (code:FuncId→CFn):Prop:=∀ f,code f=compFn P f∨code f=zMB (compFn P f)∨∃ c,code f=.bad c
theorem ww (hdraw:∀ (call:yX),yY P call→∀ F N,qv P F N call) {code:FuncId→CFn} (hcode:CodeOk P code) {nat:Nats} (hnat:NatsOk P nat):∀ (fuel:Nat),yY P (ev P code nat fuel)
 | 0=>⟨fun _ _ _ _ _=>trivial,fun _ _ _ _ _ _ _ _ _ _ _ hc=>hc.elim,fun _ _ _ _ _ _ _ _ _ _ _ hc=>hc.elim⟩
 | fuel+1=>by
  have ih:=ww hdraw hcode hnat fuel
  have hev:∀ d f args h n,ev P code nat (fuel+1) d f args h n=(match nat f with
   | none=>zAV P d (ev P code nat fuel) (code f) args h n
   | some g=>g ‹Sym› d args h n):=by
   intro d f args h n
   show Option.rec (motive:=fun _=>R) (zAV P d (ev P code nat fuel) (code f) args h n) (fun g=>g ‹Sym› d args h n) (nat f)=_
   cases nat f <;> rfl
  refine ⟨fun d f args h n=>?_,fun f args h n ψ w args' h1 h2 h3 h4 hc=>?_,fun f args h n ψ w args' h1 h2 h3 h4 hc=>?_⟩
  · rw [hev]
    split
    · exact zKg ih d _ args h n
    · rename_i g hg
      exact hnat.above f g hg d args h n
  · rw [hev] at hc ⊢
    split at hc
    · rename_i hn
      rcases hcode f with e | e | ⟨c,e⟩
      · rw [e] at hc ⊢
        exact zDM ih (hdraw _ ih) h1 h2 h3 h4 hc
      · rw [e,zHT] at hc ⊢
        exact zDM ih (hdraw _ ih) h1 h2 h3 h4 hc
      · rw [e] at hc; exact hc.elim
    · rename_i g hg
      exact hnat.calls f g hg args h n ψ w args' h1 h2 h3 h4 hc
  · rw [hev] at hc ⊢
    split at hc
    · rename_i hn
      rcases hcode f with e | e | ⟨c,e⟩
      · rw [e] at hc ⊢
        exact zBZ ih (hdraw _ ih) h1 h2 h3 h4 hc
      · rw [e,zHT] at hc ⊢
        exact zBZ ih (hdraw _ ih) h1 h2 h3 h4 hc
      · rw [e] at hc; exact hc.elim
    · rename_i g hg
      exact hnat.defers f g hg args h n ψ w args' h1 h2 h3 h4 hc
end
end Go.Ev
