/- A verified evaluator for the model's code: EvU, EvV, EvW, EvX, EvY, EvZ, EvZa, EvZb, EvZc, EvZd. -/
import Derived.Test.YtmheccmahfgpoaaGreatDoorEv4
import Derived.Laws.Externs
import Derived.KernelRfl
import Derived.Lib.Bytealg
import Derived.Recover
import Derived.Orders
import Derived.Scope
set_option linter.unusedSectionVars false
set_option linter.unusedVariables false
set_option linter.unusedSimpArgs false
namespace Go.Ev
variable [Sym]
open Go.MapKept
noncomputable section
variable {P:Program} {ψ:Psi} {es:List CV} {tm:Tm} {h:Heap} {n:Key} {ρ:Operand→Value} {E:Env} {ty:TypeId} {w:World}
variable [SymFact P]
theorem zQ6 {c:Call} {l:List Operand} (h:c.args.toList=l):c.args.map ρ=(l.map ρ).toArray:=by
 rw [zAP h]; simp
theorem zJe (c:Call) (b:Builtin) (hc:c.callee=.builtin b) (ha:zq P ψ es tm E ρ c.args.toList) :
 zC P ψ h n ρ (.call c) ty w (yD P (xu P E b c.argTypes.toList c.args.toList) es tm h n):=by
 have hrun:=fun w=>zCf (P:=P) (ρ:=ρ) (ty:=ty) hc w
 generalize hts:c.argTypes.toList=ts
 generalize has:c.args.toList=as at ha
 have hts':=zAP hts
 have has':=zQ6 (ρ:=ρ) has
 rw [has',hts'] at hrun
 cases b <;> try exact zA _
 case append=>
  match ts,as with
  | t::u::r,[s,x]=>exact zKr (fun w=>by rw [hrun w]; rfl) ha
  | _::_::_,[]=>exact zA _
  | _::_::_,[_]=>exact zA _
  | _::_::_,_::_::_::_=>exact zA _
  | [],_=>exact zA _
  | [_],_=>exact zA _
 case copy=>
  match ts,as with
  | t::r,[s,x]=>exact zOR (fun w=>by rw [hrun w]; rfl) ha
  | _::_,[]=>exact zA _
  | _::_,[_]=>exact zA _
  | _::_,_::_::_::_=>exact zA _
  | [],_=>exact zA _
 case len=>
  match ts,as with
  | t::r,[x]=>exact zQ2 (fun w=>by rw [hrun w]; rfl) ha
  | _::_,[]=>exact zA _
  | _::_,_::_::_=>exact zA _
  | [],_=>exact zA _
 case cap=>
  match ts,as with
  | t::r,[x]=>exact zQG (fun w=>by rw [hrun w]; rfl) ha
  | _::_,[]=>exact zA _
  | _::_,_::_::_=>exact zA _
  | [],_=>exact zA _
 case delete=>
  match ts,as with
  | t::r,[m,k]=>exact zKV (fun w=>by rw [hrun w]; rfl) ha
  | _::_,[]=>exact zA _
  | _::_,[_]=>exact zA _
  | _::_,_::_::_::_=>exact zA _
  | [],_=>exact zA _
 case clear=>
  match ts,as with
  | t::r,[x]=>exact zM8 (fun w=>by rw [hrun w]; rfl) ha
  | _::_,[]=>exact zA _
  | _::_,_::_::_=>exact zA _
  | [],_=>exact zA _
 case min=>
  match as with
  | x::r=>exact zEw false (fun w=>by rw [hrun w]; rfl) ha
  | []=>exact zA _
 case max=>
  match as with
  | x::r=>exact zEw true (fun w=>by rw [hrun w]; rfl) ha
  | []=>exact zA _
 case recover=>
  match as with
  | []=>exact ⟨by unfold zCV; simp [hc],by rw [hrun w]; rfl⟩
  | _::_=>exact zA _
def zNr (ψ:Psi):vd→Place→Prop
 | .val c,x=>∃ v,x=.val v∧zG ψ c v
 | .var b off,x=>∃ p,ψ b=some p∧x=.var ⟨p.blk,p.off+off,none⟩
theorem zJN {b:Key} {off:Nat} {p:Pl} (hp:ψ b=some p):zNr ψ (.var b off) (.var ⟨p.blk,p.off+off,none⟩):=⟨p,hp,rfl⟩
theorem zD7 {c:CV} {v:Value} (hv:zG ψ c v):zNr ψ (.val c) (.val v):=⟨v,rfl,hv⟩
theorem zHd (hrel:qN ψ (Heap.fam h) w) {t:TypeId} {b:Key} {off:Nat} {c:CV} {p:Pl} (hp:ψ b=some p) (hc:zMI P h t b off=some c) :
 ∃ v,(loadVar t ⟨p.blk,p.off+off,none⟩).run P w=.ok v w∧zG ψ c v:=by
 unfold zMI at hc
 split at hc
 · rename_i a s vs ha hs hv
   have hcells:uh ψ w p vs:=by
    unfold zAi at hv
    split at hv
    · rename_i q hq; injection hv with hv; subst hv; exact yN.toRo (hrel b _ p hq hp)
    · rename_i q hq; injection hv with hv; subst hv; exact hrel b _ p hq hp
    · cases hv
   unfold zMH at hc
   cases a with
   | true=>
    simp only at hc
    cases hl:uS vs off s with
    | none=>rw [hl] at hc; cases hc
    | some l=>
     rw [hl] at hc
     injection hc with hc; subst hc
     obtain ⟨xs,hrun,hxs⟩:=xT (P:=P) hcells hl
     exact ⟨.agg xs.toArray,by simp [loadVar,qc ha,yQ hs,hrun],yc.2 ⟨_,rfl,by simpa using hxs⟩⟩
   | false=>
    simp only [jT] at hc
    obtain ⟨y,hrun,hy⟩:=u5 (P:=P) hcells hc
    exact ⟨y,by simp only [loadVar,Sem.run_bind,qc ha,Result.andThen_ok,Bool.false_eq_true,if_false,hrun],hy⟩
 · cases hc
theorem zBr (hrel:qN ψ (Heap.fam h) w) {t:TypeId} {x:vd} {y:Place} {c:CV} (hx:zNr ψ x y) (hc:x.get P h t=some c):∃ v,(y.get t).run P w=.ok v w∧zG ψ c v:=by
 cases x with
 | val d=>
  obtain ⟨v,rfl,hv⟩:=hx
  injection hc with hc; subst hc
  exact ⟨v,rfl,hv⟩
 | var b off=>
  obtain ⟨p,hp,rfl⟩:=hx
  exact zHd hrel hp hc
theorem zKj {s:FieldStep} {f:Field} (hs:zH5 P s=some f):∃ fs,P.underlying s.struct=some (.struct fs)∧fs[s.index]? = some f∧∃ k,xi P f.type=some (k+1):=by
 unfold zH5 und at hs
 split at hs
 · rename_i fs ht
   rw [nth_eq] at hs
   split at hs
   · rename_i g hg
     split at hs
     · rename_i k hk
       injection hs with hs; subst hs
       exact ⟨fs,ht,by simpa using hg,k,hk⟩
     · cases hs
   · cases hs
 · cases hs
theorem wD (hrel:qN ψ (Heap.fam h) w):∀ (l:List FieldStep) {t xt:TypeId} {x x':vd} {y:Place},zNr ψ x y→wd P h l t x=some (xt,x') →
 ∃ y',(follow l t y).run P w=.ok (xt,y') w∧zNr ψ x' y'
 | [],t,xt,x,x',y,hx,hf=>by
  injection hf with hf; injection hf with h1 h2; subst h1 h2
  exact ⟨y,rfl,hx⟩
 | s::rest,t,xt,x,x',y,hx,hf=>by
  unfold wd at hf
  cases hs:zH5 P s with
  | none=>rw [hs] at hf; cases hf
  | some f=>
   simp only [hs] at hf
   obtain ⟨fs,h1,h2,k,h3⟩:=zKj hs
   split at hf
   · rename_i hd
     split at hf
     · rename_i b off hg
       obtain ⟨v,hv,hr⟩:=zBr hrel hx hg
       rw [zl] at hr
       obtain ⟨p,hp,rfl⟩:=hr
       obtain ⟨y',g1,g2⟩:=wD hrel rest (zJN hp) hf
       refine ⟨y',?_,g2⟩
       rw [← g1]
       simp [follow,run_underlying h1,h2,hd,hv,asAddr,fieldPlace,yQ h3,yk,Nat.add_assoc]
     · cases hf
   · rename_i hd
     split at hf
     · rename_i b off
       obtain ⟨p,hp,rfl⟩:=hx
       obtain ⟨y',g1,g2⟩:=wD hrel rest (zJN hp) hf
       refine ⟨y',?_,g2⟩
       rw [← g1]
       simp [follow,run_underlying h1,h2,hd,fieldPlace,yQ h3,yk,Nat.add_assoc]
     · rename_i cs
       obtain ⟨v,rfl,hv⟩:=hx
       rw [yc] at hv
       obtain ⟨vs,rfl,hv⟩:=hv
       split at hf
       · rename_i a s' ha hs'
         split at hf
         · rename_i c hc
           have hp:=zEc (P:=P) (off:=f.offset) ha hs' hv w
           have:∃ u,(part f.type vs f.offset).run P w=.ok u w∧zG ψ c u:=by
            unfold zMH at hc
            cases a with
            | true=>
             simp only at hc
             cases hl:uS cs f.offset s' with
             | none=>rw [hl] at hc; cases hc
             | some l=>rw [hl] at hc; injection hc with hc; subst hc; exact hp.2 rfl l hl
            | false=>exact hp.1 rfl c hc
           obtain ⟨u,hu,hur⟩:=this
           obtain ⟨y',g1,g2⟩:=wD hrel rest (zD7 hur) hf
           refine ⟨y',?_,g2⟩
           rw [← g1]
           simp [follow,run_underlying h1,h2,hd,hu]
         · cases hf
       · cases hf
     · cases hf
theorem zBc (hrel:qN ψ (Heap.fam h) w) {xt:TypeId} {x:vd} {y:Place} {pr:Bool} {c:CV} (wr:Option String) (hx:zNr ψ x y) (hc:zAf P h xt x pr=some c) :
 ∃ v,(receiverAt xt y pr wr).run P w=.ok v w∧zG ψ c v:=by
 unfold zAf und at hc
 split at hc
 · rename_i e ht
   obtain ⟨v,hv,hr⟩:=zBr hrel hx hc
   exact ⟨v,by simp [receiverAt,run_underlying ht,hv],hr⟩
 · rename_i e ht
   split at hc
   · rename_i b off hg
     obtain ⟨v,hv,hr⟩:=zBr hrel hx hg
     rw [zl] at hr
     obtain ⟨p,hp,rfl⟩:=hr
     obtain ⟨u,hu,hur⟩:=zHd hrel hp hc
     refine ⟨u,?_,hur⟩
     cases wr with
     | none=>simp [receiverAt,run_underlying ht,hv,asAddr,hu]
     | some nm=>
      have hck:(Builtin.ssaWrapNilChk_ #[xt] xt #[.pointer (some ⟨p.blk,p.off+off,none⟩),strVal "",strVal nm]).run P w=.ok (.pointer (some ⟨p.blk,p.off+off,none⟩)) w:=rfl
      simp only [receiverAt,Sem.run_bind,run_underlying ht,Result.andThen_ok,hv,hck,asAddr,Sem.run_pure,hu]
   · cases hc
 · rename_i D hD b off ht
   injection hc with hc; subst hc
   obtain ⟨p,hp,rfl⟩:=hx
   refine ⟨_,?_,zl.2 ⟨p,hp,rfl⟩⟩
   unfold receiverAt
   simp only [Sem.run_bind,run_underlying ht,Result.andThen_ok]
   cases D <;> first | rfl | exact absurd rfl (hD _)
 · cases hc
 · rename_i D hD ht
   obtain ⟨v,hv,hr⟩:=zBr hrel hx hc
   refine ⟨v,?_,hr⟩
   unfold receiverAt
   simp only [Sem.run_bind,run_underlying ht,Result.andThen_ok]
   cases D <;> first | exact hv | exact absurd rfl (hD _) | (exact absurd (Eq.refl _) (hD _))
 · cases hc
end
end Go.Ev
namespace Go.Ev
variable [Sym]
open Go.MapKept
noncomputable section
variable {P:Program} {ψ:Psi} {es:List CV} {tm:Tm} {h:Heap} {n:Key} {ρ:Operand→Value} {E:Env} {ty:TypeId} {w:World}
variable [SymFact P]
theorem zIG (name:String):∀ (l:List Method),vj name l=l.find? (fun m=>m.name == name)
 | []=>rfl
 | m::r=>by
  unfold vj
  rw [List.find?_cons,zIG name r]
  by_cases e:(m.name == name)=true
  · rw [if_pos e,e]
  · rw [if_neg e]
    have:(m.name == name)=false:=by simpa using e
    rw [this]
theorem zEj (hrel:qN ψ (Heap.fam h) w) (name:String):∀ (d fuel:Nat) {t:TypeId} {v:CV} {x:Value} {f:FuncId} {r:CV},d≤fuel→zG ψ v x→zDK P h d t v name=some (f,r) →
 ∃ y,(method fuel t x name).run P w=.ok (f,y) w∧zG ψ r y
 | 0,_,_,_,_,_,_,_,_,hm=>by cases hm
 | d+1,0,_,_,_,_,_,hle,_,_=>by omega
 | d+1,fuel+1,t,v,x,f,r,hle,hv,hm=>by
  unfold zDK at hm
  cases hrow:zHB P t name with
  | none=>rw [hrow] at hm; cases hm
  | some m=>
   simp only [hrow] at hm
   unfold zHB at hrow
   cases hi:P.info? t with
   | none=>rw [hi] at hrow; cases hrow
   | some ti=>
    rw [hi] at hrow
    simp only [Option.bind_some,zIG] at hrow
    have hrow:ti.methods.find? (fun m=>m.name == name)=some m:=by rw [← Array.find?_toList]; exact hrow
    cases hf:wd P h m.path.toList t (.val v) with
    | none=>rw [hf] at hm; cases hm
    | some q=>
     obtain ⟨xt,x'⟩:=q
     simp only [hf] at hm
     obtain ⟨y',g1,g2⟩:=wD hrel _ (zD7 hv) hf
     split at hm
     · rename_i hfn
       split at hm
       · rename_i t' v' hg
         obtain ⟨u,hu,hur⟩:=zBr hrel g2 hg
         rw [yP] at hur
         obtain ⟨u',rfl,hur⟩:=hur
         obtain ⟨y,k1,k2⟩:=zEj hrel name d fuel (by omega) hur hm
         refine ⟨y,?_,k2⟩
         rw [← k1]
         simp [method,typeInfo,hi,hrow,g1,hfn,hu]
       · cases hm
     · rename_i f' pr hfn
       split at hm
       · rename_i r' hrc
         injection hm with hm; injection hm with e1 e2; subst e1 e2
         obtain ⟨y,k1,k2⟩:=zBc hrel (if m.path.isEmpty then some ((name.splitOn ".").getLastD name) else none) g2 hrc
         refine ⟨y,?_,k2⟩
         unfold method
         simp only [Sem.run_bind,qn hi,Result.andThen_ok,hrow,g1,hfn,k1,Sem.run_pure]
       · cases hm
section
variable {o:Op}
def zBK (P:Program) (ψ:Psi) (h:Heap) (n:Key) (w:World) (run:Result Next):OR→Prop
 | .call f args=>qN ψ (Heap.fam h) w→∃ args',run=(callFunc f args').run P w∧zS ψ args args'.toList
 | .err _=>True
 | _=>False
theorem zDj {r:OR} {run:Result Next} (hrun:(execOp ρ (xd o ty)).run P w=run) (hc:zBK P ψ h n w run r):zC P ψ h n ρ o ty w r:=by
 cases r <;> first | exact hc.elim | exact trivial | skip
 case call f args=>
  intro hrel
  obtain ⟨args',h1,h2⟩:=hc hrel
  exact ⟨args',by rw [← h1]; exact hrun,h2⟩
theorem u9 {recv:CV} {x:Value} {args:List CV} {as:Array Value} (name:String) (hx:zG ψ recv x) (has:zS ψ args as.toList) :
 zBK P ψ h n w ((callMethod x name as).run P w) (zGz P h recv name args):=by
 refine xU (C:=zBK P ψ h n w ((callMethod x name as).run P w)) _ _ _ _ trivial (fun _=>trivial) fun t v hv=>?_
 rw [hv,yP] at hx
 obtain ⟨y,rfl,hy⟩:=hx
 split
 · rename_i f r hm
   intro hrel
   obtain ⟨u,h1,h2⟩:=zEj (P:=P) hrel name 8 (P.types.size+Made.depth) (by unfold Made.depth; omega) hy hm
   refine ⟨#[u]++as,?_,?_⟩
   · simp [callMethod,h1]
   · have:(#[u]++as).toList=u::as.toList:=by simp
     rw [this]
     exact zT.2 ⟨h2,has⟩
 · exact trivial
theorem zNe {f:CV} {fv:Value} {args:List CV} {as:Array Value} (hf:zG ψ f fv) (has:zS ψ args as.toList) :
 zBK P ψ h n w ((do let d ← Deferred.ofValue fv as; invoke d.target d.args:Sem Next).run P w) (zPa P h f args):=by
 refine wU (C:=zBK P ψ h n w _) _ _ _ trivial fun fn first captured hv=>?_
 rw [hv,yy] at hf
 obtain ⟨a',c',rfl,h1,h2⟩:=hf
 have hfa:zS ψ (zCs first args) (a'++as).toList:=by rw [wo,Array.toList_append]; exact h1.append has
 split
 · rename_i g
   intro _
   refine ⟨a'++as++c',by simp [Deferred.ofValue,invoke],?_⟩
   rw [wo,wo,Array.append_assoc,Array.toList_append,Array.toList_append]
   exact h1.append (has.append h2)
 · rename_i name
   split
   · rename_i recv rest hl
     rw [hl] at hfa
     obtain ⟨r,rs,e,hr,hrs⟩:=zY.1 hfa
     have e0:(a'++as)[0]? = some r:=by rw [← Array.getElem?_toList,e]; rfl
     have e1:((a'++as).extract 1 (a'++as).size).toList=rs:=by
      rw [Array.toList_extract,e,List.extract_eq_take_drop]
      have:(a'++as).size=rs.length+1:=by rw [← Array.length_toList,e]; rfl
      rw [this]; simp
     have:=u9 (P:=P) (h:=h) (n:=n) (w:=w) name hr (as:=(a'++as).extract 1 (a'++as).size) (by rw [e1]; exact hrs)
     have hrun:(do let d ← Deferred.ofValue (.func (.method name) a' c') as; invoke d.target d.args:Sem Next).run P w=(callMethod r name ((a'++as).extract 1 (a'++as).size)).run P w:=by
      simp only [Deferred.ofValue,Sem.run_bind,Sem.run_pure,Result.andThen_ok,invoke,e0]
     rw [hrun]; exact this
   · exact trivial
 · rename_i t name
   split
   · rename_i recv rest hl
     rw [hl] at hfa
     obtain ⟨r,rs,e,hr,hrs⟩:=zY.1 hfa
     have e0:(a'++as)[0]? = some r:=by rw [← Array.getElem?_toList,e]; rfl
     have e1:((a'++as).extract 1 (a'++as).size).toList=rs:=by
      rw [Array.toList_extract,e,List.extract_eq_take_drop]
      have:(a'++as).size=rs.length+1:=by rw [← Array.length_toList,e]; rfl
      rw [this]; simp
     unfold und
     split
     · rename_i ms ht
       have:=u9 (P:=P) (h:=h) (n:=n) (w:=w) name hr (as:=(a'++as).extract 1 (a'++as).size) (by rw [e1]; exact hrs)
       have hrun:(do let d ← Deferred.ofValue (.func (.methodOf t name) a' c') as; invoke d.target d.args:Sem Next).run P w=(callMethod r name ((a'++as).extract 1 (a'++as).size)).run P w:=by
        simp only [Deferred.ofValue,Sem.run_bind,Sem.run_pure,Result.andThen_ok,invoke,e0,run_underlying ht]
       rw [hrun]; exact this
     · rename_i D hD ht
       have:=u9 (P:=P) (h:=h) (n:=n) (w:=w) name (recv:=.iface t recv) (x:=.iface t r) (yP.2 ⟨r,rfl,hr⟩) (as:=(a'++as).extract 1 (a'++as).size) (by rw [e1]; exact hrs)
       have hrun:(do let d ← Deferred.ofValue (.func (.methodOf t name) a' c') as; invoke d.target d.args:Sem Next).run P w=(callMethod (.iface t r) name ((a'++as).extract 1 (a'++as).size)).run P w:=by
        simp only [Deferred.ofValue,Sem.run_bind,Sem.run_pure,Result.andThen_ok,invoke,e0,run_underlying ht]
       rw [hrun]; exact this
     · exact trivial
   · exact trivial
 · rename_i t path g pr
   split
   · rename_i recv rest hl
     rw [hl] at hfa
     obtain ⟨r,rs,e,hr,hrs⟩:=zY.1 hfa
     have e0:(a'++as)[0]? = some r:=by rw [← Array.getElem?_toList,e]; rfl
     have e1:((a'++as).extract 1 (a'++as).size).toList=rs:=by
      rw [Array.toList_extract,e,List.extract_eq_take_drop]
      have:(a'++as).size=rs.length+1:=by rw [← Array.length_toList,e]; rfl
      rw [this]; simp
     split
     · rename_i xt x hfo
       split
       · rename_i rc hrc
         intro hrel
         obtain ⟨y',g1,g2⟩:=wD hrel _ (zD7 hr) hfo
         obtain ⟨u,k1,k2⟩:=zBc hrel none g2 hrc
         refine ⟨#[u]++(a'++as).extract 1 (a'++as).size,?_,?_⟩
         · simp only [Deferred.ofValue,Sem.run_bind,Sem.run_pure,Result.andThen_ok,invoke,e0,receiverVia,g1,k1]
         · have:(#[u]++(a'++as).extract 1 (a'++as).size).toList=u::rs:=by rw [Array.toList_append,e1]; rfl
           rw [this]
           exact zT.2 ⟨k2,hrs⟩
       · exact trivial
     · exact trivial
   · exact trivial
 · exact trivial
structure zMw (ρ:Operand→Value):Prop where
 const:∀ v,ρ (.const v)=v
 func:∀ f,ρ (.func f)=.func (.func f) #[] #[]
theorem zNs (c:Call) (ha:zq P ψ es tm E ρ c.operands.toList):zC P ψ h n ρ (.defer c) ty w (yD P (zd P E (.defer c)) es tm h n):=by
 rw [zd]
 split
 · rename_i f hcal
   split
   · rename_i f' args hf hargs
     refine wU (C:=zC P ψ h n ρ (.defer c) ty w) _ _ _ (zA _) fun fn first captured hv=>?_
     have hfr:=ha f (by simp [Call.operands,hcal]) f' hf
     have has:=kO _ (ha.sub fun y hy=>by simp [Call.operands]; exact .inr (by simpa using hy)) hargs
     rw [hv,yy] at hfr
     obtain ⟨a',c',hfr,h1,h2⟩:=hfr
     split
     · rename_i g
       refine ⟨{ target:=.fn (.func g) c',args:=a'++c.args.map ρ },.func g,c',a'++c.args.map ρ++c',?_,rfl,fun w=>rfl,?_⟩
       · simp [execOp,resolve,hcal,hfr,Deferred.ofValue]
       · rw [wo,wo,Array.append_assoc,Array.toList_append,Array.toList_append,Array.toList_map]
         exact h1.append (has.append h2)
     · exact zA _
   · exact zA _
 · exact zA _
end
end
end Go.Ev
namespace Go.Ev
variable [Sym]
open Go.MapKept
noncomputable section
variable {P:Program} {ψ:Psi} {es:List CV} {tm:Tm} {h:Heap} {n:Key} {ρ:Operand→Value} {E:Env} {ty:TypeId} {w:World}
variable [SymFact P]
theorem zDI {fn:Func} {nm:String} {e:Array Value→Sem Value} (ho:fn.origin = "") (hn:fn.name=nm)
 (h1:Extern.allNextRows.lookup nm=none) (h2:Extern.allGenericRows.lookup nm=none) (h3:Extern.allTypedRows.lookup nm=none) (h4:Extern.allRows.lookup nm=some e)
 (h5:Extern.allNextRows.lookup "" = none):Extern.findNext fn=none∧Extern.find fn=some e:=by
 constructor
 · unfold Extern.findNext
   simp only [hn,ho,h1,h5]; rfl
 · unfold Extern.find
   simp only [hn,h2,h3,h4]; rfl
theorem zBb:Extern.allNextRows.lookup "" = none:=by kernel_rfl
def zMF (fn:Func):Ext→Option (Array Value→Sem Value)
 | .count=>some Extern.BytealgCount.count
 | .indexByte=>some Extern.BytealgIndexByte.indexByte
 | .cmp=>some Extern.BytealgCompare.compare
 | .mapsClone=>some Extern.MapsClone.clone
 | .overlaps=>some (Extern.SlicesOverlaps.overlaps fn.params fn.resultTypes)
 | _=>none
theorem zFA {fn:Func} {e:Ext} (he:zCa P fn=some e):∃ en,zMF fn e=some en∧(fn.name == "runtime.NumGoroutine")=false∧Extern.findNext fn=none∧Extern.find fn=some en:=by
 unfold zCa at he
 split at he
 · rename_i ho
   have ho:fn.origin = "":=by simpa using ho
   split at he
   · rename_i hn
     have hn:fn.name=zGw "bytealg.CountString":=by simpa using hn
     injection he with he; subst he
     obtain ⟨h1,h2⟩:=zDI (e:=Extern.BytealgCount.count) ho hn (by kernel_rfl) (by kernel_rfl) (by kernel_rfl) (by kernel_rfl) zBb
     exact ⟨_,rfl,by rw [hn]; decide,h1,h2⟩
   · split at he
     · rename_i hn
       have hn:fn.name=zGw "bytealg.IndexByteString":=by simpa using hn
       injection he with he; subst he
       obtain ⟨h1,h2⟩:=zDI (e:=Extern.BytealgIndexByte.indexByte) ho hn (by kernel_rfl) (by kernel_rfl) (by kernel_rfl) (by kernel_rfl) zBb
       exact ⟨_,rfl,by rw [hn]; decide,h1,h2⟩
     · split at he
       · rename_i hn
         have hn:fn.name=zGw "bytealg.abigen_runtime_cmpstring":=by simpa using hn
         injection he with he; subst he
         obtain ⟨h1,h2⟩:=zDI (e:=Extern.BytealgCompare.compare) ho hn (by kernel_rfl) (by kernel_rfl) (by kernel_rfl) (by kernel_rfl) zBb
         exact ⟨_,rfl,by rw [hn]; decide,h1,h2⟩
       · split at he
         · rename_i hn
           have hn:fn.name = "maps.clone":=by simpa using hn
           injection he with he; subst he
           obtain ⟨h1,h2⟩:=zDI (e:=Extern.MapsClone.clone) ho hn (by kernel_rfl) (by kernel_rfl) (by kernel_rfl) (by kernel_rfl) zBb
           exact ⟨_,rfl,by rw [hn]; decide,h1,h2⟩
         · cases he
 · split at he
   · rename_i ho
     injection he with he; subst he
     rw [Bool.and_eq_true] at ho
     obtain ⟨ho,hok⟩:=ho
     have ho:fn.origin = "slices.overlaps":=by simpa using ho
     unfold zAE zJO at hok
     simp only [Bool.and_eq_true,Option.isNone_iff_eq_none] at hok
     obtain ⟨⟨gn,⟨⟨g1,g2⟩,g3⟩,g4⟩,_⟩:=hok
     refine ⟨_,rfl,?_,?_,?_⟩
     · simpa using gn
     · unfold Extern.findNext
       have h1:Extern.allNextRows.lookup "slices.overlaps" = none:=by kernel_rfl
       simp only [ho,g1,h1]; rfl
     · unfold Extern.find
       have h1:Extern.allGenericRows.lookup "slices.overlaps" = none:=by kernel_rfl
       have h2:Extern.allTypedRows.lookup "slices.overlaps" = some Extern.SlicesOverlaps.overlaps:=by kernel_rfl
       simp only [ho,g2,g3,g4,h1,h2]; rfl
   · cases he
theorem zAS {w:World} {params res:Array TypeId} {tS e:TypeId} (hp:params[0]? = some tS) (ht:P.underlying tS=some (.slice e)) {size:Nat} (hz:∀ w,(Go.sizeOf e).run P w=.ok size w)
 (a b:Addr) (la ca lb cb:Nat) (hne:a.block≠b.block) (tA tB:TypeId) (kA kB:Nat)
 (hsa:w.shape? a.block=some (tA,kA)) (hsb:w.shape? b.block=some (tB,kB)) (hkB:kB≠0)
 (hfa:w.frozen? a=false) (hfe:w.frozen? { block:=a.block,off:=kA }=false) :
 (Extern.SlicesOverlaps.overlaps params res #[.slice (some a) la ca,.slice (some b) lb cb]).run P w=.ok (.bool false) w:=by
 have hnb:(a.block != b.block)=true:=by simpa using hne
 have hnb':(a.block == b.block)=false:=by simpa using hne
 change Sem.run P (α:=Value) (do
  let some t:=params[0]? | stuck "slices.overlaps: no parameter types"
  let .slice elem ← underlying t | stuck "slices.overlaps: slice type expected"
  let size ← sizeOf elem
  match (some a:Option Addr),(some b:Option Addr) with
  | some a,some b=>
   if la=0∨lb=0∨size=0 then pure (Value.bool false)
   else if a.block != b.block&&(← frozen a)&&(← frozen b) then unsupported .addressObserved
   else do
    if a.block != b.block then do
     noView a; noView b
     if ← mayBeOne a b then return Value.bool ((← choose (.extern "sameAddr.stringBytes" 2)) == 1)
    pure (Value.bool (a.block == b.block&&a.off<b.off+lb*size&&b.off<a.off+la*size))
  | _,_=>pure (Value.bool false)) w=_
 by_cases h0:la=0∨lb=0∨size=0
 · simp [hp,run_underlying ht,hz,h0]
 · cases kB with
   | zero=>exact absurd rfl hkB
   | succ kB=>
    simp [hp,run_underlying ht,hz,h0,hnb,hnb',frozen,noView,viewAt,mayBeOne,stringish,shape,Sem.run,hsa,hsb,hfa,hfe]
def qH (P:Program) (ψ:Psi) (h:Heap) (n:Key) (w:World) (en:Array Value→Sem Value) (args:Array Value):OR→Prop
 | .val v=>∃ x,(en args).run P w=.ok x w∧zG ψ v x
 | .eff v h' n'=>Rel ψ (Heap.fam h) w→(∀ k,n.ix≤k.ix→k.ix<n'.ix→ψ k=none)→n'.room →
  ∃ w' x ψ',(en args).run P w=.ok x w'∧z7 ψ (Heap.fam h) n w ψ' (Heap.fam h') n' w'∧zG ψ' v x
 | .err _=>True
 | _=>False
theorem zDr {c:CV} {b:Nat} {v:Value} (hb:wh c=some b) (hv:zG ψ c v):v=.int .u8 (Int.ofNat b)∧b≤255:=by
 unfold wh at hb
 split at hb
 · split at hb
   · rename_i hle
     injection hb with hb; subst hb
     exact ⟨zb.1 hv,zJ hle⟩
   · cases hb
 · cases hb
theorem zOE (c:UInt8) (l:List UInt8):zIg c.toNat (l.map UInt8.toNat)=Lib.countByte l c:=by
 unfold Lib.countByte
 induction l with
 | nil=>rfl
 | cons x l ih=>
  show Bool.rec (motive:=fun _=>Nat) (zIg c.toNat (l.map UInt8.toNat)) (Nat.succ (zIg c.toNat (l.map UInt8.toNat))) (Nat.beq x.toNat c.toNat)=_
  rw [ih,List.count_cons]
  by_cases e:x=c
  · subst e; simp
  · rw [wA (fun h=>e (UInt8.toNat_inj.1 h))]; simp [e]
theorem zJU (c:UInt8):∀ (l:List UInt8) (i:Nat),(match zCE c.toNat (l.map UInt8.toNat) i with
 | some j=>(j:Int)
 | none=>-1)=(if Lib.indexByte l c = -1 then -1 else (i:Int)+Lib.indexByte l c) ∧ -1≤Lib.indexByte l c
 | [],i=>by simp [zCE,Lib.indexByte]
 | x::l,i=>by
  obtain ⟨h1,h2⟩:=zJU c l (i+1)
  rw [List.map_cons]
  unfold zCE Lib.indexByte
  by_cases e:x=c
  · subst e; simp
  · rw [wA (fun h=>e (UInt8.toNat_inj.1 h))]
    have e':(x == c)=false:=by simpa using e
    simp only [e']
    rw [h1]
    simp
    constructor
    · split <;> (try split) <;> omega
    · split <;> omega
theorem zE1:∀ (a b:List UInt8),Lib.compareBytes a b=if a=b then 0 else if Op.bytesLess a b then -1 else 1
 | [],[]=>by simp [Lib.compareBytes]
 | [],_::_=>by simp [Lib.compareBytes,Op.bytesLess]
 | _::_,[]=>by simp [Lib.compareBytes,Op.bytesLess]
 | x::a,y::b=>by
  unfold Lib.compareBytes Op.bytesLess
  rw [zE1 a b]
  by_cases h1:x<y
  · have:x≠y:=fun e=>by subst e; exact absurd h1 (UInt8.lt_irrefl x)
    simp [h1,this]
  · by_cases h2:y<x
    · have:x≠y:=fun e=>by subst e; exact absurd h2 (UInt8.lt_irrefl x)
      simp [h1,h2,this]
    · have:x=y:=by
       apply UInt8.toNat_inj.1
       rw [UInt8.lt_iff_toNat_lt] at h1 h2
       omega
      subst this
      simp [h1]
theorem zL7 {fn:Func} {e:Ext} {en:Array Value→Sem Value} (hex:zCa P fn=some e) (he:zMF fn e=some en) {args:List CV} {as:Array Value} (has:zS ψ args as.toList) :
 qH P ψ h n w en as (zBH e args h n):=by
 unfold zBH
 split
 · -- count
   rename_i a b
   injection he with he; subst he
   obtain ⟨x,r,e1,hx,hr⟩:=zY.1 has
   obtain ⟨y,r',e2,hy,hr'⟩:=zY.1 hr
   rw [zM] at hr'
   subst e2 hr'
   have:=zAP e1
   subst this
   refine yA (C:=qH P ψ h n w _ _) _ _ _ trivial fun s hs=>?_
   rw [hs,ze] at hx
   obtain ⟨bs,rfl,rfl⟩:=hx
   refine vW (C:=qH P ψ h n w _ _) _ _ _ trivial fun c hc=>?_
   obtain ⟨rfl,hle⟩:=zDr hc hy
   refine ⟨_,Lib.run_countString bs _ w,?_⟩
   have:((Int.ofNat c).toNat.toUInt8).toNat=c:=by simp; omega
   have h2:=zOE ((Int.ofNat c).toNat.toUInt8) bs.data.toList
   rw [this] at h2
   rw [← h2]
   exact xe _
 · -- index
   rename_i a b
   injection he with he; subst he
   obtain ⟨x,r,e1,hx,hr⟩:=zY.1 has
   obtain ⟨y,r',e2,hy,hr'⟩:=zY.1 hr
   rw [zM] at hr'
   subst e2 hr'
   have:=zAP e1
   subst this
   refine yA (C:=qH P ψ h n w _ _) _ _ _ trivial fun s hs=>?_
   rw [hs,ze] at hx
   obtain ⟨bs,rfl,rfl⟩:=hx
   refine vW (C:=qH P ψ h n w _ _) _ _ _ trivial fun c hc=>?_
   obtain ⟨rfl,hle⟩:=zDr hc hy
   have hrun:=Lib.run_indexByteString (P:=P) bs (Int.ofNat c) w
   have:((Int.ofNat c).toNat.toUInt8).toNat=c:=by simp; omega
   obtain ⟨h2,h3⟩:=zJU ((Int.ofNat c).toNat.toUInt8) bs.data.toList 0
   rw [this] at h2
   have h4:(match zCE c (zk bs) 0 with
    | some j=>(j:Int)
    | none=>-1)=Lib.indexByte bs.data.toList (Int.ofNat c).toNat.toUInt8:=by
    refine h2.trans ?_
    split <;> omega
   rw [← h4] at hrun
   split
   · rename_i i hi
     simp only [hi] at hrun
     exact ⟨_,hrun,xe _⟩
   · rename_i hi
     simp only [hi] at hrun
     exact ⟨_,hrun,zb.2 rfl⟩
 · -- compare
   rename_i a b
   injection he with he; subst he
   obtain ⟨x,r,e1,hx,hr⟩:=zY.1 has
   obtain ⟨y,r',e2,hy,hr'⟩:=zY.1 hr
   rw [zM] at hr'
   subst e2 hr'
   have:=zAP e1
   subst this
   refine yA (C:=qH P ψ h n w _ _) _ _ _ trivial fun s hs=>?_
   rw [hs,ze] at hx
   obtain ⟨bs,rfl,rfl⟩:=hx
   refine yA (C:=qH P ψ h n w _ _) _ _ _ trivial fun s hs=>?_
   rw [hs,ze] at hy
   obtain ⟨cs,rfl,rfl⟩:=hy
   have hrun:=Lib.run_compareString (P:=P) bs cs w
   rw [zE1] at hrun
   rw [jA,jA,qD,kQ,ByteArray.toList_eq,ByteArray.toList_eq]
   by_cases e:bs.data.toList=cs.data.toList
   · rw [if_pos e] at hrun
     rw [if_pos (by simpa using e)]
     exact ⟨_,hrun,zW.2 rfl⟩
   · rw [if_neg e] at hrun
     rw [if_neg (by simpa using e)]
     by_cases hl:Op.bytesLess bs.data.toList cs.data.toList=true
     · rw [if_pos hl] at hrun
       rw [if_pos hl]
       exact ⟨_,hrun,zb.2 rfl⟩
     · rw [if_neg hl] at hrun
       rw [if_neg hl]
       exact ⟨_,hrun,zW.2 rfl⟩
 · -- overlaps
   rename_i a b
   injection he with he; subst he
   obtain ⟨x,r,e1,hx,hr⟩:=zY.1 has
   obtain ⟨y,r',e2,hy,hr'⟩:=zY.1 hr
   rw [zM] at hr'
   subst e2 hr'
   have:=zAP e1
   subst this
   refine yE (C:=qH P ψ h n w _ _) _ _ _ _ trivial (fun _=>trivial) fun k o l c s ex hk=>?_
   refine yE (C:=qH P ψ h n w _ _) _ _ _ _ trivial (fun _=>trivial) fun j o' m c' s' ex' hj=>?_
   refine zE (C:=qH P ψ h n w _ _) _ _ _ trivial fun hjk=>?_
   refine wX (C:=qH P ψ h n w _ _) _ _ _ trivial fun u vs hvs=>?_
   refine zE (C:=qH P ψ h n w _ _) _ _ _ trivial fun hu=>?_
   refine yL (C:=qH P ψ h n w _ _) _ _ _ trivial fun vs' hvs'=>?_
   refine zE (C:=qH P ψ h n w _ _) _ _ _ trivial fun hl=>?_
   have hjk:j≠k:=by simpa using hjk
   subst hu
   intro hrel _ _
   rw [hk,zz] at hx
   rw [hj,zz] at hy
   obtain ⟨p,x1,cap1,hp,rfl,_⟩:=hx
   obtain ⟨q,x2,cap2,hq,rfl,_⟩:=hy
   have hne:p.blk≠q.blk:=fun e=>hjk (hrel.inj k j _ _ p q hvs hvs' hp hq (.inl rfl) e).symm
   obtain ⟨arr,el,fz,c1,c2,c3,c4,_⟩:qx ψ w p true vs:=hrel.on k _ p hvs hp
   obtain ⟨arr',el',fz',d1,d2,d3,_⟩:yN ψ w q vs':=hrel.on j _ q hvs' hq
   have hl:1≤vM vs':=zJ hl
   have hll:=wI vs'
   have hfz:fz.1=fz.2:=by
    rcases c4 with h | h
    · exact h
    · cases h.1
   have hfr:∀ i,w.frozen? ⟨p.blk,i,none⟩=false:=by
    intro i
    unfold World.frozen?
    rw [c1]
    simp
    omega
   obtain ⟨tS,e,hp0,ht,sz,hsz⟩:∃ tS e,fn.params[0]? = some tS∧P.underlying tS=some (.slice e)∧∃ sz,xi P e=some sz:=by
    unfold zCa at hex
    split at hex
    · split at hex
      · cases hex
      · split at hex
        · cases hex
        · split at hex
          · cases hex
          · split at hex <;> cases hex
    · split at hex
      · rename_i ho
        rw [Bool.and_eq_true] at ho
        have hok:=ho.2
        unfold zAE und at hok
        rw [Bool.and_eq_true] at hok
        have hok:=hok.2
        split at hok
        · rename_i t _ hpl
          split at hok
          · rename_i e ht
            obtain ⟨sz,hsz⟩:=Option.isSome_iff_exists.1 hok
            refine ⟨t,e,?_,ht,sz,hsz⟩
            have:=congrArg (·[0]?) hpl
            simpa using this
          · cases hok
        · cases hok
      · cases hex
   refine ⟨w,.bool false,ψ,?_,z7.refl hrel,zH.2 rfl⟩
   exact zAS hp0 ht (fun w=>yQ hsz w) ⟨p.blk,x1,none⟩ ⟨q.blk,x2,none⟩ _ _ _ _ hne el el' arr.size arr'.size (by unfold World.shape?; rw [c1]) (by unfold World.shape?; rw [d1])
    (by omega) (hfr _) (hfr _)
 · -- clone
   rename_i a
   injection he with he; subst he
   obtain ⟨x,r,e1,hx,hr⟩:=zY.1 has
   rw [zM] at hr
   subst hr
   have:=zAP e1
   subst this
   refine xU (C:=qH P ψ h n w _ _) _ _ _ _ trivial (fun _=>trivial) fun t v hv=>?_
   rw [hv,yP] at hx
   obtain ⟨y,rfl,hy⟩:=hx
   refine yt (C:=qH P ψ h n w _ _) _ _ _ _ trivial (fun _=>trivial) fun b hb=>?_
   rw [hb,yY] at hy
   obtain ⟨p,hp,rfl⟩:=hy
   refine yI (C:=qH P ψ h n w _ _) _ _ _ trivial fun cs clock hl=>?_
   intro hrel hnew hroom
   obtain ⟨arr,h1,h2,hcp⟩:=hrel.on b _ p hl hp
   have hr:=Key.room_of_succ hroom
   have hix:=Key.ix_succ hr
   have hnone:ψ n=none:=hnew n (Nat.le_refl _) (by omega)
   have hw:=qk w (.map arr (p.ck clock))
   have hpost:=wB (n:=n) (sz:=0) (ck:=p.ck) (o:=.map cs clock) hrel hr hnone hw ⟨arr,by simp,h2.mono (Psi.le_upd _ hnone),hcp⟩
   refine ⟨_,.iface t (.map (some w.heap.size)),_,?_,by rw [zy]; exact hpost,yP.2 ⟨_,rfl,yY.2 ⟨_,Psi.upd_same _ _ _,rfl⟩⟩⟩
   have hget:=run_getObj_map (P:=P) h1
   rw [show Extern.MapsClone.clone #[Value.iface t (.map (some p.blk))]=(getObj p.blk >>= _) from rfl,Sem.run_bind,hget]
   simp
 · exact trivial
section
variable {o:Op}
theorem zQN {c:Call} {f:FuncId} {fn:Func} {e:Ext} {args:List zP} (hcal:c.callee=.value (.func f)) (hρ:zMw ρ) (hfn:P.funcs[f]? = some fn) (hb:fn.body.isNone=true)
 (he:zCa P fn=some e) (hargs:qM P E c.args.toList=some args) (ha:zq P ψ es tm E ρ c.args.toList):zC P ψ h n ρ (.call c) ty w (zBH e (aVs es tm args) h n):=by
 obtain ⟨en,h1,h2,h3,h4⟩:=zFA he
 have has:=kO _ ha hargs
 rw [← Array.toList_map] at has
 have hout:=zL7 (P:=P) (h:=h) (n:=n) (w:=w) he h1 has
 have hrun:∀ {x:Value} {w':World},(en (c.args.map ρ)).run P w=.ok x w'→(execOp ρ (xd (.call c) ty)).run P w=.ok (.value x) w':=by
  intro x w' hx
  have:=run_callFunc_extern (P:=P) hfn h2 hb h3 h4 (c.args.map ρ) w
  rw [hx] at this
  simp only [execOp,resolve,hcal,Sem.run_bind,hρ.func,Deferred.ofValue,Sem.run_pure,Result.andThen_ok,invoke]
  have e0:(#[]++c.args.map ρ ++ #[]:Array Value)=c.args.map ρ:=by simp
  rw [e0,this]; rfl
 generalize zBH e (aVs es tm args) h n=r at hout
 cases r <;> first | exact hout.elim | exact trivial | skip
 case val v=>
  obtain ⟨x,h5,h6⟩:=hout
  exact ⟨x,zL (hrun h5),h6⟩
 case eff v h' n'=>
  intro g1 g2 g3
  obtain ⟨w',x,ψ',h5,h6,h7⟩:=hout g1 g2 g3
  exact ⟨w',x,ψ',zL (hrun h5),h6,h7⟩
theorem zPq (hρ:zMw ρ) (c:Call) (ha:zq P ψ es tm E ρ c.operands.toList):zC P ψ h n ρ (.call c) ty w (yD P (zd P E (.call c)) es tm h n):=by
 have hargsok:zq P ψ es tm E ρ c.args.toList:=ha.sub fun y hy=>by simp [Call.operands]; exact .inr (by simpa using hy)
 rw [show zd P E (.call c)=zFh P E c from rfl]
 unfold zFh
 split
 · rename_i b hc
   exact zJe c b hc hargsok
 · rename_i r name hc
   split
   · rename_i r' args hr hargs
     have hx:=ha r (by simp [Call.operands,hc]) r' hr
     have has:=kO _ hargsok hargs
     rw [← Array.toList_map] at has
     refine zDj ?_ (u9 (P:=P) (h:=h) (n:=n) (w:=w) name hx has)
     simp only [execOp,resolve,hc,Sem.run_bind,Sem.run_pure,Result.andThen_ok,invoke]
     have e0:(#[ρ r]++c.args.map ρ)[0]? = some (ρ r):=by rw [← Array.getElem?_toList,Array.toList_append]; rfl
     have e1:(#[ρ r]++c.args.map ρ).extract 1 (#[ρ r]++c.args.map ρ).size=c.args.map ρ:=by
      apply Array.ext'
      rw [Array.toList_extract,Array.toList_append,List.extract_eq_take_drop]
      show ((c.args.map ρ).toList).take _=_
      exact List.take_of_length_le (by simp)
     rw [e0]
     simp only
     rw [e1]
   · exact zA _
 · rename_i f hc
   split
   · exact zA _
   · rename_i args hargs
     have has:=kO _ hargsok hargs
     rw [← Array.toList_map] at has
     split
     · rename_i g
       rw [nth_eq]
       split
       · exact zA _
       · rename_i fn hfn
         have hfn:P.funcs[g]? = some fn:=by simpa using hfn
         split
         · intro _
           refine ⟨c.args.map ρ,?_,has⟩
           simp only [execOp,resolve,hc,Sem.run_bind,hρ.func,Deferred.ofValue,Sem.run_pure,Result.andThen_ok,invoke]
           simp
         · rename_i hb
           split
           · rename_i e he
             exact zQN hc hρ hfn (by cases hbb:fn.body <;> simp_all) he hargs hargsok
           · exact zA _
     · split
       · rename_i f' hf
         have hx:=ha f (by simp [Call.operands,hc]) f' hf
         refine zDj ?_ (zNe (P:=P) (h:=h) (n:=n) (w:=w) hx has)
         simp only [execOp,resolve,hc]
       · exact zA _
theorem zKn (hρ:zMw ρ) (o:Op) (ha:zq P ψ es tm E ρ o.operands.toList):zC P ψ h n ρ o ty w (yD P (zd P E o) es tm h n):=by
 cases o <;> try exact zA _
 case move=>exact zO2 _ ha
 case assign=>exact zLg _ ha
 case pick=>exact zOl _ _ _ ha
 case alloc=>exact zMS _
 case box=>exact zQQ _ _ ha
 case build=>exact zMW _ _ ha
 case buildSlice=>exact zFG _ _ _ ha
 case load=>exact zPk _ _ ha
 case store=>exact zNo _ _ _ ha
 case nilCheck=>exact zNA _ ha
 case binOp=>exact zNG _ _ _ _ _ ha
 case unOp=>exact zPP _ _ _ ha
 case convert=>exact zIp _ _ _ ha
 case makeInterface=>exact zBo _ _ ha
 case makeFunc=>exact zHR _ _ _ (ha.sub fun y hy=>by simp [Op.operands] at hy ⊢; exact hy)
 case makeMap=>exact zIL _ _ hρ.const
 case makeSlice=>exact zFN _ _ _ ha
 case slice=>exact zM5 _ _ _ _ _ (ha.sub fun y hy=>by simp [Op.operands] at hy ⊢; exact hy)
 case fieldAddr=>exact zFT _ _ _ ha
 case field=>exact zMM _ _ _ ha
 case indexAddr=>exact zFP _ _ _ ha
 case index=>exact zNc _ _ _ ha
 case lookup=>exact zKc _ _ _ _ ha
 case mapUpdate=>exact zFL _ _ _ _ ha
 case insert=>exact zKi _ _ _ _ ha
 case range=>exact zNH _ _ ha
 case next=>exact zO1 _ _ ha
 case entry=>exact zNd _ ha
 case typeAssert=>exact zEO _ _ _ _ ha
 case extract=>exact zIv _ _ ha
 case call=>exact zPq hρ _ ha
 case defer=>exact zNs _ ha
end
end
end Go.Ev
namespace Go.Ev
variable [Sym]
noncomputable section
variable {P:Program} {es:List CV} {tm:Tm} {h:Heap} {n:Key}
variable [SymFact P]
def zD (n:Key):OR→Prop
 | .eff _ _ n'=>n.ix≤n'.ix
 | .fork a b=>zD n a∧zD n b
 | _=>True
theorem zLT {x:CV} (s:Nat) (nf:Nat→Nat) (k:Nat→List CV→OR) (e:Nat) (hk:∀ m l,zD n (k m l)):zD n (zKT h s x k nf e):=by
 unfold zKT
 split
 · refine zE (C:=zD n) _ _ _ trivial fun _=>?_
   exact yG (C:=zD n) _ _ _ trivial fun _ _=>hk _ _
 · refine zE (C:=zD n) _ _ _ trivial fun _=>?_
   exact yG (C:=zD n) _ _ _ trivial fun _ _=>hk _ _
 · exact zE (C:=zD n) _ _ _ trivial fun _=>hk _ _
 · refine yE (C:=zD n) _ _ _ _ trivial (fun _=>hk _ _) fun _ _ _ _ _ _ _=>?_
   refine yo (C:=zD n) _ _ _ trivial fun _ _=>?_
   exact yG (C:=zD n) _ _ _ trivial fun _ _=>hk _ _
theorem vf (v:Option CV) (e:Nat):zD n (zDs v e):=by cases v <;> trivial
theorem zGf (k:IntKind):∀ (m:Nat),zD n (zK3 k m)
 | 0=>trivial
 | m+1=>⟨zGf k m,trivial⟩
theorem zGR (k:IntKind):∀ (m:Nat),zD n (zKk k m)
 | 0=>trivial
 | m+1=>⟨zGR k m,trivial,trivial⟩
theorem yX (op:BinOp) (j k:IntKind):zD n (qp op j k):=by
 refine zE (C:=zD n) _ _ _ trivial fun _=>?_
 cases op <;> first | trivial | exact ⟨trivial,trivial⟩
theorem zNU (op:BinOp) (k:IntKind) (b:Int):zD n (zFt op k b):=by
 cases op
 case add=>exact yX .add k k
 case sub=>exact yX .sub k k
 case mul=>exact yX .mul k k
 case or=>exact yX .or k k
 case xor=>exact yX .xor k k
 case andNot=>exact yX .andNot k k
 case eql=>exact yX .eql k k
 case neq=>exact yX .neq k k
 case lss=>exact yX .lss k k
 case leq=>exact yX .leq k k
 case gtr=>exact yX .gtr k k
 case geq=>exact yX .geq k k
 case quo=>cases b with
  | ofNat m=>cases m <;> trivial
  | negSucc m=>trivial
 case rem=>cases b with
  | ofNat m=>cases m with
   | zero=>trivial
   | succ m=>
    refine zE (C:=zD n) _ _ _ trivial fun _=>?_
    split
    · exact zGR k m
    · trivial
  | negSucc m=>trivial
 case and=>cases b with
  | ofNat m=>
   refine zE (C:=zD n) _ _ _ trivial fun _=>?_
   exact zGf k m
  | negSucc m=>trivial
 case shl=>cases b <;> trivial
 case shr=>cases b <;> trivial
theorem zNM (op:BinOp) (x y:CV):zD n (zKl op x y):=by
 have right:∀ (k j:IntKind) (b:Int),zD n (yU (kEq k j || yn op) (zFt op k b) 118):=fun k j b=>zE (C:=zD n) _ _ _ trivial fun _=>zNU _ _ _
 refine zG0 (C:=zD n) _ _ _ _ _ trivial (fun a _=>?_) (fun k a _=>?_) (fun k _=>?_) (fun s _=>?_)
 · refine jp (C:=zD n) _ _ _ _ trivial (fun _ _=>?_) (fun _ _ _=>?_) (fun _ _=>yX _ _ _)
   · exact zE (C:=zD n) _ _ _ trivial fun _=>vf _ _
   · exact zE (C:=zD n) _ _ _ trivial fun _=>vf _ _
 · refine jp (C:=zD n) _ _ _ _ trivial (fun _ _=>?_) (fun _ _ _=>?_) (fun _ _=>yX _ _ _)
   · exact zE (C:=zD n) _ _ _ trivial fun _=>vf _ _
   · exact zE (C:=zD n) _ _ _ trivial fun _=>vf _ _
 · exact jp (C:=zD n) _ _ _ _ trivial (fun _ _=>right _ _ _) (fun _ _ _=>right _ _ _) (fun _ _=>yX _ _ _)
 · exact yA (C:=zD n) _ _ _ trivial fun _ _=>vf _ _
theorem zMm (o:Option (List CV)) (e:Nat):zD n (zQ8 o e):=by
 have:∀ (l:List CV) (c:CV),zD n (forkL c l):=by
  intro l
  induction l with
  | nil=>intro c; trivial
  | cons d l ih=>intro c; exact ⟨trivial,ih d⟩
 cases o with
 | none=>trivial
 | some l=>cases l with
  | nil=>trivial
  | cons c l=>exact this l c
theorem zNz (op:BinOp) (x y:CV):zD n (j0 op x y):=by
 unfold j0
 split
 · unfold zPw
   split <;> first | trivial | (rw [jA]; split <;> first | trivial | exact ⟨trivial,trivial⟩)
 · split
   · exact zMm _ _
   · exact zNM _ _ _
theorem zCI (c:Option zP) (y d:Nat) (k:Nat→OR) (e:Nat) (hk:∀ i,zD n (k i)):zD n (zAT es tm c y d k e):=by
 cases c with
 | none=>exact hk _
 | some c=>
  refine yJ (C:=zD n) _ _ _ trivial fun _ _=>?_
  exact zE (C:=zD n) _ _ _ trivial fun _=>hk _
theorem qu (len cap:Nat) (lo hi mx:Option zP) (k:Nat→Nat→Nat→OR) (e:Nat) (hk:∀ i j l,zD n (k i j l)):zD n (qd es tm len cap lo hi mx k e):=
 zCI _ _ _ _ _ fun _=>zCI _ _ _ _ _ fun _=>zCI _ _ _ _ _ fun _=>hk _ _ _
theorem zA8 (b:Key) (off esz:Nat) (ex:Bool) (i j l:Nat):zD n (zL8 b off esz ex i j l):=by
 refine zE (C:=zD n) _ _ _ trivial fun _=>?_
 rw [zm,zm,zm]; trivial
theorem zJl (a:Bool) (s:Nat) (cs:List CV) (off e:Nat):zD n (zQh a s cs off e):=by
 cases a with
 | true=>exact kz (C:=zD n) _ _ trivial fun _ _=>trivial
 | false=>exact qa (C:=zD n) _ _ trivial fun _ _=>trivial
theorem zHJ (ok:Bool) (z:Option CV):zD n (noV ok z):=by unfold noV; split <;> trivial
theorem zBe (r:CV) (name:String) (args:List CV):zD n (zGz P h r name args):=by
 refine xU (C:=zD n) _ _ _ _ trivial (fun _=>trivial) fun _ _ _=>?_
 split <;> trivial
theorem zN7 (f:CV) (args:List CV):zD n (zPa P h f args):=by
 refine wU (C:=zD n) _ _ _ trivial fun fn a c _=>?_
 split
 · trivial
 · split
   · exact zBe _ _ _
   · trivial
 · split
   · split
     · exact zBe _ _ _
     · exact zBe _ _ _
     · trivial
   · trivial
 · split
   · split
     · split <;> trivial
     · trivial
   · trivial
 · trivial
theorem zDZ {f:CE→OR} (hf:∀ c,zD n (f c)):∀ (l:List CE) (e:CE),zD n (zDz f e l)
 | [],e=>hf e
 | e'::l,e=>⟨hf e,zDZ hf l e'⟩
theorem zKg (e:Ext) (args:List CV):zD n (zBH e args h n):=by
 unfold zBH
 split
 · refine yA (C:=zD n) _ _ _ trivial fun _ _=>?_
   exact vW (C:=zD n) _ _ _ trivial fun _ _=>trivial
 · refine yA (C:=zD n) _ _ _ trivial fun _ _=>?_
   refine vW (C:=zD n) _ _ _ trivial fun _ _=>?_
   split <;> trivial
 · refine yA (C:=zD n) _ _ _ trivial fun _ _=>?_
   refine yA (C:=zD n) _ _ _ trivial fun _ _=>?_
   rw [jA,jA]
   split
   · trivial
   · split <;> trivial
 · refine yE (C:=zD n) _ _ _ _ trivial (fun _=>trivial) fun _ _ _ _ _ _ _=>?_
   refine yE (C:=zD n) _ _ _ _ trivial (fun _=>trivial) fun _ _ _ _ _ _ _=>?_
   refine zE (C:=zD n) _ _ _ trivial fun _=>?_
   refine wX (C:=zD n) _ _ _ trivial fun _ _ _=>?_
   refine zE (C:=zD n) _ _ _ trivial fun _=>?_
   refine yL (C:=zD n) _ _ _ trivial fun _ _=>?_
   exact zE (C:=zD n) _ _ _ trivial fun _=>Nat.le_refl _
 · refine xU (C:=zD n) _ _ _ _ trivial (fun _=>trivial) fun _ _ _=>?_
   refine yt (C:=zD n) _ _ _ _ trivial (fun _=>trivial) fun _ _=>?_
   exact yI (C:=zD n) _ _ _ trivial fun _ _ _=>Key.ix_le_succ n
 · trivial
theorem zJt (esz k:Nat) (xs:List CV) (sv:CV):zD n (zF9 esz k xs sv h n):=by
 unfold zF9
 refine yE (C:=zD n) _ _ _ _ trivial (fun _=>?_) fun _ _ _ _ _ _ _=>?_
 · cases k with
   | zero=>exact Nat.le_refl _
   | succ k=>
    refine zE (C:=zD n) _ _ _ trivial fun _=>?_
    rw [zm]; exact Key.ix_le_succ n
 · refine zE (C:=zD n) _ _ _ trivial fun _=>?_
   refine wX (C:=zD n) _ _ _ ?_ fun _ _ _=>?_
   rotate_left
   · rw [zm]
     refine zE (C:=zD n) _ _ _ trivial fun _=>?_
     exact yG (C:=zD n) _ _ _ trivial fun _ _=>Key.ix_le_succ n
   refine yL (C:=zD n) _ _ _ trivial fun _ _=>?_
   rw [zm,jA]
   split
   · exact yG (C:=zD n) _ _ _ trivial fun _ _=>Nat.le_refl _
   · refine zE (C:=zD n) _ _ _ trivial fun _=>?_
     exact yG (C:=zD n) _ _ _ trivial fun _ _=>Key.ix_le_succ n
theorem wY (op:COp):zD n (yD P op es tm h n):=by
 cases op
 case mv=>trivial
 case pick=>
  refine wt (C:=zD n) _ _ _ trivial fun b _=>?_
  cases b <;> trivial
 case alloc=>trivial
 case box=>exact yG (C:=zD n) _ _ _ trivial fun _ _=>trivial
 case build=>exact kz (C:=zD n) _ _ trivial fun _ _=>trivial
 case bslice=>exact yG (C:=zD n) _ _ _ trivial fun _ _=>trivial
 case load1=>
  refine u6 (C:=zD n) _ _ _ ?_ fun _ _ _=>?_
  · unfold zR0
    split
    · refine yo (C:=zD n) _ _ _ trivial fun _ _=>?_
      exact vZ (C:=zD n) _ _ trivial fun _ _=>trivial
    · trivial
  refine yo (C:=zD n) _ _ _ trivial fun _ _=>?_
  exact vZ (C:=zD n) _ _ trivial fun _ _=>trivial
 case loadN=>
  refine yv (C:=zD n) _ _ _ trivial fun _ _ _=>?_
  refine yo (C:=zD n) _ _ _ trivial fun _ _=>?_
  exact zDW (C:=zD n) _ _ trivial fun _ _=>trivial
 case store=>
  refine yv (C:=zD n) _ _ _ trivial fun _ _ _=>?_
  refine yL (C:=zD n) _ _ _ trivial fun _ _=>?_
  refine yG (C:=zD n) _ _ _ trivial fun _ _=>?_
  refine zE (C:=zD n) _ _ _ trivial fun _=>?_
  exact yG (C:=zD n) _ _ _ trivial fun _ _=>Nat.le_refl _
 case nilck x=>
  refine u6 (C:=zD n) _ _ _ ?_ fun _ _ _=>trivial
  show zD n (zE0 (aV es tm x))
  unfold zE0
  split <;> trivial
 case arith op x y=>
  show zD n (zNS (aV es tm x) (fun a=>zNS (aV es tm y) (fun b=>zK1 op a b (aV es tm x) (aV es tm y)) (j0 op (aV es tm x) (aV es tm y))) (j0 op (aV es tm x) (aV es tm y)))
  have hg:=zNz (n:=n) op (aV es tm x) (aV es tm y)
  cases hx:aV es tm x <;> try (rw [hx] at hg; exact hg)
  case nat a=>
   rw [hx] at hg
   cases hy:aV es tm y <;> try (rw [hy] at hg; exact hg)
   case nat b=>
    rw [hy] at hg
    show zD n (Option.rec (motive:=fun _=>BinOp→CV→CV→OR) (fun op x y=>j0 op x y) (fun v _ _ _=>.val v) (zGh op a b) op (.nat a) (.nat b))
    cases zGh op a b with
    | none=>exact hg
    | some v=>trivial
 case eq neg k cst x y=>
  show zD n (match eqC k cst (aV es tm x) (aV es tm y) with
   | some b=>.val (.bool (xor neg b))
   | none=>.err 123)
  split <;> trivial
 case un op x=>
  cases op with
  | neg=>exact vq (C:=zD n) _ _ _ trivial (fun _ _=>trivial) fun _ _ _=>trivial
  | xor=>exact vq (C:=zD n) _ _ _ trivial (fun _ _=>trivial) fun _ _ _=>trivial
  | not=>exact wt (C:=zD n) _ _ _ trivial fun _ _=>trivial
  | plus=>trivial
 case cvInt k x=>
  show zD n (zFv k (aV es tm x))
  unfold zFv
  split
  · exact zMm _ _
  · exact jp (C:=zD n) _ _ _ _ trivial (fun _ _=>trivial) (fun _ _ _=>trivial) fun _ _=>trivial
 case cvStr=>exact yA (C:=zD n) _ _ _ trivial fun _ _=>trivial
 case cvSB=>
  refine xc (C:=zD n) _ _ _ ?_ fun _ _=>by rw [zm]; trivial
  refine yA (C:=zD n) _ _ _ trivial fun _ _=>?_
  rw [zm]; trivial
 case cvMark=>
  refine yE (C:=zD n) _ _ _ _ trivial (fun _=>trivial) fun _ _ _ _ _ _ _=>?_
  exact yL (C:=zD n) _ _ _ trivial fun _ _=>Nat.le_refl _
 case cvBS=>
  refine qI (C:=zD n) _ _ _ ?_ fun _ _ _ _ _=>zE (C:=zD n) _ _ _ trivial fun _=>trivial
  refine yE (C:=zD n) _ _ _ _ trivial (fun _=>trivial) fun _ _ _ _ _ _ _=>?_
  refine yo (C:=zD n) _ _ _ trivial fun _ _=>?_
  refine yG (C:=zD n) _ _ _ trivial fun _ _=>?_
  unfold zKh
  split
  · trivial
  · split <;> trivial
 case iface=>trivial
 case mkfn=>trivial
 case mkmap=>trivial
 case mkslice=>
  refine yJ (C:=zD n) _ _ _ trivial fun _ _=>?_
  refine yJ (C:=zD n) _ _ _ trivial fun _ _=>?_
  refine zE (C:=zD n) _ _ _ trivial fun _=>?_
  rw [zm,zm]; trivial
 case slArr=>exact yv (C:=zD n) _ _ _ trivial fun _ _ _=>qu _ _ _ _ _ _ _ fun _ _ _=>zA8 _ _ _ _ _ _ _
 case slSl=>
  refine qI (C:=zD n) _ _ _ ?_ fun _ _ _ _ _=>by
   unfold zF6
   split
   · split
     · split
       · rw [zm]; trivial
       · trivial
     · trivial
   · trivial
  refine yE (C:=zD n) _ _ _ _ trivial (fun _=>qu _ _ _ _ _ _ _ fun _ _ _=>trivial) fun _ _ _ _ _ _ _=>?_
  refine zE (C:=zD n) _ _ _ trivial fun _=>?_
  unfold zAk
  split
  · split
    · split
      · refine yL (C:=zD n) _ _ _ trivial fun _ _=>?_
        refine zE (C:=zD n) _ _ _ trivial fun _=>?_
        rw [zm]; trivial
      · exact qu _ _ _ _ _ _ _ fun _ _ _=>zA8 _ _ _ _ _ _ _
    · exact qu _ _ _ _ _ _ _ fun _ _ _=>zA8 _ _ _ _ _ _ _
  · exact qu _ _ _ _ _ _ _ fun _ _ _=>zA8 _ _ _ _ _ _ _
 case slStr=>
  refine xc (C:=zD n) _ _ _ ?_ fun _ _=>by
   rw [zm]
   refine qu _ _ _ _ _ _ _ fun _ _ _=>?_
   refine zE (C:=zD n) _ _ _ trivial fun _=>?_
   exact yG (C:=zD n) _ _ _ trivial fun _ _=>trivial
  refine yA (C:=zD n) _ _ _ trivial fun _ _=>?_
  rw [zm]
  refine qu _ _ _ _ _ _ _ fun _ _ _=>?_
  refine zE (C:=zD n) _ _ _ trivial fun _=>?_
  exact zGJ (C:=zD n) _ _ trivial fun _ _=>trivial
 case addOff=>
  refine yv (C:=zD n) _ _ _ trivial fun _ _ _=>?_
  rw [zm]; trivial
 case part=>exact uE (C:=zD n) _ _ _ trivial fun _ _=>zJl _ _ _ _ _
 case ixArr=>
  refine yv (C:=zD n) _ _ _ trivial fun _ _ _=>?_
  refine yJ (C:=zD n) _ _ _ trivial fun _ _=>?_
  refine zE (C:=zD n) _ _ _ trivial fun _=>?_
  rw [zm]; trivial
 case ixSl=>
  refine qI (C:=zD n) _ _ _ ?_ fun _ _ _ _ _=>by
   unfold zOr
   split
   · split
     · split <;> trivial
     · trivial
   · trivial
  refine yE (C:=zD n) _ _ _ _ trivial (fun _=>trivial) fun _ _ _ _ _ _ _=>?_
  refine zEf (C:=zD n) ?_ fun _ _ _ _ _ _ _=>trivial
  refine yJ (C:=zD n) _ _ _ trivial fun _ _=>?_
  refine zE (C:=zD n) _ _ _ trivial fun _=>?_
  rw [zm]; trivial
 case ixAgg=>
  refine uE (C:=zD n) _ _ _ trivial fun _ _=>?_
  refine yJ (C:=zD n) _ _ _ trivial fun _ _=>?_
  exact zE (C:=zD n) _ _ _ trivial fun _=>zJl _ _ _ _ _
 case ixStr=>
  refine xc (C:=zD n) _ _ _ ?_ fun _ _=>by
   refine yJ (C:=zD n) _ _ _ trivial fun _ _=>?_
   exact qa (C:=zD n) _ _ trivial fun _ _=>trivial
  refine yA (C:=zD n) _ _ _ trivial fun _ _=>?_
  refine yJ (C:=zD n) _ _ _ trivial fun _ _=>?_
  exact vW (C:=zD n) _ _ _ trivial fun _ _=>trivial
 case lookup kk z ok x k=>
  have hl:∀ l,zD n (zBP kk z ok (aV es tm k) l):=by
   intro l
   refine zE (C:=zD n) _ _ _ trivial fun _=>?_
   split <;> trivial
  refine yt (C:=zD n) _ _ _ _ trivial (fun _=>hl _) fun _ _=>?_
  refine wm (C:=zD n) _ _ _ ?_ fun _ _=>by
   refine zE (C:=zD n) _ _ _ trivial fun _=>?_
   split <;> trivial
  exact yI (C:=zD n) _ _ _ trivial fun _ _ _=>hl _
 case mapupd=>
  refine yt (C:=zD n) _ _ _ _ trivial (fun _=>trivial) fun _ _=>?_
  refine wm (C:=zD n) _ _ _ ?_ fun _ _=>by
   refine zE (C:=zD n) _ _ _ trivial fun _=>?_
   split
   · exact Nat.le_refl _
   · trivial
  refine yI (C:=zD n) _ _ _ trivial fun _ _ _=>?_
  refine zE (C:=zD n) _ _ _ trivial fun _=>?_
  split
  · split
    · exact Nat.le_refl _
    · trivial
  · rw [zm]; exact Nat.le_refl _
  · trivial
 case rangeStr=>exact xc (C:=zD n) _ _ _ (yA (C:=zD n) _ _ _ trivial fun _ _=>trivial) fun _ _=>trivial
 case rangeMap=>
  refine yt (C:=zD n) _ _ _ _ trivial (fun _=>trivial) fun _ _=>?_
  exact yI (C:=zD n) _ _ _ trivial fun _ _ _=>Key.ix_le_succ n
 case next=>
  refine yv (C:=zD n) _ _ _ trivial fun _ _ _=>?_
  refine zE (C:=zD n) _ _ _ trivial fun _=>?_
  unfold zQj
  split
  · unfold zHy
    split
    · exact Nat.le_refl _
    · split
      · rw [zm]; exact Nat.le_refl _
      · trivial
  · exact Nat.le_refl _
  · refine yI (C:=zD n) _ _ _ trivial fun _ _ _=>?_
    split
    · trivial
    · split
      · exact Nat.le_refl _
      · exact zE (C:=zD n) _ _ _ trivial fun _=>zDZ (fun _=>Nat.le_refl _) _ _
  · trivial
 case entry=>
  refine yv (C:=zD n) _ _ _ trivial fun _ _ _=>?_
  refine zE (C:=zD n) _ _ _ trivial fun _=>?_
  unfold zJ8
  split
  · split
    · refine yI (C:=zD n) _ _ _ trivial fun _ _ _=>?_
      split <;> trivial
    · trivial
  · trivial
 case tassert=>
  refine xU (C:=zD n) _ _ _ _ trivial (fun _=>zHJ _ _) fun _ _ _=>?_
  rw [jA]
  split
  · trivial
  · exact zHJ _ _
 case tiface=>
  refine xU (C:=zD n) _ _ _ _ trivial (fun _=>zHJ _ _) fun _ _ _=>?_
  split
  · trivial
  · exact zHJ _ _
  · trivial
 case extract=>exact zFg (C:=zD n) _ _ _ trivial fun _ _=>vf _ _
 case call=>trivial
 case ext e args=>exact zKg e _
 case callv=>exact zN7 _ _
 case invoke=>exact zBe _ _ _
 case append esz bb s x=>
  show zD n (zAm esz bb s x es tm h n)
  unfold zAm
  refine zLT _ _ _ _ fun k l=>?_
  exact zE (C:=zD n) _ _ _ trivial fun _=>zJt _ _ _ _
 case appz zero esz s x=>
  refine yJ (C:=zD n) _ _ _ trivial fun _ _=>?_
  refine zE (C:=zD n) _ _ _ trivial fun _=>?_
  rw [zm]
  exact zE (C:=zD n) _ _ _ trivial fun _=>zJt _ _ _ _
 case copy esz d x=>
  show zD n (zGE esz d x es tm h n)
  have hk:∀ nf,zD n (zKT h esz (aV es tm x) (fun k xs=>uQ (aV es tm d)
   (.eff (.nat 0) h n)
   (fun b off _ _ _ _=>kD (getH b h) (fun vs=>yU (xE xs) (onL (qz xs (Nat.mul k esz) vs off) (fun l=>.eff (kP k) (yl (some (.cells l)) b h) n) 232) 233) 234) 235) nf 236):=by
   intro nf
   refine zLT _ _ _ _ fun k l=>?_
   refine yE (C:=zD n) _ _ _ _ trivial (fun _=>Nat.le_refl _) fun _ _ _ _ _ _ _=>?_
   refine yL (C:=zD n) _ _ _ trivial fun _ _=>?_
   refine zE (C:=zD n) _ _ _ trivial fun _=>?_
   exact yG (C:=zD n) _ _ _ trivial fun _ _=>Nat.le_refl _
  unfold zGE zPU
  split
  · exact hk _
  · exact yE (C:=zD n) _ _ _ _ trivial (fun _=>hk _) fun _ _ _ _ _ _ _=>hk _
 case lenStr=>exact xc (C:=zD n) _ _ _ (yA (C:=zD n) _ _ _ trivial fun _ _=>trivial) fun _ _=>trivial
 case lenSl=>exact qI (C:=zD n) _ _ _ (yE (C:=zD n) _ _ _ _ trivial (fun _=>trivial) fun _ _ _ _ _ _ _=>trivial) fun _ _ _ _ _=>trivial
 case lenMap=>
  refine yt (C:=zD n) _ _ _ _ trivial (fun _=>trivial) fun _ _=>?_
  exact yI (C:=zD n) _ _ _ trivial fun _ _ _=>trivial
 case capSl=>
  refine yE (C:=zD n) _ _ _ _ trivial (fun _=>trivial) fun _ _ _ _ _ ex _=>?_
  cases ex
  · show zD n (zPZ _ _ _ _ _ h n)
    unfold zPZ
    rw [jA]
    split
    · trivial
    · refine yL (C:=zD n) _ _ _ trivial fun _ _=>?_
      exact zE (C:=zD n) _ _ _ trivial fun _=>⟨Nat.le_refl _,Nat.le_refl _⟩
  · trivial
 case delete=>
  refine zE (C:=zD n) _ _ _ trivial fun _=>?_
  refine yt (C:=zD n) _ _ _ _ trivial (fun _=>Nat.le_refl _) fun _ _=>?_
  refine yI (C:=zD n) _ _ _ trivial fun _ _ _=>?_
  split
  · split
    · exact Nat.le_refl _
    · trivial
  · exact Nat.le_refl _
  · trivial
 case clearMap=>
  refine yt (C:=zD n) _ _ _ _ trivial (fun _=>Nat.le_refl _) fun _ _=>?_
  exact yI (C:=zD n) _ _ _ trivial fun _ _ _=>Nat.le_refl _
 case clearSl=>
  refine yE (C:=zD n) _ _ _ _ trivial (fun _=>Nat.le_refl _) fun _ _ _ _ _ _ _=>?_
  refine yL (C:=zD n) _ _ _ trivial fun _ _=>?_
  refine zE (C:=zD n) _ _ _ trivial fun _=>?_
  exact yG (C:=zD n) _ _ _ trivial fun _ _=>Nat.le_refl _
 case minmax=>exact vf _ _
 case defer=>
  refine wU (C:=zD n) _ _ _ trivial fun _ _ _ _=>?_
  split <;> trivial
 case recov=>trivial
 case bad=>trivial
end
end Go.Ev
namespace Go.Ev
variable [Sym]
noncomputable section
variable {P:Program}
variable [SymFact P]
def zX:R→Prop
 | .ok _ _ _ _ n=>n.room
 | .ret _ _ n=>n.room
 | .err _=>False
 | .fork a b=>zX a∧zX b
def zh (n:Key):R→Prop
 | .ok _ _ _ _ n'=>n.ix≤n'.ix
 | .ret _ _ n'=>n.ix≤n'.ix
 | .err _=>True
 | .fork a b=>zh n a∧zh n b
theorem vo {n:Key}:∀ {r:R},zX r→zh n r→n.room
 | .ok _ _ _ _ n',h,h'=>Nat.lt_of_le_of_lt h' h
 | .ret _ _ n',h,h'=>Nat.lt_of_le_of_lt h' h
 | .fork a _,h,h'=>vo h.1 h'.1
theorem zh.le {n n':Key} (hle:n.ix≤n'.ix):∀ {r:R},zh n' r→zh n r
 | .ok _ _ _ _ _,h=>Nat.le_trans hle h
 | .ret _ _ _,h=>Nat.le_trans hle h
 | .err _,_=>trivial
 | .fork _ _,h=>⟨zh.le hle h.1,zh.le hle h.2⟩
def ym (call:yT):Prop:=∀ d f args h n,zh n (call d f args h n)
theorem zt (d:Option Loc) (v:CV) (tm:Tm) (k:Tm→R):z6 d v tm k=k (match d with | none=>tm | some p=>k8 v p tm):=by cases d <;> rfl
def qr (k:CV→Heap→Key→R) (r:R):R:=R.rec (motive:=fun _=>R) (fun _ _ _ _ _=>.err 300) (fun v h n=>k v h n) (fun c=>.err c) (fun _ _ a b=>.fork a b) r
theorem qh {k:CV→Heap→Key→R} (hk:∀ v h n,zh n (k v h n)):∀ {r:R},zX (qr k r)→zX r
 | .ok ..,h=>h.elim
 | .ret v h n,hc=>vo hc (hk v h n)
 | .err _,h=>h.elim
 | .fork _ _,h=>⟨qh hk h.1,qh hk h.2⟩
theorem qi {n:Key} {k:CV→Heap→Key→R} (hk:∀ v h n,zh n (k v h n)):∀ {r:R},zh n r→zh n (qr k r)
 | .ok ..,_=>trivial
 | .ret v h n',hc=>zh.le hc (hk v h n')
 | .err _,_=>trivial
 | .fork _ _,h=>⟨qi hk h.1,qi hk h.2⟩
theorem kI {call:yT} (hcall:ym call) {k:KE} (hk:∀ es tm ds h n,zh n (k es tm ds h n)) (d:Option Loc) (es:List CV) (tm:Tm) (ds:xP) (h:Heap) (n:Key) :
 ∀ (r:OR),zD n r→zh n (after r call k d es tm ds h n)
 | .val v,_=>by show zh n (z6 _ _ _ _); rw [zt]; exact hk _ _ _ _ _
 | .read v,_=>by show zh n (z6 _ _ _ _); rw [zt]; exact hk _ _ _ _ _
 | .alloc o v,_=>by show zh n (z6 _ _ _ _); rw [zt]; exact zh.le (Key.ix_le_succ n) (hk _ _ _ _ _)
 | .eff v h' n',ho=>by show zh n (z6 _ _ _ _); rw [zt]; exact zh.le ho (hk _ _ _ _ _)
 | .call f args,_=>qi (k:=fun v h n=>z6 d v tm fun tm=>k (v::es) tm ds h n) (fun v h n=>by rw [zt]; exact hk _ _ _ _ _) (hcall _ _ _ _ _)
 | .dfr f args,_=>by show zh n (z6 _ _ _ _); rw [zt]; exact hk _ _ _ _ _
 | .recov,_=>by show zh n (z6 _ _ _ _); rw [zt]; exact hk _ _ _ _ _
 | .err _,_=>trivial
 | .fork a b,ho=>⟨kI hcall hk d es tm ds h n a ho.1,kI hcall hk d es tm ds h n b ho.2⟩
theorem jk {call:yT} (hcall:ym call):∀ (l:List qO) (es:List CV) (tm:Tm) (ds:xP) (h:Heap) (n:Key),zh n (ya P call l es tm ds h n)
 | [],_,_,_,_,_=>Nat.le_refl _
 | .i op::l,es,tm,ds,h,n=>kI hcall (fun es tm ds h n=>jk hcall l es tm ds h n) none es tm ds h n _ (wY op)
 | .o op d::l,es,tm,ds,h,n=>kI hcall (fun es tm ds h n=>jk hcall l es tm ds h n) (some d) es tm ds h n _ (wY op)
 | .g x wnt op d::l,es,tm,ds,h,n=>by
  show zh n (Bool.rec (motive:=fun _=>R)
   (Bool.rec (motive:=fun _=>R) (.err 299) (z6 d .undef tm fun tm=>ya P call l (.undef::es) tm ds h n) (kW (aV es tm x)))
   (after (yD P op es tm h n) call (ya P call l) d es tm ds h n) (jY wnt (aV es tm x)))
  cases jY wnt (aV es tm x) with
  | true=>exact kI hcall (fun es tm ds h n=>jk hcall l es tm ds h n) d es tm ds h n _ (wY op)
  | false=>
   cases kW (aV es tm x) with
   | true=>show zh n (z6 _ _ _ _); rw [zt]; exact jk hcall l _ _ _ _ _
   | false=>trivial
structure xH (ψ:Psi) (F N:Nat) (tm:Tm) (a:Act):Prop where
 size:N≤a.tmps.size
 tmp:∀ t,zo F t=true→t≤271→t<N→zG ψ (qf (Loc.ofNat t) tm) (a.tmps.getD t undef)
def uP (ψ:Psi) (dl:List (Option Nat)) (es:List CV) (a:Act):Prop:=∀ t i,xB t dl 0=some i→zG ψ (zRi es i) (a.tmps.getD t undef)
def wS (P:Program) (ψ:Psi):Prop:=∀ g,g<P.globals.size→g≤4095→∃ sz,ψ (Key.ofNat g)=some ⟨g,0,sz,fun n=>n⟩
def qR (ψ:Psi) (n:Key):Prop:=∀ k:Key,n.ix≤k.ix→ψ k=none
def zSp (P:Program) (ψ:Psi) (f:FuncId × List CV) (d:Deferred):Prop:=
 ∃ fv cap args',d.target=.fn fv cap∧(∀ w,(invoke d.target d.args).run P w=(callFunc f.1 args').run P w)∧zS ψ f.2 args'.toList
def j9 (P:Program) (ψ:Psi):xP→List Deferred→Prop
 | [],l=>l=[]
 | f::fs,l=>∃ d r,l=d::r∧zSp P ψ f d∧j9 P ψ fs r
structure St (P:Program) (F N:Nat) (ψ:Psi) (tm:Tm) (ds:xP) (h:Heap) (n:Key) (a:Act) (w:World):Prop where
 frame:xH ψ F N tm a
 dfr:j9 P ψ ds a.defers
 rel:Rel ψ (Heap.fam h) w
 glob:wS P ψ
 fresh:qR ψ n
theorem wS.mono {ψ ψ':Psi} (hle:ψ.le ψ') (h:wS P ψ):wS P ψ':=fun g h1 h2=>let ⟨sz,e⟩:=h g h1 h2; ⟨sz,hle _ _ e⟩
theorem j9.mono {ψ ψ':Psi} (hle:ψ.le ψ'):∀ {ds:xP} {l:List Deferred},j9 P ψ ds l→j9 P ψ' ds l
 | [],_,h=>h
 | f::fs,_,h=>by
  obtain ⟨d,r,rfl,⟨fv,cap,as,h1,h2,h3⟩,h4⟩:=h
  exact ⟨d,r,rfl,⟨fv,cap,as,h1,h2,h3.mono hle⟩,j9.mono hle h4⟩
theorem xH.mono {ψ ψ':Psi} (hle:ψ.le ψ') {F N:Nat} {tm:Tm} {a:Act} (h:xH ψ F N tm a):xH ψ' F N tm a:=⟨h.size,fun t h1 h2 h3=>(h.tmp t h1 h2 h3).mono hle⟩
theorem uP.mono {ψ ψ':Psi} (hle:ψ.le ψ') {dl:List (Option Nat)} {es:List CV} {a:Act} (h:uP ψ dl es a):uP ψ' dl es a:=fun t i h1=>(h t i h1).mono hle
theorem z7.fresh {ψ ψ':Psi} {g g':Fam} {n n':Key} {w w':World} (hp:z7 ψ g n w ψ' g' n' w') (h:qR ψ n):qR ψ' n':=by
 intro k hk
 have:=hp.mono
 rw [hp.out k (.inr hk)]
 exact h k (by omega)
theorem kj (t:Nat):∀ (dl:List (Option Nat)) (i:Nat),xB t dl (i+1)=(xB t dl i).map (· + 1)
 | [],_=>rfl
 | none::r,i=>by
  show xB t r (i+1+1)=(xB t r (i+1)).map (· + 1)
  exact kj t r (i+1)
 | some u::r,i=>by
  unfold xB
  simp only
  cases Nat.beq u t with
  | true=>rfl
  | false=>exact kj t r (i+1)
theorem j3 (a:Act) (t:Nat) (v:Value) (h:t<a.tmps.size):(a.put (some t) v).tmps.getD t undef=v:=by
 simp [Act.put,h]
theorem xn (a:Act) (d:Option Nat) (v:Value) {t:Nat} (h:d≠some t):(a.put d v).tmps.getD t undef=a.tmps.getD t undef:=by
 cases d with
 | none=>rfl
 | some u=>
  have:u≠t:=fun e=>h (by rw [e])
  simp [Act.put,Array.getElem?_setIfInBounds_ne this]
theorem zD8 (a:Act) (d:Option Nat) (v:Value):(a.put d v).tmps.size=a.tmps.size:=by cases d <;> simp [Act.put]
theorem zAG (a:Act) (d:Option Nat) (v:Value):(a.put d v).defers=a.defers:=by cases d <;> rfl
abbrev zJs (d:Option Loc) (v:CV) (tm:Tm):Tm:=match d with | none=>tm | some p=>k8 v p tm
theorem qZ {F N:Nat} {dst:Option Nat} {d:Option Loc} (h:xI F N dst=some d) :
 (dst=none∧d=none)∨∃ t,dst=some t∧t<N∧((zo F t=false∧d=none)∨(zo F t=true∧t≤271∧d=some (Loc.ofNat t))):=by
 unfold xI at h
 split at h
 · injection h with h; exact .inl ⟨rfl,h.symm⟩
 · rename_i t
   split at h
   · cases h
   · rename_i hn
     have hn:t+1≤N:=zJ hn
     split at h
     · rename_i hf; injection h with h; exact .inr ⟨t,rfl,by omega,.inl ⟨hf,h.symm⟩⟩
     · rename_i hf
       split at h
       · rename_i hl; injection h with h; exact .inr ⟨t,rfl,by omega,.inr ⟨hf,zJ hl,h.symm⟩⟩
       · cases h
theorem zM4 {ψ:Psi} {F N:Nat} {tm:Tm} {a:Act} {dst:Option Nat} {d:Option Loc} {v:CV} {x:Value} (hf:xH ψ F N tm a) (hd:xI F N dst=some d) (hv:zG ψ v x) :
 xH ψ F N (zJs d v tm) (a.put dst x):=by
 refine ⟨by rw [zD8]; exact hf.size,fun t h1 h2 h3=>?_⟩
 rcases qZ hd with ⟨rfl,rfl⟩ | ⟨u,rfl,hu,⟨hb,rfl⟩ | ⟨hb,hle,rfl⟩⟩
 · exact hf.tmp t h1 h2 h3
 · have hne:u≠t:=fun e=>by subst e; rw [hb] at h1; cases h1
   rw [xn _ _ _ (by simpa using hne)]
   exact hf.tmp t h1 h2 h3
 · by_cases e:u=t
   · subst e
     rw [j3 _ _ _ (Nat.lt_of_lt_of_le hu hf.size)]
     show zG ψ (qf _ (k8 v _ tm)) x
     rw [jb]; exact hv
   · rw [xn _ _ _ (by simpa using e)]
     show zG ψ (qf _ (k8 v _ tm)) _
     rw [xQ _ _ _ _ (fun h=>e (Loc.ofNat_inj hle h2 h.symm))]
     exact hf.tmp t h1 h2 h3
theorem zRs {ψ:Psi} {F N:Nat} {dl:List (Option Nat)} {es:List CV} {a:Act} {dst:Option Nat} {d:Option Loc} {v:CV} {x:Value} (hs:N≤a.tmps.size) (he:uP ψ dl es a) (hd:xI F N dst=some d)
 (hv:zG ψ v x):uP ψ (dst::dl) (v::es) (a.put dst x):=by
 intro t i hi
 have other:dst≠some t→zG ψ (zRi (v::es) i) ((a.put dst x).tmps.getD t undef):=by
  intro hne
  have hi':xB t dl 1=some i:=by
   cases dst with
   | none=>exact hi
   | some u=>
    unfold xB at hi
    have:Nat.beq u t=false:=wA fun e=>hne (by rw [e])
    simp only [this] at hi
    exact hi
  rw [kj] at hi'
  cases hw:xB t dl 0 with
  | none=>rw [hw] at hi'; cases hi'
  | some j=>
   rw [hw] at hi'
   injection hi' with hi'; subst hi'
   rw [xn _ _ _ hne]
   exact he t j hw
 by_cases e:dst=some t
 · subst e
   rcases qZ hd with ⟨h1,_⟩ | ⟨u,h1,hu,_⟩
   · cases h1
   · injection h1 with h1; subst h1
     unfold xB at hi
     have hb:Nat.beq t t=true:=ql t
     simp only [hb] at hi
     injection hi with hi; subst hi
     rw [j3 _ _ _ (Nat.lt_of_lt_of_le hu hs)]
     exact hv
 · exact other e
theorem zHC (a:Act):zMw a.eval:=⟨fun _=>rfl,fun _=>rfl⟩
theorem zH7 {F N:Nat} {ψ:Psi} {tm:Tm} {ds:xP} {h:Heap} {n:Key} {a:Act} {w:World} {dl:List (Option Nat)} {es:List CV} (hs:St P F N ψ tm ds h n a w) (he:uP ψ dl es a) :
 ∀ L,zq P ψ es tm ⟨F,N,dl⟩ a.eval L:=by
 intro L x hxL c hc
 clear hxL
 unfold zf at hc
 split at hc
 · rename_i t
   split at hc
   · rename_i i hi
     injection hc with hc; subst hc
     exact he t i hi
   · split at hc
     · rename_i hb
       injection hc with hc; subst hc
       rw [Bool.and_eq_true,Bool.and_eq_true] at hb
       exact hs.frame.tmp t hb.1.1 (zJ hb.1.2) (zJ hb.2)
     · cases hc
 · rename_i v
   cases hv:uN 20 v with
   | none=>rw [hv] at hc; cases hc
   | some c'=>rw [hv] at hc; injection hc with hc; subst hc; exact jg 20 hv
 · rename_i g
   split at hc
   · rename_i hb
     injection hc with hc; subst hc
     rw [Bool.and_eq_true] at hb
     obtain ⟨sz,e⟩:=hs.glob g (zJ hb.1) (zJ hb.2)
     exact zl.2 ⟨_,e,rfl⟩
   · cases hc
 · rename_i f
   injection hc with hc; subst hc
   exact yy.2 ⟨#[],#[],rfl,zM.2 rfl,zM.2 rfl⟩
end
end Go.Ev
namespace Go.Ev
variable [Sym]
noncomputable section
variable {P:Program}
variable [SymFact P]
def zn (ψ₀:Psi) (g₀:Fam) (n₀:Key) (w₀:World):R→Value→World→Prop
 | .ret cv h n,v,w=>∃ ψ,z7 ψ₀ g₀ n₀ w₀ ψ (Heap.fam h) n w∧zG ψ cv v
 | .fork a b,v,w=>zn ψ₀ g₀ n₀ w₀ a v w∨zn ψ₀ g₀ n₀ w₀ b v w
 | _,_,_=>False
def yr (P:Program) (f:FuncId) (args:Array Value) (w:World) (K:Value→World→Prop):Prop:=match (callFunc f args).run P w with
 | .ok (.enter g as) w'=>Calls P g as w' fun e w''=>∃ v,e=.returned v∧K v w''
 | .ok (.value v) w'=>K v w'
 | _=>False
def zER (P:Program) (f:FuncId) (args:Array Value) (w:World) (K:World→Prop):Prop:=
 (callFunc f args).run P w=.ok (.enter f args) w∧CallsD P f args .returning w fun e u w'=>u=.returning∧∃ v,e=.returned v∧K w'
structure yW (P:Program) (call:yT):Prop where
 above:ym call
 calls:∀ f args h n ψ w args',zS ψ args args'.toList→wS P ψ→Rel ψ (Heap.fam h) w→qR ψ n→zX (call false f args h n) →
  yr P f args' w (zn ψ (Heap.fam h) n w (call false f args h n))
 defers:∀ f args h n ψ w args',zS ψ args args'.toList→wS P ψ→Rel ψ (Heap.fam h) w→qR ψ n→zX (call true f args h n) →
  zER P f args' w fun w'=>∃ v,zn ψ (Heap.fam h) n w (call true f args h n) v w'
def wy (P:Program) (rc:Bool) (o:Oper) (a:Act) (w:World) (K:Act→World→Prop):Prop:=match (execOp a.eval o).run P w with
 | .ok (.value v) w'=>K (a.put o.dst v) w'
 | .ok .skip w'=>K (a.put o.dst undef) w'
 | .ok (.defer d) w'=>K ({ a with defers:=d::a.defers }.put o.dst undef) w'
 | .ok (.enter f args) w'=>Calls P f args w' fun e w''=>∃ v,e=.returned v∧K (a.put o.dst v) w''
 | .ok .recover w'=>rc=true∧K (a.put o.dst .nilIface) w'
 | _=>False
theorem wy.mono {rc:Bool} {o:Oper} {a:Act} {w:World} {K K':Act→World→Prop} (hk:∀ a w,K a w→K' a w) (h:wy P rc o a w K):wy P rc o a w K':=by
 unfold wy at *
 generalize (execOp a.eval o).run P w=r at h ⊢
 cases r with
 | halt x w'=>exact h.elim
 | ok x w'=>
  cases x <;> first
   | exact hk _ _ h
   | exact Calls.mono h fun e w' ⟨v,e1,e2⟩=>⟨v,e1,hk _ _ e2⟩
   | exact ⟨h.1,hk _ _ h.2⟩
   | exact h.elim
structure zQO (P:Program) (ops:Array Oper) (rc:Bool) (Q:Act→World→Prop) (W:List Nat→Act→World→Prop):Prop where
 nil:∀ a w,Q a w→W [] a w
 skip:∀ i o rest a w,ops[i]? = some o→Region.wanted o (yielded ops a.tmps)=false→W rest (a.put o.dst undef) w→W (i::rest) a w
 step:∀ i o rest a w,ops[i]? = some o→Region.wanted o (yielded ops a.tmps)=true→wy P rc o a w (W rest)→W (i::rest) a w
theorem zLa (ops:Array Oper) (Q:Exit→Act→World→Prop):zQO P ops false (Q .normal) (wpOps P ops Q):=by
 refine ⟨fun a w h=>h,fun i o rest a w ho hw h=>?_,fun i o rest a w ho hw h=>?_⟩
 · simp only [wpOps,ho,hw,Bool.false_eq_true,if_false]; exact h
 · simp only [wpOps,ho,hw,if_true]
   refine .inl ?_
   unfold Oper.wp
   unfold wy at h
   generalize (execOp a.eval o).run P w=r at h ⊢
   cases r with
   | halt x w'=>exact h.elim
   | ok x w'=>
    cases x <;> first
     | exact h
     | exact Calls.mono h (fun e w' ⟨v,e1,e2⟩=>by subst e1; exact e2)
     | exact absurd h.1 (by simp)
     | exact h.elim
theorem zFJ (ops:Array Oper) (Q:Exit→Act→List Frame→World→Prop) {cs:List Frame} (hcs:recoverD cs=none) :
 zQO P ops true (fun a w=>Q .normal a cs w) (fun l a w=>wpOpsS P ops Q l a cs w):=by
 refine ⟨fun a w h=>h,fun i o rest a w ho hw h=>?_,fun i o rest a w ho hw h=>?_⟩
 · simp only [wpOpsS,ho,hw,Bool.false_eq_true,if_false]; exact h
 · simp only [wpOpsS,ho,hw,if_true]
   unfold wy at h
   generalize (execOp a.eval o).run P w=r at h ⊢
   cases r with
   | halt x w'=>exact h.elim
   | ok x w'=>
    cases x <;> first
     | exact h
     | exact Calls.mono h (fun e w' ⟨v,e1,e2⟩=>by subst e1; exact e2)
     | (simp only [hcs]; exact h.2)
     | exact h.elim
def zSU:CX→Exit→Prop
 | .normal,.normal=>True
 | .exit i,.exit j=>i=j
 | .ret,.ret=>True
 | _,_=>False
section
variable {F N:Nat} {call:yT} {ψ:Psi} {tm:Tm} {ds:xP} {h:Heap} {n:Key} {a:Act} {w:World} {dl:List (Option Nat)} {es:List CV}
def ke (P:Program) (F N:Nat) (ψ:Psi) (h:Heap) (n:Key) (w:World) (dl:List (Option Nat)) (k:KE) (r:R) (a':Act) (w':World):Prop:=
 ∃ es' tm' ds' h' n' ψ',St P F N ψ' tm' ds' h' n' a' w'∧uP ψ' dl es' a'∧z7 ψ (Heap.fam h) n w ψ' (Heap.fam h') n' w'∧zX (k es' tm' ds' h' n') ∧
  ∀ (O:R→Prop),(∀ x y,O x→O (.fork x y))→(∀ x y,O y→O (.fork x y))→O (k es' tm' ds' h' n')→O r
theorem ke.forkL {k:KE} {r s:R} {a':Act} {w':World} (hx:ke P F N ψ h n w dl k r a' w'):ke P F N ψ h n w dl k (.fork r s) a' w':=by
 obtain ⟨es',tm',ds',h',n',ψ',h1,h2,h3,h4,h5⟩:=hx
 exact ⟨es',tm',ds',h',n',ψ',h1,h2,h3,h4,fun O f1 f2 ho=>f1 _ _ (h5 O f1 f2 ho)⟩
theorem ke.forkR {k:KE} {r s:R} {a':Act} {w':World} (hx:ke P F N ψ h n w dl k s a' w'):ke P F N ψ h n w dl k (.fork r s) a' w':=by
 obtain ⟨es',tm',ds',h',n',ψ',h1,h2,h3,h4,h5⟩:=hx
 exact ⟨es',tm',ds',h',n',ψ',h1,h2,h3,h4,fun O f1 f2 ho=>f2 _ _ (h5 O f1 f2 ho)⟩
theorem kT {k:KE} {o:Oper} {d:Option Loc} {v:CV} {x:Value} {ψ':Psi} {h':Heap} {n':Key} {w':World} (hst:St P F N ψ tm ds h n a w) (hev:uP ψ dl es a) (hd:xI F N o.dst=some d)
 (hp:z7 ψ (Heap.fam h) n w ψ' (Heap.fam h') n' w') (hv:zG ψ' v x) (hc:zX (z6 d v tm fun tm=>k (v::es) tm ds h' n')) :
 ke P F N ψ h n w (o.dst::dl) k (z6 d v tm fun tm=>k (v::es) tm ds h' n') (a.put o.dst x) w':=by
 rw [zt] at hc ⊢
 refine ⟨v::es,_,ds,h',n',ψ',⟨zM4 (hst.frame.mono hp.ext) hd hv,?_,hp.rel,hst.glob.mono hp.ext,hp.fresh hst.fresh⟩,zRs hst.frame.size (hev.mono hp.ext) hd hv,hp,hc,fun O _ _ ho=>ho⟩
 rw [zAG]
 exact hst.dfr.mono hp.ext
theorem zFH {k:KE} {o:Oper} {d:Option Loc} {x:Value} {w':World} (hst:St P F N ψ tm ds h n a w) (hev:uP ψ dl es a) (hd:xI F N o.dst=some d) :
 ∀ {r:R},zn ψ (Heap.fam h) n w r x w'→zX (qr (fun v h n=>z6 d v tm fun tm=>k (v::es) tm ds h n) r) →
  ke P F N ψ h n w (o.dst::dl) k (qr (fun v h n=>z6 d v tm fun tm=>k (v::es) tm ds h n) r) (a.put o.dst x) w'
 | .ok ..,hr,_=>hr.elim
 | .err _,hr,_=>hr.elim
 | .ret cv h' n',hr,hc=>by
  obtain ⟨ψ',hp,hv⟩:=hr
  exact kT hst hev hd hp hv hc
 | .fork r s,hr,hc=>by
  rcases hr with hr | hr
  · exact ke.forkL (zFH hst hev hd hr hc.1)
  · exact ke.forkR (zFH hst hev hd hr hc.2)
theorem xx {o:Oper} {w':World} {x:Value} (hv:kc P a.eval o.op o.type w w' x) {K:Act→World→Prop} {rc:Bool} (hk:K (a.put o.dst x) w'):wy P rc o a w K:=by
 obtain ⟨nx,h1,h2⟩:=hv
 have h1:(execOp a.eval o).run P w=.ok nx w':=h1
 unfold wy
 rw [h1]
 rcases h2 with rfl | ⟨rfl,rfl⟩
 · exact hk
 · exact hk
theorem vI (hcall:yW P call) {k:KE} (hk:∀ es tm ds h n,zh n (k es tm ds h n)) {o:Oper} {d:Option Loc} (hst:St P F N ψ tm ds h n a w) (hev:uP ψ dl es a)
 (hd:xI F N o.dst=some d) {rc:Bool} (hrc:zCV o.op=true→rc=true):∀ (r:OR),zC P ψ h n a.eval o.op o.type w r→zD n r→zX (after r call k d es tm ds h n) →
   wy P rc o a w (ke P F N ψ h n w (o.dst::dl) k (after r call k d es tm ds h n))
 | .val v,hs,_,hc=>by
  obtain ⟨x,h1,h2⟩:=hs
  exact xx h1 (kT hst hev hd (z7.refl hst.rel) h2 hc)
 | .read v,hs,_,hc=>by
  obtain ⟨x,h1,h2⟩:=hs hst.rel.on
  exact xx h1 (kT hst hev hd (z7.refl hst.rel) h2 hc)
 | .alloc ob v,hs,_,hc=>by
  obtain ⟨w',x,sz,h1,h2,h3,_⟩:=hs
  have hroom:n.succ.room:=by
   have hc':zX (z6 d v tm fun tm=>k (v::es) tm ds (yl (some ob) n h) n.succ):=hc
   rw [zt] at hc'
   exact vo hc' (hk _ _ _ _ _)
  have hr:=Key.room_of_succ hroom
  have hnone:=hst.fresh n (Nat.le_refl _)
  have hle:=Psi.le_upd (ψ:=ψ) (k:=n) ⟨w.heap.size,0,sz,fun n=>n⟩ hnone
  obtain ⟨h4,h5⟩:=h3 _ hle (Psi.upd_same _ _ _)
  have hp:=wB hst.rel hr hnone h2 h5
  rw [← zy] at hp
  exact xx h1 (kT hst hev hd hp h4 hc)
 | .eff v h' n',hs,ha,hc=>by
  have hroom:n'.room:=by
   have hc':zX (z6 d v tm fun tm=>k (v::es) tm ds h' n'):=hc
   rw [zt] at hc'
   exact vo hc' (hk _ _ _ _ _)
  obtain ⟨w',x,ψ',h1,h2,h3⟩:=hs hst.rel (fun q hq _=>hst.fresh q hq) hroom
  exact xx h1 (kT hst hev hd h2 h3 hc)
 | .call f args,hs,_,hc=>by
  obtain ⟨args',h1,h2⟩:=hs hst.rel.on
  have hc':zX (qr (fun v h n=>z6 d v tm fun tm=>k (v::es) tm ds h n) (call false f args h n)):=hc
  have hcl:=qh (fun v h n=>by rw [zt]; exact hk _ _ _ _ _) hc'
  have hcalls:=hcall.calls f args h n ψ w args' h2 hst.glob hst.rel hst.fresh hcl
  have hn:=fun (x:Value) (w':World) hr=>zFH (k:=k) (o:=o) (x:=x) (w':=w') hst hev hd (r:=call false f args h n) hr hc'
  have h1:(execOp a.eval o).run P w=(callFunc f args').run P w:=h1
  unfold wy
  rw [h1]
  unfold yr at hcalls
  generalize (callFunc f args').run P w=r at hcalls ⊢
  cases r with
  | halt x w'=>exact hcalls.elim
  | ok x w'=>
   cases x <;> first
    | exact hn _ _ hcalls
    | exact Calls.mono hcalls fun e w' ⟨v,e1,e2⟩=>⟨v,e1,hn v w' e2⟩
    | exact hcalls.elim
 | .dfr f args,hs,_,hc=>by
  obtain ⟨dd,fv,cap,args',h1,h2,h3,h4⟩:=hs
  have h1:(execOp a.eval o).run P w=.ok (.defer dd) w:=h1
  unfold wy
  rw [h1]
  have hc':zX (z6 d .undef tm fun tm=>k (.undef::es) tm ((f,args)::ds) h n):=hc
  show ke P F N ψ h n w (o.dst::dl) k (z6 d .undef tm fun tm=>k (.undef::es) tm ((f,args)::ds) h n) ({ a with defers:=dd::a.defers }.put o.dst undef) w
  refine kT (a:={ a with defers:=dd::a.defers }) (ds:=(f,args)::ds) ⟨⟨hst.frame.size,hst.frame.tmp⟩,⟨dd,a.defers,rfl,⟨fv,cap,args',h2,h3,h4⟩,hst.dfr⟩,hst.rel,hst.glob,hst.fresh⟩ hev hd (z7.refl hst.rel) xv hc'
 | .recov,hs,_,hc=>by
  obtain ⟨h0,h1⟩:=hs
  have h1:(execOp a.eval o).run P w=.ok .recover w:=h1
  unfold wy
  rw [h1]
  exact ⟨hrc h0,kT hst hev hd (z7.refl hst.rel) (yR.2 rfl) hc⟩
 | .err _,_,_,hc=>hc.elim
 | .fork r s,hs,ha,hc=>by
  rcases hs hst.rel with hs | hs
  · exact wy.mono (fun _ _ h=>ke.forkL h) (vI hcall hk hst hev hd hrc r hs ha.1 hc.1)
  · exact wy.mono (fun _ _ h=>ke.forkR h) (vI hcall hk hst hev hd hrc s hs ha.2 hc.2)
end
end
end Go.Ev
namespace Go.Ev
variable [Sym]
noncomputable section
variable {P:Program}
variable [SymFact P]
theorem zGj {ψ:Psi} {ops:Array Oper} {o:Oper} {j t:Nat} {wnt:Bool} {a:Act} {c:CV} (hg:o.guard=some (j,wnt)) (ht:(ops[j]?).bind (·.dst)=some t) (hc:zG ψ c (a.tmps.getD t undef)) :
 (jY wnt c=true→Region.wanted o (yielded ops a.tmps)=true)∧(jY wnt c=false→kW c=true→Region.wanted o (yielded ops a.tmps)=false):=by
 have hw:Region.wanted o (yielded ops a.tmps)=(yielded ops a.tmps j == some wnt):=by unfold Region.wanted; rw [hg]
 have hy:yielded ops a.tmps j=(match a.tmps[t]? with | some (.bool b)=>some b | _=>none):=by unfold yielded; rw [ht]; rfl
 have hget:∀ b,a.tmps.getD t undef=.bool b→a.tmps[t]? = some (.bool b):=by
  intro b h
  rw [Array.getD_eq_getD_getElem?] at h
  cases hq:a.tmps[t]? with
  | none=>rw [hq] at h; cases h
  | some v=>rw [hq] at h; exact congrArg some h
 rw [hw,hy]
 constructor
 · intro hb
   unfold jY at hb
   split at hb
   · rename_i b
     rw [zH] at hc
     rw [hget _ hc]
     cases b <;> cases wnt <;> simp_all
   · cases hb
 · intro hb hn
   cases hq:a.tmps[t]? with
   | none=>rfl
   | some v=>
    have hv:a.tmps.getD t undef=v:=by rw [Array.getD_eq_getD_getElem?,hq]; rfl
    rw [hv] at hc
    cases v <;> try rfl
    rename_i b
    have hb':c=.bool b∨c=.any:=by
     cases c
     case bool b'=>rw [zH] at hc; injection hc with hc; subst hc; exact .inl rfl
     case any=>exact .inr rfl
     case nat=>rw [zW] at hc; cases hc
     case int=>rw [zb] at hc; cases hc
     case anyi=>rw [yV] at hc; obtain ⟨_,hc⟩:=hc; cases hc
     case str=>rw [ze] at hc; obtain ⟨_,hc,_⟩:=hc; cases hc
     case big=>rw [kS] at hc; obtain ⟨_,hc,_⟩:=hc; cases hc
     case nilptr=>rw [xK] at hc; cases hc
     case ptr=>rw [zl] at hc; obtain ⟨_,_,hc⟩:=hc; cases hc
     case nilsl=>rw [zp] at hc; cases hc
     case sl=>rw [zz] at hc; obtain ⟨_,_,_,_,hc,_⟩:=hc; cases hc
     case sst=>rw [yi] at hc; obtain ⟨_,hc,_⟩:=hc; cases hc
     case elt=>rw [uu] at hc; obtain ⟨_,_,_,_,_,hc⟩:=hc; cases hc
     case few=>rw [jL] at hc; obtain ⟨_,_,_,hc,_⟩:=hc; cases hc
     case win=>rw [xo] at hc; obtain ⟨_,_,_,_,_,hc,_⟩:=hc; cases hc
     case nilmap=>rw [yK] at hc; cases hc
     case map=>rw [yY] at hc; obtain ⟨_,_,hc⟩:=hc; cases hc
     case func=>rw [yy] at hc; obtain ⟨_,_,hc,_⟩:=hc; cases hc
     case nilfunc=>rw [xA] at hc; cases hc
     case iface=>rw [yP] at hc; obtain ⟨_,hc,_⟩:=hc; cases hc
     case niliface=>rw [yR] at hc; cases hc
     case agg=>rw [yc] at hc; obtain ⟨_,hc,_⟩:=hc; cases hc
     case sym i=>rw [z8] at hc; rcases Sym.one i with ⟨_,_,e⟩ | ⟨_,e⟩ <;> rw [e] at hc <;> cases hc
     case tup=>rw [yM] at hc; obtain ⟨_,hc,_⟩:=hc; cases hc
    rcases hb' with rfl | rfl
    · cases b <;> cases wnt <;> first | rfl | cases hb
    · cases hn
section
variable {F N:Nat} {call:yT} {ops:Array Oper} {rc:Bool} {Q:Act→World→Prop} {W:List Nat→Act→World→Prop}
theorem zL0 {j:Nat}:(nth ops.toList j).bind (·.dst)=(ops[j]?).bind (·.dst):=by rw [nth_eq,Array.getElem?_toList]
theorem zRf (hcall:yW P call) (walk:zQO P ops rc Q W) {k:KE} (hk:∀ es tm ds h n,zh n (k es tm ds h n)) {ψ:Psi} {tm:Tm} {ds:xP} {h:Heap} {n:Key} {a:Act} {w:World} {dl:List (Option Nat)} {es:List CV}
 (hst:St P F N ψ tm ds h n a w) (hev:uP ψ dl es a) {i:Nat} {o:Oper} {rest:List Nat} (ho:ops[i]? = some o) (hrc:zCV o.op=true→rc=true)
 (hc:zX (zSx P call (uJ P F N ops.toList dl o) k es tm ds h n))
 (hnext:∀ a' w',ke P F N ψ h n w (o.dst::dl) k (zSx P call (uJ P F N ops.toList dl o) k es tm ds h n) a' w'→W rest a' w'):W (i::rest) a w:=by
 unfold uJ at hc hnext
 cases hd:xI F N o.dst with
 | none=>simp only [hd] at hc; exact hc.elim
 | some d=>
  simp only [hd] at hc hnext
  have hsim:=fun (w:World)=>zKn (ψ:=ψ) (h:=h) (n:=n) (es:=es) (tm:=tm) (ty:=o.type) (w:=w) (zHC a) o.op (zH7 hst hev _)
  cases hg:o.guard with
  | none=>
   have hw:Region.wanted o (yielded ops a.tmps)=true:=by unfold Region.wanted; rw [hg]
   simp only [hg] at hc hnext
   refine walk.step i o rest a w ho hw ?_
   cases d with
   | none=>
    have:=vI hcall hk hst hev hd hrc _ (hsim w) (wY _) hc
    exact wy.mono hnext this
   | some p=>
    have:=vI hcall hk hst hev hd hrc _ (hsim w) (wY _) hc
    exact wy.mono hnext this
  | some jw=>
   obtain ⟨j,wnt⟩:=jw
   simp only [hg] at hc hnext
   cases ht:(nth ops.toList j).bind (·.dst) with
   | none=>simp only [ht] at hc; exact hc.elim
   | some t=>
    simp only [ht] at hc hnext
    cases hx:zf P ⟨F,N,dl⟩ (.tmp t) with
    | none=>simp only [hx] at hc; exact hc.elim
    | some x=>
     simp only [hx] at hc hnext
     have hv:=zH7 hst hev [.tmp t] _ (by simp) _ hx
     have hv:zG ψ (aV es tm x) (a.tmps.getD t undef):=hv
     rw [zL0] at ht
     obtain ⟨w1,w2⟩:=zGj hg ht hv
     have hc':zX (Bool.rec (motive:=fun _=>R)
      (Bool.rec (motive:=fun _=>R) (.err 299) (z6 d .undef tm fun tm=>k (.undef::es) tm ds h n) (kW (aV es tm x)))
      (after (yD P (zd P ⟨F,N,dl⟩ o.op) es tm h n) call k d es tm ds h n) (jY wnt (aV es tm x))):=hc
     have hnext':∀ a' w',ke P F N ψ h n w (o.dst::dl) k (Bool.rec (motive:=fun _=>R)
      (Bool.rec (motive:=fun _=>R) (.err 299) (z6 d .undef tm fun tm=>k (.undef::es) tm ds h n) (kW (aV es tm x)))
      (after (yD P (zd P ⟨F,N,dl⟩ o.op) es tm h n) call k d es tm ds h n) (jY wnt (aV es tm x))) a' w'→W rest a' w':=hnext
     cases hb:jY wnt (aV es tm x) with
     | true=>
      rw [hb] at hc' hnext'
      refine walk.step i o rest a w ho (w1 hb) ?_
      exact wy.mono hnext' (vI hcall hk hst hev hd hrc _ (hsim w) (wY _) hc')
     | false=>
      rw [hb] at hc' hnext'
      cases hn:kW (aV es tm x) with
      | false=>rw [hn] at hc'; exact hc'.elim
      | true=>
       rw [hn] at hc' hnext'
       exact walk.skip i o rest a w ho (w2 hb hn) (hnext' _ _ (kT hst hev hd (z7.refl hst.rel) xv hc'))
theorem zH8 (hcall:yW P call) (walk:zQO P ops rc Q W):∀ (rest:List Oper) (i:Nat) {ψ:Psi} {tm:Tm} {ds:xP} {h:Heap} {n:Key} {a:Act} {w:World} {dl:List (Option Nat)} {es:List CV},
 ops.toList.drop i=rest→(∀ o∈rest,zCV o.op=true→rc=true)→St P F N ψ tm ds h n a w→uP ψ dl es a →
 zX (ya P call (qq P F N ops.toList dl rest) es tm ds h n) →
 (∀ tm' ds' h' n' ψ' a' w',St P F N ψ' tm' ds' h' n' a' w'→z7 ψ (Heap.fam h) n w ψ' (Heap.fam h') n' w'→n'.room →
   (∀ (O:R→Prop),(∀ x y,O x→O (.fork x y))→(∀ x y,O y→O (.fork x y))→O (.ok .normal tm' ds' h' n')→O (ya P call (qq P F N ops.toList dl rest) es tm ds h n))→Q a' w') →
 W (List.range' i rest.length) a w
 | [],i,ψ,tm,ds,h,n,a,w,dl,es,_,_,hst,hev,hc,hQ=>walk.nil a w (hQ tm ds h n ψ a w hst (z7.refl hst.rel) hc fun O _ _ ho=>ho)
 | o::rest,i,ψ,tm,ds,h,n,a,w,dl,es,hi,hrc,hst,hev,hc,hQ=>by
  have ho:ops[i]? = some o:=by
   rw [← Array.getElem?_toList]
   have:(ops.toList.drop i)[0]? = some o:=by rw [hi]; rfl
   rw [List.getElem?_drop] at this
   exact this
  have hrest:ops.toList.drop (i+1)=rest:=by
   have:=congrArg (List.drop 1) hi
   rw [List.drop_drop] at this
   exact this
  rw [List.length_cons,List.range'_succ]
  refine zRf hcall walk (k:=ya P call (qq P F N ops.toList (o.dst::dl) rest)) (fun es tm ds h n=>jk hcall.above _ es tm ds h n) hst hev ho (hrc o (by simp)) hc fun a' w' hn=>?_
  obtain ⟨es',tm',ds',h',n',ψ',h1,h2,h3,h4,h5⟩:=hn
  refine zH8 hcall walk rest (i+1) hrest (fun o ho=>hrc o (by simp [ho])) h1 h2 h4 fun tm'' ds'' h'' n'' ψ'' a'' w'' g1 g2 g3 g4=>?_
  exact hQ tm'' ds'' h'' n'' ψ'' a'' w'' g1 (h3.trans g2) g3 fun O f1 f2 ho=>h5 O f1 f2 (g4 O f1 f2 ho)
end
end
end Go.Ev
namespace Go.Ev
variable [Sym]
noncomputable section
variable {P:Program}
variable [SymFact P]
theorem qF {n:Key} {k:K} (hk:∀ tm ds h n,zh n (k tm ds h n)):∀ {r:R},zh n r→zh n (xz k r)
 | .ok .normal tm ds h n',ha=>zh.le ha (hk tm ds h n')
 | .ok (.exit _) _ _ _ _,ha=>ha
 | .ok .ret _ _ _ _,ha=>ha
 | .ret ..,_=>trivial
 | .err _,_=>trivial
 | .fork _ _,h=>⟨qF hk h.1,qF hk h.2⟩
theorem xW {k:K} (hk:∀ tm ds h n,zh n (k tm ds h n)):∀ {r:R},zX (xz k r)→zX r
 | .ok .normal tm ds h n',hc=>vo hc (hk tm ds h n')
 | .ok (.exit _) _ _ _ _,hc=>hc
 | .ok .ret _ _ _ _,hc=>hc
 | .ret ..,hc=>hc.elim
 | .err _,hc=>hc.elim
 | .fork _ _,h=>⟨xW hk h.1,xW hk h.2⟩
theorem uY (id i:Nat) (tm:Tm) (ds:xP) (h:Heap) (n:Key):uI id (.ok (.exit i) tm ds h n)=if i=id then .ok .normal tm ds h n else .ok (.exit i) tm ds h n:=by
 show Bool.rec (motive:=fun _=>R) (.ok (.exit i) tm ds h n) (.ok .normal tm ds h n) (Nat.beq i id)=_
 by_cases e:i=id
 · subst e; rw [ql,if_pos rfl]
 · rw [wA e,if_neg e]
theorem vz {n:Key} (id:Nat):∀ {r:R},zh n r→zh n (uI id r)
 | .ok .normal _ _ _ _,ha=>ha
 | .ok (.exit i) _ _ _ _,ha=>by rw [uY]; split <;> exact ha
 | .ok .ret _ _ _ _,ha=>ha
 | .ret ..,_=>trivial
 | .err _,_=>trivial
 | .fork _ _,h=>⟨vz id h.1,vz id h.2⟩
theorem jU (id:Nat):∀ {r:R},zX (uI id r)→zX r
 | .ok .normal _ _ _ _,ha=>ha
 | .ok (.exit i) _ _ _ _,ha=>by rw [uY] at ha; split at ha <;> exact ha
 | .ok .ret _ _ _ _,ha=>ha
 | .ret ..,h=>h.elim
 | .err _,h=>h.elim
 | .fork _ _,h=>⟨jU id h.1,jU id h.2⟩
theorem zD6 {C:K→Prop} {a b:K} (v:CV) (ht:v=.bool true→C a) (hf:v=.bool false→C b) (he:C fun _ _ _ _=>.err 302):C (zFX a b v):=by
 unfold zFX
 split
 · exact ht rfl
 · exact hf rfl
 · exact he
section
variable {call:yT} (hcall:ym call)
include hcall
theorem zLe {k:KD} (hk:∀ es hs tm ds h n,zh n (k es hs tm ds h n)) (d:Option Loc) (es:List CV) (hs:List Heap) (tm:Tm) (ds:xP) (h:Heap) (n:Key) (r:OR) (ho:zD n r) :
 zh n (zKQ call d k r es hs tm ds h n):=by
 cases r with
 | val v=>show zh n (z6 _ _ _ _); rw [zt]; exact hk _ _ _ _ _ _
 | read v=>show zh n (z6 _ _ _ _); rw [zt]; exact hk _ _ _ _ _ _
 | alloc o v=>show zh n (z6 _ _ _ _); rw [zt]; exact zh.le (Key.ix_le_succ n) (hk _ _ _ _ _ _)
 | eff v h' n'=>show zh n (z6 _ _ _ _); rw [zt]; exact zh.le ho (hk _ _ _ _ _ _)
 | call f args=>exact qi (k:=fun v h' n'=>z6 d v tm fun tm=>k (v::es) (h::hs) tm ds h' n') (fun v h n=>by rw [zt]; exact hk _ _ _ _ _ _) (hcall _ _ _ _ _)
 | dfr f args=>trivial
 | recov=>trivial
 | err _=>trivial
 | fork a b=>trivial
omit hcall in
theorem zND {k:KD} (hk:∀ es hs tm ds h n,zh n (k es hs tm ds h n)) (op:COp) (d:Option Loc) (chk:Nat) (es:List CV) (hs:List Heap) (tm:Tm) (ds:xP) (h:Heap) (n:Key) (r:OR) :
 zh n (dNo P op d chk k r es hs tm ds h n):=by
 cases r with
 | val v=>show zh n (z6 _ _ _ _); rw [zt]; exact hk _ _ _ _ _ _
 | read v=>
  show zh n (match qm P op es tm n v chk hs with
   | true=>z6 d v tm fun tm=>k (v::es) hs tm ds h n
   | false=>.err 311)
  split
  · rw [zt]; exact hk _ _ _ _ _ _
  · trivial
 | alloc o v=>show zh n (z6 _ _ _ _); rw [zt]; exact zh.le (Key.ix_le_succ n) (hk _ _ _ _ _ _)
 | eff v h' n'=>trivial
 | call f args=>trivial
 | dfr f args=>trivial
 | recov=>trivial
 | err _=>trivial
 | fork a b=>trivial
theorem zCt {k:KD} (hk:∀ es hs tm ds h n,zh n (k es hs tm ds h n)) (op:COp) (d:Option Loc) (e:Bool) (chk:Nat) (es:List CV) (hs:List Heap) (tm:Tm) (ds:xP) (h:Heap) (n:Key) :
 zh n (dOp P call op d e chk k es hs tm ds h n):=by
 unfold dOp
 split
 · exact zLe hcall hk d es hs tm ds h n _ (wY op)
 · exact zND hk op d chk es hs tm ds h n _
theorem zHK:∀ (l:List zNC) (es:List CV) (hs:List Heap) (tm:Tm) (ds:xP) (h:Heap) (n:Key),zh n (evD P call l es hs tm ds h n)
 | [],_,_,_,_,_,_=>Nat.le_refl _
 | i::l,es,hs,tm,ds,h,n=>by
  unfold evD
  have ih:=fun es hs tm ds h n=>zHK l es hs tm ds h n
  split
  · exact zCt hcall ih _ _ _ _ _ _ _ _ _ _
  · exact zCt hcall ih _ _ _ _ _ _ _ _ _ _
  · split
    · exact zCt hcall ih _ _ _ _ _ _ _ _ _ _
    · split
      · unfold zD3
        rw [zt]; exact ih _ _ _ _ _ _
      · trivial
theorem yg:∀ (c:CCode) (tm:Tm) (ds:xP) (h:Heap) (n:Key),zh n (zi P call c tm ds h n)
 | .skip,_,_,_,_=>Nat.le_refl _
 | .region ops,tm,ds,h,n=>jk hcall ops [] tm ds h n
 | .dregion ops,tm,ds,h,n=>zHK hcall ops [] [] tm ds h n
 | .seq a b,tm,ds,h,n=>qF (fun tm ds h n=>yg b tm ds h n) (yg a tm ds h n)
 | .cond x a b,tm,ds,h,n=>by
  exact zD6 (C:=fun k=>zh n (k tm ds h n)) _ (fun _=>yg a tm ds h n) (fun _=>yg b tm ds h n) trivial
 | .block id b,tm,ds,h,n=>vz id (yg b tm ds h n)
 | .loop b,tm,ds,h,n=>by
  show zh n (zAz uV (zi P call b) tm ds h n)
  have:∀ (fuel:Nat) (tm:Tm) (ds:xP) (h:Heap) (n:Key),zh n (zAz fuel (zi P call b) tm ds h n):=by
   intro fuel
   induction fuel with
   | zero=>intros; trivial
   | succ m ih=>intro tm ds h n; exact qF ih (yg b tm ds h n)
  exact this _ _ _ _ _
 | .exit _,_,_,_,_=>Nat.le_refl _
 | .ret,_,_,_,_=>Nat.le_refl _
 | .scope b,tm,ds,h,n=>yg b tm ds h n
 | .bad _,_,_,_,_=>trivial
end
def yw (P:Program) (F N:Nat) (ψ₀:Psi) (g₀:Fam) (n₀:Key) (w₀:World):R→Exit→Act→World→Prop
 | .ok cx tm ds h n,e,a,w=>zSU cx e∧∃ ψ,St P F N ψ tm ds h n a w∧z7 ψ₀ g₀ n₀ w₀ ψ (Heap.fam h) n w∧n.room
 | .fork r s,e,a,w=>yw P F N ψ₀ g₀ n₀ w₀ r e a w∨yw P F N ψ₀ g₀ n₀ w₀ s e a w
 | _,_,_,_=>False
section
variable {F N:Nat} {ψ₀ ψ₁:Psi} {g₀ g₁:Fam} {n₀ n₁:Key} {w₀ w₁:World}
theorem yw.trans (hp:z7 ψ₀ g₀ n₀ w₀ ψ₁ g₁ n₁ w₁) {e:Exit} {a:Act} {w:World}:∀ {r:R},yw P F N ψ₁ g₁ n₁ w₁ r e a w→yw P F N ψ₀ g₀ n₀ w₀ r e a w
 | .ok ..,⟨h1,ψ,h2,h3,h4⟩=>⟨h1,ψ,h2,hp.trans h3,h4⟩
 | .ret ..,h=>h
 | .err _,h=>h
 | .fork _ _,h=>h.imp (yw.trans hp) (yw.trans hp)
theorem jv {k:K} {e:Exit} {a:Act} {w:World}:∀ {r:R},zX (xz k r)→yw P F N ψ₀ g₀ n₀ w₀ r e a w →
 (e=.normal∧∃ tm ds h n ψ,St P F N ψ tm ds h n a w∧z7 ψ₀ g₀ n₀ w₀ ψ (Heap.fam h) n w∧zX (k tm ds h n) ∧
   ∀ e' a' w',yw P F N ψ₀ g₀ n₀ w₀ (k tm ds h n) e' a' w'→yw P F N ψ₀ g₀ n₀ w₀ (xz k r) e' a' w') ∨
 (e≠.normal∧yw P F N ψ₀ g₀ n₀ w₀ (xz k r) e a w)
 | .ok .normal tm ds h n,hc,⟨h1,ψ,h2,h3,h4⟩=>by
  cases e <;> first | exact h1.elim | skip
  exact .inl ⟨rfl,tm,ds,h,n,ψ,h2,h3,hc,fun e' a' w' ho=>ho⟩
 | .ok (.exit i) tm ds h n,hc,⟨h1,ψ,h2,h3,h4⟩=>.inr ⟨by rintro rfl; exact h1.elim,h1,ψ,h2,h3,h4⟩
 | .ok .ret tm ds h n,hc,⟨h1,ψ,h2,h3,h4⟩=>.inr ⟨by rintro rfl; exact h1.elim,h1,ψ,h2,h3,h4⟩
 | .ret ..,hc,_=>hc.elim
 | .err _,hc,_=>hc.elim
 | .fork r s,hc,ho=>by
  rcases ho with ho | ho
  · rcases jv hc.1 ho with ⟨h1,tm,ds,h,n,ψ,h2,h3,h4,h5⟩ | ⟨h1,h2⟩
    · exact .inl ⟨h1,tm,ds,h,n,ψ,h2,h3,h4,fun e' a' w' q=>.inl (h5 e' a' w' q)⟩
    · exact .inr ⟨h1,.inl h2⟩
  · rcases jv hc.2 ho with ⟨h1,tm,ds,h,n,ψ,h2,h3,h4,h5⟩ | ⟨h1,h2⟩
    · exact .inl ⟨h1,tm,ds,h,n,ψ,h2,h3,h4,fun e' a' w' q=>.inr (h5 e' a' w' q)⟩
    · exact .inr ⟨h1,.inr h2⟩
theorem uD {id:Nat} {e:Exit} {a:Act} {w:World} {Q:Exit→Act→World→Prop}:∀ {r:R},(∀ e a w,yw P F N ψ₀ g₀ n₀ w₀ (uI id r) e a w→Q e a w)→yw P F N ψ₀ g₀ n₀ w₀ r e a w→Exit.inBlock id Q e a w
 | .ok .normal tm ds h n,hq,⟨h1,ψ,h2,h3,h4⟩=>by
  cases e <;> first | exact h1.elim | skip
  exact hq .normal a w ⟨trivial,ψ,h2,h3,h4⟩
 | .ok (.exit i) tm ds h n,hq,⟨h1,ψ,h2,h3,h4⟩=>by
  cases e <;> first | exact h1.elim | skip
  rename_i j
  have h1:i=j:=h1
  subst h1
  rw [uY] at hq
  unfold Exit.inBlock
  simp only
  split
  · rename_i e
    rw [if_pos e] at hq
    exact hq .normal a w ⟨trivial,ψ,h2,h3,h4⟩
  · rename_i e
    rw [if_neg e] at hq
    exact hq (.exit i) a w ⟨rfl,ψ,h2,h3,h4⟩
 | .ok .ret tm ds h n,hq,⟨h1,ψ,h2,h3,h4⟩=>by
  cases e <;> first | exact h1.elim | skip
  exact hq .ret a w ⟨trivial,ψ,h2,h3,h4⟩
 | .ret ..,_,ho=>ho.elim
 | .err _,_,ho=>ho.elim
 | .fork r s,hq,ho=>by
  rcases ho with ho | ho
  · exact uD (fun e a w h=>hq e a w (.inl h)) ho
  · exact uD (fun e a w h=>hq e a w (.inr h)) ho
theorem zAH {Q:Exit→Act→World→Prop} {e:Exit} {a:Act} {w:World}:∀ {r:R},(yw P F N ψ₀ g₀ n₀ w₀ r e a w→Q e a w)→yw P F N ψ₀ g₀ n₀ w₀ r e a w→Exit.noGoto Q e a w
 | .ok cx tm ds h n,hq,ho=>by
  cases e <;> first | exact hq ho | (cases cx <;> exact ho.1.elim)
 | .ret ..,_,ho=>ho.elim
 | .err _,_,ho=>ho.elim
 | .fork r s,hq,ho=>by
  rcases ho with ho | ho
  · exact zAH (fun h=>hq (.inl h)) ho
  · exact zAH (fun h=>hq (.inr h)) ho
end
theorem zIz (call:yT) (b:CCode):zi P call (.loop b)=zAz uV (zi P call b):=rfl
theorem zFS (F N:Nat) (b:Code):zR P F N (.loop b)=.loop (zR P F N b):=rfl
def uH (P:Program) (c:Code) (Q:Exit→Act→World→Prop) (a:Act) (w:World):Prop:=
 ∀ (b:Frame) (k:List Item) (cs:List Frame),∃ e a' w',Q e a' w'∧Arrives P (lone (b.at a (.code c::.inLoop c::k)) cs w) b k cs e a' w'
theorem zG1 {c:Code} {Q:Exit→Act→World→Prop} {a:Act} {w:World} (h:c.wp P (Exit.then (uH P c Q) Q) a w):uH P c Q a w:=by
 intro b k cs
 obtain ⟨e,a₁,w₁,hq,harr⟩:=h b (.inLoop c::k) cs
 cases e with
 | normal=>
  obtain ⟨e₂,a₂,w₂,hq₂,harr₂⟩:=hq b k cs
  exact ⟨e₂,a₂,w₂,hq₂,.of_steps (Steps.trans harr (.one step_inLoop)) harr₂⟩
 | exit id=>exact ⟨_,a₁,w₁,hq,.pass (x:=.inLoop c) rfl (fun _ _=>.inl (by simp)) harr⟩
 | goto l=>exact ⟨_,a₁,w₁,hq,.pass (x:=.inLoop c) rfl (fun _ _=>.inl (by simp)) harr⟩
 | ret=>exact ⟨_,a₁,w₁,hq,.pass (x:=.inLoop c) rfl (fun _ _=>.inl (by simp)) harr⟩
 | panic ch=>exact ⟨_,a₁,w₁,hq,.pass (x:=.inLoop c) rfl (fun _ _=>.inl (by simp)) harr⟩
 | outgrown=>exact ⟨_,a₁,w₁,hq,.pass (x:=.inLoop c) rfl (fun _ _=>.inl (by simp)) harr⟩
theorem zEU {c:Code} {Q:Exit→Act→World→Prop} {a:Act} {w:World} (h:uH P c Q a w):(Code.loop c).wp P Q a w:=by
 intro b k cs
 obtain ⟨e,a',w',hq,harr⟩:=h b k cs
 exact ⟨e,a',w',hq,.of_steps (.one step_loop) harr⟩
def j6 (P:Program) (F N:Nat) (call:yT):Prop:=∀ (id:Nat) (ops:Array Oper) (ψ:Psi) (tm:Tm) (ds:xP) (h:Heap) (n:Key) (a:Act) (w:World),zE5 ops.toList=true →
 St P F N ψ tm ds h n a w→zX (zi P call (zHG P F N ops.toList) tm ds h n) →
 (Code.region id ops true).wp P (yw P F N ψ (Heap.fam h) n w (zi P call (zHG P F N ops.toList) tm ds h n)) a w
theorem zJm (l:List Oper) (h:zE5 l=true):∀ o∈l,zCV o.op=false:=by
 induction l with
 | nil=>intro o ho; cases ho
 | cons x l ih=>
  intro o ho
  unfold zE5 at h
  rw [Bool.and_eq_true] at h
  rcases List.mem_cons.1 ho with rfl | ho
  · have:=h.1
    cases hr:zCV o.op with
    | false=>rfl
    | true=>rw [hr] at this; cases this
  · exact ih h.2 o ho
theorem vL {F N:Nat} {call:yT} (hcall:yW P call) (hdraw:j6 P F N call):∀ (c:Code) {ψ:Psi} {tm:Tm} {ds:xP} {h:Heap} {n:Key} {a:Act} {w:World},
 yH c=true→St P F N ψ tm ds h n a w→zX (zi P call (zR P F N c) tm ds h n)→c.wp P (yw P F N ψ (Heap.fam h) n w (zi P call (zR P F N c) tm ds h n)) a w:=by
 intro c
 induction c with
 | skip=>intro ψ tm ds h n a w _ hst hc; exact wp_skip ⟨trivial,ψ,hst,z7.refl hst.rel,hc⟩
 | label l=>intro ψ tm ds h n a w _ hst hc; exact wp_label ⟨trivial,ψ,hst,z7.refl hst.rel,hc⟩
 | region id ops dr=>
  intro ψ tm ds h n a w hnr hst hc
  cases dr with
  | true=>exact hdraw id ops ψ tm ds h n a w hnr hst hc
  | false=>
   refine wp_region ?_
   have hc':zX (ya P call (qq P F N ops.toList [] ops.toList) [] tm ds h n):=hc
   have:=zH8 (F:=F) (N:=N) hcall (zLa (P:=P) ops (yw P F N ψ (Heap.fam h) n w (ya P call (qq P F N ops.toList [] ops.toList) [] tm ds h n)))
    ops.toList 0 rfl (fun o ho hr=>by rw [zJm _ hnr o ho] at hr; cases hr) hst (dl:=[]) (es:=[]) (fun t i hi=>by cases hi) hc'
    (fun tm' ds' h' n' ψ' a' w' g1 g2 g3 g4=>g4 (fun r=>yw P F N ψ (Heap.fam h) n w r .normal a' w') (fun _ _ h=>.inl h) (fun _ _ h=>.inr h) ⟨trivial,ψ',g1,g2,g3⟩)
   rw [Array.length_toList] at this
   rw [List.range_eq_range']
   exact this
 | seq x y ihx ihy=>
  intro ψ tm ds h n a w hnr hst hc
  have hnr:yH x=true∧yH y=true:=by simpa [yH] using hnr
  have hc:zX (xz (zi P call (zR P F N y)) (zi P call (zR P F N x) tm ds h n)):=hc
  have hab:=fun tm ds h n=>yg (P:=P) hcall.above (zR P F N y) tm ds h n
  refine wp_seq (wp_mono (ihx hnr.1 hst (xW hab hc)) fun e a' w' ho=>?_)
  rcases jv hc ho with ⟨rfl,tm',ds',h',n',ψ',h2,h3,h4,h5⟩ | ⟨h1,h2⟩
  · exact wp_mono (ihy hnr.2 h2 h4) fun e'' a'' w'' ho'=>h5 e'' a'' w'' (yw.trans h3 ho')
  · cases e <;> first | exact absurd rfl h1 | exact h2
 | cond x p q ihp ihq=>
  intro ψ tm ds h n a w hnr hst hc
  have hnr:yH p=true∧yH q=true:=by simpa [yH] using hnr
  unfold zR at hc ⊢
  cases hx:zf P ⟨F,N,[]⟩ x with
  | none=>simp only [hx] at hc; exact hc.elim
  | some cx=>
   simp only [hx] at hc ⊢
   have hv:=zH7 hst (dl:=[]) (es:=[]) (fun t i hi=>by cases hi) [x] x (by simp) cx hx
   have hc:zX (zFX (zi P call (zR P F N p)) (zi P call (zR P F N q)) (aV [] tm cx) tm ds h n):=hc
   show (Code.cond x p q).wp P (yw P F N ψ (Heap.fam h) n w (zFX (zi P call (zR P F N p)) (zi P call (zR P F N q)) (aV [] tm cx) tm ds h n)) a w
   revert hc
   refine zD6 (C:=fun k=>zX (k tm ds h n)→(Code.cond x p q).wp P (yw P F N ψ (Heap.fam h) n w (k tm ds h n)) a w) _ (fun e hc=>?_) (fun e hc=>?_) (fun hc=>hc.elim)
   · rw [e] at hv
     exact wp_cond_true (zH.1 hv) (ihp hnr.1 hst hc)
   · rw [e] at hv
     exact wp_cond_false (zH.1 hv) (ihq hnr.2 hst hc)
 | block id b ih=>
  intro ψ tm ds h n a w hnr hst hc
  have hc:zX (uI id (zi P call (zR P F N b) tm ds h n)):=hc
  refine wp_block (wp_mono (ih hnr hst (jU id hc)) fun e a' w' ho=>?_)
  exact uD (fun _ _ _ h=>h) ho
 | loop b ih=>
  intro ψ tm ds h n a w hnr hst hc
  rw [zFS,zIz] at hc ⊢
  have main:∀ (fuel:Nat) {ψ:Psi} {tm:Tm} {ds:xP} {h:Heap} {n:Key} {a:Act} {w:World},St P F N ψ tm ds h n a w→zX (zAz fuel (zi P call (zR P F N b)) tm ds h n) →
   uH P b (yw P F N ψ (Heap.fam h) n w (zAz fuel (zi P call (zR P F N b)) tm ds h n)) a w:=by
   intro fuel
   induction fuel with
   | zero=>intro ψ tm ds h n a w _ hc; exact hc.elim
   | succ m ihm=>
    intro ψ tm ds h n a w hst hc
    have hc:zX (xz (zAz m (zi P call (zR P F N b))) (zi P call (zR P F N b) tm ds h n)):=hc
    have hab:∀ tm ds h n,zh n (zAz m (zi P call (zR P F N b)) tm ds h n):=by
     have:∀ (fuel:Nat) (tm:Tm) (ds:xP) (h:Heap) (n:Key),zh n (zAz fuel (zi P call (zR P F N b)) tm ds h n):=by
      intro fuel
      induction fuel with
      | zero=>intros; trivial
      | succ m ih=>intro tm ds h n; exact qF ih (yg hcall.above _ tm ds h n)
     exact this m
    refine zG1 (wp_mono (ih hnr hst (xW hab hc)) fun e a' w' ho=>?_)
    rcases jv hc ho with ⟨rfl,tm',ds',h',n',ψ',h2,h3,h4,h5⟩ | ⟨h1,h2⟩
    · intro b' k cs
      obtain ⟨e,a'',w'',hq,harr⟩:=ihm h2 h4 b' k cs
      exact ⟨e,a'',w'',h5 e a'' w'' (yw.trans h3 hq),harr⟩
    · cases e <;> first | exact absurd rfl h1 | exact h2
  exact zEU (main uV hst hc)
 | exit id=>intro ψ tm ds h n a w _ hst hc; exact wp_exit ⟨rfl,ψ,hst,z7.refl hst.rel,hc⟩
 | ret=>intro ψ tm ds h n a w _ hst hc; exact wp_ret ⟨trivial,ψ,hst,z7.refl hst.rel,hc⟩
 | scope b ih=>
  intro ψ tm ds h n a w hnr hst hc
  exact wp_scope_straight (wp_mono (ih hnr hst hc) fun e a' w' ho=>zAH (fun h=>h) ho)
 | _=>intro ψ tm ds h n a w _ hst hc; exact hc.elim
end
end Go.Ev
namespace Go.Ev
variable [Sym]
noncomputable section
variable {P:Program}
variable [SymFact P]
theorem ua {F N:Nat} {ψ:Psi} {tm:Tm} {a:Act} {t:Nat} {x:zP} (hf:xH ψ F N tm a) (hx:zf P ⟨F,N,[]⟩ (.tmp t)=some x):zG ψ (aV [] tm x) (a.tmps.getD t undef):=by
 unfold zf xB at hx
 simp only at hx
 split at hx
 · rename_i hb
   injection hx with hx; subst hx
   rw [Bool.and_eq_true,Bool.and_eq_true] at hb
   exact hf.tmp t hb.1.1 (zJ hb.1.2) (zJ hb.2)
 · cases hx
theorem zDa {ψ:Psi} {h:Heap} {w:World} (hrel:qN ψ (Heap.fam h) w) {b:Key} {p:Pl} {vs:List CV} (hp:ψ b=some p) (hv:zAi h b=some vs):uh ψ w p vs:=by
 unfold zAi at hv
 split at hv
 · rename_i q hq; injection hv with hv; subst hv; exact yN.toRo (hrel b _ p hq hp)
 · rename_i q hq; injection hv with hv; subst hv; exact hrel b _ p hq hp
 · cases hv
def zIs (tmps:Array Value):ResultVar→Sem Value
 | .tmp t=>pure (tmps.getD t undef)
 | .cell a t=>do loadVar t (← asAddr (tmps.getD a undef))
theorem zQc {F N:Nat} {ψ:Psi} {tm:Tm} {a:Act} {h:Heap} {w:World} (hf:xH ψ F N tm a) (hrel:qN ψ (Heap.fam h) w) {r:ResultVar} {c:CRes} {v:CV} (hc:xO P F N r=some c)
 (hv:zOG h tm c=some v):∃ x,(zIs a.tmps r).run P w=.ok x w∧zG ψ v x:=by
 unfold xO at hc
 split at hc
 · rename_i t
   cases hx:zf P ⟨F,N,[]⟩ (.tmp t) with
   | none=>rw [hx] at hc; cases hc
   | some x=>
    rw [hx] at hc
    injection hc with hc; subst hc
    injection hv with hv; subst hv
    exact ⟨_,rfl,ua hf hx⟩
 · rename_i t ty
   split at hc
   · rename_i s x ha hs hx
     injection hc with hc; subst hc
     have hr:=ua hf hx
     unfold zOG at hv
     simp only at hv
     split at hv
     · rename_i b off he
       rw [he,zl] at hr
       obtain ⟨p,hp,hr⟩:=hr
       split at hv
       · rename_i cs hcs
         have hcells:=zDa hrel hp hcs
         cases hl:uS cs off s with
         | none=>rw [hl] at hv; cases hv
         | some l=>
          rw [hl] at hv
          injection hv with hv; subst hv
          obtain ⟨xs,hrun,hxs⟩:=xT (P:=P) hcells hl
          exact ⟨.agg xs.toArray,by simp only [zIs,hr,asAddr,Sem.run_bind,Sem.run_pure,Result.andThen_ok,loadVar,qc ha,if_true,yQ hs,hrun],yc.2 ⟨_,rfl,by simpa using hxs⟩⟩
       · cases hv
     · cases hv
   · rename_i s x ha hs hx
     injection hc with hc; subst hc
     have hr:=ua hf hx
     unfold zOG at hv
     simp only at hv
     split at hv
     · rename_i b off he
       rw [he,zl] at hr
       obtain ⟨p,hp,hr⟩:=hr
       split at hv
       · rename_i cs hcs
         have hcells:=zDa hrel hp hcs
         rw [jT] at hv
         obtain ⟨y,hrun,hy⟩:=u5 (P:=P) hcells hv
         exact ⟨y,by simp only [zIs,hr,asAddr,Sem.run_bind,Sem.run_pure,Result.andThen_ok,loadVar,qc ha,Bool.false_eq_true,if_false,hrun],hy⟩
       · cases hv
     · cases hv
   · cases hc
theorem zEx {F N:Nat} {ψ:Psi} {tm:Tm} {a:Act} {h:Heap} {w:World} (hf:xH ψ F N tm a) (hrel:qN ψ (Heap.fam h) w):∀ {l:List ResultVar} {cs:List CRes} {vs:List CV},
 yu (xO P F N) l=some cs→zBZ h tm cs=some vs→∃ xs,(l.mapM (zIs a.tmps)).run P w=.ok xs w∧zS ψ vs xs
 | [],cs,vs,hc,hv=>by
  injection hc with hc; subst hc
  injection hv with hv; subst hv
  exact ⟨[],rfl,zM.2 rfl⟩
 | r::l,cs,vs,hc,hv=>by
  unfold yu at hc
  cases h1:xO P F N r with
  | none=>rw [h1] at hc; cases hc
  | some c=>
   simp only [h1] at hc
   cases h2:yu (xO P F N) l with
   | none=>rw [h2] at hc; cases hc
   | some cs'=>
    simp only [h2] at hc
    injection hc with hc; subst hc
    unfold zBZ at hv
    cases h3:zOG h tm c with
    | none=>rw [h3] at hv; cases hv
    | some v=>
     simp only [h3] at hv
     cases h4:zBZ h tm cs' with
     | none=>rw [h4] at hv; cases hv
     | some vs'=>
      simp only [h4] at hv
      injection hv with hv; subst hv
      obtain ⟨x,g1,g2⟩:=zQc hf hrel h1 h3
      obtain ⟨xs,g3,g4⟩:=zEx hf hrel h2 h4
      exact ⟨x::xs,by simp only [List.mapM_cons,Sem.run_bind,g1,Result.andThen_ok,g3,Sem.run_pure],zT.2 ⟨g2,g4⟩⟩
theorem zCT {F N:Nat} {ψ:Psi} {tm:Tm} {a:Act} {h:Heap} {w:World} {fn:Func} (hf:xH ψ F N tm a) (hrel:qN ψ (Heap.fam h) w) {cs:List CRes} {v:CV}
 (hc:yu (xO P F N) fn.results.toList=some cs) (hv:zB2 h tm cs=some v):∃ x,(results fn a.tmps).run P w=.ok x w∧zG ψ v x:=by
 have hm:∀ {xs:List Value},(fn.results.toList.mapM (zIs a.tmps)).run P w=.ok xs w→(fn.results.mapM (zIs a.tmps)).run P w=.ok xs.toArray w:=by
  intro xs hx
  rw [Array.mapM_eq_mapM_toList,Sem.run_map,hx]; rfl
 have hres:(results fn a.tmps).run P w=((fn.results.mapM (zIs a.tmps)).run P w).andThen fun vs w=>.ok (if h:vs.size=1 then vs[0] else .tuple vs) w:=by
  have:results fn a.tmps=(fn.results.mapM (zIs a.tmps) >>= fun vs=>pure (if h:vs.size=1 then vs[0] else .tuple vs)):=by
   unfold results
   congr 1
  rw [this,Sem.run_bind]; rfl
 unfold zB2 at hv
 split at hv
 · rename_i u hl
   injection hv with hv; subst hv
   obtain ⟨xs,h1,h2⟩:=zEx hf hrel hc hl
   obtain ⟨x,r,rfl,h3,h4⟩:=zY.1 h2
   rw [zM] at h4; subst h4
   exact ⟨x,by rw [hres,hm h1,Result.andThen_ok]; rfl,h3⟩
 · rename_i vs hne hl
   injection hv with hv; subst hv
   obtain ⟨xs,h1,h2⟩:=zEx hf hrel hc hl
   refine ⟨.tuple xs.toArray,?_,yM.2 ⟨_,rfl,h2⟩⟩
   rw [hres,hm h1,Result.andThen_ok]
   have:¬ (xs.toArray.size=1):=by
    intro h
    have hl:=h2.length
    have:vs.length=1:=by simp at h; omega
    match vs,this with
    | [u],_=>exact hne u rfl
   rw [dif_neg this]
 · cases hv
theorem zJG {i j:Nat} (hi:i≤271) (hj:j≤271) (h:i≠j):Loc.ofNat i≠Loc.ofNat j:=fun e=>h (Loc.ofNat_inj hi hj e)
theorem zF2 {ψ:Psi}:∀ (args:List CV) (as:List Value) (i:Nat) (tm:Tm) (t:Nat) (v:Value),zS ψ args as→t≤271→(t<i∨i+as.length≤t→zG ψ (qf (Loc.ofNat t) tm) v)→(∀ u,i≤t→as[t - i]? = some u→u=v) →
 (i≤t→qf (Loc.ofNat t) tm=.any)→zG ψ (qf (Loc.ofNat t) (qJ args i tm)) v
 | [],as,i,tm,t,v,ha,ht,h1,h2,h3=>by
  rw [zM] at ha; subst ha
  show zG ψ (qf (Loc.ofNat t) tm) v
  rcases Nat.lt_or_ge t i with h | h
  · exact h1 (.inl h)
  · exact h1 (.inr (by simpa using h))
 | c::args,as,i,tm,t,v,ha,ht,h1,h2,h3=>by
  obtain ⟨x,r,rfl,hx,hr⟩:=zY.1 ha
  unfold qJ
  split
  · rename_i hle
    have hle:=zJ hle
    refine zF2 args r (i+1) (k8 c (Loc.ofNat i) tm) t v hr ht (fun h=>?_) (fun u hu hg=>?_) (fun hu=>?_)
    · by_cases e:t=i
      · subst e
        rw [jb]
        have:x=v:=h2 x (Nat.le_refl _) (by simp)
        rw [← this]; exact hx
      · rw [xQ _ _ _ _ (zJG ht hle e)]
        refine h1 ?_
        rcases h with h | h
        · exact .inl (by omega)
        · exact .inr (by simp; omega)
    · refine h2 u (by omega) ?_
      have:t - i=(t - (i+1))+1:=by omega
      rw [this]; simpa using hg
    · rw [xQ _ _ _ _ (zJG ht hle (by omega))]
      exact h3 (by omega)
  · rename_i hle
    have hlt:¬ i≤271:=fun h=>by rw [Nat.ble_eq_true_of_le h] at hle; cases hle
    exact h1 (.inl (by omega))
theorem zN8 {ψ:Psi} {F N:Nat} {args:List CV} {as:Array Value} (ha:zS ψ args as.toList):xH ψ F N (qJ args 0 .nil) { tmps:=as++Array.replicate (N - as.size) undef,defers:=[] }:=by
 refine ⟨by simp; omega,fun t _ ht hN=>?_⟩
 refine zF2 args as.toList 0 .nil t _ ha ht (fun _=>by rw [zD2]; exact qK) (fun u _ hu=>?_) (fun _=>zD2 _)
 simp only [Nat.sub_zero,Array.getElem?_toList] at hu
 have hlt:t<as.size:=by
  rcases Nat.lt_or_ge t as.size with h | h
  · exact h
  · rw [Array.getElem?_eq_none h] at hu; cases hu
 rw [Array.getD_eq_getD_getElem?,Array.getElem?_append_left hlt,hu]; rfl
theorem zAY {rs:List CRes} {tm:Tm} {h:Heap} {n:Key}:zh n (zCy rs tm h n):=by
 unfold zCy; split
 · exact Nat.le_refl _
 · trivial
theorem zBt {call:yT} {k:Heap→Key→R} {f:FuncId} {args:List CV} {r:xP} {h:Heap} {n:Key} :
 wa call k ((f,args)::r) h n=qr (fun _ h n=>wa call k r h n) (call true f args h n):=rfl
theorem w6 {call:yT} (hcall:ym call) {k:Heap→Key→R} (hk:∀ h n,zh n (k h n)):∀ (ds:xP) (h:Heap) (n:Key),zh n (wa call k ds h n)
 | [],h,n=>hk h n
 | (f,args)::r,h,n=>by
  rw [zBt]
  exact qi (fun _ h n=>w6 hcall hk r h n) (hcall _ _ _ _ _)
theorem wb {call:yT} (hcall:ym call) (d:Bool) (rs:List CRes) (tm:Tm) (ds:xP) (h:Heap) (n:Key):zh n (ja d call rs tm ds h n):=by
 unfold ja
 split
 · exact zAY
 · split
   · exact w6 hcall (fun _ _=>zAY) _ _ _
   · trivial
theorem j4 {call:yT} (hcall:ym call) {n:Key} (d:Bool) (rs:List CRes):∀ {r:R},zh n r→zh n (ye d call rs r)
 | .ok .normal tm ds h n',ha=>zh.le ha (wb hcall d rs tm ds h n')
 | .ok (.exit _) ..,_=>trivial
 | .ok .ret tm ds h n',ha=>zh.le ha (wb hcall d rs tm ds h n')
 | .ret ..,_=>trivial
 | .err _,_=>trivial
 | .fork _ _,h=>⟨j4 hcall d rs h.1,j4 hcall d rs h.2⟩
theorem xL {call:yT} (hcall:ym call) (d:Bool) (rs:List CRes):∀ {r:R},zX (ye d call rs r)→zX r
 | .ok .normal tm ds h n',hc=>vo hc (wb hcall d rs tm ds h n')
 | .ok (.exit _) ..,hc=>hc.elim
 | .ok .ret tm ds h n',hc=>vo hc (wb hcall d rs tm ds h n')
 | .ret ..,hc=>hc.elim
 | .err _,hc=>hc.elim
 | .fork _ _,h=>⟨xL hcall d rs h.1,xL hcall d rs h.2⟩
section
variable {F N:Nat} {call:yT} {fn:Func} {ψ₀:Psi} {g₀:Fam} {n₀:Key} {w₀:World}
theorem zn.trans {ψ₁:Psi} {g₁:Fam} {n₁:Key} {w₁:World} (hp:z7 ψ₀ g₀ n₀ w₀ ψ₁ g₁ n₁ w₁) {v:Value} {w:World}:∀ {r:R},zn ψ₁ g₁ n₁ w₁ r v w→zn ψ₀ g₀ n₀ w₀ r v w
 | .ok ..,h=>h
 | .ret ..,⟨ψ,h1,h2⟩=>⟨ψ,hp.trans h1,h2⟩
 | .err _,h=>h
 | .fork _ _,h=>h.imp (zn.trans hp) (zn.trans hp)
theorem uj {k:CV→Heap→Key→R} {v:Value} {w:World} {Z:Prop}:∀ {r:R},zX (qr k r)→zn ψ₀ g₀ n₀ w₀ r v w →
 (∀ cv h n ψ,z7 ψ₀ g₀ n₀ w₀ ψ (Heap.fam h) n w→zG ψ cv v→zX (k cv h n)→(∀ u w',zn ψ₀ g₀ n₀ w₀ (k cv h n) u w'→zn ψ₀ g₀ n₀ w₀ (qr k r) u w')→Z)→Z
 | .ok ..,_,h,_=>h.elim
 | .err _,_,h,_=>h.elim
 | .ret cv h n,hc,⟨ψ,h1,h2⟩,hz=>hz cv h n ψ h1 h2 hc fun _ _ h=>h
 | .fork r s,hc,h,hz=>by
  rcases h with h | h
  · exact uj hc.1 h fun cv h n ψ a b c d=>hz cv h n ψ a b c fun u w' q=>.inl (d u w' q)
  · exact uj hc.2 h fun cv h n ψ a b c d=>hz cv h n ψ a b c fun u w' q=>.inr (d u w' q)
theorem jS {tmps:Array Value} {R R':Ending→World→Prop} (hR:∀ e w,R e w→R' e w):∀ (ds:List Deferred) (u:FrameMode) (w:World),Leaves P fn tmps R ds u w→Leaves P fn tmps R' ds u w
 | [],.returning,w,⟨v,h1,h2⟩=>⟨v,h1,hR _ _ h2⟩
 | [],.panicking _,w,h=>hR _ _ h
 | [],.run,w,h=>h
 | d::ds,u,w,⟨h0,fv,cap,f,args,h1,h2,h3⟩=>⟨h0,fv,cap,f,args,h1,h2,CallsD.mono h3 fun e u' w' he=>by
  cases e with
  | returned v=>exact jS hR ds _ _ he
  | panicked c=>exact jS hR ds _ _ he
  | outgrown=>exact hR _ _ he⟩
theorem zC1 (hcall:yW P call) {rs:List CRes} {tm:Tm} (hrs:yu (xO P F N) fn.results.toList=some rs):∀ (ds:xP) {ψ:Psi} {h:Heap} {n:Key} {a:Act} {w:World} {l:List Deferred},
 xH ψ F N tm a→j9 P ψ ds l→Rel ψ (Heap.fam h) w→wS P ψ→qR ψ n→zX (wa call (fun h n=>zCy rs tm h n) ds h n) →
 Leaves P fn a.tmps (fun e w'=>∃ v,e=.returned v∧zn ψ (Heap.fam h) n w (wa call (fun h n=>zCy rs tm h n) ds h n) v w') l .returning w
 | [],ψ,h,n,a,w,l,hf,hd,hrel,hg,hfr,hc=>by
  unfold j9 at hd; subst hd
  have hc:zX (zCy rs tm h n):=hc
  show ∃ v,(results fn a.tmps).run P w=.ok v w∧∃ v',Ending.returned v=.returned v'∧zn ψ (Heap.fam h) n w (zCy rs tm h n) v' w
  unfold zCy at hc ⊢
  cases hv:zB2 h tm rs with
  | none=>rw [hv] at hc; exact hc.elim
  | some v=>
   obtain ⟨x,h1,h2⟩:=zCT hf hrel.on hrs hv
   exact ⟨x,h1,x,rfl,ψ,z7.refl hrel,h2⟩
 | (f,args)::r,ψ,h,n,a,w,l,hf,hd,hrel,hg,hfr,hc=>by
  obtain ⟨d,l',rfl,⟨fv,cap,args',e1,e2,e3⟩,hd'⟩:=hd
  rw [zBt] at hc ⊢
  have hcl:=qh (fun _ h n=>w6 hcall.above (fun _ _=>zAY) r h n) hc
  obtain ⟨h1,h2⟩:=hcall.defers f args h n ψ w args' e3 hg hrel hfr hcl
  refine ⟨by simp,fv,cap,f,args',e1,by rw [e2,h1],CallsD.mono h2 fun e u w' ⟨hu,v,he,v',hr⟩=>?_⟩
  subst hu he
  show Leaves P fn a.tmps _ l' (settle .returning) w'
  refine uj hc hr fun cv h' n' ψ' q1 q2 q3 q4=>?_
  have:=zC1 hcall hrs r (hf.mono q1.ext) (hd'.mono q1.ext) q1.rel (hg.mono q1.ext) (q1.fresh hfr) q3
  refine jS (fun e w'' ⟨v,he,hr⟩=>⟨v,he,q4 _ _ (zn.trans q1 hr)⟩) _ _ _ this
theorem zGi (hcall:yW P call) {rs:List CRes} (hrs:yu (xO P F N) fn.results.toList=some rs) {ψ:Psi} {tm:Tm} {ds:xP} {h:Heap} {n:Key} {a:Act} {w:World}
 (hst:St P F N ψ tm ds h n a w) (hc:zX (ja false call rs tm ds h n)) :
 Leaves P fn a.tmps (fun e w'=>∃ v,e=.returned v∧zn ψ (Heap.fam h) n w (ja false call rs tm ds h n) v w') a.defers .returning w:=by
 have e:ja false call rs tm ds h n=wa call (fun h n=>zCy rs tm h n) ds h n:=by cases ds <;> rfl
 rw [e] at hc ⊢
 exact zC1 hcall hrs ds hst.frame hst.dfr hst.rel hst.glob hst.fresh hc
theorem zFF {rs:List CRes} (hrs:yu (xO P F N) fn.results.toList=some rs) {ψ:Psi} {tm:Tm} {ds:xP} {h:Heap} {n:Key} {a:Act} {w:World}
 (hst:St P F N ψ tm ds h n a w) (hc:zX (ja true call rs tm ds h n)) :
 a.defers=[]∧∃ v,(results fn a.tmps).run P w=.ok v w∧zn ψ (Heap.fam h) n w (ja true call rs tm ds h n) v w:=by
 cases ds with
 | cons f ds=>exact hc.elim
 | nil=>
  have hd:=hst.dfr
  unfold j9 at hd
  refine ⟨hd,?_⟩
  have hc:zX (zCy rs tm h n):=hc
  show ∃ v,_∧zn ψ (Heap.fam h) n w (zCy rs tm h n) v w
  unfold zCy at hc ⊢
  cases hv:zB2 h tm rs with
  | none=>rw [hv] at hc; exact hc.elim
  | some v=>
   obtain ⟨x,h1,h2⟩:=zCT hst.frame hst.rel.on hrs hv
   exact ⟨x,h1,ψ,z7.refl hst.rel,h2⟩
theorem ky (d:Bool) (rs:List CRes) {e:Exit} {a:Act} {w:World} {Z:Prop}:∀ {r:R},zX (ye d call rs r)→yw P F N ψ₀ g₀ n₀ w₀ r e a w →
 (∀ tm ds h n ψ,(e=.normal∨e=.ret)→St P F N ψ tm ds h n a w→z7 ψ₀ g₀ n₀ w₀ ψ (Heap.fam h) n w→zX (ja d call rs tm ds h n) →
   (∀ u w',zn ψ₀ g₀ n₀ w₀ (ja d call rs tm ds h n) u w'→zn ψ₀ g₀ n₀ w₀ (ye d call rs r) u w')→Z)→Z
 | .ok .normal tm ds h n,hc,⟨h1,ψ,h2,h3,h4⟩,hz=>hz tm ds h n ψ (by cases e <;> first | exact .inl rfl | exact h1.elim) h2 h3 hc fun _ _ h=>h
 | .ok (.exit _) ..,hc,_,_=>hc.elim
 | .ok .ret tm ds h n,hc,⟨h1,ψ,h2,h3,h4⟩,hz=>hz tm ds h n ψ (by cases e <;> first | exact .inr rfl | exact h1.elim) h2 h3 hc fun _ _ h=>h
 | .ret ..,hc,_,_=>hc.elim
 | .err _,hc,_,_=>hc.elim
 | .fork r s,hc,ho,hz=>by
  rcases ho with ho | ho
  · exact ky d rs hc.1 ho fun tm ds h n ψ a b c d e=>hz tm ds h n ψ a b c d fun u w' q=>.inl (e u w' q)
  · exact ky d rs hc.2 ho fun tm ds h n ψ a b c d e=>hz tm ds h n ψ a b c d fun u w' q=>.inr (e u w' q)
end
end
end Go.Ev
namespace Go.Ev
variable [Sym]
noncomputable section
variable {P:Program}
variable [SymFact P]
structure NatsOk (P:Program) (nat:Nats):Prop where
 above:∀ f g,nat f=some g→∀ d args h n,zh n (g ‹Sym› d args h n)
 calls:∀ f g,nat f=some g→∀ args h n ψ w args',zS ψ args args'.toList→wS P ψ→Rel ψ (Heap.fam h) w→qR ψ n→zX (g ‹Sym› false args h n) →
  yr P f args' w (zn ψ (Heap.fam h) n w (g ‹Sym› false args h n))
 defers:∀ f g,nat f=some g→∀ args h n ψ w args',zS ψ args args'.toList→wS P ψ→Rel ψ (Heap.fam h) w→qR ψ n→zX (g ‹Sym› true args h n) →
  zER P f args' w fun w'=>∃ v,zn ψ (Heap.fam h) n w (g ‹Sym› true args h n) v w'
omit [Sym] [SymFact P] in
theorem run_callFunc_enter {f:FuncId} {fn:Func} {c:Code} (hf:P.funcs[f]? = some fn) (hn:(fn.name == "runtime.NumGoroutine")=false) (hb:fn.body=some c) (args:Array Value) (w:World) :
 (callFunc f args).run P w=.ok (.enter f args) w:=by
 have h1:fn.name ≠ "runtime.NumGoroutine":=by simpa using hn
 simp [callFunc,hf,h1,hb]
section
variable {call:yT} (hcall:yW P call) (hdraw:∀ F N,j6 P F N call)
include hcall
theorem zLl (e:Ext) (args:List CV) (h:Heap) (n:Key):zh n (zPE (zBH e args h n) h n):=by
 have:=zKg (h:=h) (n:=n) e args
 generalize zBH e args h n=r at this
 cases r <;> first | exact Nat.le_refl _ | exact this | trivial
theorem zJz (d:Bool) (fn:CFn) (args:List CV) (h:Heap) (n:Key):zh n (zAw P d call fn args h n):=by
 cases fn with
 | mk body res=>exact j4 hcall.above d res (yg hcall.above body _ _ h n)
 | mkD ops body res=>
  show zh n (match d with
   | true=>ye true call res (xz (zi P call body) (ya P call ops [] (qJ args 0 .nil) [] h n))
   | false=>.err 311)
  cases d with
  | true=>exact j4 hcall.above true res (qF (fun tm ds h n=>yg hcall.above body tm ds h n) (jk hcall.above ops [] _ _ h n))
  | false=>trivial
 | ext e=>
  show zh n (match d with
   | true=>.err 313
   | false=>zPE (zBH e args h n) h n)
  cases d with
  | true=>trivial
  | false=>exact zLl hcall e args h n
 | bad c=>trivial
include hdraw
theorem zCb {F N:Nat} {args:List CV} {args':Array Value} {h:Heap} {n:Key} {ψ:Psi} {w:World} (ha:zS ψ args args'.toList) (hg:wS P ψ) (hrel:Rel ψ (Heap.fam h) w) (hfr:qR ψ n) :
 St P F N ψ (qJ args 0 .nil) [] h n { tmps:=args'++Array.replicate (N - args'.size) undef,defers:=[] } w:=
 ⟨zN8 ha,rfl,hrel,hg,hfr⟩
theorem zDe {f:FuncId} {args:List CV} {args':Array Value} {h:Heap} {n:Key} {ψ:Psi} {w:World} (ha:zS ψ args args'.toList) (hg:wS P ψ) (hrel:Rel ψ (Heap.fam h) w) (hfr:qR ψ n)
 (hc:zX (zAw P false call (compFn P f) args h n)):yr P f args' w (zn ψ (Heap.fam h) n w (zAw P false call (compFn P f) args h n)):=by
 unfold compFn at hc ⊢
 rw [nth_eq] at hc ⊢
 cases hf:P.funcs.toList[f]? with
 | none=>simp only [hf] at hc; exact hc.elim
 | some fn=>
  have hf':P.funcs[f]? = some fn:=by simpa using hf
  simp only [hf] at hc ⊢
  cases hb:fn.body with
  | none=>
   simp only [hb] at hc ⊢
   cases he:zCa P fn with
   | none=>simp only [he] at hc; exact hc.elim
   | some e=>
    simp only [he] at hc ⊢
    obtain ⟨en,h1,h2,h3,h4⟩:=zFA he
    have hout:=zL7 (P:=P) (h:=h) (n:=n) (w:=w) he h1 ha
    have hrun:=run_callFunc_extern (P:=P) hf' h2 (by rw [hb]; rfl) h3 h4 args' w
    have hc:zX (zPE (zBH e args h n) h n):=hc
    show yr P f args' w (zn ψ (Heap.fam h) n w (zPE (zBH e args h n) h n))
    have hoa:=zKg (h:=h) (n:=n) e args
    generalize zBH e args h n=r at hout hc hoa
    unfold yr
    cases r <;> first | exact hout.elim | exact hc.elim | skip
    case val v=>
     obtain ⟨x,g1,g2⟩:=hout
     rw [hrun,g1]
     exact ⟨ψ,z7.refl hrel,g2⟩
    case eff v h' n'=>
     obtain ⟨w',x,ψ',g1,g2,g3⟩:=hout hrel (fun k hk _=>hfr k hk) hc
     rw [hrun,g1]
     exact ⟨ψ',g2,g3⟩
  | some c=>
   simp only [hb] at hc ⊢
   split at hc
   · exact hc.elim
   · rename_i hn
     have hn:(fn.name == "runtime.NumGoroutine")=false:=by simpa using hn
     rw [if_neg (by rw [hn]; simp)]
     unfold zA1 at hc ⊢
     cases hrs:yu (xO P (frameBits fn c) fn.ntmps) fn.results.toList with
     | none=>simp only [hrs] at hc; exact hc.elim
     | some rs=>
      simp only [hrs] at hc ⊢
      split at hc
      · rename_i hnr
        rw [if_pos hnr]
        unfold yr
        rw [run_callFunc_enter hf' hn hb]
        have hc:zX (ye false call rs (zi P call (zR P (frameBits fn c) fn.ntmps c) (qJ args 0 .nil) [] h n)):=hc
        show Calls P f args' w fun e w''=>∃ v,e=.returned v∧zn ψ (Heap.fam h) n w (ye false call rs (zi P call (zR P (frameBits fn c) fn.ntmps c) (qJ args 0 .nil) [] h n)) v w''
        refine calls_of_wp_defers hf' hb (wp_mono (vL hcall (hdraw _ _) c hnr (zCb hcall hdraw ha hg hrel hfr) (xL hcall.above false rs hc)) fun e a w' ho=>?_)
        refine ky false rs hc ho fun tm ds h' n' ψ' q1 q2 q3 q4 q5=>?_
        have hl:=zGi hcall hrs q2 q4
        have:Leaves P fn a.tmps (fun e w''=>∃ v,e=.returned v∧zn ψ (Heap.fam h) n w (ye false call rs (zi P call (zR P (frameBits fn c) fn.ntmps c) (qJ args 0 .nil) [] h n)) v w'') a.defers .returning w':=
         jS (fun e w'' ⟨v,he,hr⟩=>⟨v,he,q5 _ _ (zn.trans q3 hr)⟩) _ _ _ hl
        rcases q1 with rfl | rfl
        · exact this
        · exact this
      · rename_i hnr
        split at hc
        · split at hc <;> exact hc.elim
        · exact hc.elim
theorem zBw {f:FuncId} {args:List CV} {args':Array Value} {h:Heap} {n:Key} {ψ:Psi} {w:World} (ha:zS ψ args args'.toList) (hg:wS P ψ) (hrel:Rel ψ (Heap.fam h) w) (hfr:qR ψ n)
 (hc:zX (zAw P true call (compFn P f) args h n)):zER P f args' w fun w'=>∃ v,zn ψ (Heap.fam h) n w (zAw P true call (compFn P f) args h n) v w':=by
 unfold compFn at hc ⊢
 rw [nth_eq] at hc ⊢
 cases hf:P.funcs.toList[f]? with
 | none=>simp only [hf] at hc; exact hc.elim
 | some fn=>
  have hf':P.funcs[f]? = some fn:=by simpa using hf
  simp only [hf] at hc ⊢
  cases hb:fn.body with
  | none=>
   simp only [hb] at hc
   cases he:zCa P fn with
   | none=>simp only [he] at hc; exact hc.elim
   | some e=>simp only [he] at hc; exact hc.elim
  | some c=>
   simp only [hb] at hc ⊢
   split at hc
   · exact hc.elim
   · rename_i hn
     have hn:(fn.name == "runtime.NumGoroutine")=false:=by simpa using hn
     rw [if_neg (by rw [hn]; simp)]
     unfold zA1 at hc ⊢
     cases hrs:yu (xO P (frameBits fn c) fn.ntmps) fn.results.toList with
     | none=>simp only [hrs] at hc; exact hc.elim
     | some rs=>
      simp only [hrs] at hc ⊢
      refine ⟨run_callFunc_enter hf' hn hb _ _,?_⟩
      split at hc
      · rename_i hnr
        rw [if_pos hnr]
        have hc:zX (ye true call rs (zi P call (zR P (frameBits fn c) fn.ntmps c) (qJ args 0 .nil) [] h n)):=hc
        show CallsD P f args' .returning w fun e u w'=>u=.returning∧∃ v,e=.returned v∧∃ v,zn ψ (Heap.fam h) n w (ye true call rs (zi P call (zR P (frameBits fn c) fn.ntmps c) (qJ args 0 .nil) [] h n)) v w'
        refine callsD_of_wp hf' hb (wp_mono (vL hcall (hdraw _ _) c hnr (zCb hcall hdraw ha hg hrel hfr) (xL hcall.above true rs hc)) fun e a w' ho=>?_)
        refine ky true rs hc ho fun tm ds h' n' ψ' q1 q2 q3 q4 q5=>?_
        obtain ⟨g1,v,g2,g3⟩:=zFF (call:=call) hrs q2 q4
        rcases q1 with rfl | rfl
        · exact ⟨g1,v,g2,v,rfl,v,q5 _ _ (zn.trans q3 g3)⟩
        · exact ⟨g1,v,g2,v,rfl,v,q5 _ _ (zn.trans q3 g3)⟩
      · rename_i hnr
        rw [if_neg hnr]
        split at hc
        · rename_i c0 id ops r
          split at hc
          · rename_i hnr'
            rw [if_pos hnr']
            have hc:zX (ye true call rs (xz (zi P call (zR P (frameBits fn (.seq (.region id ops false) r)) fn.ntmps r))
             (ya P call (qq P (frameBits fn (.seq (.region id ops false) r)) fn.ntmps ops.toList [] ops.toList) [] (qJ args 0 .nil) [] h n))):=hc
            generalize hF:frameBits fn (.seq (.region id ops false) r)=F at hc hrs
            show CallsD P f args' .returning w fun e u w'=>u=.returning∧∃ v,e=.returned v∧∃ v,zn ψ (Heap.fam h) n w (ye true call rs (xz (zi P call (zR P F fn.ntmps r))
             (ya P call (qq P F fn.ntmps ops.toList [] ops.toList) [] (qJ args 0 .nil) [] h n))) v w'
            have hc1:=xL hcall.above true rs hc
            have hab:=fun tm ds h n=>yg (P:=P) hcall.above (zR P F fn.ntmps r) tm ds h n
            have hc2:=xW hab hc1
            refine callsD_of_wpS hf' hb fun c₀ cs hm=>wpS_seq (wpS_region ?_)
            have hrec:recoverD (c₀::cs)=none:=by unfold recoverD; simp [hm]
            have:=zH8 (F:=F) (N:=fn.ntmps) hcall (zFJ (P:=P) ops (Exit.thenS (r.wpS P (bodyPostS P fn c₀ cs fun e u w'=>u=.returning∧∃ v,e=.returned v∧∃ v,zn ψ (Heap.fam h) n w (ye true call rs (xz (zi P call (zR P F fn.ntmps r))
             (ya P call (qq P F fn.ntmps ops.toList [] ops.toList) [] (qJ args 0 .nil) [] h n))) v w'))
             (bodyPostS P fn c₀ cs fun e u w'=>u=.returning∧∃ v,e=.returned v∧∃ v,zn ψ (Heap.fam h) n w (ye true call rs (xz (zi P call (zR P F fn.ntmps r))
             (ya P call (qq P F fn.ntmps ops.toList [] ops.toList) [] (qJ args 0 .nil) [] h n))) v w')) hrec)
             ops.toList 0 rfl (fun _ _ _=>rfl) (zCb hcall hdraw (F:=F) (N:=fn.ntmps) ha hg hrel hfr) (dl:=[]) (es:=[]) (fun t i hi=>by cases hi) hc2
             (fun tm' ds' h' n' ψ' a' w' g1 g2 g3 g4=>by
               have k1:=g4 (fun r0=>zX (ye true call rs (xz (zi P call (zR P F fn.ntmps r)) r0))→zX (ye true call rs (zi P call (zR P F fn.ntmps r) tm' ds' h' n')))
                (fun x y hx hc=>hx hc.1) (fun x y hy hc=>hy hc.2) (fun h=>h) hc
               have k2:=g4 (fun r0=>∀ u w'',zn ψ (Heap.fam h) n w (ye true call rs (zi P call (zR P F fn.ntmps r) tm' ds' h' n')) u w'' →
                zn ψ (Heap.fam h) n w (ye true call rs (xz (zi P call (zR P F fn.ntmps r)) r0)) u w'')
                (fun x y hx u w'' q=>.inl (hx u w'' q)) (fun x y hy u w'' q=>.inr (hy u w'' q)) (fun u w'' q=>q)
               show r.wpS P _ a' (c₀::cs) w'
               refine wpS_of_wp (wp_mono (vL hcall (hdraw F fn.ntmps) r hnr' g1 (xL hcall.above true rs k1)) fun e a w'' ho=>?_)
               refine ky true rs k1 ho fun tm ds h'' n'' ψ'' q1 q2 q3 q4 q5=>?_
               obtain ⟨g1',v,g2',g3'⟩:=zFF (call:=call) hrs q2 q4
               have hfin:=k2 _ _ (zn.trans g2 (q5 _ _ (zn.trans q3 g3')))
               have hm':({ c₀ with mode:=.returning }:Frame)=c₀:=by rw [← hm]
               rcases q1 with rfl | rfl
               · exact ⟨g1',.returning,by rw [hm'],v,g2',rfl,v,rfl,v,hfin⟩
               · exact ⟨g1',.returning,by rw [hm'],v,g2',rfl,v,rfl,v,hfin⟩)
            rw [Array.length_toList] at this
            rw [List.range_eq_range']
            exact this
          · exact hc.elim
        · exact hc.elim
end
def CodeOk (P:Program) (code:FuncId→CFn):Prop:=∀ f,code f=compFn P f∨code f=zLM (compFn P f)∨∃ c,code f=.bad c
theorem zAx (hdraw:∀ (call:yT),yW P call→∀ F N,j6 P F N call) {code:FuncId→CFn} (hcode:CodeOk P code) {nat:Nats} (hnat:NatsOk P nat):∀ (fuel:Nat),yW P (ev P code nat fuel)
 | 0=>⟨fun _ _ _ _ _=>trivial,fun _ _ _ _ _ _ _ _ _ _ _ hc=>hc.elim,fun _ _ _ _ _ _ _ _ _ _ _ hc=>hc.elim⟩
 | fuel+1=>by
  have ih:=zAx hdraw hcode hnat fuel
  have hev:∀ d f args h n,ev P code nat (fuel+1) d f args h n=(match nat f with
   | none=>zAw P d (ev P code nat fuel) (code f) args h n
   | some g=>g ‹Sym› d args h n):=by
   intro d f args h n
   show Option.rec (motive:=fun _=>R) (zAw P d (ev P code nat fuel) (code f) args h n) (fun g=>g ‹Sym› d args h n) (nat f)=_
   cases nat f <;> rfl
  refine ⟨fun d f args h n=>?_,fun f args h n ψ w args' h1 h2 h3 h4 hc=>?_,fun f args h n ψ w args' h1 h2 h3 h4 hc=>?_⟩
  · rw [hev]
    split
    · exact zJz ih d _ args h n
    · rename_i g hg
      exact hnat.above f g hg d args h n
  · rw [hev] at hc ⊢
    split at hc
    · rename_i hn
      rcases hcode f with e | e | ⟨c,e⟩
      · rw [e] at hc ⊢
        exact zDe ih (hdraw _ ih) h1 h2 h3 h4 hc
      · rw [e,zHh] at hc ⊢
        exact zDe ih (hdraw _ ih) h1 h2 h3 h4 hc
      · rw [e] at hc; exact hc.elim
    · rename_i g hg
      exact hnat.calls f g hg args h n ψ w args' h1 h2 h3 h4 hc
  · rw [hev] at hc ⊢
    split at hc
    · rename_i hn
      rcases hcode f with e | e | ⟨c,e⟩
      · rw [e] at hc ⊢
        exact zBw ih (hdraw _ ih) h1 h2 h3 h4 hc
      · rw [e,zHh] at hc ⊢
        exact zBw ih (hdraw _ ih) h1 h2 h3 h4 hc
      · rw [e] at hc; exact hc.elim
    · rename_i g hg
      exact hnat.defers f g hg args h n ψ w args' h1 h2 h3 h4 hc
end
end Go.Ev
