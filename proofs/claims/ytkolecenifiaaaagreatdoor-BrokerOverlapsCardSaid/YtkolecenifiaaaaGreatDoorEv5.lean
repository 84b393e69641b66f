/- A verified evaluator for the model's code: EvU, EvV, EvW, EvX, EvY, EvZ, EvZa, EvZb, EvZc, EvZd. -/
import Derived.Test.YtkolecenifiaaaaGreatDoorEv4
import Derived.Laws.Externs
import Derived.KernelRfl
import Derived.Lib.Bytealg
import Derived.Recover
import Derived.Orders
import Derived.Scope
set_option linter.unusedSectionVars false
set_option linter.unusedVariables false
set_option linter.unusedSimpArgs false
namespace Go.Ev
variable[Sym]
open Go.MapKept
noncomputable section
variable{P:Program}{Y:Psi}{es:List CV}{tm:Tm}{h:zC}{n:Key}{U:Operand->Value}{E:Env}{ty:TypeId}{w:World}
variable[SymFact P]
theorem zV6{c:Call}{l:List Operand}(h:c.args.toList=l):c.args.map U=(l.map U).toArray:=by rw[zCv h]; simp
theorem zMv(c:Call)(b:Builtin)(hc:c.callee=.builtin b)(ha:yG P Y es tm E U c.args.toList) :
 zD P Y h n U (.call c) ty w (yX P (qa P E b c.argTypes.toList c.args.toList) es tm h n):=by
 have hrun:=λw=>zD5 (P:=P) (U:=U) (ty:=ty) hc w;generalize hts:c.argTypes.toList=ts;generalize has:c.args.toList=as at ha;have hts':=zCv hts;have has':=zV6 (U:=U) has;rw[has',hts']at hrun;cases b <;> try exact zA _
 case append=>
  match ts,as with
  |t::u::r,[s,x]=>exact zOa (λw=>by rw[hrun w]; rfl) ha|_::_::_,[]=>exact zA _|_::_::_,[_]=>exact zA _|_::_::_,_::_::_::_=>exact zA _| [],_=>exact zA _| [_],_=>exact zA _
 case copy=>
  match ts,as with
  |t::r,[s,x]=>exact zTe (λw=>by rw[hrun w]; rfl) ha|_::_,[]=>exact zA _|_::_,[_]=>exact zA _|_::_,_::_::_::_=>exact zA _| [],_=>exact zA _
 case len=>
  match ts,as with
  |t::r,[x]=>exact zVZ (λw=>by rw[hrun w]; rfl) ha|_::_,[]=>exact zA _|_::_,_::_::_=>exact zA _| [],_=>exact zA _
 case cap=>
  match ts,as with
  |t::r,[x]=>exact zVp (λw=>by rw[hrun w]; rfl) ha|_::_,[]=>exact zA _|_::_,_::_::_=>exact zA _| [],_=>exact zA _
 case delete=>
  match ts,as with
  |t::r,[m,k]=>exact zOF (λw=>by rw[hrun w]; rfl) ha|_::_,[]=>exact zA _|_::_,[_]=>exact zA _|_::_,_::_::_::_=>exact zA _| [],_=>exact zA _
 case clear=>
  match ts,as with
  |t::r,[x]=>exact zRf (λw=>by rw[hrun w]; rfl) ha|_::_,[]=>exact zA _|_::_,_::_::_=>exact zA _| [],_=>exact zA _
 case min=>
  match as with
  |x::r=>exact zGJ false (λw=>by rw[hrun w]; rfl) ha| []=>exact zA _
 case max=>
  match as with
  |x::r=>exact zGJ true (λw=>by rw[hrun w]; rfl) ha| []=>exact zA _
 case recover=>
  match as with
  | []=>exact⟨by unfold zEZ; simp[hc],by rw[hrun w]; rfl⟩|_::_=>exact zA _
def zRB(Y:Psi):zAj->Place->Prop
 |.val c,x=>∃v,x=.val v/\zG Y c v|.var b off,x=>∃p,Y b=some p/\x=.var ⟨p.blk,p.off+off,none⟩
theorem zNm{b:Key}{off:Nat}{p:Pl}(hp:Y b=some p):zRB Y (.var b off) (.var ⟨p.blk,p.off+off,none⟩):=⟨p,hp,rfl⟩
theorem zGi{c:CV}{v:Value}(hv:zG Y c v):zRB Y (.val c) (.val v):=⟨v,rfl,hv⟩
theorem zJR(hrel:jC Y (zC.fam h) w){t:TypeId}{b:Key}{off:Nat}{c:CV}{p:Pl}(hp:Y b=some p)(hc:zQK P h t b off=some c) :
 ∃v,(loadVar t ⟨p.blk,p.off+off,none⟩).run P w=.ok v w/\zG Y c v:=by
 unfold zQK at hc;split at hc
 . rename_i a s vs ha hs hv;have hcells:zBf Y w p vs:=by
    unfold zBQ at hv;split at hv
    . rename_i q hq; injection hv with hv; subst hv; exact yZ.toRo (hrel b _ p hq hp)
    . rename_i q hq; injection hv with hv; subst hv; exact hrel b _ p hq hp
    . cases hv
   unfold zQJ at hc;cases a with
   |true=>
    simp only at hc;cases hl:zAY vs off s with
    |none=>rw[hl]at hc; cases hc|some l=>rw[hl]at hc;injection hc with hc; subst hc;obtain⟨xs,hrun,hxs⟩:=qD (P:=P) hcells hl;exact⟨.agg xs.toArray,by simp[loadVar,jS ha,yl hs,hrun],yx.2 ⟨_,rfl,by simpa using hxs⟩⟩
   |false=>simp only[qp]at hc;obtain⟨y,hrun,hy⟩:=zBE (P:=P) hcells hc;exact⟨y,by simp only[loadVar,Sem.run_bind,jS ha,Result.andThen_ok,Bool.false_eq_true,if_false,hrun],hy⟩
 . cases hc
theorem zDd(hrel:jC Y (zC.fam h) w){t:TypeId}{x:zAj}{y:Place}{c:CV}(hx:zRB Y x y)(hc:x.get P h t=some c):∃v,(y.get t).run P w=.ok v w/\zG Y c v:=by
 cases x with
 |val d=>obtain⟨v,rfl,hv⟩:=hx;injection hc with hc; subst hc;exact⟨v,rfl,hv⟩
 |var b off=>obtain⟨p,hp,rfl⟩:=hx;exact zJR hrel hp hc
theorem zNY{s:FieldStep}{f:Field}(hs:zK5 P s=some f):∃fs,P.underlying s.struct=some (.struct fs)/\fs[s.index]? = some f/\∃k,qR P f.type=some (k+1):=by
 unfold zK5 und at hs;split at hs
 . rename_i fs ht;rw[nth_eq]at hs;split at hs
   . rename_i g hg;split at hs
     . rename_i k hk;injection hs with hs; subst hs;exact⟨fs,ht,by simpa using hg,k,hk⟩
     . cases hs
   . cases hs
 . cases hs
theorem vK(hrel:jC Y (zC.fam h) w):∀(l:List FieldStep) {t xt:TypeId} {x x':zAj} {y:Place},zRB Y x y->vu P h l t x=some (xt,x') ->
 ∃y',(follow l t y).run P w=.ok (xt,y') w/\zRB Y x' y'
 | [],t,xt,x,x',y,hx,hf=>by injection hf with hf; injection hf with h1 h2; subst h1 h2;exact⟨y,rfl,hx⟩
 |s::rest,t,xt,x,x',y,hx,hf=>by
  unfold vu at hf;cases hs:zK5 P s with
  |none=>rw[hs]at hf; cases hf|some f=>
   simp only[hs]at hf;obtain⟨fs,h1,h2,k,h3⟩:=zNY hs;split at hf
   . rename_i hd;split at hf
     . rename_i b off hg;obtain⟨v,hv,hr⟩:=zDd hrel hx hg;rw[zx]at hr;obtain⟨p,hp,rfl⟩:=hr;obtain⟨y',g1,g2⟩:=vK hrel rest (zNm hp) hf;refine⟨y',?_,g2⟩;rw[<- g1];simp[follow,run_underlying h1,h2,hd,hv,asAddr,fieldPlace,yl h3,xf,Nat.add_assoc]
     . cases hf
   . rename_i hd;split at hf
     . rename_i b off;obtain⟨p,hp,rfl⟩:=hx;obtain⟨y',g1,g2⟩:=vK hrel rest (zNm hp) hf;refine⟨y',?_,g2⟩;rw[<- g1];simp[follow,run_underlying h1,h2,hd,fieldPlace,yl h3,xf,Nat.add_assoc]
     . rename_i cs;obtain⟨v,rfl,hv⟩:=hx;rw[yx]at hv;obtain⟨vs,rfl,hv⟩:=hv;split at hf
       . rename_i a s' ha hs';split at hf
         . rename_i c hc;have hp:=zGo (P:=P) (off:=f.offset) ha hs' hv w
           have:∃u,(part f.type vs f.offset).run P w=.ok u w/\zG Y c u:=by
            unfold zQJ at hc;cases a with
            |true=>
             simp only at hc;cases hl:zAY cs f.offset s' with
             |none=>rw[hl]at hc; cases hc|some l=>rw[hl]at hc; injection hc with hc; subst hc; exact hp.2 rfl l hl
            |false=>exact hp.1 rfl c hc
           obtain⟨u,hu,hur⟩:=this;obtain⟨y',g1,g2⟩:=vK hrel rest (zGi hur) hf;refine⟨y',?_,g2⟩;rw[<- g1];simp[follow,run_underlying h1,h2,hd,hu]
         . cases hf
       . cases hf
     . cases hf
theorem zCW(hrel:jC Y (zC.fam h) w){xt:TypeId}{x:zAj}{y:Place}{pr:Bool}{c:CV}(wr:Option String)(hx:zRB Y x y)(hc:zBN P h xt x pr=some c) :
 ∃v,(receiverAt xt y pr wr).run P w=.ok v w/\zG Y c v:=by
 unfold zBN und at hc;split at hc
 . rename_i e ht;obtain⟨v,hv,hr⟩:=zDd hrel hx hc;exact⟨v,by simp[receiverAt,run_underlying ht,hv],hr⟩
 . rename_i e ht;split at hc
   . rename_i b off hg;obtain⟨v,hv,hr⟩:=zDd hrel hx hg;rw[zx]at hr;obtain⟨p,hp,rfl⟩:=hr;obtain⟨u,hu,hur⟩:=zJR hrel hp hc;refine⟨u,?_,hur⟩;cases wr with
     |none=>simp[receiverAt,run_underlying ht,hv,asAddr,hu]|some nm=>have hck:(Builtin.ssaWrapNilChk_ #[xt] xt #[.pointer (some ⟨p.blk,p.off+off,none⟩),strVal "",strVal nm]).run P w=.ok (.pointer (some ⟨p.blk,p.off+off,none⟩)) w:=rfl;simp only[receiverAt,Sem.run_bind,run_underlying ht,Result.andThen_ok,hv,hck,asAddr,Sem.run_pure,hu]
   . cases hc
 . rename_i D hD b off ht;injection hc with hc; subst hc;obtain⟨p,hp,rfl⟩:=hx;refine⟨_,?_,zx.2 ⟨p,hp,rfl⟩⟩;unfold receiverAt;simp only[Sem.run_bind,run_underlying ht,Result.andThen_ok];cases D <;> first |rfl |exact absurd rfl (hD _)
 . cases hc
 . rename_i D hD ht;obtain⟨v,hv,hr⟩:=zDd hrel hx hc;refine⟨v,?_,hr⟩;unfold receiverAt;simp only[Sem.run_bind,run_underlying ht,Result.andThen_ok];cases D <;> first |exact hv |exact absurd rfl (hD _) |(exact absurd (Eq.refl _) (hD _))
 . cases hc
end
end Go.Ev
namespace Go.Ev
variable[Sym]
open Go.MapKept
noncomputable section
variable{P:Program}{Y:Psi}{es:List CV}{tm:Tm}{h:zC}{n:Key}{U:Operand->Value}{E:Env}{ty:TypeId}{w:World}
variable[SymFact P]
theorem zLY(name:String):∀(l:List Method),zAp name l=l.find? (λm=>m.name == name)
 | []=>rfl|m::r=>by
  unfold zAp;rw[List.find?_cons,zLY name r];by_cases e:(m.name == name)=true
  . rw[if_pos e,e]
  . rw[if_neg e]
    have:(m.name == name)=false:=by simpa using e
    rw[this]
theorem zGv(hrel:jC Y (zC.fam h) w)(name:String):∀(d fuel:Nat) {t:TypeId} {v:CV} {x:Value} {f:FuncId} {r:CV},d<=fuel->zG Y v x->zFS P h d t v name=some (f,r) ->
 ∃y,(method fuel t x name).run P w=.ok (f,y) w/\zG Y r y
 | 0,_,_,_,_,_,_,_,_,hm=>by cases hm|d+1,0,_,_,_,_,_,hle,_,_=>by omega|d+1,fuel+1,t,v,x,f,r,hle,hv,hm=>by
  unfold zFS at hm;cases hrow:zKr P t name with
  |none=>rw[hrow]at hm; cases hm|some m=>
   simp only[hrow]at hm;unfold zKr at hrow;cases hi:P.info? t with
   |none=>rw[hi]at hrow; cases hrow|some ti=>
    rw[hi]at hrow;simp only[Option.bind_some,zLY]at hrow;have hrow:ti.methods.find? (λm=>m.name == name)=some m:=by rw[<- Array.find?_toList]; exact hrow
    cases hf:vu P h m.path.toList t (.val v)with
    |none=>rw[hf]at hm; cases hm|some q=>
     obtain⟨xt,x'⟩:=q;simp only[hf]at hm;obtain⟨y',g1,g2⟩:=vK hrel _ (zGi hv) hf;split at hm
     . rename_i hfn;split at hm
       . rename_i t' v' hg;obtain⟨u,hu,hur⟩:=zDd hrel g2 hg;rw[yr]at hur;obtain⟨u',rfl,hur⟩:=hur;obtain⟨y,k1,k2⟩:=zGv hrel name d fuel (by omega) hur hm;refine⟨y,?_,k2⟩;rw[<- k1];simp[method,typeInfo,hi,hrow,g1,hfn,hu]
       . cases hm
     . rename_i f' pr hfn;split at hm
       . rename_i r' hrc;injection hm with hm; injection hm with e1 e2; subst e1 e2;obtain⟨y,k1,k2⟩:=zCW hrel (if m.path.isEmpty then some ((name.splitOn ".").getLastD name)else none) g2 hrc;refine⟨y,?_,k2⟩;unfold method;simp only[Sem.run_bind,jb hi,Result.andThen_ok,hrow,g1,hfn,k1,Sem.run_pure]
       . cases hm
section
variable{o:Op}
def zDu(P:Program)(Y:Psi)(h:zC)(n:Key)(w:World)(run:Result Next):OR->Prop
 |.call f args=>jC Y (zC.fam h) w->∃args',run=(callFunc f args').run P w/\zP Y args args'.toList|.err _=>True|_=>False
theorem zFr{r:OR}{run:Result Next}(hrun:(execOp U (qM o ty)).run P w=run)(hc:zDu P Y h n w run r):zD P Y h n U o ty w r:=by
 cases r <;> first |exact hc.elim |exact trivial |skip
 case call f args=>intro hrel;obtain⟨args',h1,h2⟩:=hc hrel;exact⟨args',by rw[<- h1]; exact hrun,h2⟩
theorem zBG{recv:CV}{x:Value}{args:List CV}{as:Array Value}(name:String)(hx:zG Y recv x)(has:zP Y args as.toList) :
 zDu P Y h n w ((callMethod x name as).run P w) (zI6 P h recv name args):=by
 refine qF (C:=zDu P Y h n w ((callMethod x name as).run P w)) _ _ _ _ trivial (λ_=>trivial) λt v hv=>?_;rw[hv,yr]at hx;obtain⟨y,rfl,hy⟩:=hx;split
 . rename_i f r hm;intro hrel;obtain⟨u,h1,h2⟩:=zGv (P:=P) hrel name 8 (P.types.size+Made.depth) (by unfold Made.depth; omega) hy hm;refine⟨#[u]++as,?_,?_⟩
   . simp[callMethod,h1]
   . have:(#[u]++as).toList=u::as.toList:=by simp
     rw[this];exact zW.2 ⟨h2,has⟩
 . exact trivial
theorem zRm{f:CV}{fv:Value}{args:List CV}{as:Array Value}(hf:zG Y f fv)(has:zP Y args as.toList) :
 zDu P Y h n w ((do let d <- Deferred.ofValue fv as; invoke d.target d.args:Sem Next).run P w) (zTv P h f args):=by
 refine vg (C:=zDu P Y h n w _) _ _ _ trivial λfn first captured hv=>?_
 rw[hv,xW]at hf;obtain⟨a',c',rfl,h1,h2⟩:=hf;have hfa:zP Y (zEg first args) (a'++as).toList:=by rw[uA,Array.toList_append]; exact h1.append has
 split
 . rename_i g;intro _;refine⟨a'++as++c',by simp[Deferred.ofValue,invoke],?_⟩;rw[uA,uA,Array.append_assoc,Array.toList_append,Array.toList_append];exact h1.append (has.append h2)
 . rename_i name;split
   . rename_i recv rest hl;rw[hl]at hfa;obtain⟨r,rs,e,hr,hrs⟩:=za.1 hfa;have e0:(a'++as)[0]? = some r:=by rw[<- Array.getElem?_toList,e]; rfl
     have e1:((a'++as).extract 1 (a'++as).size).toList=rs:=by
      rw[Array.toList_extract,e,List.extract_eq_take_drop]
      have:(a'++as).size=rs.length+1:=by rw[<- Array.length_toList,e]; rfl
      rw[this]; simp
     have:=zBG (P:=P) (h:=h) (n:=n) (w:=w) name hr (as:=(a'++as).extract 1 (a'++as).size) (by rw[e1]; exact hrs)
     have hrun:(do let d <- Deferred.ofValue (.func (.method name) a' c') as; invoke d.target d.args:Sem Next).run P w=(callMethod r name ((a'++as).extract 1 (a'++as).size)).run P w:=by simp only[Deferred.ofValue,Sem.run_bind,Sem.run_pure,Result.andThen_ok,invoke,e0]
     rw[hrun]; exact this
   . exact trivial
 . rename_i t name;split
   . rename_i recv rest hl;rw[hl]at hfa;obtain⟨r,rs,e,hr,hrs⟩:=za.1 hfa;have e0:(a'++as)[0]? = some r:=by rw[<- Array.getElem?_toList,e]; rfl
     have e1:((a'++as).extract 1 (a'++as).size).toList=rs:=by
      rw[Array.toList_extract,e,List.extract_eq_take_drop]
      have:(a'++as).size=rs.length+1:=by rw[<- Array.length_toList,e]; rfl
      rw[this]; simp
     unfold und;split
     . rename_i ms ht
       have:=zBG (P:=P) (h:=h) (n:=n) (w:=w) name hr (as:=(a'++as).extract 1 (a'++as).size) (by rw[e1]; exact hrs)
       have hrun:(do let d <- Deferred.ofValue (.func (.methodOf t name) a' c') as; invoke d.target d.args:Sem Next).run P w=(callMethod r name ((a'++as).extract 1 (a'++as).size)).run P w:=by simp only[Deferred.ofValue,Sem.run_bind,Sem.run_pure,Result.andThen_ok,invoke,e0,run_underlying ht]
       rw[hrun]; exact this
     . rename_i D hD ht
       have:=zBG (P:=P) (h:=h) (n:=n) (w:=w) name (recv:=.iface t recv) (x:=.iface t r) (yr.2 ⟨r,rfl,hr⟩) (as:=(a'++as).extract 1 (a'++as).size) (by rw[e1]; exact hrs)
       have hrun:(do let d <- Deferred.ofValue (.func (.methodOf t name) a' c') as; invoke d.target d.args:Sem Next).run P w=(callMethod (.iface t r) name ((a'++as).extract 1 (a'++as).size)).run P w:=by simp only[Deferred.ofValue,Sem.run_bind,Sem.run_pure,Result.andThen_ok,invoke,e0,run_underlying ht]
       rw[hrun]; exact this
     . exact trivial
   . exact trivial
 . rename_i t path g pr;split
   . rename_i recv rest hl;rw[hl]at hfa;obtain⟨r,rs,e,hr,hrs⟩:=za.1 hfa;have e0:(a'++as)[0]? = some r:=by rw[<- Array.getElem?_toList,e]; rfl
     have e1:((a'++as).extract 1 (a'++as).size).toList=rs:=by
      rw[Array.toList_extract,e,List.extract_eq_take_drop]
      have:(a'++as).size=rs.length+1:=by rw[<- Array.length_toList,e]; rfl
      rw[this]; simp
     split
     . rename_i xt x hfo;split
       . rename_i rc hrc;intro hrel;obtain⟨y',g1,g2⟩:=vK hrel _ (zGi hr) hfo;obtain⟨u,k1,k2⟩:=zCW hrel none g2 hrc;refine⟨#[u]++(a'++as).extract 1 (a'++as).size,?_,?_⟩
         . simp only[Deferred.ofValue,Sem.run_bind,Sem.run_pure,Result.andThen_ok,invoke,e0,receiverVia,g1,k1]
         . have:(#[u]++(a'++as).extract 1 (a'++as).size).toList=u::rs:=by rw[Array.toList_append,e1]; rfl
           rw[this];exact zW.2 ⟨k2,hrs⟩
       . exact trivial
     . exact trivial
   . exact trivial
 . exact trivial
structure zQu(U:Operand->Value):Prop where
 const:∀v,U (.const v)=v
 func:∀f,U (.func f)=.func (.func f) #[] #[]
theorem zRC(c:Call)(ha:yG P Y es tm E U c.operands.toList):zD P Y h n U (.defer c) ty w (yX P (zj P E (.defer c)) es tm h n):=by
 rw[zj];split
 . rename_i f hcal;split
   . rename_i f' args hf hargs;refine vg (C:=zD P Y h n U (.defer c) ty w) _ _ _ (zA _) λfn first captured hv=>?_
     have hfr:=ha f (by simp[Call.operands,hcal]) f' hf;have has:=wU _ (ha.sub λy hy=>by simp[Call.operands]; exact .inr (by simpa using hy)) hargs;rw[hv,xW]at hfr;obtain⟨a',c',hfr,h1,h2⟩:=hfr;split
     . rename_i g;refine⟨{ target:=.fn (.func g) c',args:=a'++c.args.map U },.func g,c',a'++c.args.map U++c',?_,rfl,λw=>rfl,?_⟩
       . simp[execOp,resolve,hcal,hfr,Deferred.ofValue]
       . rw[uA,uA,Array.append_assoc,Array.toList_append,Array.toList_append,Array.toList_map];exact h1.append (has.append h2)
     . exact zA _
   . exact zA _
 . exact zA _
end
end
end Go.Ev
namespace Go.Ev
variable[Sym]
open Go.MapKept
noncomputable section
variable{P:Program}{Y:Psi}{es:List CV}{tm:Tm}{h:zC}{n:Key}{U:Operand->Value}{E:Env}{ty:TypeId}{w:World}
variable[SymFact P]
theorem zFP {fn:Func} {nm:String} {e:Array Value->Sem Value} (ho:fn.origin = "") (hn:fn.name=nm)
 (h1:Extern.allNextRows.lookup nm=none) (h2:Extern.allGenericRows.lookup nm=none) (h3:Extern.allTypedRows.lookup nm=none) (h4:Extern.allRows.lookup nm=some e)
 (h5:Extern.allNextRows.lookup "" = none):Extern.findNext fn=none/\Extern.find fn=some e:=by
 constructor
 . unfold Extern.findNext;simp only[hn,ho,h1,h5]; rfl
 . unfold Extern.find;simp only[hn,h2,h3,h4]; rfl
theorem zCV:Extern.allNextRows.lookup "" = none:=by kernel_rfl
def zQF(fn:Func):Ext->Option (Array Value->Sem Value)
 |.count=>some Extern.BytealgCount.count|.indexByte=>some Extern.BytealgIndexByte.indexByte|.cmp=>some Extern.BytealgCompare.compare|.mapsClone=>some Extern.MapsClone.clone|.overlaps=>some (Extern.SlicesOverlaps.overlaps fn.params fn.resultTypes)|_=>none
theorem zHW {fn:Func} {e:Ext} (he:zDZ P fn=some e):∃en,zQF fn e=some en/\(fn.name == "runtime.NumGoroutine")=false/\Extern.findNext fn=none/\Extern.find fn=some en:=by
 unfold zDZ at he;split at he
 . rename_i ho;have ho:fn.origin = "":=by simpa using ho
   split at he
   . rename_i hn;have hn:fn.name=zI2 "bytealg.CountString":=by simpa using hn
     injection he with he; subst he;obtain⟨h1,h2⟩:=zFP (e:=Extern.BytealgCount.count) ho hn (by kernel_rfl) (by kernel_rfl) (by kernel_rfl) (by kernel_rfl) zCV;exact⟨_,rfl,by rw[hn]; decide,h1,h2⟩
   . split at he
     . rename_i hn;have hn:fn.name=zI2 "bytealg.IndexByteString":=by simpa using hn
       injection he with he; subst he;obtain⟨h1,h2⟩:=zFP (e:=Extern.BytealgIndexByte.indexByte) ho hn (by kernel_rfl) (by kernel_rfl) (by kernel_rfl) (by kernel_rfl) zCV;exact⟨_,rfl,by rw[hn]; decide,h1,h2⟩
     . split at he
       . rename_i hn;have hn:fn.name=zI2 "bytealg.abigen_runtime_cmpstring":=by simpa using hn
         injection he with he; subst he;obtain⟨h1,h2⟩:=zFP (e:=Extern.BytealgCompare.compare) ho hn (by kernel_rfl) (by kernel_rfl) (by kernel_rfl) (by kernel_rfl) zCV;exact⟨_,rfl,by rw[hn]; decide,h1,h2⟩
       . split at he
         . rename_i hn;have hn:fn.name = "maps.clone":=by simpa using hn
           injection he with he; subst he;obtain⟨h1,h2⟩:=zFP (e:=Extern.MapsClone.clone) ho hn (by kernel_rfl) (by kernel_rfl) (by kernel_rfl) (by kernel_rfl) zCV;exact⟨_,rfl,by rw[hn]; decide,h1,h2⟩
         . cases he
 . split at he
   . rename_i ho;injection he with he; subst he;rw[Bool.and_eq_true]at ho;obtain⟨ho,hok⟩:=ho;have ho:fn.origin = "slices.overlaps":=by simpa using ho
     unfold zCf zNq at hok;simp only[Bool.and_eq_true,Option.isNone_iff_eq_none]at hok;obtain⟨⟨gn,⟨⟨g1,g2⟩,g3⟩,g4⟩,_⟩:=hok;refine⟨_,rfl,?_,?_,?_⟩
     . simpa using gn
     . unfold Extern.findNext;have h1:Extern.allNextRows.lookup "slices.overlaps" = none:=by kernel_rfl
       simp only[ho,g1,h1]; rfl
     . unfold Extern.find;have h1:Extern.allGenericRows.lookup "slices.overlaps" = none:=by kernel_rfl
       have h2:Extern.allTypedRows.lookup "slices.overlaps" = some Extern.SlicesOverlaps.overlaps:=by kernel_rfl
       simp only[ho,g2,g3,g4,h1,h2]; rfl
   . cases he
theorem zCx{w:World}{params res:Array TypeId}{tS e:TypeId}(hp:params[0]? = some tS)(ht:P.underlying tS=some (.slice e)){size:Nat}(hz:∀w,(Go.sizeOf e).run P w=.ok size w)
 (a b:Addr) (la ca lb cb:Nat) (hne:a.block≠b.block) (tA tB:TypeId) (kA kB:Nat)
 (hsa:w.shape? a.block=some (tA,kA)) (hsb:w.shape? b.block=some (tB,kB)) (hkB:kB≠0)
 (hfa:w.frozen? a=false) (hfe:w.frozen? { block:=a.block,off:=kA }=false) :
 (Extern.SlicesOverlaps.overlaps params res #[.slice (some a) la ca,.slice (some b) lb cb]).run P w=.ok (.bool false) w:=by
 have hnb:(a.block != b.block)=true:=by simpa using hne
 have hnb':(a.block == b.block)=false:=by simpa using hne
 change Sem.run P (α:=Value) (do
  let some t:=params[0]? |stuck "slices.overlaps: no parameter types"
  let .slice elem <- underlying t |stuck "slices.overlaps: slice type expected"
  let size <- sizeOf elem
  match(some a:Option Addr),(some b:Option Addr)with
  |some a,some b=>
   if la=0\/lb=0\/size=0 then pure (Value.bool false)
   else if a.block != b.block&&(<- frozen a)&&(<- frozen b)then unsupported .addressObserved
   else do
    if a.block != b.block then do
     noView a; noView b
     if <- mayBeOne a b then return Value.bool ((<- choose (.extern "sameAddr.stringBytes" 2)) == 1)
    pure (Value.bool (a.block == b.block&&a.off<b.off+lb*size&&b.off<a.off+la*size))
  |_,_=>pure (Value.bool false)) w=_
 by_cases h0:la=0\/lb=0\/size=0
 . simp[hp,run_underlying ht,hz,h0]
 . cases kB with
   |zero=>exact absurd rfl hkB|succ kB=>simp[hp,run_underlying ht,hz,h0,hnb,hnb',frozen,noView,viewAt,mayBeOne,stringish,shape,Sem.run,hsa,hsb,hfa,hfe]
def qv(P:Program)(Y:Psi)(h:zC)(n:Key)(w:World)(en:Array Value->Sem Value)(args:Array Value):OR->Prop
 |.val v=>∃x,(en args).run P w=.ok x w/\zG Y v x|.eff v h' n'=>Rel Y (zC.fam h) w->(∀k,n.ix<=k.ix->k.ix<n'.ix->Y k=none)->n'.room ->
  ∃w' x Y',(en args).run P w=.ok x w'/\yF Y (zC.fam h) n w Y' (zC.fam h') n' w'/\zG Y' v x
 |.err _=>True|_=>False
theorem zFx{c:CV}{b:Nat}{v:Value}(hb:vx c=some b)(hv:zG Y c v):v=.int .u8 (Int.ofNat b)/\b<=255:=by
 unfold vx at hb;split at hb
 . split at hb
   . rename_i hle;injection hb with hb; subst hb;exact⟨zf.1 hv,zH hle⟩
   . cases hb
 . cases hb
theorem count_eq(c:UInt8)(l:List UInt8):zLm c.toNat (l.map UInt8.toNat)=Lib.countByte l c:=by
 unfold Lib.countByte;induction l with
 |nil=>rfl|cons x l ih=>
  show Bool.rec (motive:=λ_=>Nat) (zLm c.toNat (l.map UInt8.toNat)) (Nat.succ (zLm c.toNat (l.map UInt8.toNat))) (Nat.beq x.toNat c.toNat)=_;rw[ih,List.count_cons];by_cases e:x=c
  . subst e; simp
  . rw[vG (λh=>e (UInt8.toNat_inj.1 h))]; simp[e]
theorem zNv(c:UInt8):∀(l:List UInt8) (i:Nat),(match zEB c.toNat (l.map UInt8.toNat) i with
 |some j=>(j:Int)
 |none=>-1)=(if Lib.indexByte l c = -1 then -1 else(i:Int)+Lib.indexByte l c) /\ -1<=Lib.indexByte l c
 | [],i=>by simp[zEB,Lib.indexByte]|x::l,i=>by
  obtain⟨h1,h2⟩:=zNv c l (i+1);rw[List.map_cons];unfold zEB Lib.indexByte;by_cases e:x=c
  . subst e; simp
  . rw[vG (λh=>e (UInt8.toNat_inj.1 h))];have e':(x == c)=false:=by simpa using e
    simp only[e'];rw[h1];simp;constructor
    . split <;> (try split) <;> omega
    . split <;> omega
theorem zHh:∀(a b:List UInt8),Lib.compareBytes a b=if a=b then 0 else if Op.bytesLess a b then -1 else 1
 | [],[]=>by simp[Lib.compareBytes]| [],_::_=>by simp[Lib.compareBytes,Op.bytesLess]|_::_,[]=>by simp[Lib.compareBytes,Op.bytesLess]|x::a,y::b=>by
  unfold Lib.compareBytes Op.bytesLess;rw[zHh a b];by_cases h1:x<y
  . have:x≠y:=λe=>by subst e; exact absurd h1 (UInt8.lt_irrefl x)
    simp[h1,this]
  . by_cases h2:y<x
    . have:x≠y:=λe=>by subst e; exact absurd h2 (UInt8.lt_irrefl x)
      simp[h1,h2,this]
    . have:x=y:=by apply UInt8.toNat_inj.1;rw[UInt8.lt_iff_toNat_lt]at h1 h2;omega
      subst this;simp[h1]
theorem zP2{fn:Func}{e:Ext}{en:Array Value->Sem Value}(hex:zDZ P fn=some e)(he:zQF fn e=some en){args:List CV}{as:Array Value}(has:zP Y args as.toList) :
 qv P Y h n w en as (zDs e args h n):=by
 unfold zDs;split
 . -- count
   rename_i a b;injection he with he; subst he;obtain⟨x,r,e1,hx,hr⟩:=za.1 has;obtain⟨y,r',e2,hy,hr'⟩:=za.1 hr;rw[zM]at hr';subst e2 hr'
   have:=zCv e1
   subst this;refine yP (C:=qv P Y h n w _ _) _ _ _ trivial λs hs=>?_;rw[hs,zg]at hx;obtain⟨bs,rfl,rfl⟩:=hx;refine zAa (C:=qv P Y h n w _ _) _ _ _ trivial λc hc=>?_;obtain⟨rfl,hle⟩:=zFx hc hy;refine⟨_,Lib.run_countString bs _ w,?_⟩
   have:((Int.ofNat c).toNat.toUInt8).toNat=c:=by simp; omega
   have h2:=count_eq ((Int.ofNat c).toNat.toUInt8) bs.data.toList;rw[this]at h2;rw[<- h2];exact xx _
 . -- index
   rename_i a b;injection he with he; subst he;obtain⟨x,r,e1,hx,hr⟩:=za.1 has;obtain⟨y,r',e2,hy,hr'⟩:=za.1 hr;rw[zM]at hr';subst e2 hr'
   have:=zCv e1
   subst this;refine yP (C:=qv P Y h n w _ _) _ _ _ trivial λs hs=>?_;rw[hs,zg]at hx;obtain⟨bs,rfl,rfl⟩:=hx;refine zAa (C:=qv P Y h n w _ _) _ _ _ trivial λc hc=>?_;obtain⟨rfl,hle⟩:=zFx hc hy;have hrun:=Lib.run_indexByteString (P:=P) bs (Int.ofNat c) w
   have:((Int.ofNat c).toNat.toUInt8).toNat=c:=by simp; omega
   obtain⟨h2,h3⟩:=zNv ((Int.ofNat c).toNat.toUInt8) bs.data.toList 0;rw[this]at h2;have h4:(match zEB c (zy bs) 0 with
    |some j=>(j:Int)
    |none=>-1)=Lib.indexByte bs.data.toList (Int.ofNat c).toNat.toUInt8:=by
    refine h2.trans ?_;split <;> omega
   rw[<- h4]at hrun;split
   . rename_i i hi;simp only[hi]at hrun;exact⟨_,hrun,xx _⟩
   . rename_i hi;simp only[hi]at hrun;exact⟨_,hrun,zf.2 rfl⟩
 . -- compare
   rename_i a b;injection he with he; subst he;obtain⟨x,r,e1,hx,hr⟩:=za.1 has;obtain⟨y,r',e2,hy,hr'⟩:=za.1 hr;rw[zM]at hr';subst e2 hr'
   have:=zCv e1
   subst this;refine yP (C:=qv P Y h n w _ _) _ _ _ trivial λs hs=>?_;rw[hs,zg]at hx;obtain⟨bs,rfl,rfl⟩:=hx;refine yP (C:=qv P Y h n w _ _) _ _ _ trivial λs hs=>?_;rw[hs,zg]at hy;obtain⟨cs,rfl,rfl⟩:=hy;have hrun:=Lib.run_compareString (P:=P) bs cs w;rw[zHh]at hrun;rw[jx,jx,qX,wV,ByteArray.toList_eq,ByteArray.toList_eq];by_cases e:bs.data.toList=cs.data.toList
   . rw[if_pos e]at hrun;rw[if_pos (by simpa using e)];exact⟨_,hrun,zT.2 rfl⟩
   . rw[if_neg e]at hrun;rw[if_neg (by simpa using e)];by_cases hl:Op.bytesLess bs.data.toList cs.data.toList=true
     . rw[if_pos hl]at hrun;rw[if_pos hl];exact⟨_,hrun,zf.2 rfl⟩
     . rw[if_neg hl]at hrun;rw[if_neg hl];exact⟨_,hrun,zT.2 rfl⟩
 . -- overlaps
   rename_i a b;injection he with he; subst he;obtain⟨x,r,e1,hx,hr⟩:=za.1 has;obtain⟨y,r',e2,hy,hr'⟩:=za.1 hr;rw[zM]at hr';subst e2 hr'
   have:=zCv e1
   subst this;refine yY (C:=qv P Y h n w _ _) _ _ _ _ trivial (λ_=>trivial) λk o l c s ex hk=>?_;refine yY (C:=qv P Y h n w _ _) _ _ _ _ trivial (λ_=>trivial) λj o' m c' s' ex' hj=>?_;refine zJ (C:=qv P Y h n w _ _) _ _ _ trivial λhjk=>?_;refine vh (C:=qv P Y h n w _ _) _ _ _ trivial λu vs hvs=>?_;refine zJ (C:=qv P Y h n w _ _) _ _ _ trivial λhu=>?_;refine yh (C:=qv P Y h n w _ _) _ _ _ trivial λvs' hvs'=>?_;refine zJ (C:=qv P Y h n w _ _) _ _ _ trivial λhl=>?_;have hjk:j≠k:=by simpa using hjk
   subst hu;intro hrel _ _;rw[hk,yJ]at hx;rw[hj,yJ]at hy;obtain⟨p,x1,cap1,hp,rfl,_⟩:=hx;obtain⟨q,x2,cap2,hq,rfl,_⟩:=hy;have hne:p.blk≠q.blk:=λe=>hjk (hrel.inj k j _ _ p q hvs hvs' hp hq (.inl rfl) e).symm;obtain⟨arr,el,fz,c1,c2,c3,c4,_⟩:jt Y w p true vs:=hrel.on k _ p hvs hp;obtain⟨arr',el',fz',d1,d2,d3,_⟩:yZ Y w q vs':=hrel.on j _ q hvs' hq;have hl:1<=um vs':=zH hl;have hll:=vQ vs';have hfz:fz.1=fz.2:=by
    rcases c4 with h |h
    . exact h
    . cases h.1
   have hfr:∀i,w.frozen? ⟨p.blk,i,none⟩=false:=by intro i;unfold World.frozen?;rw[c1];simp;omega
   obtain⟨tS,e,hp0,ht,sz,hsz⟩:∃tS e,fn.params[0]? = some tS/\P.underlying tS=some (.slice e)/\∃sz,qR P e=some sz:=by
    unfold zDZ at hex;split at hex
    . split at hex
      . cases hex
      . split at hex
        . cases hex
        . split at hex
          . cases hex
          . split at hex <;> cases hex
    . split at hex
      . rename_i ho;rw[Bool.and_eq_true]at ho;have hok:=ho.2;unfold zCf und at hok;rw[Bool.and_eq_true]at hok;have hok:=hok.2;split at hok
        . rename_i t _ hpl;split at hok
          . rename_i e ht;obtain⟨sz,hsz⟩:=Option.isSome_iff_exists.1 hok;refine⟨t,e,?_,ht,sz,hsz⟩
            have:=congrArg (·[0]?) hpl
            simpa using this
          . cases hok
        . cases hok
      . cases hex
   refine⟨w,.bool false,Y,?_,yF.refl hrel,zL.2 rfl⟩;exact zCx hp0 ht (λw=>yl hsz w) ⟨p.blk,x1,none⟩ ⟨q.blk,x2,none⟩ _ _ _ _ hne el el' arr.size arr'.size (by unfold World.shape?; rw[c1]) (by unfold World.shape?; rw[d1])
    (by omega) (hfr _) (hfr _)
 . -- clone
   rename_i a;injection he with he; subst he;obtain⟨x,r,e1,hx,hr⟩:=za.1 has;rw[zM]at hr;subst hr
   have:=zCv e1
   subst this;refine qF (C:=qv P Y h n w _ _) _ _ _ _ trivial (λ_=>trivial) λt v hv=>?_;rw[hv,yr]at hx;obtain⟨y,rfl,hy⟩:=hx;refine xT (C:=qv P Y h n w _ _) _ _ _ _ trivial (λ_=>trivial) λb hb=>?_;rw[hb,xC]at hy;obtain⟨p,hp,rfl⟩:=hy;refine ye (C:=qv P Y h n w _ _) _ _ _ trivial λcs clock hl=>?_;intro hrel hnew hroom;obtain⟨arr,h1,h2,hcp⟩:=hrel.on b _ p hl hp;have hr:=Key.room_of_succ hroom;have hix:=Key.ix_succ hr;have hnone:Y n=none:=hnew n (Nat.le_refl _) (by omega);have hw:=jY w (.map arr (p.ck clock));have hpost:=vH (n:=n) (sz:=0) (ck:=p.ck) (o:=.map cs clock) hrel hr hnone hw ⟨arr,by simp,h2.mono (Psi.le_upd _ hnone),hcp⟩;refine⟨_,.iface t (.map (some w.heap.size)),_,?_,by rw[z7]; exact hpost,yr.2 ⟨_,rfl,xC.2 ⟨_,Psi.upd_same _ _ _,rfl⟩⟩⟩;have hget:=run_getObj_map (P:=P) h1;rw[show Extern.MapsClone.clone #[Value.iface t (.map (some p.blk))]=(getObj p.blk >>= _)from rfl,Sem.run_bind,hget];simp
 . exact trivial
section
variable{o:Op}
theorem zVx{c:Call}{f:FuncId}{fn:Func}{e:Ext}{args:List zY}(hcal:c.callee=.value (.func f))(hU:zQu U)(hfn:P.funcs[f]? = some fn)(hb:fn.body.isNone=true)
 (he:zDZ P fn=some e) (hargs:jB P E c.args.toList=some args) (ha:yG P Y es tm E U c.args.toList):zD P Y h n U (.call c) ty w (zDs e (aVs es tm args) h n):=by
 obtain⟨en,h1,h2,h3,h4⟩:=zHW he;have has:=wU _ ha hargs;rw[<- Array.toList_map]at has;have hout:=zP2 (P:=P) (h:=h) (n:=n) (w:=w) he h1 has;have hrun:∀{x:Value} {w':World},(en (c.args.map U)).run P w=.ok x w'->(execOp U (qM (.call c) ty)).run P w=.ok (.value x) w':=by
  intro x w' hx
  have:=run_callFunc_extern (P:=P) hfn h2 hb h3 h4 (c.args.map U) w
  rw[hx]at this;simp only[execOp,resolve,hcal,Sem.run_bind,hU.func,Deferred.ofValue,Sem.run_pure,Result.andThen_ok,invoke];have e0:(#[]++c.args.map U ++ #[]:Array Value)=c.args.map U:=by simp
  rw[e0,this]; rfl
 generalize zDs e (aVs es tm args) h n=r at hout;cases r <;> first |exact hout.elim |exact trivial |skip
 case val v=>obtain⟨x,h5,h6⟩:=hout;exact⟨x,zR (hrun h5),h6⟩
 case eff v h' n'=>intro g1 g2 g3;obtain⟨w',x,Y',h5,h6,h7⟩:=hout g1 g2 g3;exact⟨w',x,Y',zR (hrun h5),h6,h7⟩
theorem zTM(hU:zQu U)(c:Call)(ha:yG P Y es tm E U c.operands.toList):zD P Y h n U (.call c) ty w (yX P (zj P E (.call c)) es tm h n):=by
 have hargsok:yG P Y es tm E U c.args.toList:=ha.sub λy hy=>by simp[Call.operands]; exact .inr (by simpa using hy)
 rw[show zj P E (.call c)=zHx P E c from rfl];unfold zHx;split
 . rename_i b hc;exact zMv c b hc hargsok
 . rename_i r name hc;split
   . rename_i r' args hr hargs;have hx:=ha r (by simp[Call.operands,hc]) r' hr;have has:=wU _ hargsok hargs;rw[<- Array.toList_map]at has;refine zFr ?_ (zBG (P:=P) (h:=h) (n:=n) (w:=w) name hx has);simp only[execOp,resolve,hc,Sem.run_bind,Sem.run_pure,Result.andThen_ok,invoke];have e0:(#[U r]++c.args.map U)[0]? = some (U r):=by rw[<- Array.getElem?_toList,Array.toList_append]; rfl
     have e1:(#[U r]++c.args.map U).extract 1 (#[U r]++c.args.map U).size=c.args.map U:=by apply Array.ext';rw[Array.toList_extract,Array.toList_append,List.extract_eq_take_drop];show((c.args.map U).toList).take _=_;exact List.take_of_length_le (by simp)
     rw[e0];simp only;rw[e1]
   . exact zA _
 . rename_i f hc;split
   . exact zA _
   . rename_i args hargs;have has:=wU _ hargsok hargs;rw[<- Array.toList_map]at has;split
     . rename_i g;rw[nth_eq];split
       . exact zA _
       . rename_i fn hfn;have hfn:P.funcs[g]? = some fn:=by simpa using hfn
         split
         . intro _;refine⟨c.args.map U,?_,has⟩;simp only[execOp,resolve,hc,Sem.run_bind,hU.func,Deferred.ofValue,Sem.run_pure,Result.andThen_ok,invoke];simp
         . rename_i hb;split
           . rename_i e he;exact zVx hc hU hfn (by cases hbb:fn.body <;> simp_all) he hargs hargsok
           . exact zA _
     . split
       . rename_i f' hf;have hx:=ha f (by simp[Call.operands,hc]) f' hf;refine zFr ?_ (zRm (P:=P) (h:=h) (n:=n) (w:=w) hx has);simp only[execOp,resolve,hc]
       . exact zA _
theorem zN6(hU:zQu U)(o:Op)(ha:yG P Y es tm E U o.operands.toList):zD P Y h n U o ty w (yX P (zj P E o) es tm h n):=by
 cases o <;> try exact zA _
 case move=>exact zTp _ ha
 case assign=>exact zO3 _ ha
 case pick=>exact zSF _ _ _ ha
 case alloc=>exact zQW _
 case box=>exact zVE _ _ ha
 case build=>exact zQ2 _ _ ha
 case buildSlice=>exact zH4 _ _ _ ha
 case load=>exact zTF _ _ ha
 case store=>exact zRx _ _ _ ha
 case nilCheck=>exact zRK _ ha
 case binOp=>exact zRQ _ _ _ _ _ ha
 case unOp=>exact zUe _ _ _ ha
 case convert=>exact zLy _ _ _ ha
 case makeInterface=>exact zDa _ _ ha
 case makeFunc=>exact zKL _ _ _ (ha.sub λy hy=>by simp[Op.operands]at hy ⊢; exact hy)
 case makeMap=>exact zL1 _ _ hU.const
 case makeSlice=>exact zIe _ _ _ ha
 case slice=>exact zRc _ _ _ _ _ (ha.sub λy hy=>by simp[Op.operands]at hy ⊢; exact hy)
 case fieldAddr=>exact zIk _ _ _ ha
 case field=>exact zQQ _ _ _ ha
 case indexAddr=>exact zIg _ _ _ ha
 case index=>exact zRj _ _ _ ha
 case lookup=>exact zNQ _ _ _ _ ha
 case mapUpdate=>exact zId _ _ _ _ ha
 case insert=>exact zNX _ _ _ _ ha
 case range=>exact zRR _ _ ha
 case next=>exact zTo _ _ ha
 case entry=>exact zRl _ ha
 case typeAssert=>exact zG3 _ _ _ _ ha
 case extract=>exact zLI _ _ ha
 case call=>exact zTM hU _ ha
 case defer=>exact zRC _ ha
end
end
end Go.Ev
namespace Go.Ev
variable[Sym]
noncomputable section
variable{P:Program}{es:List CV}{tm:Tm}{h:zC}{n:Key}
variable[SymFact P]
def zE(n:Key):OR->Prop
 |.eff _ _ n'=>n.ix<=n'.ix|.fork a b=>zE n a/\zE n b|_=>True
theorem zPN{x:CV}(s:Nat)(nf:Nat->Nat)(k:Nat->List CV->OR)(e:Nat)(hk:∀m l,zE n (k m l)):zE n (zFC h s x k nf e):=by
 unfold zFC;split
 . refine zJ (C:=zE n) _ _ _ trivial λ_=>?_;exact yb (C:=zE n) _ _ _ trivial λ_ _=>hk _ _
 . refine zJ (C:=zE n) _ _ _ trivial λ_=>?_;exact yb (C:=zE n) _ _ _ trivial λ_ _=>hk _ _
 . exact zJ (C:=zE n) _ _ _ trivial λ_=>hk _ _
 . refine yY (C:=zE n) _ _ _ _ trivial (λ_=>hk _ _) λ_ _ _ _ _ _ _=>?_;refine xR (C:=zE n) _ _ _ trivial λ_ _=>?_;exact yb (C:=zE n) _ _ _ trivial λ_ _=>hk _ _
theorem zAm(v:Option CV)(e:Nat):zE n (zFy v e):=by cases v <;> trivial
theorem zIG(k:IntKind):∀(m:Nat),zE n (zOP k m)
 | 0=>trivial|m+1=>⟨zIG k m,trivial⟩
theorem zJs(k:IntKind):∀(m:Nat),zE n (zN1 k m)
 | 0=>trivial|m+1=>⟨zJs k m,trivial,trivial⟩
theorem xA(op:BinOp)(j k:IntKind):zE n (jd op j k):=by refine zJ (C:=zE n) _ _ _ trivial λ_=>?_;cases op <;> first |trivial |exact⟨trivial,trivial⟩
theorem zSa(op:BinOp)(k:IntKind)(b:Int):zE n (zHN op k b):=by
 cases op
 case add=>exact xA .add k k
 case sub=>exact xA .sub k k
 case mul=>exact xA .mul k k
 case or=>exact xA .or k k
 case xor=>exact xA .xor k k
 case andNot=>exact xA .andNot k k
 case eql=>exact xA .eql k k
 case neq=>exact xA .neq k k
 case lss=>exact xA .lss k k
 case leq=>exact xA .leq k k
 case gtr=>exact xA .gtr k k
 case geq=>exact xA .geq k k
 case quo=>cases b with
  |ofNat m=>cases m <;> trivial|negSucc m=>trivial
 case rem=>cases b with
  |ofNat m=>cases m with
   |zero=>trivial|succ m=>
    refine zJ (C:=zE n) _ _ _ trivial λ_=>?_;split
    . exact zJs k m
    . trivial
  |negSucc m=>trivial
 case and=>cases b with
  |ofNat m=>refine zJ (C:=zE n) _ _ _ trivial λ_=>?_;exact zIG k m
  |negSucc m=>trivial
 case shl=>cases b <;> trivial
 case shr=>cases b <;> trivial
theorem zRX(op:BinOp)(x y:CV):zE n (zN2 op x y):=by
 have right:∀(k j:IntKind) (b:Int),zE n (yv (kEq k j || xD op) (zHN op k b) 118):=λk j b=>zJ (C:=zE n) _ _ _ trivial λ_=>zSa _ _ _;refine zJD (C:=zE n) _ _ _ _ _ trivial (λa _=>?_) (λk a _=>?_) (λk _=>?_) (λs _=>?_)
 . refine ko (C:=zE n) _ _ _ _ trivial (λ_ _=>?_) (λ_ _ _=>?_) (λ_ _=>xA _ _ _)
   . exact zJ (C:=zE n) _ _ _ trivial λ_=>zAm _ _
   . exact zJ (C:=zE n) _ _ _ trivial λ_=>zAm _ _
 . refine ko (C:=zE n) _ _ _ _ trivial (λ_ _=>?_) (λ_ _ _=>?_) (λ_ _=>xA _ _ _)
   . exact zJ (C:=zE n) _ _ _ trivial λ_=>zAm _ _
   . exact zJ (C:=zE n) _ _ _ trivial λ_=>zAm _ _
 . exact ko (C:=zE n) _ _ _ _ trivial (λ_ _=>right _ _ _) (λ_ _ _=>right _ _ _) (λ_ _=>xA _ _ _)
 . exact yP (C:=zE n) _ _ _ trivial λ_ _=>zAm _ _
theorem zQg(o:Option (List CV))(e:Nat):zE n (zV8 o e):=by
 have:∀(l:List CV) (c:CV),zE n (forkL c l):=by
  intro l;induction l with
  |nil=>intro c; trivial
  |cons d l ih=>intro c; exact⟨trivial,ih d⟩
 cases o with
 |none=>trivial|some l=>cases l with
  |nil=>trivial|cons c l=>exact this l c
theorem zRJ(op:BinOp)(x y:CV):zE n (wA op x y):=by
 unfold wA;split
 . unfold zTT;split <;> first |trivial |(rw[jx]; split <;> first |trivial |exact⟨trivial,trivial⟩)
 . split
   . exact zQg _ _
   . exact zRX _ _ _
theorem zEK(c:Option zY)(y d:Nat)(k:Nat->OR)(e:Nat)(hk:∀i,zE n (k i)):zE n (zCy es tm c y d k e):=by
 cases c with
 |none=>exact hk _|some c=>refine yf (C:=zE n) _ _ _ trivial λ_ _=>?_;exact zJ (C:=zE n) _ _ _ trivial λ_=>hk _
theorem jk(len cap:Nat)(lo hi mx:Option zY)(k:Nat->Nat->Nat->OR)(e:Nat)(hk:∀i j l,zE n (k i j l)):zE n (jT es tm len cap lo hi mx k e):=
 zEK _ _ _ _ _ λ_=>zEK _ _ _ _ _ λ_=>zEK _ _ _ _ _ λ_=>hk _ _ _
theorem zCU(b:Key)(off esz:Nat)(ex:Bool)(i j l:Nat):zE n (zP3 b off esz ex i j l):=by refine zJ (C:=zE n) _ _ _ trivial λ_=>?_;rw[zw,zw,zw]; trivial
theorem zMG(a:Bool)(s:Nat)(cs:List CV)(off e:Nat):zE n (zUO a s cs off e):=by
 cases a with
 |true=>exact vC (C:=zE n) _ _ trivial λ_ _=>trivial
 |false=>exact jQ (C:=zE n) _ _ trivial λ_ _=>trivial
theorem zKD(ok:Bool)(z:Option CV):zE n (noV ok z):=by unfold noV; split <;> trivial
theorem zCX(r:CV)(name:String)(args:List CV):zE n (zI6 P h r name args):=by refine qF (C:=zE n) _ _ _ _ trivial (λ_=>trivial) λ_ _ _=>?_;split <;> trivial
theorem zSp(f:CV)(args:List CV):zE n (zTv P h f args):=by
 refine vg (C:=zE n) _ _ _ trivial λfn a c _=>?_;split
 . trivial
 . split
   . exact zCX _ _ _
   . trivial
 . split
   . split
     . exact zCX _ _ _
     . exact zCX _ _ _
     . trivial
   . trivial
 . split
   . split
     . split <;> trivial
     . trivial
   . trivial
 . trivial
theorem zF9{f:CE->OR}(hf:∀c,zE n (f c)):∀(l:List CE) (e:CE),zE n (zFF f e l)
 | [],e=>hf e|e'::l,e=>⟨hf e,zF9 hf l e'⟩
theorem zNV(e:Ext)(args:List CV):zE n (zDs e args h n):=by
 unfold zDs;split
 . refine yP (C:=zE n) _ _ _ trivial λ_ _=>?_;exact zAa (C:=zE n) _ _ _ trivial λ_ _=>trivial
 . refine yP (C:=zE n) _ _ _ trivial λ_ _=>?_;refine zAa (C:=zE n) _ _ _ trivial λ_ _=>?_;split <;> trivial
 . refine yP (C:=zE n) _ _ _ trivial λ_ _=>?_;refine yP (C:=zE n) _ _ _ trivial λ_ _=>?_;rw[jx,jx];split
   . trivial
   . split <;> trivial
 . refine yY (C:=zE n) _ _ _ _ trivial (λ_=>trivial) λ_ _ _ _ _ _ _=>?_;refine yY (C:=zE n) _ _ _ _ trivial (λ_=>trivial) λ_ _ _ _ _ _ _=>?_;refine zJ (C:=zE n) _ _ _ trivial λ_=>?_;refine vh (C:=zE n) _ _ _ trivial λ_ _ _=>?_;refine zJ (C:=zE n) _ _ _ trivial λ_=>?_;refine yh (C:=zE n) _ _ _ trivial λ_ _=>?_;exact zJ (C:=zE n) _ _ _ trivial λ_=>Nat.le_refl _
 . refine qF (C:=zE n) _ _ _ _ trivial (λ_=>trivial) λ_ _ _=>?_;refine xT (C:=zE n) _ _ _ _ trivial (λ_=>trivial) λ_ _=>?_;exact ye (C:=zE n) _ _ _ trivial λ_ _ _=>Key.ix_le_succ n
 . trivial
theorem zMS(esz k:Nat)(xs:List CV)(sv:CV):zE n (zIA esz k xs sv h n):=by
 unfold zIA;refine yY (C:=zE n) _ _ _ _ trivial (λ_=>?_) λ_ _ _ _ _ _ _=>?_
 . cases k with
   |zero=>exact Nat.le_refl _|succ k=>refine zJ (C:=zE n) _ _ _ trivial λ_=>?_;rw[zw]; exact Key.ix_le_succ n
 . refine zJ (C:=zE n) _ _ _ trivial λ_=>?_;refine vh (C:=zE n) _ _ _ ?_ λ_ _ _=>?_
   rotate_left
   . rw[zw];refine zJ (C:=zE n) _ _ _ trivial λ_=>?_;exact yb (C:=zE n) _ _ _ trivial λ_ _=>Key.ix_le_succ n
   refine yh (C:=zE n) _ _ _ trivial λ_ _=>?_;rw[zw,jx];split
   . exact yb (C:=zE n) _ _ _ trivial λ_ _=>Nat.le_refl _
   . refine zJ (C:=zE n) _ _ _ trivial λ_=>?_;exact yb (C:=zE n) _ _ _ trivial λ_ _=>Key.ix_le_succ n
theorem vj(op:COp):zE n (yX P op es tm h n):=by
 cases op
 case mv=>trivial
 case pick=>refine uD (C:=zE n) _ _ _ trivial λb _=>?_;cases b <;> trivial
 case alloc=>trivial
 case box=>exact yb (C:=zE n) _ _ _ trivial λ_ _=>trivial
 case build=>exact vC (C:=zE n) _ _ trivial λ_ _=>trivial
 case bslice=>exact yb (C:=zE n) _ _ _ trivial λ_ _=>trivial
 case load1=>
  refine zBF (C:=zE n) _ _ _ ?_ λ_ _ _=>?_
  . unfold zW8;split
    . refine xR (C:=zE n) _ _ _ trivial λ_ _=>?_;exact zAe (C:=zE n) _ _ trivial λ_ _=>trivial
    . trivial
  refine xR (C:=zE n) _ _ _ trivial λ_ _=>?_;exact zAe (C:=zE n) _ _ trivial λ_ _=>trivial
 case loadN=>refine xU (C:=zE n) _ _ _ trivial λ_ _ _=>?_;refine xR (C:=zE n) _ _ _ trivial λ_ _=>?_;exact zF6 (C:=zE n) _ _ trivial λ_ _=>trivial
 case store=>refine xU (C:=zE n) _ _ _ trivial λ_ _ _=>?_;refine yh (C:=zE n) _ _ _ trivial λ_ _=>?_;refine yb (C:=zE n) _ _ _ trivial λ_ _=>?_;refine zJ (C:=zE n) _ _ _ trivial λ_=>?_;exact yb (C:=zE n) _ _ _ trivial λ_ _=>Nat.le_refl _
 case nilck x=>refine zBF (C:=zE n) _ _ _ ?_ λ_ _ _=>trivial;show zE n (zHg (aV es tm x));unfold zHg;split <;> trivial
 case arith op x y=>
  show zE n (zR5 (aV es tm x) (λa=>zR5 (aV es tm y) (λb=>zOM op a b (aV es tm x) (aV es tm y)) (wA op (aV es tm x) (aV es tm y))) (wA op (aV es tm x) (aV es tm y)));have hg:=zRJ (n:=n) op (aV es tm x) (aV es tm y);cases hx:aV es tm x <;> try (rw[hx]at hg; exact hg)
  case nat a=>
   rw[hx]at hg;cases hy:aV es tm y <;> try (rw[hy]at hg; exact hg)
   case nat b=>
    rw[hy]at hg;show zE n (Option.rec (motive:=λ_=>BinOp->CV->CV->OR) (λop x y=>wA op x y) (λv _ _ _=>.val v) (zIJ op a b) op (.nat a) (.nat b));cases zIJ op a b with
    |none=>exact hg|some v=>trivial
 case eq neg k cst x y=>
  show zE n (match eqC k cst (aV es tm x) (aV es tm y)with
   |some b=>.val (.bool (xor neg b))|none=>match zJh k (aV es tm x) (aV es tm y)with
    |true=>wT|false=>.err 123)
  split
  . trivial
  . split
    . exact⟨trivial,trivial⟩
    . trivial
 case un op x=>
  cases op with
  |neg=>exact zAw (C:=zE n) _ _ _ trivial (λ_ _=>trivial) λ_ _ _=>trivial
  |xor=>exact zAw (C:=zE n) _ _ _ trivial (λ_ _=>trivial) λ_ _ _=>trivial
  |not=>exact uD (C:=zE n) _ _ _ trivial λ_ _=>trivial
  |plus=>trivial
 case cvInt k x=>
  show zE n (zHP k (aV es tm x));unfold zHP;split
  . exact zQg _ _
  . exact ko (C:=zE n) _ _ _ _ trivial (λ_ _=>trivial) (λ_ _ _=>trivial) λ_ _=>trivial
 case cvStr=>exact yP (C:=zE n) _ _ _ trivial λ_ _=>trivial
 case cvSB=>
  refine qK (C:=zE n) _ _ _ ?_ λ_ _=>by rw[zw]; trivial
  refine yP (C:=zE n) _ _ _ trivial λ_ _=>?_;rw[zw]; trivial
 case cvMark=>refine yY (C:=zE n) _ _ _ _ trivial (λ_=>trivial) λ_ _ _ _ _ _ _=>?_;exact yh (C:=zE n) _ _ _ trivial λ_ _=>Nat.le_refl _
 case cvBS=>
  refine qy (C:=zE n) _ _ _ ?_ λ_ _ _ _ _=>zJ (C:=zE n) _ _ _ trivial λ_=>trivial;refine yY (C:=zE n) _ _ _ _ trivial (λ_=>trivial) λ_ _ _ _ _ _ _=>?_;refine xR (C:=zE n) _ _ _ trivial λ_ _=>?_;refine yb (C:=zE n) _ _ _ trivial λ_ _=>?_;unfold zNW;split
  . trivial
  . split <;> trivial
 case iface=>trivial
 case mkfn=>trivial
 case mkmap=>trivial
 case mkslice=>refine yf (C:=zE n) _ _ _ trivial λ_ _=>?_;refine yf (C:=zE n) _ _ _ trivial λ_ _=>?_;refine zJ (C:=zE n) _ _ _ trivial λ_=>?_;rw[zw,zw]; trivial
 case slArr=>exact xU (C:=zE n) _ _ _ trivial λ_ _ _=>jk _ _ _ _ _ _ _ λ_ _ _=>zCU _ _ _ _ _ _ _
 case slSl=>
  refine qy (C:=zE n) _ _ _ ?_ λ_ _ _ _ _=>by
   unfold zIw;split
   . split
     . split
       . rw[zw]; trivial
       . trivial
     . trivial
   . trivial
  refine yY (C:=zE n) _ _ _ _ trivial (λ_=>jk _ _ _ _ _ _ _ λ_ _ _=>trivial) λ_ _ _ _ _ _ _=>?_;refine zJ (C:=zE n) _ _ _ trivial λ_=>?_;unfold zBS;split
  . split
    . split
      . refine yh (C:=zE n) _ _ _ trivial λ_ _=>?_;refine zJ (C:=zE n) _ _ _ trivial λ_=>?_;rw[zw]; trivial
      . exact jk _ _ _ _ _ _ _ λ_ _ _=>zCU _ _ _ _ _ _ _
    . exact jk _ _ _ _ _ _ _ λ_ _ _=>zCU _ _ _ _ _ _ _
  . exact jk _ _ _ _ _ _ _ λ_ _ _=>zCU _ _ _ _ _ _ _
 case slStr=>
  refine qK (C:=zE n) _ _ _ ?_ λ_ _=>by rw[zw];refine jk _ _ _ _ _ _ _ λ_ _ _=>?_;refine zJ (C:=zE n) _ _ _ trivial λ_=>?_;exact yb (C:=zE n) _ _ _ trivial λ_ _=>trivial
  refine yP (C:=zE n) _ _ _ trivial λ_ _=>?_;rw[zw];refine jk _ _ _ _ _ _ _ λ_ _ _=>?_;refine zJ (C:=zE n) _ _ _ trivial λ_=>?_;exact zJk (C:=zE n) _ _ trivial λ_ _=>trivial
 case addOff=>refine xU (C:=zE n) _ _ _ trivial λ_ _ _=>?_;rw[zw]; trivial
 case part=>exact zAF (C:=zE n) _ _ _ trivial λ_ _=>zMG _ _ _ _ _
 case ixArr=>refine xU (C:=zE n) _ _ _ trivial λ_ _ _=>?_;refine yf (C:=zE n) _ _ _ trivial λ_ _=>?_;refine zJ (C:=zE n) _ _ _ trivial λ_=>?_;rw[zw]; trivial
 case ixSl=>
  refine qy (C:=zE n) _ _ _ ?_ λ_ _ _ _ _=>by
   unfold zSK;split
   . split
     . split <;> trivial
     . trivial
   . unfold zN0;split
     . split
       . rw[zw]; trivial
       . trivial
     . trivial
  refine yY (C:=zE n) _ _ _ _ trivial (λ_=>trivial) λ_ _ _ _ _ _ _=>?_;refine zGr (C:=zE n) ?_ λ_ _ _ _ _ _ _=>trivial;refine yf (C:=zE n) _ _ _ trivial λ_ _=>?_;refine zJ (C:=zE n) _ _ _ trivial λ_=>?_;rw[zw]; trivial
 case ixAgg=>refine zAF (C:=zE n) _ _ _ trivial λ_ _=>?_;refine yf (C:=zE n) _ _ _ trivial λ_ _=>?_;exact zJ (C:=zE n) _ _ _ trivial λ_=>zMG _ _ _ _ _
 case ixStr=>
  refine qK (C:=zE n) _ _ _ ?_ λ_ _=>by refine yf (C:=zE n) _ _ _ trivial λ_ _=>?_;exact jQ (C:=zE n) _ _ trivial λ_ _=>trivial
  refine yP (C:=zE n) _ _ _ trivial λ_ _=>?_;refine yf (C:=zE n) _ _ _ trivial λ_ _=>?_;exact zAa (C:=zE n) _ _ _ trivial λ_ _=>trivial
 case lookup kk z ok x k=>
  have hl:∀l,zE n (zDB kk z ok (aV es tm k) l):=by
   intro l;refine zJ (C:=zE n) _ _ _ trivial λ_=>?_;split
   . trivial
   . trivial
   . unfold zUt;split
     . exact zJ (C:=zE n) _ _ _ trivial λ_=>trivial
     . trivial
  refine xT (C:=zE n) _ _ _ _ trivial (λ_=>hl _) λ_ _=>?_;refine v8 (C:=zE n) _ _ _ ?_ λ_ _=>by refine zJ (C:=zE n) _ _ _ trivial λ_=>?_;split <;> trivial
  exact ye (C:=zE n) _ _ _ trivial λ_ _ _=>hl _
 case mapupd=>
  refine xT (C:=zE n) _ _ _ _ trivial (λ_=>trivial) λ_ _=>?_;refine v8 (C:=zE n) _ _ _ ?_ λ_ _=>by
   refine zJ (C:=zE n) _ _ _ trivial λ_=>?_;split
   . exact Nat.le_refl _
   . trivial
  refine ye (C:=zE n) _ _ _ trivial λ_ _ _=>?_;refine zJ (C:=zE n) _ _ _ trivial λ_=>?_;split
  . split
    . exact Nat.le_refl _
    . trivial
  . rw[zw]; exact Nat.le_refl _
  . trivial
 case rangeStr=>exact qK (C:=zE n) _ _ _ (yP (C:=zE n) _ _ _ trivial λ_ _=>trivial) λ_ _=>trivial
 case rangeMap=>refine xT (C:=zE n) _ _ _ _ trivial (λ_=>trivial) λ_ _=>?_;exact ye (C:=zE n) _ _ _ trivial λ_ _ _=>Key.ix_le_succ n
 case next=>
  refine xU (C:=zE n) _ _ _ trivial λ_ _ _=>?_;refine zJ (C:=zE n) _ _ _ trivial λ_=>?_;unfold zUT;split
  . unfold zKp;split
    . exact Nat.le_refl _
    . split
      . rw[zw]; exact Nat.le_refl _
      . trivial
  . exact Nat.le_refl _
  . refine ye (C:=zE n) _ _ _ trivial λ_ _ _=>?_;split
    . trivial
    . split
      . exact Nat.le_refl _
      . exact zJ (C:=zE n) _ _ _ trivial λ_=>zF9 (λ_=>Nat.le_refl _) _ _
  . trivial
 case entry=>
  refine xU (C:=zE n) _ _ _ trivial λ_ _ _=>?_;refine zJ (C:=zE n) _ _ _ trivial λ_=>?_;unfold zNL;split
  . split
    . refine ye (C:=zE n) _ _ _ trivial λ_ _ _=>?_;split <;> trivial
    . trivial
  . trivial
 case tassert=>
  refine qF (C:=zE n) _ _ _ _ trivial (λ_=>zKD _ _) λ_ _ _=>?_;rw[jx];split
  . trivial
  . exact zKD _ _
 case tiface=>
  refine qF (C:=zE n) _ _ _ _ trivial (λ_=>zKD _ _) λ_ _ _=>?_;split
  . trivial
  . exact zKD _ _
  . trivial
 case extract=>exact zHw (C:=zE n) _ _ _ trivial λ_ _=>zAm _ _
 case call=>trivial
 case ext e args=>exact zNV e _
 case callv=>exact zSp _ _
 case invoke=>exact zCX _ _ _
 case append esz bb s x=>show zE n (zBU esz bb s x es tm h n);unfold zBU;refine zPN _ _ _ _ λk l=>?_;exact zJ (C:=zE n) _ _ _ trivial λ_=>zMS _ _ _ _
 case appz zero esz s x=>refine yf (C:=zE n) _ _ _ trivial λ_ _=>?_;refine zJ (C:=zE n) _ _ _ trivial λ_=>?_;rw[zw];exact zJ (C:=zE n) _ _ _ trivial λ_=>zMS _ _ _ _
 case copy esz d x=>
  show zE n (zJe esz d x es tm h n);have hk:∀nf,zE n (zFC h esz (aV es tm x) (λk xs=>zAV (aV es tm d)
   (.eff (.nat 0) h n)
   (λb off _ _ _ _=>onCells (zb b h) (λvs=>yv (xk xs) (onL (jv xs (Nat.mul k esz) vs off) (λl=>.eff (kM k) (yy (some (.cells l)) b h) n) 232) 233) 234) 235) nf 236):=by
   intro nf;refine zPN _ _ _ _ λk l=>?_;refine yY (C:=zE n) _ _ _ _ trivial (λ_=>Nat.le_refl _) λ_ _ _ _ _ _ _=>?_;refine yh (C:=zE n) _ _ _ trivial λ_ _=>?_;refine zJ (C:=zE n) _ _ _ trivial λ_=>?_;exact yb (C:=zE n) _ _ _ trivial λ_ _=>Nat.le_refl _
  unfold zJe zUn;split
  . exact hk _
  . exact yY (C:=zE n) _ _ _ _ trivial (λ_=>hk _) λ_ _ _ _ _ _ _=>hk _
 case lenStr=>exact qK (C:=zE n) _ _ _ (yP (C:=zE n) _ _ _ trivial λ_ _=>trivial) λ_ _=>trivial
 case lenSl=>exact qy (C:=zE n) _ _ _ (yY (C:=zE n) _ _ _ _ trivial (λ_=>trivial) λ_ _ _ _ _ _ _=>trivial) λ_ _ _ _ _=>trivial
 case lenMap=>refine xT (C:=zE n) _ _ _ _ trivial (λ_=>trivial) λ_ _=>?_;exact ye (C:=zE n) _ _ _ trivial λ_ _ _=>trivial
 case capSl=>
  refine yY (C:=zE n) _ _ _ _ trivial (λ_=>trivial) λ_ _ _ _ _ ex _=>?_;cases ex
  . show zE n (zUu _ _ _ _ _ h n);unfold zUu;rw[jx];split
    . trivial
    . refine yh (C:=zE n) _ _ _ trivial λ_ _=>?_;exact zJ (C:=zE n) _ _ _ trivial λ_=>⟨Nat.le_refl _,Nat.le_refl _⟩
  . trivial
 case delete=>
  refine zJ (C:=zE n) _ _ _ trivial λ_=>?_;refine xT (C:=zE n) _ _ _ _ trivial (λ_=>Nat.le_refl _) λ_ _=>?_;refine ye (C:=zE n) _ _ _ trivial λ_ _ _=>?_;split
  . split
    . exact Nat.le_refl _
    . trivial
  . exact Nat.le_refl _
  . trivial
 case clearMap=>refine xT (C:=zE n) _ _ _ _ trivial (λ_=>Nat.le_refl _) λ_ _=>?_;exact ye (C:=zE n) _ _ _ trivial λ_ _ _=>Nat.le_refl _
 case clearSl=>refine yY (C:=zE n) _ _ _ _ trivial (λ_=>Nat.le_refl _) λ_ _ _ _ _ _ _=>?_;refine yh (C:=zE n) _ _ _ trivial λ_ _=>?_;refine zJ (C:=zE n) _ _ _ trivial λ_=>?_;exact yb (C:=zE n) _ _ _ trivial λ_ _=>Nat.le_refl _
 case minmax=>exact zAm _ _
 case defer=>refine vg (C:=zE n) _ _ _ trivial λ_ _ _ _=>?_;split <;> trivial
 case recov=>trivial
 case bad=>trivial
end
end Go.Ev
namespace Go.Ev
variable[Sym]
noncomputable section
variable{P:Program}
variable[SymFact P]
def zd:R->Prop
 |.ok _ _ _ _ n=>n.room|.ret _ _ n=>n.room|.err _=>False|.fork a b=>zd a/\zd b
def zo(n:Key):R->Prop
 |.ok _ _ _ _ n'=>n.ix<=n'.ix|.ret _ _ n'=>n.ix<=n'.ix|.err _=>True|.fork a b=>zo n a/\zo n b
theorem zAu{n:Key}:∀{r:R},zd r->zo n r->n.room
 |.ok _ _ _ _ n',h,h'=>Nat.lt_of_le_of_lt h' h|.ret _ _ n',h,h'=>Nat.lt_of_le_of_lt h' h|.fork a _,h,h'=>zAu h.1 h'.1
theorem zo.le{n n':Key}(hle:n.ix<=n'.ix):∀{r:R},zo n' r->zo n r
 |.ok _ _ _ _ _,h=>Nat.le_trans hle h|.ret _ _ _,h=>Nat.le_trans hle h|.err _,_=>trivial|.fork _ _,h=>⟨zo.le hle h.1,zo.le hle h.2⟩
def xP(call:yw):Prop:=∀d f args h n,zo n (call d f args h n)
theorem yL(d:Option Loc)(v:CV)(tm:Tm)(k:Tm->R):yN d v tm k=k (match d with |none=>tm |some p=>wP v p tm):=by cases d <;> rfl
def jf(k:CV->zC->Key->R)(r:R):R:=R.rec (motive:=λ_=>R) (λ_ _ _ _ _=>.err 300) (λv h n=>k v h n) (λc=>.err c) (λ_ _ a b=>.fork a b) r
theorem jW{k:CV->zC->Key->R}(hk:∀v h n,zo n (k v h n)):∀{r:R},zd (jf k r)->zd r
 |.ok ..,h=>h.elim|.ret v h n,hc=>zAu hc (hk v h n)|.err _,h=>h.elim|.fork _ _,h=>⟨jW hk h.1,jW hk h.2⟩
theorem jX{n:Key}{k:CV->zC->Key->R}(hk:∀v h n,zo n (k v h n)):∀{r:R},zo n r->zo n (jf k r)
 |.ok ..,_=>trivial|.ret v h n',hc=>zo.le hc (hk v h n')|.err _,_=>trivial|.fork _ _,h=>⟨jX hk h.1,jX hk h.2⟩
theorem wO{call:yw}(hcall:xP call){k:KE}(hk:∀es tm ds h n,zo n (k es tm ds h n))(d:Option Loc)(es:List CV)(tm:Tm)(ds:xz)(h:zC)(n:Key) :
 ∀(r:OR),zE n r->zo n (after r call k d es tm ds h n)
 |.val v,_=>by show zo n (yN _ _ _ _); rw[yL]; exact hk _ _ _ _ _|.read v,_=>by show zo n (yN _ _ _ _); rw[yL]; exact hk _ _ _ _ _|.alloc o v,_=>by show zo n (yN _ _ _ _); rw[yL]; exact zo.le (Key.ix_le_succ n) (hk _ _ _ _ _)|.eff v h' n',ho=>by show zo n (yN _ _ _ _); rw[yL]; exact zo.le ho (hk _ _ _ _ _)|.call f args,_=>jX (k:=λv h n=>yN d v tm λtm=>k (v::es) tm ds h n) (λv h n=>by rw[yL]; exact hk _ _ _ _ _) (hcall _ _ _ _ _)|.dfr f args,_=>by show zo n (yN _ _ _ _); rw[yL]; exact hk _ _ _ _ _|.recov,_=>by show zo n (yN _ _ _ _); rw[yL]; exact hk _ _ _ _ _|.err _,_=>trivial|.fork a b,ho=>⟨wO hcall hk d es tm ds h n a ho.1,wO hcall hk d es tm ds h n b ho.2⟩
theorem kg{call:yw}(hcall:xP call):∀(l:List jD) (es:List CV) (tm:Tm) (ds:xz) (h:zC) (n:Key),zo n (xE P call l es tm ds h n)
 | [],_,_,_,_,_=>Nat.le_refl _|.i op::l,es,tm,ds,h,n=>wO hcall (λes tm ds h n=>kg hcall l es tm ds h n) none es tm ds h n _ (vj op)|.o op d::l,es,tm,ds,h,n=>wO hcall (λes tm ds h n=>kg hcall l es tm ds h n) (some d) es tm ds h n _ (vj op)|.g x wnt op d::l,es,tm,ds,h,n=>by
  show zo n (Bool.rec (motive:=λ_=>R)
   (Bool.rec (motive:=λ_=>R) (.err 299) (yN d .undef tm λtm=>xE P call l (.undef::es) tm ds h n) (we (aV es tm x)))
   (after (yX P op es tm h n) call (xE P call l) d es tm ds h n) (kS wnt (aV es tm x)))
  cases kS wnt (aV es tm x)with
  |true=>exact wO hcall (λes tm ds h n=>kg hcall l es tm ds h n) d es tm ds h n _ (vj op)|false=>
   cases we (aV es tm x)with
   |true=>show zo n (yN _ _ _ _); rw[yL]; exact kg hcall l _ _ _ _ _|false=>trivial
structure xS(Y:Psi)(F N:Nat)(tm:Tm)(a:Act):Prop where
 size:N<=a.tmps.size
 tmp:∀t,z8 F t=true->t<=271->t<N->zG Y (qC (Loc.ofNat t) tm) (a.tmps.getD t undef)
def zAU(Y:Psi)(dl:List (Option Nat))(es:List CV)(a:Act):Prop:=∀t i,xZ t dl 0=some i->zG Y (zUl es i) (a.tmps.getD t undef)
def vU(P:Program)(Y:Psi):Prop:=∀g,g<P.globals.size->g<=4095->∃sz,Y (Key.ofNat g)=some ⟨g,0,sz,λn=>n⟩
def qN(Y:Psi)(n:Key):Prop:=∀k:Key,n.ix<=k.ix->Y k=none
def zXH(P:Program)(Y:Psi)(f:FuncId × List CV)(d:Deferred):Prop:=
 ∃fv cap args',d.target=.fn fv cap/\(∀w,(invoke d.target d.args).run P w=(callFunc f.1 args').run P w)/\zP Y f.2 args'.toList
def jg(P:Program)(Y:Psi):xz->List Deferred->Prop
 | [],l=>l=[]
 |f::fs,l=>∃d r,l=d::r/\zXH P Y f d/\jg P Y fs r
structure St(P:Program)(F N:Nat)(Y:Psi)(tm:Tm)(ds:xz)(h:zC)(n:Key)(a:Act)(w:World):Prop where
 frame:xS Y F N tm a
 dfr:jg P Y ds a.defers
 rel:Rel Y (zC.fam h) w
 glob:vU P Y
 fresh:qN Y n
theorem vU.mono{Y Y':Psi}(hle:Y.le Y')(h:vU P Y):vU P Y':=λg h1 h2=>let ⟨sz,e⟩:=h g h1 h2; ⟨sz,hle _ _ e⟩
theorem jg.mono{Y Y':Psi}(hle:Y.le Y'):∀{ds:xz} {l:List Deferred},jg P Y ds l->jg P Y' ds l
 | [],_,h=>h|f::fs,_,h=>by obtain⟨d,r,rfl,⟨fv,cap,as,h1,h2,h3⟩,h4⟩:=h;exact⟨d,r,rfl,⟨fv,cap,as,h1,h2,h3.mono hle⟩,jg.mono hle h4⟩
theorem xS.mono{Y Y':Psi}(hle:Y.le Y'){F N:Nat}{tm:Tm}{a:Act}(h:xS Y F N tm a):xS Y' F N tm a:=⟨h.size,λt h1 h2 h3=>(h.tmp t h1 h2 h3).mono hle⟩
theorem zAU.mono{Y Y':Psi}(hle:Y.le Y'){dl:List (Option Nat)}{es:List CV}{a:Act}(h:zAU Y dl es a):zAU Y' dl es a:=λt i h1=>(h t i h1).mono hle
theorem yF.fresh{Y Y':Psi}{g g':Fam}{n n':Key}{w w':World}(hp:yF Y g n w Y' g' n' w')(h:qN Y n):qN Y' n':=by
 intro k hk
 have:=hp.mono
 rw[hp.out k (.inr hk)];exact h k (by omega)
theorem ww(t:Nat):∀(dl:List (Option Nat)) (i:Nat),xZ t dl (i+1)=(xZ t dl i).map (· + 1)
 | [],_=>rfl|none::r,i=>by show xZ t r (i+1+1)=(xZ t r (i+1)).map (· + 1);exact ww t r (i+1)|some u::r,i=>by
  unfold xZ;simp only;cases Nat.beq u t with
  |true=>rfl|false=>exact ww t r (i+1)
theorem wB(a:Act)(t:Nat)(v:Value)(h:t<a.tmps.size):(a.put (some t) v).tmps.getD t undef=v:=by simp[Act.put,h]
theorem qU(a:Act)(d:Option Nat)(v:Value){t:Nat}(h:d≠some t):(a.put d v).tmps.getD t undef=a.tmps.getD t undef:=by
 cases d with
 |none=>rfl|some u=>
  have:u≠t:=λe=>h (by rw[e])
  simp[Act.put,Array.getElem?_setIfInBounds_ne this]
theorem zGk(a:Act)(d:Option Nat)(v:Value):(a.put d v).tmps.size=a.tmps.size:=by cases d <;> simp[Act.put]
theorem zCi(a:Act)(d:Option Nat)(v:Value):(a.put d v).defers=a.defers:=by cases d <;> rfl
abbrev zMR(d:Option Loc)(v:CV)(tm:Tm):Tm:=match d with |none=>tm |some p=>wP v p tm
theorem jP{F N:Nat}{dst:Option Nat}{d:Option Loc}(h:xp F N dst=some d) :
 (dst=none/\d=none)\/∃t,dst=some t/\t<N/\((z8 F t=false/\d=none)\/(z8 F t=true/\t<=271/\d=some (Loc.ofNat t))):=by
 unfold xp at h;split at h
 . injection h with h; exact .inl ⟨rfl,h.symm⟩
 . rename_i t;split at h
   . cases h
   . rename_i hn;have hn:t+1<=N:=zH hn;split at h
     . rename_i hf; injection h with h; exact .inr ⟨t,rfl,by omega,.inl ⟨hf,h.symm⟩⟩
     . rename_i hf;split at h
       . rename_i hl; injection h with h; exact .inr ⟨t,rfl,by omega,.inr ⟨hf,zH hl,h.symm⟩⟩
       . cases h
theorem zRb{Y:Psi}{F N:Nat}{tm:Tm}{a:Act}{dst:Option Nat}{d:Option Loc}{v:CV}{x:Value}(hf:xS Y F N tm a)(hd:xp F N dst=some d)(hv:zG Y v x) :
 xS Y F N (zMR d v tm) (a.put dst x):=by
 refine⟨by rw[zGk]; exact hf.size,λt h1 h2 h3=>?_⟩;rcases jP hd with⟨rfl,rfl⟩ |⟨u,rfl,hu,⟨hb,rfl⟩ |⟨hb,hle,rfl⟩⟩
 . exact hf.tmp t h1 h2 h3
 . have hne:u≠t:=λe=>by subst e; rw[hb]at h1; cases h1
   rw[qU _ _ _ (by simpa using hne)];exact hf.tmp t h1 h2 h3
 . by_cases e:u=t
   . subst e;rw[wB _ _ _ (Nat.lt_of_lt_of_le hu hf.size)];show zG Y (qC _ (wP v _ tm)) x;rw[kV]; exact hv
   . rw[qU _ _ _ (by simpa using e)];show zG Y (qC _ (wP v _ tm)) _;rw[x9 _ _ _ _ (λh=>e (Loc.ofNat_inj hle h2 h.symm))];exact hf.tmp t h1 h2 h3
theorem zWt{Y:Psi}{F N:Nat}{dl:List (Option Nat)}{es:List CV}{a:Act}{dst:Option Nat}{d:Option Loc}{v:CV}{x:Value}(hs:N<=a.tmps.size)(he:zAU Y dl es a)(hd:xp F N dst=some d)
 (hv:zG Y v x):zAU Y (dst::dl) (v::es) (a.put dst x):=by
 intro t i hi;have other:dst≠some t->zG Y (zUl (v::es) i) ((a.put dst x).tmps.getD t undef):=by
  intro hne;have hi':xZ t dl 1=some i:=by
   cases dst with
   |none=>exact hi|some u=>
    unfold xZ at hi
    have:Nat.beq u t=false:=vG λe=>hne (by rw[e])
    simp only[this]at hi;exact hi
  rw[ww]at hi';cases hw:xZ t dl 0 with
  |none=>rw[hw]at hi'; cases hi'|some j=>rw[hw]at hi';injection hi' with hi'; subst hi';rw[qU _ _ _ hne];exact he t j hw
 by_cases e:dst=some t
 . subst e;rcases jP hd with⟨h1,_⟩ |⟨u,h1,hu,_⟩
   . cases h1
   . injection h1 with h1; subst h1;unfold xZ at hi;have hb:Nat.beq t t=true:=qw t;simp only[hb]at hi;injection hi with hi; subst hi;rw[wB _ _ _ (Nat.lt_of_lt_of_le hu hs)];exact hv
 . exact other e
theorem zKw(a:Act):zQu a.eval:=⟨λ_=>rfl,λ_=>rfl⟩
theorem zK8{F N:Nat}{Y:Psi}{tm:Tm}{ds:xz}{h:zC}{n:Key}{a:Act}{w:World}{dl:List (Option Nat)}{es:List CV}(hs:St P F N Y tm ds h n a w)(he:zAU Y dl es a) :
 ∀L,yG P Y es tm ⟨F,N,dl⟩ a.eval L:=by
 intro L x hxL c hc;clear hxL;unfold zn at hc;split at hc
 . rename_i t;split at hc
   . rename_i i hi;injection hc with hc; subst hc;exact he t i hi
   . split at hc
     . rename_i hb;injection hc with hc; subst hc;rw[Bool.and_eq_true,Bool.and_eq_true]at hb;exact hs.frame.tmp t hb.1.1 (zH hb.1.2) (zH hb.2)
     . cases hc
 . rename_i v;cases hv:zAS 20 v with
   |none=>rw[hv]at hc; cases hc|some c'=>rw[hv]at hc; injection hc with hc; subst hc; exact kc 20 hv
 . rename_i g;split at hc
   . rename_i hb;injection hc with hc; subst hc;rw[Bool.and_eq_true]at hb;obtain⟨sz,e⟩:=hs.glob g (zH hb.1) (zH hb.2);exact zx.2 ⟨_,e,rfl⟩
   . cases hc
 . rename_i f;injection hc with hc; subst hc;exact xW.2 ⟨#[],#[],rfl,zM.2 rfl,zM.2 rfl⟩
end
end Go.Ev
namespace Go.Ev
variable[Sym]
noncomputable section
variable{P:Program}
variable[SymFact P]
def zr(Y₀:Psi)(g₀:Fam)(n₀:Key)(w₀:World):R->Value->World->Prop
 |.ret cv h n,v,w=>∃Y,yF Y₀ g₀ n₀ w₀ Y (zC.fam h) n w/\zG Y cv v|.fork a b,v,w=>zr Y₀ g₀ n₀ w₀ a v w\/zr Y₀ g₀ n₀ w₀ b v w|_,_,_=>False
def yS(P:Program)(f:FuncId)(args:Array Value)(w:World)(K:Value->World->Prop):Prop:=match(callFunc f args).run P w with
 |.ok (.enter g as) w'=>Calls P g as w' λe w''=>∃v,e=.returned v/\K v w''
 |.ok (.value v) w'=>K v w'|_=>False
def zG7(P:Program)(f:FuncId)(args:Array Value)(w:World)(K:World->Prop):Prop:=
 (callFunc f args).run P w=.ok (.enter f args) w/\CallsD P f args .returning w λe u w'=>u=.returning/\∃v,e=.returned v/\K w'
structure yk(P:Program)(call:yw):Prop where
 above:xP call
 calls:∀f args h n Y w args',zP Y args args'.toList->vU P Y->Rel Y (zC.fam h) w->qN Y n->zd (call false f args h n) ->
  yS P f args' w (zr Y (zC.fam h) n w (call false f args h n))
 defers:∀f args h n Y w args',zP Y args args'.toList->vU P Y->Rel Y (zC.fam h) w->qN Y n->zd (call true f args h n) ->
  zG7 P f args' w λw'=>∃v,zr Y (zC.fam h) n w (call true f args h n) v w'
def uI(P:Program)(rc:Bool)(o:Oper)(a:Act)(w:World)(K:Act->World->Prop):Prop:=match(execOp a.eval o).run P w with
 |.ok (.value v) w'=>K (a.put o.dst v) w'|.ok .skip w'=>K (a.put o.dst undef) w'|.ok (.defer d) w'=>K ({ a with defers:=d::a.defers }.put o.dst undef) w'|.ok (.enter f args) w'=>Calls P f args w' λe w''=>∃v,e=.returned v/\K (a.put o.dst v) w''
 |.ok .recover w'=>rc=true/\K (a.put o.dst .nilIface) w'|_=>False
theorem uI.mono{rc:Bool}{o:Oper}{a:Act}{w:World}{K K':Act->World->Prop}(hk:∀a w,K a w->K' a w)(h:uI P rc o a w K):uI P rc o a w K':=by
 unfold uI at *
 generalize (execOp a.eval o).run P w=r at h ⊢;cases r with
 |halt x w'=>exact h.elim|ok x w'=>
  cases x <;> first
   |exact hk _ _ h
   |exact Calls.mono h λe w' ⟨v,e1,e2⟩=>⟨v,e1,hk _ _ e2⟩
   |exact⟨h.1,hk _ _ h.2⟩
   |exact h.elim
structure zVy(P:Program)(ops:Array Oper)(rc:Bool)(Q:Act->World->Prop)(W:List Nat->Act->World->Prop):Prop where
 nil:∀a w,Q a w->W [] a w
 skip:∀i o rest a w,ops[i]? = some o->Region.wanted o (yielded ops a.tmps)=false->W rest (a.put o.dst undef) w->W (i::rest) a w
 step:∀i o rest a w,ops[i]? = some o->Region.wanted o (yielded ops a.tmps)=true->uI P rc o a w (W rest)->W (i::rest) a w
theorem zOX(ops:Array Oper)(Q:Exit->Act->World->Prop):zVy P ops false (Q .normal) (wpOps P ops Q):=by
 refine⟨λa w h=>h,λi o rest a w ho hw h=>?_,λi o rest a w ho hw h=>?_⟩
 . simp only[wpOps,ho,hw,Bool.false_eq_true,if_false]; exact h
 . simp only[wpOps,ho,hw,if_true];refine .inl ?_;unfold Oper.wp;unfold uI at h;generalize (execOp a.eval o).run P w=r at h ⊢;cases r with
   |halt x w'=>exact h.elim|ok x w'=>
    cases x <;> first
     |exact h
     |exact Calls.mono h (λe w' ⟨v,e1,e2⟩=>by subst e1; exact e2)
     |exact absurd h.1 (by simp)
     |exact h.elim
theorem zIb(ops:Array Oper)(Q:Exit->Act->List Frame->World->Prop){cs:List Frame}(hcs:recoverD cs=none) :
 zVy P ops true (λa w=>Q .normal a cs w) (λl a w=>wpOpsS P ops Q l a cs w):=by
 refine⟨λa w h=>h,λi o rest a w ho hw h=>?_,λi o rest a w ho hw h=>?_⟩
 . simp only[wpOpsS,ho,hw,Bool.false_eq_true,if_false]; exact h
 . simp only[wpOpsS,ho,hw,if_true];unfold uI at h;generalize (execOp a.eval o).run P w=r at h ⊢;cases r with
   |halt x w'=>exact h.elim|ok x w'=>
    cases x <;> first
     |exact h
     |exact Calls.mono h (λe w' ⟨v,e1,e2⟩=>by subst e1; exact e2)
     |(simp only[hcs]; exact h.2)
     |exact h.elim
def zYl:CX->Exit->Prop
 |.normal,.normal=>True|.exit i,.exit j=>i=j|.ret,.ret=>True|_,_=>False
section
variable{F N:Nat}{call:yw}{Y:Psi}{tm:Tm}{ds:xz}{h:zC}{n:Key}{a:Act}{w:World}{dl:List (Option Nat)}{es:List CV}
def wk(P:Program)(F N:Nat)(Y:Psi)(h:zC)(n:Key)(w:World)(dl:List (Option Nat))(k:KE)(r:R)(a':Act)(w':World):Prop:=
 ∃es' tm' ds' h' n' Y',St P F N Y' tm' ds' h' n' a' w'/\zAU Y' dl es' a'/\yF Y (zC.fam h) n w Y' (zC.fam h') n' w'/\zd (k es' tm' ds' h' n') /\
  ∀(O:R->Prop),(∀x y,O x->O (.fork x y))->(∀x y,O y->O (.fork x y))->O (k es' tm' ds' h' n')->O r
theorem wk.forkL{k:KE}{r s:R}{a':Act}{w':World}(hx:wk P F N Y h n w dl k r a' w'):wk P F N Y h n w dl k (.fork r s) a' w':=by obtain⟨es',tm',ds',h',n',Y',h1,h2,h3,h4,h5⟩:=hx;exact⟨es',tm',ds',h',n',Y',h1,h2,h3,h4,λO f1 f2 ho=>f1 _ _ (h5 O f1 f2 ho)⟩
theorem wk.forkR{k:KE}{r s:R}{a':Act}{w':World}(hx:wk P F N Y h n w dl k s a' w'):wk P F N Y h n w dl k (.fork r s) a' w':=by obtain⟨es',tm',ds',h',n',Y',h1,h2,h3,h4,h5⟩:=hx;exact⟨es',tm',ds',h',n',Y',h1,h2,h3,h4,λO f1 f2 ho=>f2 _ _ (h5 O f1 f2 ho)⟩
theorem wZ{k:KE}{o:Oper}{d:Option Loc}{v:CV}{x:Value}{Y':Psi}{h':zC}{n':Key}{w':World}(hst:St P F N Y tm ds h n a w)(hev:zAU Y dl es a)(hd:xp F N o.dst=some d)
 (hp:yF Y (zC.fam h) n w Y' (zC.fam h') n' w') (hv:zG Y' v x) (hc:zd (yN d v tm λtm=>k (v::es) tm ds h' n')) :
 wk P F N Y h n w (o.dst::dl) k (yN d v tm λtm=>k (v::es) tm ds h' n') (a.put o.dst x) w':=by
 rw[yL]at hc ⊢;refine⟨v::es,_,ds,h',n',Y',⟨zRb (hst.frame.mono hp.ext) hd hv,?_,hp.rel,hst.glob.mono hp.ext,hp.fresh hst.fresh⟩,zWt hst.frame.size (hev.mono hp.ext) hd hv,hp,hc,λO _ _ ho=>ho⟩;rw[zCi];exact hst.dfr.mono hp.ext
theorem zH6{k:KE}{o:Oper}{d:Option Loc}{x:Value}{w':World}(hst:St P F N Y tm ds h n a w)(hev:zAU Y dl es a)(hd:xp F N o.dst=some d) :
 ∀{r:R},zr Y (zC.fam h) n w r x w'->zd (jf (λv h n=>yN d v tm λtm=>k (v::es) tm ds h n) r) ->
  wk P F N Y h n w (o.dst::dl) k (jf (λv h n=>yN d v tm λtm=>k (v::es) tm ds h n) r) (a.put o.dst x) w'
 |.ok ..,hr,_=>hr.elim|.err _,hr,_=>hr.elim|.ret cv h' n',hr,hc=>by obtain⟨Y',hp,hv⟩:=hr;exact wZ hst hev hd hp hv hc
 |.fork r s,hr,hc=>by
  rcases hr with hr |hr
  . exact wk.forkL (zH6 hst hev hd hr hc.1)
  . exact wk.forkR (zH6 hst hev hd hr hc.2)
theorem qe{o:Oper}{w':World}{x:Value}(hv:kz P a.eval o.op o.type w w' x){K:Act->World->Prop}{rc:Bool}(hk:K (a.put o.dst x) w'):uI P rc o a w K:=by
 obtain⟨nx,h1,h2⟩:=hv;have h1:(execOp a.eval o).run P w=.ok nx w':=h1;unfold uI;rw[h1];rcases h2 with rfl |⟨rfl,rfl⟩
 . exact hk
 . exact hk
theorem ub(hcall:yk P call){k:KE}(hk:∀es tm ds h n,zo n (k es tm ds h n)){o:Oper}{d:Option Loc}(hst:St P F N Y tm ds h n a w)(hev:zAU Y dl es a)
 (hd:xp F N o.dst=some d) {rc:Bool} (hrc:zEZ o.op=true->rc=true):∀(r:OR),zD P Y h n a.eval o.op o.type w r->zE n r->zd (after r call k d es tm ds h n) ->
   uI P rc o a w (wk P F N Y h n w (o.dst::dl) k (after r call k d es tm ds h n))
 |.val v,hs,_,hc=>by obtain⟨x,h1,h2⟩:=hs;exact qe h1 (wZ hst hev hd (yF.refl hst.rel) h2 hc)
 |.read v,hs,_,hc=>by obtain⟨x,h1,h2⟩:=hs hst.rel.on;exact qe h1 (wZ hst hev hd (yF.refl hst.rel) h2 hc)
 |.alloc ob v,hs,_,hc=>by
  obtain⟨w',x,sz,h1,h2,h3,_⟩:=hs;have hroom:n.succ.room:=by have hc':zd (yN d v tm λtm=>k (v::es) tm ds (yy (some ob) n h) n.succ):=hc;rw[yL]at hc';exact zAu hc' (hk _ _ _ _ _)
  have hr:=Key.room_of_succ hroom;have hnone:=hst.fresh n (Nat.le_refl _);have hle:=Psi.le_upd (Y:=Y) (k:=n) ⟨w.heap.size,0,sz,λn=>n⟩ hnone;obtain⟨h4,h5⟩:=h3 _ hle (Psi.upd_same _ _ _);have hp:=vH hst.rel hr hnone h2 h5;rw[<- z7]at hp;exact qe h1 (wZ hst hev hd hp h4 hc)
 |.eff v h' n',hs,ha,hc=>by
  have hroom:n'.room:=by have hc':zd (yN d v tm λtm=>k (v::es) tm ds h' n'):=hc;rw[yL]at hc';exact zAu hc' (hk _ _ _ _ _)
  obtain⟨w',x,Y',h1,h2,h3⟩:=hs hst.rel (λq hq _=>hst.fresh q hq) hroom;exact qe h1 (wZ hst hev hd h2 h3 hc)
 |.call f args,hs,_,hc=>by
  obtain⟨args',h1,h2⟩:=hs hst.rel.on;have hc':zd (jf (λv h n=>yN d v tm λtm=>k (v::es) tm ds h n) (call false f args h n)):=hc;have hcl:=jW (λv h n=>by rw[yL]; exact hk _ _ _ _ _) hc';have hcalls:=hcall.calls f args h n Y w args' h2 hst.glob hst.rel hst.fresh hcl;have hn:=λ(x:Value) (w':World) hr=>zH6 (k:=k) (o:=o) (x:=x) (w':=w') hst hev hd (r:=call false f args h n) hr hc';have h1:(execOp a.eval o).run P w=(callFunc f args').run P w:=h1;unfold uI;rw[h1];unfold yS at hcalls;generalize (callFunc f args').run P w=r at hcalls ⊢;cases r with
  |halt x w'=>exact hcalls.elim|ok x w'=>
   cases x <;> first
    |exact hn _ _ hcalls
    |exact Calls.mono hcalls λe w' ⟨v,e1,e2⟩=>⟨v,e1,hn v w' e2⟩
    |exact hcalls.elim
 |.dfr f args,hs,_,hc=>by obtain⟨dd,fv,cap,args',h1,h2,h3,h4⟩:=hs;have h1:(execOp a.eval o).run P w=.ok (.defer dd) w:=h1;unfold uI;rw[h1];have hc':zd (yN d .undef tm λtm=>k (.undef::es) tm ((f,args)::ds) h n):=hc;show wk P F N Y h n w (o.dst::dl) k (yN d .undef tm λtm=>k (.undef::es) tm ((f,args)::ds) h n) ({ a with defers:=dd::a.defers }.put o.dst undef) w;refine wZ (a:={ a with defers:=dd::a.defers }) (ds:=(f,args)::ds) ⟨⟨hst.frame.size,hst.frame.tmp⟩,⟨dd,a.defers,rfl,⟨fv,cap,args',h2,h3,h4⟩,hst.dfr⟩,hst.rel,hst.glob,hst.fresh⟩ hev hd (yF.refl hst.rel) qb hc'
 |.recov,hs,_,hc=>by obtain⟨h0,h1⟩:=hs;have h1:(execOp a.eval o).run P w=.ok .recover w:=h1;unfold uI;rw[h1];exact⟨hrc h0,wZ hst hev hd (yF.refl hst.rel) (yu.2 rfl) hc⟩
 |.err _,_,_,hc=>hc.elim|.fork r s,hs,ha,hc=>by
  rcases hs hst.rel with hs |hs
  . exact uI.mono (λ_ _ h=>wk.forkL h) (ub hcall hk hst hev hd hrc r hs ha.1 hc.1)
  . exact uI.mono (λ_ _ h=>wk.forkR h) (ub hcall hk hst hev hd hrc s hs ha.2 hc.2)
end
end
end Go.Ev
namespace Go.Ev
variable[Sym]
noncomputable section
variable{P:Program}
variable[SymFact P]
theorem zIO{Y:Psi}{ops:Array Oper}{o:Oper}{j t:Nat}{wnt:Bool}{a:Act}{c:CV}(hg:o.guard=some (j,wnt))(ht:(ops[j]?).bind (·.dst)=some t)(hc:zG Y c (a.tmps.getD t undef)) :
 (kS wnt c=true->Region.wanted o (yielded ops a.tmps)=true)/\(kS wnt c=false->we c=true->Region.wanted o (yielded ops a.tmps)=false):=by
 have hw:Region.wanted o (yielded ops a.tmps)=(yielded ops a.tmps j == some wnt):=by unfold Region.wanted; rw[hg]
 have hy:yielded ops a.tmps j=(match a.tmps[t]? with |some (.bool b)=>some b |_=>none):=by unfold yielded; rw[ht]; rfl
 have hget:∀b,a.tmps.getD t undef=.bool b->a.tmps[t]? = some (.bool b):=by
  intro b h;rw[Array.getD_eq_getD_getElem?]at h;cases hq:a.tmps[t]? with
  |none=>rw[hq]at h; cases h|some v=>rw[hq]at h; exact congrArg some h
 rw[hw,hy];constructor
 . intro hb;unfold kS at hb;split at hb
   . rename_i b;rw[zL]at hc;rw[hget _ hc];cases b <;> cases wnt <;> simp_all
   . cases hb
 . intro hb hn;cases hq:a.tmps[t]? with
   |none=>rfl|some v=>
    have hv:a.tmps.getD t undef=v:=by rw[Array.getD_eq_getD_getElem?,hq]; rfl
    rw[hv]at hc;cases v <;> try rfl
    rename_i b;have hb':c=.bool b\/c=.any:=by
     cases c
     case bool b'=>rw[zL]at hc; injection hc with hc; subst hc; exact .inl rfl
     case any=>exact .inr rfl
     case nat=>rw[zT]at hc; cases hc
     case int=>rw[zf]at hc; cases hc
     case anyi=>rw[yo]at hc; obtain⟨_,hc⟩:=hc; cases hc
     case str=>rw[zg]at hc; obtain⟨_,hc,_⟩:=hc; cases hc
     case big=>rw[wX]at hc; obtain⟨_,hc,_⟩:=hc; cases hc
     case nilptr=>rw[xv]at hc; cases hc
     case ptr=>rw[zx]at hc; obtain⟨_,_,hc⟩:=hc; cases hc
     case nilsl=>rw[yD]at hc; cases hc
     case sl=>rw[yJ]at hc; obtain⟨_,_,_,_,hc,_⟩:=hc; cases hc
     case sst=>rw[ya]at hc; obtain⟨_,hc,_⟩:=hc; cases hc
     case elt=>rw[zBt]at hc; obtain⟨_,_,_,_,_,hc⟩:=hc; cases hc
     case few=>rw[kE]at hc; obtain⟨_,_,_,hc,_⟩:=hc; cases hc
     case win=>rw[qW]at hc; obtain⟨_,_,_,_,_,hc,_⟩:=hc; cases hc
     case nilmap=>rw[yg]at hc; cases hc
     case map=>rw[xC]at hc; obtain⟨_,_,hc⟩:=hc; cases hc
     case func=>rw[xW]at hc; obtain⟨_,_,hc,_⟩:=hc; cases hc
     case nilfunc=>rw[xY]at hc; cases hc
     case iface=>rw[yr]at hc; obtain⟨_,hc,_⟩:=hc; cases hc
     case niliface=>rw[yu]at hc; cases hc
     case agg=>rw[yx]at hc; obtain⟨_,hc,_⟩:=hc; cases hc
     case sym i=>rw[zp]at hc; rcases Sym.one i with⟨_,_,e⟩ |⟨_,e⟩ <;> rw[e]at hc <;> cases hc
     case tup=>rw[yU]at hc; obtain⟨_,hc,_⟩:=hc; cases hc
    rcases hb' with rfl |rfl
    . cases b <;> cases wnt <;> first |rfl |cases hb
    . cases hn
section
variable{F N:Nat}{call:yw}{ops:Array Oper}{rc:Bool}{Q:Act->World->Prop}{W:List Nat->Act->World->Prop}
theorem zPV{j:Nat}:(nth ops.toList j).bind (·.dst)=(ops[j]?).bind (·.dst):=by rw[nth_eq,Array.getElem?_toList]
theorem zWh(hcall:yk P call)(walk:zVy P ops rc Q W){k:KE}(hk:∀es tm ds h n,zo n (k es tm ds h n)){Y:Psi}{tm:Tm}{ds:xz}{h:zC}{n:Key}{a:Act}{w:World}{dl:List (Option Nat)}{es:List CV}
 (hst:St P F N Y tm ds h n a w) (hev:zAU Y dl es a) {i:Nat} {o:Oper} {rest:List Nat} (ho:ops[i]? = some o) (hrc:zEZ o.op=true->rc=true)
 (hc:zd (zXT P call (zAN P F N ops.toList dl o) k es tm ds h n))
 (hnext:∀a' w',wk P F N Y h n w (o.dst::dl) k (zXT P call (zAN P F N ops.toList dl o) k es tm ds h n) a' w'->W rest a' w'):W (i::rest) a w:=by
 unfold zAN at hc hnext;cases hd:xp F N o.dst with
 |none=>simp only[hd]at hc; exact hc.elim|some d=>
  simp only[hd]at hc hnext;have hsim:=λ(w:World)=>zN6 (Y:=Y) (h:=h) (n:=n) (es:=es) (tm:=tm) (ty:=o.type) (w:=w) (zKw a) o.op (zK8 hst hev _);cases hg:o.guard with
  |none=>
   have hw:Region.wanted o (yielded ops a.tmps)=true:=by unfold Region.wanted; rw[hg]
   simp only[hg]at hc hnext;refine walk.step i o rest a w ho hw ?_;cases d with
   |none=>
    have:=ub hcall hk hst hev hd hrc _ (hsim w) (vj _) hc
    exact uI.mono hnext this
   |some p=>
    have:=ub hcall hk hst hev hd hrc _ (hsim w) (vj _) hc
    exact uI.mono hnext this
  |some jw=>
   obtain⟨j,wnt⟩:=jw;simp only[hg]at hc hnext;cases ht:(nth ops.toList j).bind (·.dst)with
   |none=>simp only[ht]at hc; exact hc.elim|some t=>
    simp only[ht]at hc hnext;cases hx:zn P ⟨F,N,dl⟩ (.tmp t)with
    |none=>simp only[hx]at hc; exact hc.elim|some x=>
     simp only[hx]at hc hnext;have hv:=zK8 hst hev [.tmp t] _ (by simp) _ hx;have hv:zG Y (aV es tm x) (a.tmps.getD t undef):=hv;rw[zPV]at ht;obtain⟨w1,w2⟩:=zIO hg ht hv;have hc':zd (Bool.rec (motive:=λ_=>R)
      (Bool.rec (motive:=λ_=>R) (.err 299) (yN d .undef tm λtm=>k (.undef::es) tm ds h n) (we (aV es tm x)))
      (after (yX P (zj P ⟨F,N,dl⟩ o.op) es tm h n) call k d es tm ds h n) (kS wnt (aV es tm x))):=hc
     have hnext':∀a' w',wk P F N Y h n w (o.dst::dl) k (Bool.rec (motive:=λ_=>R)
      (Bool.rec (motive:=λ_=>R) (.err 299) (yN d .undef tm λtm=>k (.undef::es) tm ds h n) (we (aV es tm x)))
      (after (yX P (zj P ⟨F,N,dl⟩ o.op) es tm h n) call k d es tm ds h n) (kS wnt (aV es tm x))) a' w'->W rest a' w':=hnext
     cases hb:kS wnt (aV es tm x)with
     |true=>rw[hb]at hc' hnext';refine walk.step i o rest a w ho (w1 hb) ?_;exact uI.mono hnext' (ub hcall hk hst hev hd hrc _ (hsim w) (vj _) hc')|false=>
      rw[hb]at hc' hnext';cases hn:we (aV es tm x)with
      |false=>rw[hn]at hc'; exact hc'.elim|true=>rw[hn]at hc' hnext';exact walk.skip i o rest a w ho (w2 hb hn) (hnext' _ _ (wZ hst hev hd (yF.refl hst.rel) qb hc'))
theorem zK9(hcall:yk P call)(walk:zVy P ops rc Q W):∀(rest:List Oper) (i:Nat) {Y:Psi} {tm:Tm} {ds:xz} {h:zC} {n:Key} {a:Act} {w:World} {dl:List (Option Nat)} {es:List CV},
 ops.toList.drop i=rest->(∀o∈rest,zEZ o.op=true->rc=true)->St P F N Y tm ds h n a w->zAU Y dl es a ->
 zd (xE P call (je P F N ops.toList dl rest) es tm ds h n) ->
 (∀tm' ds' h' n' Y' a' w',St P F N Y' tm' ds' h' n' a' w'->yF Y (zC.fam h) n w Y' (zC.fam h') n' w'->n'.room ->
   (∀(O:R->Prop),(∀x y,O x->O (.fork x y))->(∀x y,O y->O (.fork x y))->O (.ok .normal tm' ds' h' n')->O (xE P call (je P F N ops.toList dl rest) es tm ds h n))->Q a' w') ->
 W (List.range' i rest.length) a w
 | [],i,Y,tm,ds,h,n,a,w,dl,es,_,_,hst,hev,hc,hQ=>walk.nil a w (hQ tm ds h n Y a w hst (yF.refl hst.rel) hc λO _ _ ho=>ho)|o::rest,i,Y,tm,ds,h,n,a,w,dl,es,hi,hrc,hst,hev,hc,hQ=>by
  have ho:ops[i]? = some o:=by
   rw[<- Array.getElem?_toList]
   have:(ops.toList.drop i)[0]? = some o:=by rw[hi]; rfl
   rw[List.getElem?_drop]at this;exact this
  have hrest:ops.toList.drop (i+1)=rest:=by
   have:=congrArg (List.drop 1) hi
   rw[List.drop_drop]at this;exact this
  rw[List.length_cons,List.range'_succ];refine zWh hcall walk (k:=xE P call (je P F N ops.toList (o.dst::dl) rest)) (λes tm ds h n=>kg hcall.above _ es tm ds h n) hst hev ho (hrc o (by simp)) hc λa' w' hn=>?_;obtain⟨es',tm',ds',h',n',Y',h1,h2,h3,h4,h5⟩:=hn;refine zK9 hcall walk rest (i+1) hrest (λo ho=>hrc o (by simp[ho])) h1 h2 h4 λtm'' ds'' h'' n'' Y'' a'' w'' g1 g2 g3 g4=>?_;exact hQ tm'' ds'' h'' n'' Y'' a'' w'' g1 (h3.trans g2) g3 λO f1 f2 ho=>h5 O f1 f2 (g4 O f1 f2 ho)
end
end
end Go.Ev
namespace Go.Ev
variable[Sym]
noncomputable section
variable{P:Program}
variable[SymFact P]
theorem qt{n:Key}{k:K}(hk:∀tm ds h n,zo n (k tm ds h n)):∀{r:R},zo n r->zo n (qi k r)
 |.ok .normal tm ds h n',ha=>zo.le ha (hk tm ds h n')|.ok (.exit _) _ _ _ _,ha=>ha|.ok .ret _ _ _ _,ha=>ha|.ret ..,_=>trivial|.err _,_=>trivial|.fork _ _,h=>⟨qt hk h.1,qt hk h.2⟩
theorem qG{k:K}(hk:∀tm ds h n,zo n (k tm ds h n)):∀{r:R},zd (qi k r)->zd r
 |.ok .normal tm ds h n',hc=>zAu hc (hk tm ds h n')|.ok (.exit _) _ _ _ _,hc=>hc|.ok .ret _ _ _ _,hc=>hc|.ret ..,hc=>hc.elim|.err _,hc=>hc.elim|.fork _ _,h=>⟨qG hk h.1,qG hk h.2⟩
theorem zA4(id i:Nat)(tm:Tm)(ds:xz)(h:zC)(n:Key):zAM id (.ok (.exit i) tm ds h n)=if i=id then .ok .normal tm ds h n else .ok (.exit i) tm ds h n:=by
 show Bool.rec (motive:=λ_=>R) (.ok (.exit i) tm ds h n) (.ok .normal tm ds h n) (Nat.beq i id)=_;by_cases e:i=id
 . subst e; rw[qw,if_pos rfl]
 . rw[vG e,if_neg e]
theorem zAA{n:Key}(id:Nat):∀{r:R},zo n r->zo n (zAM id r)
 |.ok .normal _ _ _ _,ha=>ha|.ok (.exit i) _ _ _ _,ha=>by rw[zA4]; split <;> exact ha|.ok .ret _ _ _ _,ha=>ha|.ret ..,_=>trivial|.err _,_=>trivial|.fork _ _,h=>⟨zAA id h.1,zAA id h.2⟩
theorem kO(id:Nat):∀{r:R},zd (zAM id r)->zd r
 |.ok .normal _ _ _ _,ha=>ha|.ok (.exit i) _ _ _ _,ha=>by rw[zA4]at ha; split at ha <;> exact ha|.ok .ret _ _ _ _,ha=>ha|.ret ..,h=>h.elim|.err _,h=>h.elim|.fork _ _,h=>⟨kO id h.1,kO id h.2⟩
theorem zGh{C:K->Prop}{a b:K}(v:CV)(ht:v=.bool true->C a)(hf:v=.bool false->C b)(he:C λ_ _ _ _=>.err 302):C (zIo a b v):=by
 unfold zIo;split
 . exact ht rfl
 . exact hf rfl
 . exact he
section
variable{call:yw}(hcall:xP call)
include hcall
theorem zO1{k:KD}(hk:∀es hs tm ds h n,zo n (k es hs tm ds h n))(d:Option Loc)(es:List CV)(hs:List zC)(tm:Tm)(ds:xz)(h:zC)(n:Key)(r:OR)(ho:zE n r) :
 zo n (zOB call d k r es hs tm ds h n):=by
 cases r with
 |val v=>show zo n (yN _ _ _ _); rw[yL]; exact hk _ _ _ _ _ _|read v=>show zo n (yN _ _ _ _); rw[yL]; exact hk _ _ _ _ _ _|alloc o v=>show zo n (yN _ _ _ _); rw[yL]; exact zo.le (Key.ix_le_succ n) (hk _ _ _ _ _ _)|eff v h' n'=>show zo n (yN _ _ _ _); rw[yL]; exact zo.le ho (hk _ _ _ _ _ _)|call f args=>exact jX (k:=λv h' n'=>yN d v tm λtm=>k (v::es) (h::hs) tm ds h' n') (λv h n=>by rw[yL]; exact hk _ _ _ _ _ _) (hcall _ _ _ _ _)|dfr f args=>trivial|recov=>trivial|err _=>trivial|fork a b=>trivial
omit hcall in
theorem zRN{k:KD}(hk:∀es hs tm ds h n,zo n (k es hs tm ds h n))(op:COp)(d:Option Loc)(chk:Nat)(es:List CV)(hs:List zC)(tm:Tm)(ds:xz)(h:zC)(n:Key)(r:OR) :
 zo n (dNo P op d chk k r es hs tm ds h n):=by
 cases r with
 |val v=>show zo n (yN _ _ _ _); rw[yL]; exact hk _ _ _ _ _ _|read v=>
  show zo n (match ja P op es tm n v chk hs with
   |true=>yN d v tm λtm=>k (v::es) hs tm ds h n
   |false=>.err 311)
  split
  . rw[yL]; exact hk _ _ _ _ _ _
  . trivial
 |alloc o v=>show zo n (yN _ _ _ _); rw[yL]; exact zo.le (Key.ix_le_succ n) (hk _ _ _ _ _ _)|eff v h' n'=>trivial|call f args=>trivial|dfr f args=>trivial|recov=>trivial|err _=>trivial|fork a b=>trivial
theorem zEh{k:KD}(hk:∀es hs tm ds h n,zo n (k es hs tm ds h n))(op:COp)(d:Option Loc)(e:Bool)(chk:Nat)(es:List CV)(hs:List zC)(tm:Tm)(ds:xz)(h:zC)(n:Key) :
 zo n (dOp P call op d e chk k es hs tm ds h n):=by
 unfold dOp;split
 . exact zO1 hcall hk d es hs tm ds h n _ (vj op)
 . exact zRN hk op d chk es hs tm ds h n _
theorem zKE:∀(l:List zRM) (es:List CV) (hs:List zC) (tm:Tm) (ds:xz) (h:zC) (n:Key),zo n (evD P call l es hs tm ds h n)
 | [],_,_,_,_,_,_=>Nat.le_refl _|i::l,es,hs,tm,ds,h,n=>by
  unfold evD;have ih:=λes hs tm ds h n=>zKE l es hs tm ds h n;split
  . exact zEh hcall ih _ _ _ _ _ _ _ _ _ _
  . exact zEh hcall ih _ _ _ _ _ _ _ _ _ _
  . split
    . exact zEh hcall ih _ _ _ _ _ _ _ _ _ _
    . split
      . unfold zGf;rw[yL]; exact ih _ _ _ _ _ _
      . trivial
theorem xL:∀(c:CCode) (tm:Tm) (ds:xz) (h:zC) (n:Key),zo n (zq P call c tm ds h n)
 |.skip,_,_,_,_=>Nat.le_refl _|.region ops,tm,ds,h,n=>kg hcall ops [] tm ds h n|.dregion ops,tm,ds,h,n=>zKE hcall ops [] [] tm ds h n|.seq a b,tm,ds,h,n=>qt (λtm ds h n=>xL b tm ds h n) (xL a tm ds h n)|.cond x a b,tm,ds,h,n=>by exact zGh (C:=λk=>zo n (k tm ds h n)) _ (λ_=>xL a tm ds h n) (λ_=>xL b tm ds h n) trivial|.block id b,tm,ds,h,n=>zAA id (xL b tm ds h n)|.loop b,tm,ds,h,n=>by
  show zo n (zB8 zA0 (zq P call b) tm ds h n)
  have:∀(fuel:Nat) (tm:Tm) (ds:xz) (h:zC) (n:Key),zo n (zB8 fuel (zq P call b) tm ds h n):=by
   intro fuel;induction fuel with
   |zero=>intros; trivial|succ m ih=>intro tm ds h n; exact qt ih (xL b tm ds h n)
  exact this _ _ _ _ _
 |.exit _,_,_,_,_=>Nat.le_refl _|.ret,_,_,_,_=>Nat.le_refl _|.scope b,tm,ds,h,n=>xL b tm ds h n|.bad _,_,_,_,_=>trivial
end
def xN(P:Program)(F N:Nat)(Y₀:Psi)(g₀:Fam)(n₀:Key)(w₀:World):R->Exit->Act->World->Prop
 |.ok cx tm ds h n,e,a,w=>zYl cx e/\∃Y,St P F N Y tm ds h n a w/\yF Y₀ g₀ n₀ w₀ Y (zC.fam h) n w/\n.room|.fork r s,e,a,w=>xN P F N Y₀ g₀ n₀ w₀ r e a w\/xN P F N Y₀ g₀ n₀ w₀ s e a w|_,_,_,_=>False
section
variable{F N:Nat}{Y₀ Y₁:Psi}{g₀ g₁:Fam}{n₀ n₁:Key}{w₀ w₁:World}
theorem xN.trans(hp:yF Y₀ g₀ n₀ w₀ Y₁ g₁ n₁ w₁){e:Exit}{a:Act}{w:World}:∀{r:R},xN P F N Y₁ g₁ n₁ w₁ r e a w->xN P F N Y₀ g₀ n₀ w₀ r e a w
 |.ok ..,⟨h1,Y,h2,h3,h4⟩=>⟨h1,Y,h2,hp.trans h3,h4⟩
 |.ret ..,h=>h|.err _,h=>h|.fork _ _,h=>h.imp (xN.trans hp) (xN.trans hp)
theorem kw{k:K}{e:Exit}{a:Act}{w:World}:∀{r:R},zd (qi k r)->xN P F N Y₀ g₀ n₀ w₀ r e a w ->
 (e=.normal/\∃tm ds h n Y,St P F N Y tm ds h n a w/\yF Y₀ g₀ n₀ w₀ Y (zC.fam h) n w/\zd (k tm ds h n) /\
   ∀e' a' w',xN P F N Y₀ g₀ n₀ w₀ (k tm ds h n) e' a' w'->xN P F N Y₀ g₀ n₀ w₀ (qi k r) e' a' w') \/
 (e≠.normal/\xN P F N Y₀ g₀ n₀ w₀ (qi k r) e a w)
 |.ok .normal tm ds h n,hc,⟨h1,Y,h2,h3,h4⟩=>by
  cases e <;> first |exact h1.elim |skip
  exact .inl ⟨rfl,tm,ds,h,n,Y,h2,h3,hc,λe' a' w' ho=>ho⟩
 |.ok (.exit i) tm ds h n,hc,⟨h1,Y,h2,h3,h4⟩=>.inr ⟨by rintro rfl; exact h1.elim,h1,Y,h2,h3,h4⟩|.ok .ret tm ds h n,hc,⟨h1,Y,h2,h3,h4⟩=>.inr ⟨by rintro rfl; exact h1.elim,h1,Y,h2,h3,h4⟩|.ret ..,hc,_=>hc.elim|.err _,hc,_=>hc.elim|.fork r s,hc,ho=>by
  rcases ho with ho |ho
  . rcases kw hc.1 ho with⟨h1,tm,ds,h,n,Y,h2,h3,h4,h5⟩ |⟨h1,h2⟩
    . exact .inl ⟨h1,tm,ds,h,n,Y,h2,h3,h4,λe' a' w' q=>.inl (h5 e' a' w' q)⟩
    . exact .inr ⟨h1,.inl h2⟩
  . rcases kw hc.2 ho with⟨h1,tm,ds,h,n,Y,h2,h3,h4,h5⟩ |⟨h1,h2⟩
    . exact .inl ⟨h1,tm,ds,h,n,Y,h2,h3,h4,λe' a' w' q=>.inr (h5 e' a' w' q)⟩
    . exact .inr ⟨h1,.inr h2⟩
theorem zAE{id:Nat}{e:Exit}{a:Act}{w:World}{Q:Exit->Act->World->Prop}:∀{r:R},(∀e a w,xN P F N Y₀ g₀ n₀ w₀ (zAM id r) e a w->Q e a w)->xN P F N Y₀ g₀ n₀ w₀ r e a w->Exit.inBlock id Q e a w
 |.ok .normal tm ds h n,hq,⟨h1,Y,h2,h3,h4⟩=>by
  cases e <;> first |exact h1.elim |skip
  exact hq .normal a w ⟨trivial,Y,h2,h3,h4⟩
 |.ok (.exit i) tm ds h n,hq,⟨h1,Y,h2,h3,h4⟩=>by
  cases e <;> first |exact h1.elim |skip
  rename_i j;have h1:i=j:=h1;subst h1;rw[zA4]at hq;unfold Exit.inBlock;simp only;split
  . rename_i e;rw[if_pos e]at hq;exact hq .normal a w ⟨trivial,Y,h2,h3,h4⟩
  . rename_i e;rw[if_neg e]at hq;exact hq (.exit i) a w ⟨rfl,Y,h2,h3,h4⟩
 |.ok .ret tm ds h n,hq,⟨h1,Y,h2,h3,h4⟩=>by
  cases e <;> first |exact h1.elim |skip
  exact hq .ret a w ⟨trivial,Y,h2,h3,h4⟩
 |.ret ..,_,ho=>ho.elim|.err _,_,ho=>ho.elim|.fork r s,hq,ho=>by
  rcases ho with ho |ho
  . exact zAE (λe a w h=>hq e a w (.inl h)) ho
  . exact zAE (λe a w h=>hq e a w (.inr h)) ho
theorem zCk{Q:Exit->Act->World->Prop}{e:Exit}{a:Act}{w:World}:∀{r:R},(xN P F N Y₀ g₀ n₀ w₀ r e a w->Q e a w)->xN P F N Y₀ g₀ n₀ w₀ r e a w->Exit.noGoto Q e a w
 |.ok cx tm ds h n,hq,ho=>by cases e <;> first |exact hq ho |(cases cx <;> exact ho.1.elim)
 |.ret ..,_,ho=>ho.elim|.err _,_,ho=>ho.elim|.fork r s,hq,ho=>by
  rcases ho with ho |ho
  . exact zCk (λh=>hq (.inl h)) ho
  . exact zCk (λh=>hq (.inr h)) ho
end
theorem zLR(call:yw)(b:CCode):zq P call (.loop b)=zB8 zA0 (zq P call b):=rfl
theorem zIj(F N:Nat)(b:Code):zS P F N (.loop b)=.loop (zS P F N b):=rfl
def uQ(P:Program)(c:Code)(Q:Exit->Act->World->Prop)(a:Act)(w:World):Prop:=
 ∀(b:Frame) (k:List Item) (cs:List Frame),∃e a' w',Q e a' w'/\Arrives P (lone (b.at a (.code c::.inLoop c::k)) cs w) b k cs e a' w'
theorem uz{c:Code}{Q:Exit->Act->World->Prop}{a:Act}{w:World}(h:c.wp P (Exit.then (uQ P c Q) Q) a w):uQ P c Q a w:=by
 intro b k cs;obtain⟨e,a₁,w₁,hq,harr⟩:=h b (.inLoop c::k) cs;cases e with
 |normal=>obtain⟨e₂,a₂,w₂,hq₂,harr₂⟩:=hq b k cs;exact⟨e₂,a₂,w₂,hq₂,.of_steps (Steps.trans harr (.one step_inLoop)) harr₂⟩
 |exit id=>exact⟨_,a₁,w₁,hq,.pass (x:=.inLoop c) rfl (λ_ _=>.inl (by simp)) harr⟩|goto l=>exact⟨_,a₁,w₁,hq,.pass (x:=.inLoop c) rfl (λ_ _=>.inl (by simp)) harr⟩|ret=>exact⟨_,a₁,w₁,hq,.pass (x:=.inLoop c) rfl (λ_ _=>.inl (by simp)) harr⟩|panic ch=>exact⟨_,a₁,w₁,hq,.pass (x:=.inLoop c) rfl (λ_ _=>.inl (by simp)) harr⟩|outgrown=>exact⟨_,a₁,w₁,hq,.pass (x:=.inLoop c) rfl (λ_ _=>.inl (by simp)) harr⟩
theorem zHb{c:Code}{Q:Exit->Act->World->Prop}{a:Act}{w:World}(h:uQ P c Q a w):(Code.loop c).wp P Q a w:=by intro b k cs;obtain⟨e,a',w',hq,harr⟩:=h b k cs;exact⟨e,a',w',hq,.of_steps (.one step_loop) harr⟩
def qc(P:Program)(F N:Nat)(call:yw):Prop:=∀(id:Nat) (ops:Array Oper) (Y:Psi) (tm:Tm) (ds:xz) (h:zC) (n:Key) (a:Act) (w:World),zHl ops.toList=true ->
 St P F N Y tm ds h n a w->zd (zq P call (zKB P F N ops.toList) tm ds h n) ->
 (Code.region id ops true).wp P (xN P F N Y (zC.fam h) n w (zq P call (zKB P F N ops.toList) tm ds h n)) a w
theorem zMH(l:List Oper)(h:zHl l=true):∀o∈l,zEZ o.op=false:=by
 induction l with
 |nil=>intro o ho; cases ho
 |cons x l ih=>
  intro o ho;unfold zHl at h;rw[Bool.and_eq_true]at h;rcases List.mem_cons.1 ho with rfl |ho
  . have:=h.1
    cases hr:zEZ o.op with
    |false=>rfl|true=>rw[hr]at this; cases this
  . exact ih h.2 o ho
theorem kG{F N:Nat}{call:yw}(hcall:yk P call)(hdraw:qc P F N call):∀(c:Code) {Y:Psi} {tm:Tm} {ds:xz} {h:zC} {n:Key} {a:Act} {w:World},
 zt c=true->St P F N Y tm ds h n a w->zd (zq P call (zS P F N c) tm ds h n)->c.wp P (xN P F N Y (zC.fam h) n w (zq P call (zS P F N c) tm ds h n)) a w:=by
 intro c;induction c with
 |skip=>intro Y tm ds h n a w _ hst hc; exact wp_skip ⟨trivial,Y,hst,yF.refl hst.rel,hc⟩
 |label l=>intro Y tm ds h n a w _ hst hc; exact wp_label ⟨trivial,Y,hst,yF.refl hst.rel,hc⟩
 |region id ops dr=>
  intro Y tm ds h n a w hnr hst hc;cases dr with
  |true=>exact hdraw id ops Y tm ds h n a w hnr hst hc|false=>
   refine wp_region ?_;have hc':zd (xE P call (je P F N ops.toList [] ops.toList) [] tm ds h n):=hc
   have:=zK9 (F:=F) (N:=N) hcall (zOX (P:=P) ops (xN P F N Y (zC.fam h) n w (xE P call (je P F N ops.toList [] ops.toList) [] tm ds h n)))
    ops.toList 0 rfl (λo ho hr=>by rw[zMH _ hnr o ho]at hr; cases hr) hst (dl:=[]) (es:=[]) (λt i hi=>by cases hi) hc'
    (λtm' ds' h' n' Y' a' w' g1 g2 g3 g4=>g4 (λr=>xN P F N Y (zC.fam h) n w r .normal a' w') (λ_ _ h=>.inl h) (λ_ _ h=>.inr h) ⟨trivial,Y',g1,g2,g3⟩)
   rw[Array.length_toList]at this;rw[List.range_eq_range'];exact this
 |seq x y ihx ihy=>
  intro Y tm ds h n a w hnr hst hc;have hnr:zt x=true/\zt y=true:=by simpa [zt]using hnr
  have hc:zd (qi (zq P call (zS P F N y)) (zq P call (zS P F N x) tm ds h n)):=hc;have hab:=λtm ds h n=>xL (P:=P) hcall.above (zS P F N y) tm ds h n;refine wp_seq (wp_mono (ihx hnr.1 hst (qG hab hc)) λe a' w' ho=>?_);rcases kw hc ho with⟨rfl,tm',ds',h',n',Y',h2,h3,h4,h5⟩ |⟨h1,h2⟩
  . exact wp_mono (ihy hnr.2 h2 h4) λe'' a'' w'' ho'=>h5 e'' a'' w'' (xN.trans h3 ho')
  . cases e <;> first |exact absurd rfl h1 |exact h2
 |cond x p q ihp ihq=>
  intro Y tm ds h n a w hnr hst hc;have hnr:zt p=true/\zt q=true:=by simpa [zt]using hnr
  unfold zS at hc ⊢;cases hx:zn P ⟨F,N,[]⟩ x with
  |none=>simp only[hx]at hc; exact hc.elim|some cx=>
   simp only[hx]at hc ⊢;have hv:=zK8 hst (dl:=[]) (es:=[]) (λt i hi=>by cases hi) [x] x (by simp) cx hx;have hc:zd (zIo (zq P call (zS P F N p)) (zq P call (zS P F N q)) (aV [] tm cx) tm ds h n):=hc;show(Code.cond x p q).wp P (xN P F N Y (zC.fam h) n w (zIo (zq P call (zS P F N p)) (zq P call (zS P F N q)) (aV [] tm cx) tm ds h n)) a w;revert hc;refine zGh (C:=λk=>zd (k tm ds h n)->(Code.cond x p q).wp P (xN P F N Y (zC.fam h) n w (k tm ds h n)) a w) _ (λe hc=>?_) (λe hc=>?_) (λhc=>hc.elim)
   . rw[e]at hv;exact wp_cond_true (zL.1 hv) (ihp hnr.1 hst hc)
   . rw[e]at hv;exact wp_cond_false (zL.1 hv) (ihq hnr.2 hst hc)
 |block id b ih=>intro Y tm ds h n a w hnr hst hc;have hc:zd (zAM id (zq P call (zS P F N b) tm ds h n)):=hc;refine wp_block (wp_mono (ih hnr hst (kO id hc)) λe a' w' ho=>?_);exact zAE (λ_ _ _ h=>h) ho
 |loop b ih=>
  intro Y tm ds h n a w hnr hst hc;rw[zIj,zLR]at hc ⊢;have main:∀(fuel:Nat) {Y:Psi} {tm:Tm} {ds:xz} {h:zC} {n:Key} {a:Act} {w:World},St P F N Y tm ds h n a w->zd (zB8 fuel (zq P call (zS P F N b)) tm ds h n) ->
   uQ P b (xN P F N Y (zC.fam h) n w (zB8 fuel (zq P call (zS P F N b)) tm ds h n)) a w:=by
   intro fuel;induction fuel with
   |zero=>intro Y tm ds h n a w _ hc; exact hc.elim
   |succ m ihm=>
    intro Y tm ds h n a w hst hc;have hc:zd (qi (zB8 m (zq P call (zS P F N b))) (zq P call (zS P F N b) tm ds h n)):=hc;have hab:∀tm ds h n,zo n (zB8 m (zq P call (zS P F N b)) tm ds h n):=by
     have:∀(fuel:Nat) (tm:Tm) (ds:xz) (h:zC) (n:Key),zo n (zB8 fuel (zq P call (zS P F N b)) tm ds h n):=by
      intro fuel;induction fuel with
      |zero=>intros; trivial|succ m ih=>intro tm ds h n; exact qt ih (xL hcall.above _ tm ds h n)
     exact this m
    refine uz (wp_mono (ih hnr hst (qG hab hc)) λe a' w' ho=>?_);rcases kw hc ho with⟨rfl,tm',ds',h',n',Y',h2,h3,h4,h5⟩ |⟨h1,h2⟩
    . intro b' k cs;obtain⟨e,a'',w'',hq,harr⟩:=ihm h2 h4 b' k cs;exact⟨e,a'',w'',h5 e a'' w'' (xN.trans h3 hq),harr⟩
    . cases e <;> first |exact absurd rfl h1 |exact h2
  exact zHb (main zA0 hst hc)
 |exit id=>intro Y tm ds h n a w _ hst hc; exact wp_exit ⟨rfl,Y,hst,yF.refl hst.rel,hc⟩
 |ret=>intro Y tm ds h n a w _ hst hc; exact wp_ret ⟨trivial,Y,hst,yF.refl hst.rel,hc⟩
 |scope b ih=>intro Y tm ds h n a w hnr hst hc;exact wp_scope_straight (wp_mono (ih hnr hst hc) λe a' w' ho=>zCk (λh=>h) ho)
 |_=>intro Y tm ds h n a w _ hst hc; exact hc.elim
end
end Go.Ev
namespace Go.Ev
variable[Sym]
noncomputable section
variable{P:Program}
variable[SymFact P]
theorem zA9{F N:Nat}{Y:Psi}{tm:Tm}{a:Act}{t:Nat}{x:zY}(hf:xS Y F N tm a)(hx:zn P ⟨F,N,[]⟩ (.tmp t)=some x):zG Y (aV [] tm x) (a.tmps.getD t undef):=by
 unfold zn xZ at hx;simp only at hx;split at hx
 . rename_i hb;injection hx with hx; subst hx;rw[Bool.and_eq_true,Bool.and_eq_true]at hb;exact hf.tmp t hb.1.1 (zH hb.1.2) (zH hb.2)
 . cases hx
theorem zFh{Y:Psi}{h:zC}{w:World}(hrel:jC Y (zC.fam h) w){b:Key}{p:Pl}{vs:List CV}(hp:Y b=some p)(hv:zBQ h b=some vs):zBf Y w p vs:=by
 unfold zBQ at hv;split at hv
 . rename_i q hq; injection hv with hv; subst hv; exact yZ.toRo (hrel b _ p hq hp)
 . rename_i q hq; injection hv with hv; subst hv; exact hrel b _ p hq hp
 . cases hv
def zLD(tmps:Array Value):ResultVar->Sem Value
 |.tmp t=>pure (tmps.getD t undef)|.cell a t=>do loadVar t (<- asAddr (tmps.getD a undef))
theorem zUJ{F N:Nat}{Y:Psi}{tm:Tm}{a:Act}{h:zC}{w:World}(hf:xS Y F N tm a)(hrel:jC Y (zC.fam h) w){r:ResultVar}{c:CRes}{v:CV}(hc:xc P F N r=some c)
 (hv:zSX h tm c=some v):∃x,(zLD a.tmps r).run P w=.ok x w/\zG Y v x:=by
 unfold xc at hc;split at hc
 . rename_i t;cases hx:zn P ⟨F,N,[]⟩ (.tmp t)with
   |none=>rw[hx]at hc; cases hc|some x=>rw[hx]at hc;injection hc with hc; subst hc;injection hv with hv; subst hv;exact⟨_,rfl,zA9 hf hx⟩
 . rename_i t ty;split at hc
   . rename_i s x ha hs hx;injection hc with hc; subst hc;have hr:=zA9 hf hx;unfold zSX at hv;simp only at hv;split at hv
     . rename_i b off he;rw[he,zx]at hr;obtain⟨p,hp,hr⟩:=hr;split at hv
       . rename_i cs hcs;have hcells:=zFh hrel hp hcs;cases hl:zAY cs off s with
         |none=>rw[hl]at hv; cases hv|some l=>rw[hl]at hv;injection hv with hv; subst hv;obtain⟨xs,hrun,hxs⟩:=qD (P:=P) hcells hl;exact⟨.agg xs.toArray,by simp only[zLD,hr,asAddr,Sem.run_bind,Sem.run_pure,Result.andThen_ok,loadVar,jS ha,if_true,yl hs,hrun],yx.2 ⟨_,rfl,by simpa using hxs⟩⟩
       . cases hv
     . cases hv
   . rename_i s x ha hs hx;injection hc with hc; subst hc;have hr:=zA9 hf hx;unfold zSX at hv;simp only at hv;split at hv
     . rename_i b off he;rw[he,zx]at hr;obtain⟨p,hp,hr⟩:=hr;split at hv
       . rename_i cs hcs;have hcells:=zFh hrel hp hcs;rw[qp]at hv;obtain⟨y,hrun,hy⟩:=zBE (P:=P) hcells hv;exact⟨y,by simp only[zLD,hr,asAddr,Sem.run_bind,Sem.run_pure,Result.andThen_ok,loadVar,jS ha,Bool.false_eq_true,if_false,hrun],hy⟩
       . cases hv
     . cases hv
   . cases hc
theorem zGK{F N:Nat}{Y:Psi}{tm:Tm}{a:Act}{h:zC}{w:World}(hf:xS Y F N tm a)(hrel:jC Y (zC.fam h) w):∀{l:List ResultVar} {cs:List CRes} {vs:List CV},
 xH (xc P F N) l=some cs->zDM h tm cs=some vs->∃xs,(l.mapM (zLD a.tmps)).run P w=.ok xs w/\zP Y vs xs
 | [],cs,vs,hc,hv=>by injection hc with hc; subst hc;injection hv with hv; subst hv;exact⟨[],rfl,zM.2 rfl⟩
 |r::l,cs,vs,hc,hv=>by
  unfold xH at hc;cases h1:xc P F N r with
  |none=>rw[h1]at hc; cases hc|some c=>
   simp only[h1]at hc;cases h2:xH (xc P F N) l with
   |none=>rw[h2]at hc; cases hc|some cs'=>
    simp only[h2]at hc;injection hc with hc; subst hc;unfold zDM at hv;cases h3:zSX h tm c with
    |none=>rw[h3]at hv; cases hv|some v=>
     simp only[h3]at hv;cases h4:zDM h tm cs' with
     |none=>rw[h4]at hv; cases hv|some vs'=>simp only[h4]at hv;injection hv with hv; subst hv;obtain⟨x,g1,g2⟩:=zUJ hf hrel h1 h3;obtain⟨xs,g3,g4⟩:=zGK hf hrel h2 h4;exact⟨x::xs,by simp only[List.mapM_cons,Sem.run_bind,g1,Result.andThen_ok,g3,Sem.run_pure],zW.2 ⟨g2,g4⟩⟩
theorem zEX{F N:Nat}{Y:Psi}{tm:Tm}{a:Act}{h:zC}{w:World}{fn:Func}(hf:xS Y F N tm a)(hrel:jC Y (zC.fam h) w){cs:List CRes}{v:CV}
 (hc:xH (xc P F N) fn.results.toList=some cs) (hv:zDQ h tm cs=some v):∃x,(results fn a.tmps).run P w=.ok x w/\zG Y v x:=by
 have hm:∀{xs:List Value},(fn.results.toList.mapM (zLD a.tmps)).run P w=.ok xs w->(fn.results.mapM (zLD a.tmps)).run P w=.ok xs.toArray w:=by intro xs hx;rw[Array.mapM_eq_mapM_toList,Sem.run_map,hx]; rfl
 have hres:(results fn a.tmps).run P w=((fn.results.mapM (zLD a.tmps)).run P w).andThen λvs w=>.ok (if h:vs.size=1 then vs[0]else .tuple vs) w:=by
  have:results fn a.tmps=(fn.results.mapM (zLD a.tmps) >>= λvs=>pure (if h:vs.size=1 then vs[0]else .tuple vs)):=by
   unfold results
   congr 1
  rw[this,Sem.run_bind]; rfl
 unfold zDQ at hv;split at hv
 . rename_i u hl;injection hv with hv; subst hv;obtain⟨xs,h1,h2⟩:=zGK hf hrel hc hl;obtain⟨x,r,rfl,h3,h4⟩:=za.1 h2;rw[zM]at h4; subst h4;exact⟨x,by rw[hres,hm h1,Result.andThen_ok]; rfl,h3⟩
 . rename_i vs hne hl;injection hv with hv; subst hv;obtain⟨xs,h1,h2⟩:=zGK hf hrel hc hl;refine⟨.tuple xs.toArray,?_,yU.2 ⟨_,rfl,h2⟩⟩;rw[hres,hm h1,Result.andThen_ok]
   have:¬(xs.toArray.size=1):=by
    intro h;have hl:=h2.length
    have:vs.length=1:=by simp at h; omega
    match vs,this with
    | [u],_=>exact hne u rfl
   rw[dif_neg this]
 . cases hv
theorem zNb{i j:Nat}(hi:i<=271)(hj:j<=271)(h:i≠j):Loc.ofNat i≠Loc.ofNat j:=λe=>h (Loc.ofNat_inj hi hj e)
theorem zIs{Y:Psi}:∀(args:List CV) (as:List Value) (i:Nat) (tm:Tm) (t:Nat) (v:Value),zP Y args as->t<=271->(t<i\/i+as.length<=t->zG Y (qC (Loc.ofNat t) tm) v)->(∀u,i<=t->as[t - i]? = some u->u=v) ->
 (i<=t->qC (Loc.ofNat t) tm=.any)->zG Y (qC (Loc.ofNat t) (qz args i tm)) v
 | [],as,i,tm,t,v,ha,ht,h1,h2,h3=>by
  rw[zM]at ha; subst ha;show zG Y (qC (Loc.ofNat t) tm) v;rcases Nat.lt_or_ge t i with h |h
  . exact h1 (.inl h)
  . exact h1 (.inr (by simpa using h))
 |c::args,as,i,tm,t,v,ha,ht,h1,h2,h3=>by
  obtain⟨x,r,rfl,hx,hr⟩:=za.1 ha;unfold qz;split
  . rename_i hle;have hle:=zH hle;refine zIs args r (i+1) (wP c (Loc.ofNat i) tm) t v hr ht (λh=>?_) (λu hu hg=>?_) (λhu=>?_)
    . by_cases e:t=i
      . subst e;rw[kV]
        have:x=v:=h2 x (Nat.le_refl _) (by simp)
        rw[<- this]; exact hx
      . rw[x9 _ _ _ _ (zNb ht hle e)];refine h1 ?_;rcases h with h |h
        . exact .inl (by omega)
        . exact .inr (by simp; omega)
    . refine h2 u (by omega) ?_
      have:t - i=(t - (i+1))+1:=by omega
      rw[this]; simpa using hg
    . rw[x9 _ _ _ _ (zNb ht hle (by omega))];exact h3 (by omega)
  . rename_i hle;have hlt:¬i<=271:=λh=>by rw[Nat.ble_eq_true_of_le h]at hle; cases hle
    exact h1 (.inl (by omega))
theorem zSr{Y:Psi}{F N:Nat}{args:List CV}{as:Array Value}(ha:zP Y args as.toList):xS Y F N (qz args 0 .nil) { tmps:=as++Array.replicate (N - as.size) undef,defers:=[] }:=by
 refine⟨by simp; omega,λt _ ht hN=>?_⟩;refine zIs args as.toList 0 .nil t _ ha ht (λ_=>by rw[zGe]; exact xo) (λu _ hu=>?_) (λ_=>zGe _);simp only[Nat.sub_zero,Array.getElem?_toList]at hu;have hlt:t<as.size:=by
  rcases Nat.lt_or_ge t as.size with h |h
  . exact h
  . rw[Array.getElem?_eq_none h]at hu; cases hu
 rw[Array.getD_eq_getD_getElem?,Array.getElem?_append_left hlt,hu]; rfl
theorem zCH{rs:List CRes}{tm:Tm}{h:zC}{n:Key}:zo n (zEq rs tm h n):=by
 unfold zEq; split
 . exact Nat.le_refl _
 . trivial
theorem zDf{call:yw}{k:zC->Key->R}{f:FuncId}{args:List CV}{r:xz}{h:zC}{n:Key} :
 vm call k ((f,args)::r) h n=jf (λ_ h n=>vm call k r h n) (call true f args h n):=rfl
theorem uM{call:yw}(hcall:xP call){k:zC->Key->R}(hk:∀h n,zo n (k h n)):∀(ds:xz) (h:zC) (n:Key),zo n (vm call k ds h n)
 | [],h,n=>hk h n|(f,args)::r,h,n=>by rw[zDf];exact jX (λ_ h n=>uM hcall hk r h n) (hcall _ _ _ _ _)
theorem vp{call:yw}(hcall:xP call)(d:Bool)(rs:List CRes)(tm:Tm)(ds:xz)(h:zC)(n:Key):zo n (kU d call rs tm ds h n):=by
 unfold kU;split
 . exact zCH
 . split
   . exact uM hcall (λ_ _=>zCH) _ _ _
   . trivial
theorem wC{call:yw}(hcall:xP call){n:Key}(d:Bool)(rs:List CRes):∀{r:R},zo n r->zo n (xJ d call rs r)
 |.ok .normal tm ds h n',ha=>zo.le ha (vp hcall d rs tm ds h n')|.ok (.exit _) ..,_=>trivial|.ok .ret tm ds h n',ha=>zo.le ha (vp hcall d rs tm ds h n')|.ret ..,_=>trivial|.err _,_=>trivial|.fork _ _,h=>⟨wC hcall d rs h.1,wC hcall d rs h.2⟩
theorem xw{call:yw}(hcall:xP call)(d:Bool)(rs:List CRes):∀{r:R},zd (xJ d call rs r)->zd r
 |.ok .normal tm ds h n',hc=>zAu hc (vp hcall d rs tm ds h n')|.ok (.exit _) ..,hc=>hc.elim|.ok .ret tm ds h n',hc=>zAu hc (vp hcall d rs tm ds h n')|.ret ..,hc=>hc.elim|.err _,hc=>hc.elim|.fork _ _,h=>⟨xw hcall d rs h.1,xw hcall d rs h.2⟩
section
variable{F N:Nat}{call:yw}{fn:Func}{Y₀:Psi}{g₀:Fam}{n₀:Key}{w₀:World}
theorem zr.trans{Y₁:Psi}{g₁:Fam}{n₁:Key}{w₁:World}(hp:yF Y₀ g₀ n₀ w₀ Y₁ g₁ n₁ w₁){v:Value}{w:World}:∀{r:R},zr Y₁ g₁ n₁ w₁ r v w->zr Y₀ g₀ n₀ w₀ r v w
 |.ok ..,h=>h|.ret ..,⟨Y,h1,h2⟩=>⟨Y,hp.trans h1,h2⟩
 |.err _,h=>h|.fork _ _,h=>h.imp (zr.trans hp) (zr.trans hp)
theorem zBi{k:CV->zC->Key->R}{v:Value}{w:World}{Z:Prop}:∀{r:R},zd (jf k r)->zr Y₀ g₀ n₀ w₀ r v w ->
 (∀cv h n Y,yF Y₀ g₀ n₀ w₀ Y (zC.fam h) n w->zG Y cv v->zd (k cv h n)->(∀u w',zr Y₀ g₀ n₀ w₀ (k cv h n) u w'->zr Y₀ g₀ n₀ w₀ (jf k r) u w')->Z)->Z
 |.ok ..,_,h,_=>h.elim|.err _,_,h,_=>h.elim|.ret cv h n,hc,⟨Y,h1,h2⟩,hz=>hz cv h n Y h1 h2 hc λ_ _ h=>h
 |.fork r s,hc,h,hz=>by
  rcases h with h |h
  . exact zBi hc.1 h λcv h n Y a b c d=>hz cv h n Y a b c λu w' q=>.inl (d u w' q)
  . exact zBi hc.2 h λcv h n Y a b c d=>hz cv h n Y a b c λu w' q=>.inr (d u w' q)
theorem kK{tmps:Array Value}{R R':Ending->World->Prop}(hR:∀e w,R e w->R' e w):∀(ds:List Deferred) (u:FrameMode) (w:World),Leaves P fn tmps R ds u w->Leaves P fn tmps R' ds u w
 | [],.returning,w,⟨v,h1,h2⟩=>⟨v,h1,hR _ _ h2⟩
 | [],.panicking _,w,h=>hR _ _ h| [],.run,w,h=>h|d::ds,u,w,⟨h0,fv,cap,f,args,h1,h2,h3⟩=>⟨h0,fv,cap,f,args,h1,h2,CallsD.mono h3 λe u' w' he=>by
  cases e with
  |returned v=>exact kK hR ds _ _ he|panicked c=>exact kK hR ds _ _ he|outgrown=>exact hR _ _ he⟩
theorem zE5(hcall:yk P call){rs:List CRes}{tm:Tm}(hrs:xH (xc P F N) fn.results.toList=some rs):∀(ds:xz) {Y:Psi} {h:zC} {n:Key} {a:Act} {w:World} {l:List Deferred},
 xS Y F N tm a->jg P Y ds l->Rel Y (zC.fam h) w->vU P Y->qN Y n->zd (vm call (λh n=>zEq rs tm h n) ds h n) ->
 Leaves P fn a.tmps (λe w'=>∃v,e=.returned v/\zr Y (zC.fam h) n w (vm call (λh n=>zEq rs tm h n) ds h n) v w') l .returning w
 | [],Y,h,n,a,w,l,hf,hd,hrel,hg,hfr,hc=>by
  unfold jg at hd; subst hd;have hc:zd (zEq rs tm h n):=hc;show ∃v,(results fn a.tmps).run P w=.ok v w/\∃v',Ending.returned v=.returned v'/\zr Y (zC.fam h) n w (zEq rs tm h n) v' w;unfold zEq at hc ⊢;cases hv:zDQ h tm rs with
  |none=>rw[hv]at hc; exact hc.elim|some v=>obtain⟨x,h1,h2⟩:=zEX hf hrel.on hrs hv;exact⟨x,h1,x,rfl,Y,yF.refl hrel,h2⟩
 |(f,args)::r,Y,h,n,a,w,l,hf,hd,hrel,hg,hfr,hc=>by
  obtain⟨d,l',rfl,⟨fv,cap,args',e1,e2,e3⟩,hd'⟩:=hd;rw[zDf]at hc ⊢;have hcl:=jW (λ_ h n=>uM hcall.above (λ_ _=>zCH) r h n) hc;obtain⟨h1,h2⟩:=hcall.defers f args h n Y w args' e3 hg hrel hfr hcl;refine⟨by simp,fv,cap,f,args',e1,by rw[e2,h1],CallsD.mono h2 λe u w' ⟨hu,v,he,v',hr⟩=>?_⟩;subst hu he;show Leaves P fn a.tmps _ l' (settle .returning) w';refine zBi hc hr λcv h' n' Y' q1 q2 q3 q4=>?_
  have:=zE5 hcall hrs r (hf.mono q1.ext) (hd'.mono q1.ext) q1.rel (hg.mono q1.ext) (q1.fresh hfr) q3
  refine kK (λe w'' ⟨v,he,hr⟩=>⟨v,he,q4 _ _ (zr.trans q1 hr)⟩) _ _ _ this
theorem zIM(hcall:yk P call){rs:List CRes}(hrs:xH (xc P F N) fn.results.toList=some rs){Y:Psi}{tm:Tm}{ds:xz}{h:zC}{n:Key}{a:Act}{w:World}
 (hst:St P F N Y tm ds h n a w) (hc:zd (kU false call rs tm ds h n)) :
 Leaves P fn a.tmps (λe w'=>∃v,e=.returned v/\zr Y (zC.fam h) n w (kU false call rs tm ds h n) v w') a.defers .returning w:=by
 have e:kU false call rs tm ds h n=vm call (λh n=>zEq rs tm h n) ds h n:=by cases ds <;> rfl
 rw[e]at hc ⊢;exact zE5 hcall hrs ds hst.frame hst.dfr hst.rel hst.glob hst.fresh hc
theorem zH3{rs:List CRes}(hrs:xH (xc P F N) fn.results.toList=some rs){Y:Psi}{tm:Tm}{ds:xz}{h:zC}{n:Key}{a:Act}{w:World}
 (hst:St P F N Y tm ds h n a w) (hc:zd (kU true call rs tm ds h n)) :
 a.defers=[]/\∃v,(results fn a.tmps).run P w=.ok v w/\zr Y (zC.fam h) n w (kU true call rs tm ds h n) v w:=by
 cases ds with
 |cons f ds=>exact hc.elim|nil=>
  have hd:=hst.dfr;unfold jg at hd;refine⟨hd,?_⟩;have hc:zd (zEq rs tm h n):=hc;show ∃v,_/\zr Y (zC.fam h) n w (zEq rs tm h n) v w;unfold zEq at hc ⊢;cases hv:zDQ h tm rs with
  |none=>rw[hv]at hc; exact hc.elim|some v=>obtain⟨x,h1,h2⟩:=zEX hst.frame hst.rel.on hrs hv;exact⟨x,h1,Y,yF.refl hst.rel,h2⟩
theorem vB(d:Bool)(rs:List CRes){e:Exit}{a:Act}{w:World}{Z:Prop}:∀{r:R},zd (xJ d call rs r)->xN P F N Y₀ g₀ n₀ w₀ r e a w ->
 (∀tm ds h n Y,(e=.normal\/e=.ret)->St P F N Y tm ds h n a w->yF Y₀ g₀ n₀ w₀ Y (zC.fam h) n w->zd (kU d call rs tm ds h n) ->
   (∀u w',zr Y₀ g₀ n₀ w₀ (kU d call rs tm ds h n) u w'->zr Y₀ g₀ n₀ w₀ (xJ d call rs r) u w')->Z)->Z
 |.ok .normal tm ds h n,hc,⟨h1,Y,h2,h3,h4⟩,hz=>hz tm ds h n Y (by cases e <;> first |exact .inl rfl |exact h1.elim) h2 h3 hc λ_ _ h=>h
 |.ok (.exit _) ..,hc,_,_=>hc.elim|.ok .ret tm ds h n,hc,⟨h1,Y,h2,h3,h4⟩,hz=>hz tm ds h n Y (by cases e <;> first |exact .inr rfl |exact h1.elim) h2 h3 hc λ_ _ h=>h
 |.ret ..,hc,_,_=>hc.elim|.err _,hc,_,_=>hc.elim|.fork r s,hc,ho,hz=>by
  rcases ho with ho |ho
  . exact vB d rs hc.1 ho λtm ds h n Y a b c d e=>hz tm ds h n Y a b c d λu w' q=>.inl (e u w' q)
  . exact vB d rs hc.2 ho λtm ds h n Y a b c d e=>hz tm ds h n Y a b c d λu w' q=>.inr (e u w' q)
end
end
end Go.Ev
namespace Go.Ev
variable[Sym]
noncomputable section
variable{P:Program}
variable[SymFact P]
structure NatsOk(P:Program)(nat:Nats):Prop where
 above:∀f g,nat f=some g->∀d args h n,zo n (g ‹Sym› d args h n)
 calls:∀f g,nat f=some g->∀args h n Y w args',zP Y args args'.toList->vU P Y->Rel Y (zC.fam h) w->qN Y n->zd (g ‹Sym› false args h n) ->
  yS P f args' w (zr Y (zC.fam h) n w (g ‹Sym› false args h n))
 defers:∀f g,nat f=some g->∀args h n Y w args',zP Y args args'.toList->vU P Y->Rel Y (zC.fam h) w->qN Y n->zd (g ‹Sym› true args h n) ->
  zG7 P f args' w λw'=>∃v,zr Y (zC.fam h) n w (g ‹Sym› true args h n) v w'
omit [Sym] [SymFact P]in
theorem run_callFunc_enter {f:FuncId} {fn:Func} {c:Code} (hf:P.funcs[f]? = some fn) (hn:(fn.name == "runtime.NumGoroutine")=false) (hb:fn.body=some c) (args:Array Value) (w:World) :
 (callFunc f args).run P w=.ok (.enter f args) w:=by
 have h1:fn.name ≠ "runtime.NumGoroutine":=by simpa using hn
 simp[callFunc,hf,h1,hb]
section
variable{call:yw}(hcall:yk P call)(hdraw:∀F N,qc P F N call)
include hcall
theorem zO7(e:Ext)(args:List CV)(h:zC)(n:Key):zo n (zTZ (zDs e args h n) h n):=by
 have:=zNV (h:=h) (n:=n) e args
 generalize zDs e args h n=r at this;cases r <;> first |exact Nat.le_refl _ |exact this |trivial
theorem zMZ(d:Bool)(fn:CFn)(args:List CV)(h:zC)(n:Key):zo n (zB4 P d call fn args h n):=by
 cases fn with
 |mk body res=>exact wC hcall.above d res (xL hcall.above body _ _ h n)|mkD ops body res=>
  show zo n (match d with
   |true=>xJ true call res (qi (zq P call body) (xE P call ops [] (qz args 0 .nil) [] h n))|false=>.err 311)
  cases d with
  |true=>exact wC hcall.above true res (qt (λtm ds h n=>xL hcall.above body tm ds h n) (kg hcall.above ops [] _ _ h n))|false=>trivial
 |ext e=>
  show zo n (match d with
   |true=>.err 313|false=>zTZ (zDs e args h n) h n)
  cases d with
  |true=>trivial|false=>exact zO7 hcall e args h n
 |bad c=>trivial
include hdraw
theorem zD0{F N:Nat}{args:List CV}{args':Array Value}{h:zC}{n:Key}{Y:Psi}{w:World}(ha:zP Y args args'.toList)(hg:vU P Y)(hrel:Rel Y (zC.fam h) w)(hfr:qN Y n) :
 St P F N Y (qz args 0 .nil) [] h n { tmps:=args'++Array.replicate (N - args'.size) undef,defers:=[] } w:=
 ⟨zSr ha,rfl,hrel,hg,hfr⟩
theorem zFn{f:FuncId}{args:List CV}{args':Array Value}{h:zC}{n:Key}{Y:Psi}{w:World}(ha:zP Y args args'.toList)(hg:vU P Y)(hrel:Rel Y (zC.fam h) w)(hfr:qN Y n)
 (hc:zd (zB4 P false call (compFn P f) args h n)):yS P f args' w (zr Y (zC.fam h) n w (zB4 P false call (compFn P f) args h n)):=by
 unfold compFn at hc ⊢;rw[nth_eq]at hc ⊢;cases hf:P.funcs.toList[f]? with
 |none=>simp only[hf]at hc; exact hc.elim|some fn=>
  have hf':P.funcs[f]? = some fn:=by simpa using hf
  simp only[hf]at hc ⊢;cases hb:fn.body with
  |none=>
   simp only[hb]at hc ⊢;cases he:zDZ P fn with
   |none=>simp only[he]at hc; exact hc.elim|some e=>
    simp only[he]at hc ⊢;obtain⟨en,h1,h2,h3,h4⟩:=zHW he;have hout:=zP2 (P:=P) (h:=h) (n:=n) (w:=w) he h1 ha;have hrun:=run_callFunc_extern (P:=P) hf' h2 (by rw[hb]; rfl) h3 h4 args' w;have hc:zd (zTZ (zDs e args h n) h n):=hc;show yS P f args' w (zr Y (zC.fam h) n w (zTZ (zDs e args h n) h n));have hoa:=zNV (h:=h) (n:=n) e args;generalize zDs e args h n=r at hout hc hoa;unfold yS;cases r <;> first |exact hout.elim |exact hc.elim |skip
    case val v=>obtain⟨x,g1,g2⟩:=hout;rw[hrun,g1];exact⟨Y,yF.refl hrel,g2⟩
    case eff v h' n'=>obtain⟨w',x,Y',g1,g2,g3⟩:=hout hrel (λk hk _=>hfr k hk) hc;rw[hrun,g1];exact⟨Y',g2,g3⟩
  |some c=>
   simp only[hb]at hc ⊢;split at hc
   . exact hc.elim
   . rename_i hn;have hn:(fn.name == "runtime.NumGoroutine")=false:=by simpa using hn
     rw[if_neg (by rw[hn]; simp)];unfold zCL at hc ⊢;cases hrs:xH (xc P (frameBits fn c) fn.ntmps) fn.results.toList with
     |none=>simp only[hrs]at hc; exact hc.elim|some rs=>
      simp only[hrs]at hc ⊢;split at hc
      . rename_i hnr;rw[if_pos hnr];unfold yS;rw[run_callFunc_enter hf' hn hb];have hc:zd (xJ false call rs (zq P call (zS P (frameBits fn c) fn.ntmps c) (qz args 0 .nil) [] h n)):=hc;show Calls P f args' w λe w''=>∃v,e=.returned v/\zr Y (zC.fam h) n w (xJ false call rs (zq P call (zS P (frameBits fn c) fn.ntmps c) (qz args 0 .nil) [] h n)) v w'';refine calls_of_wp_defers hf' hb (wp_mono (kG hcall (hdraw _ _) c hnr (zD0 hcall hdraw ha hg hrel hfr) (xw hcall.above false rs hc)) λe a w' ho=>?_);refine vB false rs hc ho λtm ds h' n' Y' q1 q2 q3 q4 q5=>?_;have hl:=zIM hcall hrs q2 q4
        have:Leaves P fn a.tmps (λe w''=>∃v,e=.returned v/\zr Y (zC.fam h) n w (xJ false call rs (zq P call (zS P (frameBits fn c) fn.ntmps c) (qz args 0 .nil) [] h n)) v w'') a.defers .returning w':=
         kK (λe w'' ⟨v,he,hr⟩=>⟨v,he,q5 _ _ (zr.trans q3 hr)⟩) _ _ _ hl
        rcases q1 with rfl |rfl
        . exact this
        . exact this
      . rename_i hnr;split at hc
        . split at hc <;> exact hc.elim
        . exact hc.elim
theorem zDj{f:FuncId}{args:List CV}{args':Array Value}{h:zC}{n:Key}{Y:Psi}{w:World}(ha:zP Y args args'.toList)(hg:vU P Y)(hrel:Rel Y (zC.fam h) w)(hfr:qN Y n)
 (hc:zd (zB4 P true call (compFn P f) args h n)):zG7 P f args' w λw'=>∃v,zr Y (zC.fam h) n w (zB4 P true call (compFn P f) args h n) v w':=by
 unfold compFn at hc ⊢;rw[nth_eq]at hc ⊢;cases hf:P.funcs.toList[f]? with
 |none=>simp only[hf]at hc; exact hc.elim|some fn=>
  have hf':P.funcs[f]? = some fn:=by simpa using hf
  simp only[hf]at hc ⊢;cases hb:fn.body with
  |none=>
   simp only[hb]at hc;cases he:zDZ P fn with
   |none=>simp only[he]at hc; exact hc.elim|some e=>simp only[he]at hc; exact hc.elim
  |some c=>
   simp only[hb]at hc ⊢;split at hc
   . exact hc.elim
   . rename_i hn;have hn:(fn.name == "runtime.NumGoroutine")=false:=by simpa using hn
     rw[if_neg (by rw[hn]; simp)];unfold zCL at hc ⊢;cases hrs:xH (xc P (frameBits fn c) fn.ntmps) fn.results.toList with
     |none=>simp only[hrs]at hc; exact hc.elim|some rs=>
      simp only[hrs]at hc ⊢;refine⟨run_callFunc_enter hf' hn hb _ _,?_⟩;split at hc
      . rename_i hnr;rw[if_pos hnr];have hc:zd (xJ true call rs (zq P call (zS P (frameBits fn c) fn.ntmps c) (qz args 0 .nil) [] h n)):=hc;show CallsD P f args' .returning w λe u w'=>u=.returning/\∃v,e=.returned v/\∃v,zr Y (zC.fam h) n w (xJ true call rs (zq P call (zS P (frameBits fn c) fn.ntmps c) (qz args 0 .nil) [] h n)) v w';refine callsD_of_wp hf' hb (wp_mono (kG hcall (hdraw _ _) c hnr (zD0 hcall hdraw ha hg hrel hfr) (xw hcall.above true rs hc)) λe a w' ho=>?_);refine vB true rs hc ho λtm ds h' n' Y' q1 q2 q3 q4 q5=>?_;obtain⟨g1,v,g2,g3⟩:=zH3 (call:=call) hrs q2 q4;rcases q1 with rfl |rfl
        . exact⟨g1,v,g2,v,rfl,v,q5 _ _ (zr.trans q3 g3)⟩
        . exact⟨g1,v,g2,v,rfl,v,q5 _ _ (zr.trans q3 g3)⟩
      . rename_i hnr;rw[if_neg hnr];split at hc
        . rename_i c0 id ops r;split at hc
          . rename_i hnr';rw[if_pos hnr'];have hc:zd (xJ true call rs (qi (zq P call (zS P (frameBits fn (.seq (.region id ops false) r)) fn.ntmps r))
             (xE P call (je P (frameBits fn (.seq (.region id ops false) r)) fn.ntmps ops.toList [] ops.toList) [] (qz args 0 .nil) [] h n))):=hc
            generalize hF:frameBits fn (.seq (.region id ops false) r)=F at hc hrs;show CallsD P f args' .returning w λe u w'=>u=.returning/\∃v,e=.returned v/\∃v,zr Y (zC.fam h) n w (xJ true call rs (qi (zq P call (zS P F fn.ntmps r))
             (xE P call (je P F fn.ntmps ops.toList [] ops.toList) [] (qz args 0 .nil) [] h n))) v w'
            have hc1:=xw hcall.above true rs hc;have hab:=λtm ds h n=>xL (P:=P) hcall.above (zS P F fn.ntmps r) tm ds h n;have hc2:=qG hab hc1;refine callsD_of_wpS hf' hb λc₀ cs hm=>wpS_seq (wpS_region ?_);have hrec:recoverD (c₀::cs)=none:=by unfold recoverD; simp[hm]
            have:=zK9 (F:=F) (N:=fn.ntmps) hcall (zIb (P:=P) ops (Exit.thenS (r.wpS P (bodyPostS P fn c₀ cs λe u w'=>u=.returning/\∃v,e=.returned v/\∃v,zr Y (zC.fam h) n w (xJ true call rs (qi (zq P call (zS P F fn.ntmps r))
             (xE P call (je P F fn.ntmps ops.toList [] ops.toList) [] (qz args 0 .nil) [] h n))) v w'))
             (bodyPostS P fn c₀ cs λe u w'=>u=.returning/\∃v,e=.returned v/\∃v,zr Y (zC.fam h) n w (xJ true call rs (qi (zq P call (zS P F fn.ntmps r))
             (xE P call (je P F fn.ntmps ops.toList [] ops.toList) [] (qz args 0 .nil) [] h n))) v w')) hrec)
             ops.toList 0 rfl (λ_ _ _=>rfl) (zD0 hcall hdraw (F:=F) (N:=fn.ntmps) ha hg hrel hfr) (dl:=[]) (es:=[]) (λt i hi=>by cases hi) hc2
             (λtm' ds' h' n' Y' a' w' g1 g2 g3 g4=>by
               have k1:=g4 (λr0=>zd (xJ true call rs (qi (zq P call (zS P F fn.ntmps r)) r0))->zd (xJ true call rs (zq P call (zS P F fn.ntmps r) tm' ds' h' n')))
                (λx y hx hc=>hx hc.1) (λx y hy hc=>hy hc.2) (λh=>h) hc
               have k2:=g4 (λr0=>∀u w'',zr Y (zC.fam h) n w (xJ true call rs (zq P call (zS P F fn.ntmps r) tm' ds' h' n')) u w'' ->
                zr Y (zC.fam h) n w (xJ true call rs (qi (zq P call (zS P F fn.ntmps r)) r0)) u w'')
                (λx y hx u w'' q=>.inl (hx u w'' q)) (λx y hy u w'' q=>.inr (hy u w'' q)) (λu w'' q=>q)
               show r.wpS P _ a' (c₀::cs) w';refine wpS_of_wp (wp_mono (kG hcall (hdraw F fn.ntmps) r hnr' g1 (xw hcall.above true rs k1)) λe a w'' ho=>?_);refine vB true rs k1 ho λtm ds h'' n'' Y'' q1 q2 q3 q4 q5=>?_;obtain⟨g1',v,g2',g3'⟩:=zH3 (call:=call) hrs q2 q4;have hfin:=k2 _ _ (zr.trans g2 (q5 _ _ (zr.trans q3 g3')));have hm':({ c₀ with mode:=.returning }:Frame)=c₀:=by rw[<- hm]
               rcases q1 with rfl |rfl
               . exact⟨g1',.returning,by rw[hm'],v,g2',rfl,v,rfl,v,hfin⟩
               . exact⟨g1',.returning,by rw[hm'],v,g2',rfl,v,rfl,v,hfin⟩)
            rw[Array.length_toList]at this;rw[List.range_eq_range'];exact this
          . exact hc.elim
        . exact hc.elim
end
def CodeOk(P:Program)(code:FuncId->CFn):Prop:=∀f,code f=compFn P f\/code f=zPF (compFn P f)\/∃c,code f=.bad c
theorem kZ(hdraw:∀(call:yw),yk P call->∀F N,qc P F N call){code:FuncId->CFn}(hcode:CodeOk P code){nat:Nats}(hnat:NatsOk P nat):∀(fuel:Nat),yk P (ev P code nat fuel)
 | 0=>⟨λ_ _ _ _ _=>trivial,λ_ _ _ _ _ _ _ _ _ _ _ hc=>hc.elim,λ_ _ _ _ _ _ _ _ _ _ _ hc=>hc.elim⟩
 |fuel+1=>by
  have ih:=kZ hdraw hcode hnat fuel;have hev:∀d f args h n,ev P code nat (fuel+1) d f args h n=(match nat f with
   |none=>zB4 P d (ev P code nat fuel) (code f) args h n|some g=>g ‹Sym› d args h n):=by
   intro d f args h n;show Option.rec (motive:=λ_=>R) (zB4 P d (ev P code nat fuel) (code f) args h n) (λg=>g ‹Sym› d args h n) (nat f)=_;cases nat f <;> rfl
  refine⟨λd f args h n=>?_,λf args h n Y w args' h1 h2 h3 h4 hc=>?_,λf args h n Y w args' h1 h2 h3 h4 hc=>?_⟩
  . rw[hev];split
    . exact zMZ ih d _ args h n
    . rename_i g hg;exact hnat.above f g hg d args h n
  . rw[hev]at hc ⊢;split at hc
    . rename_i hn;rcases hcode f with e |e |⟨c,e⟩
      . rw[e]at hc ⊢;exact zFn ih (hdraw _ ih) h1 h2 h3 h4 hc
      . rw[e,zJV]at hc ⊢;exact zFn ih (hdraw _ ih) h1 h2 h3 h4 hc
      . rw[e]at hc; exact hc.elim
    . rename_i g hg;exact hnat.calls f g hg args h n Y w args' h1 h2 h3 h4 hc
  . rw[hev]at hc ⊢;split at hc
    . rename_i hn;rcases hcode f with e |e |⟨c,e⟩
      . rw[e]at hc ⊢;exact zDj ih (hdraw _ ih) h1 h2 h3 h4 hc
      . rw[e,zJV]at hc ⊢;exact zDj ih (hdraw _ ih) h1 h2 h3 h4 hc
      . rw[e]at hc; exact hc.elim
    . rename_i g hg;exact hnat.defers f g hg args h n Y w args' h1 h2 h3 h4 hc
end
end Go.Ev
