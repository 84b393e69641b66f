/- A verified evaluator for the model's code: EvG, EvH, EvI, EvJ, EvK, EvL, EvM. -/
import Derived.Test.YtkolecenifiaaaaGreatDoorEv2
import Derived.Laws.Concat
import Derived.Laws.StructEq
import Derived.Laws.BytesString
set_option linter.unusedSectionVars false
set_option linter.unusedVariables false
set_option linter.unusedSimpArgs false
namespace Go.Ev
variable [Sym]
noncomputable section
variable {P:Program} {ψ:Psi} {es:List CV} {tm:Tm} {h:zC} {n:Key} {ρ:Operand→Value} {E:Env} {ty:TypeId} {w:World}
abbrev xw (o:Op) (ty:TypeId):Oper:={ dst:=none,op:=o,type:=ty,pos := "",after:=#[],guard:=none }
def yG (P:Program) (ψ:Psi) (es:List CV) (tm:Tm) (E:Env) (ρ:Operand→Value) (L:List Operand):Prop:=∀ x∈L,∀ c,zi P E x=some c→zH ψ (aV es tm c) (ρ x)
theorem yG.sub {L L':List Operand} (h:yG P ψ es tm E ρ L) (hs:∀ x∈L',x∈L):yG P ψ es tm E ρ L':=fun x hx c hc=>h x (hs x hx) c hc
theorem zR {o:Op} {w w':World} {x:Value} (hx:(execOp ρ (xw o ty)).run P w=.ok (.value x) w'):kS P ρ o ty w w' x:=⟨_,hx,.inl rfl⟩
theorem kj {o:Op} {w w':World} (hx:(execOp ρ (xw o ty)).run P w=.ok .skip w'):kS P ρ o ty w w' undef:=⟨_,hx,.inr ⟨rfl,rfl⟩⟩
section
variable {C:OR→Prop}
theorem zr {f:zT→COp} {x:Operand} (hb:∀ e,C (.err e)) (hk:∀ c,zi P E x=some c→C (yU P (f c) es tm h n)):C (yU P (xI P E f x) es tm h n):=by
 unfold xI
 cases hx:zi P E x with
 | none=>exact hb _
 | some c=>exact hk c hx
theorem y7 {f:zT→zT→COp} {x y:Operand} (hb:∀ e,C (.err e))
 (hk:∀ c d,zi P E x=some c→zi P E y=some d→C (yU P (f c d) es tm h n)):C (yU P (jM P E f x y) es tm h n):=by
 unfold jM
 cases hx:zi P E x with
 | none=>exact hb _
 | some c=>cases hy:zi P E y with
  | none=>exact hb _
  | some d=>exact hk c d hx hy
end
theorem zA {o:Op} (e:Nat):zD P ψ h n ρ o ty w (.err e):=trivial
theorem ky:∀ (l:List Operand) {cs:List zT},yG P ψ es tm E ρ l→qi P E l=some cs→zS ψ (aVs es tm cs) (l.map ρ)
 | [],cs,_,hc=>by injection hc with hc; subst hc; exact zM.2 rfl
 | x::l,cs,ha,hc=>by
  unfold qi xD at hc
  cases hx:zi P E x with
  | none=>rw [hx] at hc; cases hc
  | some c=>
   rw [hx] at hc
   cases hl:xD (zi P E) l with
   | none=>simp [hl] at hc
   | some r=>
    simp [hl] at hc
    subst hc
    exact zW.2 ⟨ha x (by simp) c hx,ky l (ha.sub fun y hy=>by simp [hy]) hl⟩
theorem zRg (x:Operand) (ha:yG P ψ es tm E ρ [x]):zD P ψ h n ρ (.move x) ty w (yU P (zh P E (.move x)) es tm h n):=by
 refine zr (C:=zD P ψ h n ρ (.move x) ty w) zA fun c hc=>⟨ρ x,zR ?_,ha x (by simp) c hc⟩
 simp only [execOp,Sem.run_pure]
theorem zM3 (x:Operand) (ha:yG P ψ es tm E ρ [x]):zD P ψ h n ρ (.assign x) ty w (yU P (zh P E (.assign x)) es tm h n):=by
 refine zr (C:=zD P ψ h n ρ (.assign x) ty w) zA fun c hc=>⟨ρ x,zR ?_,ha x (by simp) c hc⟩
 simp only [execOp,Sem.run_pure]
theorem zQy (c a b:Operand) (ha:yG P ψ es tm E ρ [c,a,b]):zD P ψ h n ρ (.pick c a b) ty w (yU P (zh P E (.pick c a b)) es tm h n):=by
 rw [zh]
 cases hc:zi P E c with
 | none=>exact zA _
 | some c'=>cases h1:zi P E a with
  | none=>exact zA _
  | some a'=>cases h2:zi P E b with
   | none=>exact zA _
   | some b'=>
    refine vR (C:=zD P ψ h n ρ (.pick c a b) ty w) _ _ _ (zA _) fun t ht=>?_
    have hv:=ha c (by simp) c' hc
    rw [ht,zJ] at hv
    cases t with
    | true=>exact ⟨ρ a,zR (by simp [execOp,hv,asBool]),ha a (by simp) a' h1⟩
    | false=>exact ⟨ρ b,zR (by simp [execOp,hv,asBool]),ha b (by simp) b' h2⟩
theorem jI (w:World) (ob:Obj):New w { w with heap:=w.heap.push ob }:=
 ⟨by simp,fun B hB=>by simp only [Array.getElem?_push]; rw [if_neg (by omega)],rfl,rfl,rfl⟩
theorem zKl (w:World) (ob:Obj):(w.heap.push ob)[w.heap.size]? = some ob:=by simp
theorem zG1 {ψ':Psi} (w:World) (arr:Array Value) (elem:TypeId) {cs:List CV} {m:Nat} (hc:zS ψ' cs (arr.toList.take m)) (hm:m≤arr.size) :
 xM ψ' { w with heap:=w.heap.push (.cells arr elem) } ⟨w.heap.size,0,arr.size,fun n=>n⟩ (.cells cs):=by
 have hl:=hc.length
 rw [List.length_take] at hl
 refine ⟨arr,elem,(0,0),zKl _ _,rfl,by simp at hl ⊢; omega,.inl rfl,fun i c hi=>?_⟩
 obtain ⟨x,hx,hr⟩:=hc.get hi
 rw [List.getElem?_take] at hx
 split at hx
 · exact ⟨x,by simpa using hx,hr⟩
 · cases hx
theorem uJ {ψ':Psi} (w:World) (arr:Array Value) (elem:TypeId) {cs:List CV} (hc:zS ψ' cs arr.toList) :
 xM ψ' { w with heap:=w.heap.push (.cells arr elem) } ⟨w.heap.size,0,arr.size,fun n=>n⟩ (.cells cs):=
 zG1 w arr elem (m:=arr.size) (by rw [List.take_of_length_le (by simp)]; exact hc) (Nat.le_refl _)
theorem zR7 {ψ':Psi} (w:World) (arr:Array Value) (elem:TypeId) {cs:List CV} (hc:zS ψ' cs arr.toList) :
 xM ψ' { w with heap:=w.heap.push (.cells arr elem) } ⟨w.heap.size,0,arr.size,fun n=>n⟩ (.full true cs):=by
 have hl:=hc.length
 refine ⟨arr,elem,(0,0),zKl _ _,rfl,by simp at hl ⊢; omega,.inl rfl,fun i c hi=>?_⟩
 obtain ⟨x,hx,hr⟩:=hc.get hi
 exact ⟨x,by simpa using hx,hr⟩
theorem zO0 (t:TypeId):zD P ψ h n ρ (.alloc t) ty w (yU P (zh P E (.alloc t)) es tm h n):=by
 rw [zh]
 cases hz:jR P t with
 | none=>exact zA _
 | some z=>
  obtain ⟨v,h1,h2⟩:=zM5 hz
  refine ⟨_,.pointer (some ⟨w.heap.size,0,none⟩),v.cells.size,zR ?_,jI _ (.cells v.cells t),fun ψ' _ hn=>⟨zu.2 ⟨_,hn,rfl⟩,uJ w v.cells t (h2 ψ')⟩,by simp [zFD]⟩
  simp [execOp,Instr.alloc,h1,newVar,newRow]
theorem zTn (t:TypeId) (x:Operand) (ha:yG P ψ es tm E ρ [x]):zD P ψ h n ρ (.box t x) ty w (yU P (zh P E (.box t x)) es tm h n):=by
 refine zr (C:=zD P ψ h n ρ (.box t x) ty w) zA fun c hc=>?_
 refine yX (C:=zD P ψ h n ρ (.box t x) ty w) _ _ _ (zA _) fun cs hcs=>?_
 have hv:=v6 (ha x (by simp) c hc) hcs
 refine ⟨_,.pointer (some ⟨w.heap.size,0,none⟩),(ρ x).cells.size,zR ?_,jI _ (.cells (ρ x).cells t),fun ψ' hle hn=>⟨zu.2 ⟨_,hn,rfl⟩,uJ w _ t (hv.mono hle)⟩,by simp [zFD]⟩
 simp [execOp,Instr.box,newVar,newRow]
theorem zG2:∀ {l:List CV} {t:List (List Nat)},zNG l=some t→∀ k,k<l.length→∃ s,l[k]? = some (.str s)∧t[k]? = some s
 | [],_,_,k,hk=>by simp at hk
 | c::r,t,h,k,hk=>by
  unfold zNG at h
  split at h
  · rename_i e; cases e
  · rename_i s r' e
    injection e with e1 e2
    subst e1 e2
    split at h
    · rename_i t' ht'
      injection h with h; subst h
      cases k with
      | zero=>exact ⟨s,rfl,rfl⟩
      | succ k=>
       obtain ⟨s',h1,h2⟩:=zG2 ht' k (by simpa using hk)
       exact ⟨s',by simpa using h1,by simpa using h2⟩
    · cases h
  · cases h
theorem zRA (t:TypeId) (x:Operand) (ha:yG P ψ es tm E ρ [x]):zD P ψ h n ρ (.load t x) ty w (yU P (zh P E (.load t x)) es tm h n):=by
 rw [zh]
 cases h1:qG P t with
 | none=>exact zA _
 | some b=>cases h2:x6 P t with
  | none=>cases b <;> exact zA _
  | some s=>
   cases b with
   | true=>
    refine zr (C:=zD P ψ h n ρ (.load t x) ty w) zA fun c hc=>?_
    refine xE (C:=zD P ψ h n ρ (.load t x) ty w) _ _ _ (zA _) fun b off hv=>?_
    refine xB (C:=zD P ψ h n ρ (.load t x) ty w) _ _ _ (zA _) fun vs hvs=>?_
    refine zEM (C:=zD P ψ h n ρ (.load t x) ty w) _ _ (zA _) fun l hl hrel=>?_
    have hx:=ha x (by simp) c hc
    rw [hv,zu] at hx
    obtain ⟨p,hp,hx⟩:=hx
    have hcells:zAq ψ w p vs:=by
     rcases hvs with hvs | hvs | ⟨u,hvs⟩
     · exact yc.toRo (hrel b _ p hvs hp)
     · exact hrel b _ p hvs hp
     · exact yc.toRo (jW.toCells (hrel b _ p hvs hp))
    obtain ⟨xs,hrun,hxs⟩:=xk (P:=P) hcells hl
    refine ⟨.agg xs.toArray,zR ?_,yn.2 ⟨_,rfl,by simpa using hxs⟩⟩
    simp [execOp,Instr.loadAt,hx,Instr.sureAddr,loadVar,jC h1,ye h2,hrun]
   | false=>
    refine zr (C:=zD P ψ h n ρ (.load t x) ty w) zA fun c hc=>?_
    refine zAL (C:=zD P ψ h n ρ (.load t x) ty w) _ _ _ ?_ fun b off hv=>?_
    · unfold zUI
      split
      · rename_i b off i m hv
        refine xB (C:=zD P ψ h n ρ (.load t x) ty w) _ _ _ (zA _) fun vs hvs=>?_
        refine uI (C:=zD P ψ h n ρ (.load t x) ty w) _ _ (zA _) fun l hl hrel=>?_
        have hx:=ha x (by simp) c hc
        rw [hv,zAB] at hx
        obtain ⟨p,k,hp,hval,hk,hx⟩:=hx
        have hcells:zAq ψ w p vs:=by
         rcases hvs with hvs | hvs | ⟨u,hvs⟩
         · exact yc.toRo (hrel b _ p hvs hp)
         · exact hrel b _ p hvs hp
         · exact yc.toRo (jW.toCells (hrel b _ p hvs hp))
        unfold zV1 at hl
        split at hl
        · rename_i l' hl'
          split at hl
          · rename_i t' ht'
            injection hl with hl; subst hl
            obtain ⟨q1,q2⟩:=qJ hl'
            obtain ⟨s',q3,q4⟩:=zG2 ht' k (by omega)
            rw [q2 k (by omega)] at q3
            obtain ⟨y,hrun,hy⟩:=zAJ (P:=P) hcells q3
            obtain ⟨bs,rfl,hbs⟩:=ze.1 hy
            refine ⟨.string bs,zR ?_,jp.2 ⟨k,bs,hval,rfl,by rw [hbs]; exact q4⟩⟩
            simp only [execOp,Instr.loadAt,hx,Instr.sureAddr,loadVar,Sem.run_bind,Sem.run_pure,Result.andThen_ok,jC h1,Bool.false_eq_true,if_false,hrun]
          · cases hl
        · cases hl
      · exact zA _
    refine xB (C:=zD P ψ h n ρ (.load t x) ty w) _ _ _ (zA _) fun vs hvs=>?_
    refine uI (C:=zD P ψ h n ρ (.load t x) ty w) _ _ (zA _) fun l hl hrel=>?_
    have hx:=ha x (by simp) c hc
    rw [hv,zu] at hx
    obtain ⟨p,hp,hx⟩:=hx
    have hcells:zAq ψ w p vs:=by
     rcases hvs with hvs | hvs | ⟨u,hvs⟩
     · exact yc.toRo (hrel b _ p hvs hp)
     · exact hrel b _ p hvs hp
     · exact yc.toRo (jW.toCells (hrel b _ p hvs hp))
    rw [qV] at hl
    obtain ⟨y,hrun,hy⟩:=zAJ (P:=P) hcells hl
    refine ⟨y,zR ?_,hy⟩
    have hrun':∀ m,(load ⟨p.blk,p.off+off,none⟩ m).run P w=.ok y w∨m≠.plain:=fun m=>by
     cases m
     · exact .inl hrun
     · exact .inr (by decide)
    simp only [execOp,Instr.loadAt,hx,Instr.sureAddr,loadVar,Sem.run_bind,Sem.run_pure,Result.andThen_ok,jC h1,Bool.false_eq_true,if_false,hrun]
theorem zPy (t:TypeId) (a x:Operand) (ha:yG P ψ es tm E ρ [a,x]):zD P ψ h n ρ (.store t a x) ty w (yU P (zh P E (.store t a x)) es tm h n):=by
 rw [zh]
 cases h2:x6 P t with
 | none=>exact zA _
 | some s=>
  refine y7 (C:=zD P ψ h n ρ (.store t a x) ty w) zA fun c d hc hd=>?_
  refine xE (C:=zD P ψ h n ρ (.store t a x) ty w) _ _ _ (zA _) fun b off hv=>?_
  refine yb (C:=zD P ψ h n ρ (.store t a x) ty w) _ _ _ (zA _) fun vs hvs=>?_
  refine yX (C:=zD P ψ h n ρ (.store t a x) ty w) _ _ _ (zA _) fun cs hcs=>?_
  refine zG (C:=zD P ψ h n ρ (.store t a x) ty w) _ _ _ (zA _) fun hs=>?_
  refine yX (C:=zD P ψ h n ρ (.store t a x) ty w) _ _ _ (zA _) fun l hl hrel _ _=>?_
  have hx:=ha a (by simp) c hc
  rw [hv,zu] at hx
  obtain ⟨p,hp,hx⟩:=hx
  have hval:=v6 (ha x (by simp) d hd) hcs
  obtain ⟨w',hrun,hpost⟩:=ka (P:=P) n hrel hvs hp hl hval hs
  refine ⟨w',undef,ψ,kj ?_,?_,qF⟩
  · have hsz:(ρ x).cells.size=s:=by
     have:=hval.length
     rw [(ua hl).1] at this
     simpa using this
    simp [execOp,Instr.storeAt,hx,Instr.sureAddr,storeVar,ye h2,hsz,hrun]
  · rw [z6]; exact hpost
theorem zPJ (x:Operand) (ha:yG P ψ es tm E ρ [x]):zD P ψ h n ρ (.nilCheck x) ty w (yU P (zh P E (.nilCheck x)) es tm h n):=by
 refine zr (C:=zD P ψ h n ρ (.nilCheck x) ty w) zA fun c hc=>?_
 have hx:=ha x (by simp) c hc
 have key:∀ {v:Value},ρ x=v→(∀ w,(execOp ρ (xw (.nilCheck x) ty)).run P w=.ok (.value v) w)→zD P ψ h n ρ (.nilCheck x) ty w (.val (aV es tm c)):=by
  intro v e hr
  exact ⟨v,zR (hr w),e ▸ hx⟩
 refine zAL (C:=zD P ψ h n ρ (.nilCheck x) ty w) _ _ _ ?_ fun b o hv=>?_
 · show zD P ψ h n ρ (.nilCheck x) ty w (zFU (aV es tm c))
   generalize aV es tm c=v at *
   cases v <;> simp only [zFU] <;> try exact trivial
   case bool=>rw [zJ] at hx; exact ⟨_,zR (by simp [execOp,hx]),zJ.2 rfl⟩
   case nat=>rw [zX] at hx; exact ⟨_,zR (by simp [execOp,hx]),zX.2 rfl⟩
   case int=>rw [zg] at hx; exact ⟨_,zR (by simp [execOp,hx]),zg.2 rfl⟩
   case anyi=>rw [yk] at hx; obtain ⟨m,hx⟩:=hx; exact ⟨_,zR (by simp [execOp,hx]),yk.2 ⟨m,rfl⟩⟩
   case str=>rw [ze] at hx; obtain ⟨b,hx,e⟩:=hx; exact ⟨_,zR (by simp [execOp,hx]),ze.2 ⟨b,rfl,e⟩⟩
   case big=>have:=hx; rw [k9] at hx; obtain ⟨m,hx,_⟩:=hx; exact ⟨ρ x,zR (by simp [execOp,hx]),this⟩
   case ptr=>have:=hx; rw [zu] at hx; obtain ⟨p,hp,hx⟩:=hx; exact ⟨ρ x,zR (by simp [execOp,hx]),this⟩
   case nilsl=>rw [zw] at hx; exact ⟨_,zR (by simp [execOp,hx]),zw.2 rfl⟩
   case sl=>have:=hx; rw [yF] at hx; obtain ⟨p,x',c',hp,hx,_⟩:=hx; exact ⟨ρ x,zR (by simp [execOp,hx]),this⟩
   case sst=>have:=hx; rw [zy] at hx; obtain ⟨b,hx,e⟩:=hx; exact ⟨ρ x,zR (by simp [execOp,hx]),this⟩
   case elt=>have:=hx; rw [zAB] at hx; obtain ⟨_,_,_,_,_,hx⟩:=hx; exact ⟨ρ x,zR (by simp [execOp,hx]),this⟩
   case few=>have:=hx; rw [jp] at hx; obtain ⟨_,b,_,hx,_⟩:=hx; exact ⟨ρ x,zR (by simp [execOp,hx]),this⟩
   case win=>have:=hx; rw [qA] at hx; obtain ⟨_,base,l,c',i,hx,_⟩:=hx; exact ⟨ρ x,zR (by cases base <;> simp [execOp,hx]),this⟩
   case nilmap=>rw [yS] at hx; exact ⟨_,zR (by simp [execOp,hx]),yS.2 rfl⟩
   case map=>have:=hx; rw [yq] at hx; obtain ⟨p,hp,hx⟩:=hx; exact ⟨ρ x,zR (by simp [execOp,hx]),this⟩
   case func fn a b=>
    have h0:=hx
    rw [xH] at hx; obtain ⟨a',b',hx,_⟩:=hx
    cases fn <;> simp only [] <;> first | exact trivial | exact ⟨ρ x,zR (by simp [execOp,hx]),h0⟩
   case iface=>have:=hx; rw [yf] at hx; obtain ⟨y,hx,_⟩:=hx; exact ⟨ρ x,zR (by simp [execOp,hx]),this⟩
   case sym i=>
    have h0:=hx
    rw [zq] at hx
    rcases Sym.one i with ⟨k,m,e⟩ | ⟨b,e⟩ <;> rw [e] at hx <;> exact ⟨ρ x,zR (by simp [execOp,hx]),h0⟩
   case agg=>have:=hx; rw [yn] at hx; obtain ⟨y,hx,_⟩:=hx; exact ⟨ρ x,zR (by simp [execOp,hx]),this⟩
   case tup=>have:=hx; rw [yW] at hx; obtain ⟨y,hx,_⟩:=hx; exact ⟨ρ x,zR (by simp [execOp,hx]),this⟩
 · have h0:=hx
   rw [hv] at h0 hx
   rw [zu] at hx; obtain ⟨p,hp,hx⟩:=hx
   exact ⟨ρ x,zR (by simp [execOp,hx]),h0⟩
end
end Go.Ev
namespace Go.Ev
variable [Sym]
noncomputable section
variable {P:Program} {ψ:Psi} {es:List CV} {tm:Tm} {h:zC} {n:Key} {ρ:Operand→Value} {E:Env} {ty:TypeId} {w:World}
theorem zDZ {a b:Bool} (h:a=true ↔ b=true):Value.bool a=.bool b:=by rw [Bool.eq_iff_iff.2 h]
theorem xz (n:Nat):zH ψ (kz n) (.int .i64 (Int.ofNat n)):=by cases n <;> exact zX.2 rfl
theorem wV (k:IntKind) (n:Nat):zH ψ (ji k n) (.int k (Int.ofNat n)):=by
 cases k <;> first | exact zg.2 rfl | exact xz n
theorem yy (k:IntKind) (n:Int):zH ψ (zb k n) (.int k n):=by
 cases n with
 | ofNat m=>cases m <;> exact wV k _
 | negSucc m=>cases m <;> exact zg.2 rfl
theorem zMf (n:Int):zOo n=IntKind.i64.wrap n:=by
 have hb:∀ m:Nat,Nat.ble m 9223372036854775807=true→(Int.ofNat m)=IntKind.i64.wrap (Int.ofNat m)∧(Int.negSucc m)=IntKind.i64.wrap (Int.negSucc m):=by
  intro m hm
  have:=Nat.le_of_ble_eq_true hm
  rw [Int.negSucc_eq]
  simp only [IntKind.wrap,IntKind.signed,IntKind.bits,Int.ofNat_eq_natCast]
  constructor <;> simp <;> omega
 cases n with
 | ofNat m=>
  show Bool.rec (motive:=fun _=>Int) (IntKind.i64.wrap (.ofNat m)) (.ofNat m) (Nat.ble m 9223372036854775807)=_
  cases hm:Nat.ble m 9223372036854775807 with
  | true=>exact (hb m hm).1
  | false=>rfl
 | negSucc m=>
  show Bool.rec (motive:=fun _=>Int) (IntKind.i64.wrap (.negSucc m)) (.negSucc m) (Nat.ble m 9223372036854775807)=_
  cases hm:Nat.ble m 9223372036854775807 with
  | true=>exact (hb m hm).2
  | false=>rfl
theorem yz (k:IntKind) (n:Int):yr k n=k.wrap n:=by
 cases k with
 | i64=>exact zMf n
 | u8=>cases n with
  | ofNat m=>show Int.ofNat (m % 256)=_; simp [IntKind.wrap,IntKind.signed,IntKind.bits]
  | negSucc m=>rfl
 | _=>rfl
theorem wo (k:IntKind) (n:Int):toU k n=(BitVec.ofInt k.bits n).toNat:=by
 rw [BitVec.toNat_ofInt]
 cases n with
 | ofNat m=>rfl
 | negSucc m=>
  have hp:0<2 ^ k.bits:=Nat.two_pow_pos _
  have hlt:m % 2 ^ k.bits<2 ^ k.bits:=Nat.mod_lt _ hp
  show 2 ^ k.bits - 1 - m % 2 ^ k.bits=_
  rw [Int.negSucc_emod _ (by omega)]
  omega
theorem kT {op:BinOp} {k j:IntKind} {a b:Int} {c:CV} (t:TypeId) (w:World) (hk:k=j∨yv op=true) (hc:yQ op k a b=some c) :
 ∃ v,(binOp op t (.int k a) (.int j b)).run P w=.ok v w∧zH ψ c v:=by
 cases op with
 | shl=>
  rw [binOp_shl]
  show ∃ v,_
  cases b with
  | negSucc b=>cases hc
  | ofNat b=>
   injection hc with hc; subst hc
   refine ⟨_,?_,yy _ _⟩
   rw [yz]
   have:¬ (Int.ofNat b<0):=by simp
   simp only [Op.shift,if_neg this,Sem.run_pure]
   simp
 | shr=>
  rw [binOp_shr]
  cases b with
  | negSucc b=>cases hc
  | ofNat b=>
   have:¬ (Int.ofNat b<0):=by simp
   cases a with
   | ofNat a=>
    injection hc with hc; subst hc
    refine ⟨_,?_,wV _ _⟩
    simp only [Op.shift,if_neg this,Sem.run_pure]
    have e:(Int.ofNat a).fdiv (2 ^ min (Int.ofNat b).toNat k.bits)=Int.ofNat (a / 2 ^ min b k.bits):=by
     have:=Int.ofNat_fdiv a (2 ^ min b k.bits)
     simp only [Int.ofNat_eq_natCast,Int.toNat_natCast]
     rw [this]; push_cast; rfl
    rw [e]; rfl
   | negSucc a=>
    injection hc with hc; subst hc
    refine ⟨_,?_,yy _ _⟩
    simp only [Op.shift,if_neg this,Sem.run_pure]
    simp
 | quo=>
  rcases hk with rfl | hk
  · rw [binOp_quo]
    unfold Op.intDiv
    have hc':Bool.rec (motive:=fun _=>Option CV) (some (zb k (yr k (a.tdiv b)))) none (zj b (.ofNat 0))=some c:=hc
    rw [za] at hc'
    by_cases h0:b=0
    · subst h0; simp at hc'
    · have:decide (b=Int.ofNat 0)=false:=by simpa using h0
      rw [this] at hc'
      injection hc' with hc'; subst hc'
      refine ⟨_,?_,yy _ _⟩
      rw [if_neg h0,yz,Sem.run_pure]
  · cases hk
 | rem=>
  rcases hk with rfl | hk
  · rw [binOp_rem]
    unfold Op.intDiv
    have hc':Bool.rec (motive:=fun _=>Option CV) (some (zb k (a.tmod b))) none (zj b (.ofNat 0))=some c:=hc
    rw [za] at hc'
    by_cases h0:b=0
    · subst h0; simp at hc'
    · have:decide (b=Int.ofNat 0)=false:=by simpa using h0
      rw [this] at hc'
      injection hc' with hc'; subst hc'
      refine ⟨_,?_,yy _ _⟩
      rw [if_neg h0,Sem.run_pure]
  · cases hk
 | add=>
  rcases hk with rfl | hk
  · injection hc with hc; subst hc
    exact ⟨_,by rw [binOp_add,Op.intArith,Sem.run_pure,yz]; rfl,yy _ _⟩
  · cases hk
 | sub=>
  rcases hk with rfl | hk
  · injection hc with hc; subst hc
    exact ⟨_,by rw [binOp_sub,Op.intArith,Sem.run_pure,yz]; rfl,yy _ _⟩
  · cases hk
 | mul=>
  rcases hk with rfl | hk
  · injection hc with hc; subst hc
    exact ⟨_,by rw [binOp_mul,Op.intArith,Sem.run_pure,yz]; rfl,yy _ _⟩
  · cases hk
 | and=>
  rcases hk with rfl | hk
  · injection hc with hc; subst hc
    refine ⟨_,?_,yy _ _⟩
    rw [binOp_and,Op.intBits,Sem.run_pure,yz,BitVec.toNat_and,wo,wo]; rfl
  · cases hk
 | or=>
  rcases hk with rfl | hk
  · injection hc with hc; subst hc
    refine ⟨_,?_,yy _ _⟩
    rw [binOp_or,Op.intBits,Sem.run_pure,yz,BitVec.toNat_or,wo,wo]; rfl
  · cases hk
 | xor=>
  rcases hk with rfl | hk
  · injection hc with hc; subst hc
    refine ⟨_,?_,yy _ _⟩
    rw [binOp_xor,Op.intBits,Sem.run_pure,yz,BitVec.toNat_xor,wo,wo]; rfl
  · cases hk
 | andNot=>
  rcases hk with rfl | hk
  · injection hc with hc; subst hc
    refine ⟨_,?_,yy _ _⟩
    rw [binOp_andNot,Op.intBits,Sem.run_pure,yz,BitVec.toNat_and,BitVec.toNat_not,wo,wo]; rfl
  · cases hk
 | eql=>
  rcases hk with rfl | hk
  · injection hc with hc; subst hc
    refine ⟨_,by rw [binOp_eql,Sem.run_pure],zJ.2 ?_⟩
    rw [za]; rfl
  · cases hk
 | neq=>
  rcases hk with rfl | hk
  · injection hc with hc; subst hc
    refine ⟨_,by rw [binOp_neq,Sem.run_pure],zJ.2 ?_⟩
    rw [za,vF]; rfl
  · cases hk
 | lss=>
  rcases hk with rfl | hk
  · injection hc with hc; subst hc
    refine ⟨_,by rw [binOp_lss,Sem.run_pure],zJ.2 ?_⟩
    rw [qQ]
  · cases hk
 | leq=>
  rcases hk with rfl | hk
  · injection hc with hc; subst hc
    refine ⟨_,by rw [binOp_leq,Sem.run_pure],zJ.2 ?_⟩
    rw [qQ,vF]; exact zDZ (by simp)
  · cases hk
 | gtr=>
  rcases hk with rfl | hk
  · injection hc with hc; subst hc
    refine ⟨_,by rw [binOp_gtr,Sem.run_pure],zJ.2 ?_⟩
    rw [qQ]
  · cases hk
 | geq=>
  rcases hk with rfl | hk
  · injection hc with hc; subst hc
    refine ⟨_,by rw [binOp_geq,Sem.run_pure],zJ.2 ?_⟩
    rw [qQ,vF]; exact zDZ (by simp)
  · cases hk
theorem zJV {n:Nat} {c:CV} (h:okN n=some c):n≤9223372036854775807∧c=kz n:=by
 have h':Bool.rec (motive:=fun _=>Option CV) none (some (kz n)) (Nat.ble n 9223372036854775807)=some c:=h
 cases hb:Nat.ble n 9223372036854775807 with
 | false=>rw [hb] at h'; cases h'
 | true=>rw [hb] at h'; injection h' with h'; exact ⟨zL hb,h'.symm⟩
theorem zAP {n:Nat} (h:n≤9223372036854775807):IntKind.i64.wrap (n:Int)=(n:Int):=by
 simp only [IntKind.wrap,IntKind.signed,IntKind.bits]; simp; omega
theorem zPb {op:BinOp} {a b:Nat} {c:CV} (t:TypeId) (w:World) (hc:zHb op a b=some c) :
 ∃ v,(binOp op t (.int .i64 (Int.ofNat a)) (.int .i64 (Int.ofNat b))).run P w=.ok v w∧zH ψ c v:=by
 cases op with
 | add=>
  obtain ⟨h1,rfl⟩:=zJV (n:=a+b) hc
  refine ⟨_,?_,xz _⟩
  rw [binOp_add,Op.intArith,Sem.run_pure]
  have:=zAP h1
  simp only [Int.ofNat_eq_natCast] at *
  rw [← Int.natCast_add,this]
 | sub=>
  have hc':Bool.rec (motive:=fun _=>Option CV) none (Bool.rec (motive:=fun _=>Option CV) none (some (kz (Nat.sub a b))) (Nat.ble a 9223372036854775807)) (Nat.ble b a)=some c:=hc
  cases h1:Nat.ble b a with
  | false=>rw [h1] at hc'; cases hc'
  | true=>cases h2:Nat.ble a 9223372036854775807 with
   | false=>rw [h1,h2] at hc'; cases hc'
   | true=>
    rw [h1,h2] at hc'
    injection hc' with hc'; subst hc'
    have h1:=zL h1
    have h2:=zL h2
    refine ⟨_,?_,xz _⟩
    rw [binOp_sub,Op.intArith,Sem.run_pure]
    have:=zAP (n:=a - b) (by omega)
    simp only [Int.ofNat_eq_natCast] at *
    rw [← Int.natCast_sub h1,this]; rfl
 | mul=>
  obtain ⟨h1,rfl⟩:=zJV (n:=a*b) hc
  refine ⟨_,?_,xz _⟩
  rw [binOp_mul,Op.intArith,Sem.run_pure]
  have:=zAP h1
  simp only [Int.ofNat_eq_natCast] at *
  rw [← Int.natCast_mul,this]
 | and=>
  have hc':Bool.rec (motive:=fun _=>Option CV) none (Bool.rec (motive:=fun _=>Option CV) none (some (kz (Nat.land a b))) (Nat.ble b 9223372036854775807)) (Nat.ble a 9223372036854775807)=some c:=hc
  cases h1:Nat.ble a 9223372036854775807 with
  | false=>rw [h1] at hc'; cases hc'
  | true=>cases h2:Nat.ble b 9223372036854775807 with
   | false=>rw [h1,h2] at hc'; cases hc'
   | true=>
    rw [h1,h2] at hc'
    injection hc' with hc'; subst hc'
    have h1:=zL h1
    have h2:=zL h2
    refine ⟨_,?_,xz _⟩
    rw [binOp_and,Op.intBits,Sem.run_pure,BitVec.toNat_and,← wo,← wo]
    have e:∀ {m:Nat},m≤9223372036854775807→toU .i64 (Int.ofNat m)=m:=fun {m} hm=>Nat.mod_eq_of_lt (show m<2 ^ 64 by omega)
    rw [e h1,e h2]
    have:(a &&& b)≤9223372036854775807:=Nat.le_trans Nat.and_le_left h1
    rw [zAP this]; rfl
 | eql=>injection hc with hc; subst hc; exact ⟨_,by rw [binOp_eql,Sem.run_pure],zJ.2 (zDZ (by simp; omega))⟩
 | neq=>injection hc with hc; subst hc; exact ⟨_,by rw [binOp_neq,Sem.run_pure],zJ.2 (by rw [vF]; exact zDZ (by have:=@Nat.beq_eq a b; cases hb:Nat.beq a b <;> simp_all <;> omega))⟩
 | lss=>injection hc with hc; subst hc; exact ⟨_,by rw [binOp_lss,Sem.run_pure],zJ.2 (zDZ (by simp; omega))⟩
 | leq=>injection hc with hc; subst hc; exact ⟨_,by rw [binOp_leq,Sem.run_pure],zJ.2 (zDZ (by simp))⟩
 | gtr=>injection hc with hc; subst hc; exact ⟨_,by rw [binOp_gtr,Sem.run_pure],zJ.2 (zDZ (by simp; omega))⟩
 | geq=>injection hc with hc; subst hc; exact ⟨_,by rw [binOp_geq,Sem.run_pure],zJ.2 (zDZ (by simp))⟩
 | _=>cases hc
theorem xV (b:ByteArray):(zo b).length=b.size:=by unfold zo; rw [List.length_map]; rfl
theorem zVv {a b:List UInt8} (h:a.map UInt8.toNat=b.map UInt8.toNat):a=b:=by
 induction a generalizing b with
 | nil=>cases b with
  | nil=>rfl
  | cons y b=>cases h
 | cons x a ih=>cases b with
  | nil=>cases h
  | cons y b=>
   simp only [List.map_cons,List.cons.injEq] at h
   rw [UInt8.toNat_inj.1 h.1,ih h.2]
theorem qB (a b:ByteArray):qC (zo a) (zo b)=(a.toList == b.toList):=by
 rw [jB,ByteArray.toList_eq,ByteArray.toList_eq,Bool.eq_iff_iff]
 simp only [decide_eq_true_eq,beq_iff_eq]
 constructor
 · exact zVv
 · intro e; unfold zo; rw [e]
theorem zH9 (a b:List UInt8):zAw (a.map UInt8.toNat) (b.map UInt8.toNat)=Op.bytesLess a b:=by
 induction a generalizing b with
 | nil=>cases b <;> rfl
 | cons x a ih=>cases b with
  | nil=>rfl
  | cons y b=>
   show Bool.rec (motive:=fun _=>Bool) (Bool.rec (motive:=fun _=>Bool) false (zAw (a.map UInt8.toNat) (b.map UInt8.toNat)) (Nat.beq x.toNat y.toNat)) true (Nat.ble (Nat.succ x.toNat) y.toNat)=_
   rw [Op.bytesLess,ih]
   by_cases h1:x<y
   · have:Nat.ble (Nat.succ x.toNat) y.toNat=true:=Nat.ble_eq_true_of_le (UInt8.lt_iff_toNat_lt.1 h1)
     rw [this]; simp [h1]
   · have hn:Nat.ble (Nat.succ x.toNat) y.toNat=false:=by
      cases hb:Nat.ble (Nat.succ x.toNat) y.toNat with
      | false=>rfl
      | true=>exact absurd (UInt8.lt_iff_toNat_lt.2 (zL hb)) h1
     rw [hn]
     by_cases h2:x=y
     · subst h2; simp
     · have:Nat.beq x.toNat y.toNat=false:=wb fun e=>h2 (UInt8.toNat_inj.1 e)
       rw [this]; simp [h1,h2]
theorem k7 (a b:ByteArray):zAw (zo a) (zo b)=Op.bytesLess a.toList b.toList:=by
 rw [ByteArray.toList_eq,ByteArray.toList_eq]; exact zH9 _ _
theorem zGQ (a b:ByteArray):zo (a++b)=zo a++zo b:=by
 obtain ⟨⟨x⟩⟩:=a
 obtain ⟨⟨y⟩⟩:=b
 rw [ByteArray.mk_append_mk]
 simp [zo]
theorem vy {op:BinOp} {a b:ByteArray} {c:CV} (t:TypeId) (w:World) (hc:zSG op (zo a) (zo b)=some c) :
 ∃ v,(binOp op t (.string a) (.string b)).run P w=.ok v w∧zH ψ c v:=by
 have hb:binOp op t (.string a) (.string b)=Op.stringOp op a b:=by cases op <;> simp [binOp]
 rw [hb]
 cases op with
 | add=>
  have hc':Bool.rec (motive:=fun _=>Option CV) none (some (.str (zVp (zo a) (zo b)))) (Nat.ble (Nat.add (zBM (zo a)) (zBM (zo b))) 1000000)=some c:=hc
  cases h1:Nat.ble (Nat.add (zBM (zo a)) (zBM (zo b))) 1000000 with
  | false=>rw [h1] at hc'; cases hc'
  | true=>
   rw [h1] at hc'
   injection hc' with hc'; subst hc'
   have h1:=zL h1
   rw [w5,w5,xV,xV] at h1
   have h1:a.size+b.size≤1000000:=h1
   exact ⟨_,run_string_add_sum w a b (by omega),ze.2 ⟨_,rfl,by rw [zS6,zGQ]⟩⟩
 | eql=>injection hc with hc; subst hc; exact ⟨_,by rw [Op.stringOp]; rfl,zJ.2 (by rw [qB])⟩
 | neq=>injection hc with hc; subst hc; exact ⟨_,by rw [Op.stringOp]; rfl,zJ.2 (by rw [vF,qB])⟩
 | lss=>injection hc with hc; subst hc; exact ⟨_,by rw [Op.stringOp]; rfl,zJ.2 (by rw [k7])⟩
 | leq=>injection hc with hc; subst hc; exact ⟨_,by rw [Op.stringOp]; rfl,zJ.2 (by rw [qB,k7])⟩
 | gtr=>injection hc with hc; subst hc; exact ⟨_,by rw [Op.stringOp]; rfl,zJ.2 (by rw [vF,qB,k7])⟩
 | geq=>injection hc with hc; subst hc; exact ⟨_,by rw [Op.stringOp]; rfl,zJ.2 (by rw [vF,k7])⟩
 | _=>cases hc
end
end Go.Ev
namespace Go.Ev
variable [Sym]
noncomputable section
variable {P:Program} {ψ:Psi} {es:List CV} {tm:Tm} {h:zC} {n:Key} {ρ:Operand→Value} {E:Env} {ty:TypeId} {w:World}
theorem qw {op:BinOp} {t:TypeId} {x y:Operand} {c:TypeId} {v:Value} (hg:eqGuard op t x y (ρ x) (ρ y)=pure ()) (hr:(binOp op t (ρ x) (ρ y)).run P w=.ok v w) :
 (execOp ρ (xw (.binOp op t x y c) ty)).run P w=.ok (.value v) w:=by
 simp [execOp,hg,hr]
def Has (ψ:Psi):OR→Value→Prop
 | .val c,v=>zH ψ c v
 | .fork a b,v=>Has ψ a v∨Has ψ b v
 | _,_=>False
theorem zJn {o:Op} {x:Value} (hv:kS P ρ o ty w w x) {r:OR} (hh:Has ψ r x):zD P ψ h n ρ o ty w r:=by
 induction r with
 | val c=>exact ⟨x,hv,hh⟩
 | fork a b iha ihb=>exact fun _=>Or.imp (fun q=>iha q) (fun q=>ihb q) hh
 | _=>exact False.elim hh
theorem zAI {k:IntKind} {m:Nat} {v:Value} (hv:zH ψ (ji k m) v):v=.int k (Int.ofNat m):=by
 cases k <;> first | exact zg.1 hv | (cases m <;> exact zX.1 hv)
theorem qt {k:IntKind} {m:Int} {v:Value} (hv:zH ψ (zb k m) v):v=.int k m:=by
 cases m with
 | ofNat m=>cases m <;> exact zAI hv
 | negSucc m=>cases m <;> exact zg.1 hv
theorem zOS (b:Bool):Has ψ kw (.bool b):=by
 cases b
 · exact .inr (zJ.2 rfl)
 · exact .inl (zJ.2 rfl)
theorem zGi (k:IntKind) {j:Nat}:∀ {m:Nat},j≤m→Has ψ (zMR k m) (.int k (Int.ofNat j))
 | 0,hj=>by
  obtain rfl:j=0:=by omega
  exact wV k 0
 | m+1,hj=>by
  by_cases e:j=m+1
  · subst e; exact .inr (wV k (m+1))
  · exact .inl (zGi k (m:=m) (by omega))
theorem zFA (k:IntKind) {z:Int}:∀ {m:Nat},z.natAbs≤m→Has ψ (zLY k m) (.int k z)
 | 0,hj=>by
  obtain rfl:z=0:=by omega
  exact wV k 0
 | m+1,hj=>by
  by_cases e:z.natAbs=m+1
  · refine .inr ?_
    cases z with
    | ofNat p=>
     obtain rfl:p=m+1:=by simpa using e
     exact .inl (wV k (m+1))
    | negSucc p=>
     obtain rfl:p=m:=by simpa [Int.natAbs_negSucc] using e
     exact .inr (zg.2 rfl)
  · exact .inl (zFA k (m:=m) (by omega))
theorem ke {op:BinOp} {k j:IntKind} {a b:Int} {c:CV} {t:TypeId} {x y:Operand} {m:TypeId} {r:OR} (hx:ρ x=.int k a) (hy:ρ y=.int j b)
 (hk:k=j∨yv op=true) (hc:yQ op k a b=some c) (hr:∀ v,zH ψ c v→Has ψ r v):zD P ψ h n ρ (.binOp op t x y m) ty w r:=by
 obtain ⟨v,h1,h2⟩:=kT (P:=P) (ψ:=ψ) t w hk hc
 exact zJn (zR (qw (by rw [hx]; exact eqGuard_at_int _ _ _ _ _ _ _) (by rw [hx,hy]; exact h1))) (hr v h2)
theorem v7 {k:IntKind} {m:Int}:∀ v,zH ψ (zb k m) v→Has ψ (.val (.anyi k)) v:=fun _ hv=>yk.2 ⟨_,qt hv⟩
theorem zSS {b:Bool}:∀ v,zH ψ (.bool b) v→Has ψ kw v:=fun v hv=>by rw [zJ] at hv; subst hv; exact zOS b
theorem uK {op:BinOp} {j k:IntKind} {a b:Int} {t:TypeId} {x y:Operand} {c:TypeId} (hx:ρ x=.int j a) (hy:ρ y=.int k b) :
 zD P ψ h n ρ (.binOp op t x y c) ty w (jN op j k):=by
 refine zG (C:=zD P ψ h n ρ (.binOp op t x y c) ty w) _ _ _ (zA _) fun hk=>?_
 rw [yo] at hk
 have hk:j=k:=by simpa using hk
 subst hk
 cases op <;> first | exact zA _ | exact ke hx hy (.inl rfl) rfl v7 | exact ke hx hy (.inl rfl) rfl zSS
theorem zF7 {k:IntKind} {a:Int} {m:Nat} (hm:m≤127):∃ j,j≤m∧yr k (.ofNat (Nat.land (toU k a) (toU k (.ofNat m))))=.ofNat j:=by
 have h1:toU k (.ofNat m)=m:=by
  show m % 2 ^ k.bits=m
  exact Nat.mod_eq_of_lt (by cases k <;> simp [IntKind.bits] <;> omega)
 refine ⟨Nat.land (toU k a) m,Nat.and_le_right,?_⟩
 rw [h1,yz]
 have h2:Nat.land (toU k a) m≤127:=Nat.le_trans Nat.and_le_right hm
 generalize Nat.land (toU k a) m=q at h2
 cases k <;> simp [IntKind.wrap,IntKind.signed,IntKind.bits] <;> omega
theorem zFb {a:Int} {m:Nat}:(a.tmod (.ofNat (m+1))).natAbs≤m:=by
 have:=Int.natAbs_tmod a (.ofNat (m+1))
 have h2:(Int.ofNat (m+1)).natAbs=m+1:=rfl
 rw [this,h2]
 have:=Nat.mod_lt a.natAbs (show 0<m+1 by omega)
 omega
theorem zMT {op:BinOp} {k j:IntKind} {a b:Int} {t:TypeId} {x y:Operand} {c:TypeId} (hx:ρ x=.int k a) (hy:ρ y=.int j b) (hk:k=j∨yv op=true) :
 zD P ψ h n ρ (.binOp op t x y c) ty w (zGn op k b):=by
 have plain:∀ op',op=op'→yv op'=false→zD P ψ h n ρ (.binOp op t x y c) ty w (jN op' k k):=by
  intro op' e hs
  subst e
  rcases hk with rfl | hk
  · exact uK hx hy
  · rw [hs] at hk; cases hk
 have eqk:yv op=false→k=j:=fun hs=>hk.resolve_right (by rw [hs]; simp)
 cases op <;> first
  | exact plain _ rfl rfl
  | skip
 case quo=>
  obtain rfl:=eqk rfl
  cases b with
  | ofNat m=>
   cases m with
   | zero=>exact zA _
   | succ m=>
    refine ke hx hy (.inl rfl) (c:=zb k (yr k (a.tdiv (.ofNat (m+1))))) ?_ v7
    show Bool.rec (motive:=fun _=>Option CV) (some (zb k (yr k (a.tdiv (.ofNat (m+1)))))) none (zj (.ofNat (m+1)) (.ofNat 0))=_
    rw [za,decide_eq_false (by intro h; injection h with h; cases h)]
  | negSucc m=>
   refine ke hx hy (.inl rfl) (c:=zb k (yr k (a.tdiv (.negSucc m)))) ?_ v7
   show Bool.rec (motive:=fun _=>Option CV) (some (zb k (yr k (a.tdiv (.negSucc m))))) none (zj (.negSucc m) (.ofNat 0))=_
   rw [za,decide_eq_false (by intro h; cases h)]
 case rem=>
  obtain rfl:=eqk rfl
  cases b with
  | negSucc m=>exact zA _
  | ofNat m=>
   cases m with
   | zero=>exact zA _
   | succ m=>
    refine zG (C:=zD P ψ h n ρ (.binOp .rem t x y c) ty w) _ _ _ (zA _) fun hm=>?_
    have hc:yQ .rem k a (.ofNat (m+1))=some (zb k (a.tmod (.ofNat (m+1)))):=by
     show Bool.rec (motive:=fun _=>Option CV) (some (zb k (a.tmod (.ofNat (m+1))))) none (zj (.ofNat (m+1)) (.ofNat 0))=_
     rw [za,decide_eq_false (by intro h; injection h with h; cases h)]
    refine ke hx hy (.inl rfl) hc fun v hv=>?_
    have hv:=qt hv
    subst hv
    have hs:=zFb (a:=a) (m:=m)
    split
    · exact zFA k hs
    · exact yk.2 ⟨_,rfl⟩
 case and=>
  obtain rfl:=eqk rfl
  cases b with
  | negSucc m=>exact ke hx hy (.inl rfl) rfl v7
  | ofNat m=>
   refine zG (C:=zD P ψ h n ρ (.binOp .and t x y c) ty w) _ _ _ (zA _) fun hm=>?_
   obtain ⟨q,h1,h2⟩:=zF7 (k:=k) (a:=a) (zL hm)
   refine ke hx hy (.inl rfl) rfl fun v hv=>?_
   rw [h2] at hv
   rw [qt hv]
   exact zGi k h1
 case shl=>
  cases b with
  | negSucc m=>exact zA _
  | ofNat m=>exact ke hx hy hk rfl v7
 case shr=>
  cases b with
  | negSucc m=>exact zA _
  | ofNat m=>
   cases a with
   | ofNat a=>exact ke hx hy hk rfl fun v hv=>yk.2 ⟨_,zAI hv⟩
   | negSucc a=>exact ke hx hy hk rfl v7
theorem zQd {op:BinOp} {k j:IntKind} {a b:Int} {c:CV} {t:TypeId} {x y:Operand} {m:TypeId} (hx:ρ x=.int k a) (hy:ρ y=.int j b)
 (hk:k=j∨yv op=true) (hc:yQ op k a b=some c):zD P ψ h n ρ (.binOp op t x y m) ty w (.val c):=by
 obtain ⟨v,h1,h2⟩:=kT (P:=P) (ψ:=ψ) t w hk hc
 exact ⟨v,zR (qw (by rw [hx]; exact eqGuard_at_int _ _ _ _ _ _ _) (by rw [hx,hy]; exact h1)),h2⟩
def zVF [Sym] (P:Program):Prop:=
 (∀ op x y l,Sym.bin op x y=some l→∀ (ψ:Psi) t u v w,zH ψ x u→zH ψ y v→((∃ k m,u=.int k m)∨∃ b,u=.string b)∧∃ z,(binOp op t u v).run P w=.ok z w∧∃ c∈l,zH ψ c z) ∧
 (∀ k x l,Sym.cv k x=some l→∀ (ψ:Psi) u,zH ψ x u→∃ j m,u=.int j m∧∃ c∈l,zH ψ c (.int k (k.wrap m)))
class SymFact (P:Program):Prop where
 ok:zVF P
 inn:∀ k ks,Sym.inn k ks=true→∀ (ψ:Psi) v vs,zH ψ k v→zS ψ ks vs→v∈vs
theorem zHJ {v:Value}:∀ {l:List CV} {d c:CV},c∈d::l→zH ψ c v→Has ψ (forkL d l) v
 | [],d,c,hc,hv=>by
  obtain rfl:c=d:=by simpa using hc
  exact hv
 | e::l,d,c,hc,hv=>by
  rcases List.mem_cons.1 hc with rfl | hc
  · exact .inl hv
  · exact .inr (zHJ hc hv)
theorem zJO {v:Value} {o:Option (List CV)} {l:List CV} {c:CV} {e:Nat} (ho:o=some l) (hc:c∈l) (hv:zH ψ c v):Has ψ (zTL o e) v:=by
 subst ho
 cases l with
 | nil=>cases hc
 | cons d l=>exact zHJ hc hv
theorem zMq {op:BinOp} {t:TypeId} {x y:Operand} {m:TypeId} {u v:CV} (hx:zH ψ u (ρ x)) (hy:zH ψ v (ρ y)) :
 zD P ψ h n ρ (.binOp op t x y m) ty w (zLZ op u v):=by
 have two:∀ (k:IntKind) (a:Int),ρ x=.int k a→zD P ψ h n ρ (.binOp op t x y m) ty w
  (zSz v (fun j b=>yl (kEq k j || yv op) (zEf (yQ op k a b) 117) 118) (fun j=>jN op j k) 119):=by
  intro k a hx
  have known:∀ (j:IntKind) (b:Int),ρ y=.int j b→zD P ψ h n ρ (.binOp op t x y m) ty w (yl (kEq k j || yv op) (zEf (yQ op k a b) 117) 118):=by
   intro j b hy
   refine zG (C:=zD P ψ h n ρ (.binOp op t x y m) ty w) _ _ _ (zA _) fun hk=>?_
   refine jA (C:=zD P ψ h n ρ (.binOp op t x y m) ty w) _ _ (zA _) fun c hc=>?_
   refine zQd hx hy ?_ hc
   rw [yo] at hk
   simpa using hk
  refine kK (C:=zD P ψ h n ρ (.binOp op t x y m) ty w) _ _ _ _ (zA _) (fun b hv=>?_) (fun j b hv=>?_) (fun j hv=>?_)
  · rw [hv,zX] at hy; exact known _ _ hy
  · rw [hv,zg] at hy; exact known _ _ hy
  · rw [hv,yk] at hy; obtain ⟨b,hy⟩:=hy
    by_cases e:j=k
    · subst e; exact uK hx hy
    · unfold jN; rw [yo,decide_eq_false e]; exact zA _
 refine zH0 (C:=zD P ψ h n ρ (.binOp op t x y m) ty w) _ _ _ _ _ (zA _) (fun a hu=>?_) (fun k a hu=>?_) (fun k hu=>?_) (fun s hu=>?_)
 · rw [hu,zX] at hx; exact two _ _ hx
 · rw [hu,zg] at hx; exact two _ _ hx
 · rw [hu,yk] at hx; obtain ⟨a,hx⟩:=hx
   have any:∀ (j:IntKind) (b:Int),ρ y=.int j b→zD P ψ h n ρ (.binOp op t x y m) ty w (jN op j k):=by
    intro j b hy
    by_cases e:j=k
    · subst e; exact uK hx hy
    · unfold jN; rw [yo,decide_eq_false e]; exact zA _
   have right:∀ (j:IntKind) (b:Int),ρ y=.int j b→zD P ψ h n ρ (.binOp op t x y m) ty w (yl (kEq k j || yv op) (zGn op k b) 118):=by
    intro j b hy
    refine zG (C:=zD P ψ h n ρ (.binOp op t x y m) ty w) _ _ _ (zA _) fun hk=>?_
    refine zMT hx hy ?_
    rw [yo] at hk
    simpa using hk
   refine kK (C:=zD P ψ h n ρ (.binOp op t x y m) ty w) _ _ _ _ (zA _) (fun b hv=>?_) (fun j b hv=>?_) (fun j hv=>?_)
   · rw [hv,zX] at hy; exact right _ _ hy
   · rw [hv,zg] at hy; exact right _ _ hy
   · rw [hv,yk] at hy; obtain ⟨b,hy⟩:=hy; exact any _ _ hy
 · rw [hu,ze] at hx; obtain ⟨a,hx,rfl⟩:=hx
   refine yO (C:=zD P ψ h n ρ (.binOp op t x y m) ty w) _ _ _ (zA _) fun l hl=>?_
   rw [hl,ze] at hy; obtain ⟨b,hy,rfl⟩:=hy
   refine jA (C:=zD P ψ h n ρ (.binOp op t x y m) ty w) _ _ (zA _) fun c hc=>?_
   obtain ⟨v,h1,h2⟩:=vy (P:=P) (ψ:=ψ) t w hc
   exact ⟨v,zR (qw (by rw [hx]; exact eqGuard_at_string _ _ _ _ _ _) (by rw [hx,hy]; exact h1)),h2⟩
theorem zMZ [SymFact P] {op:BinOp} {t:TypeId} {x y:Operand} {m:TypeId} {u v:CV} (hx:zH ψ u (ρ x)) (hy:zH ψ v (ρ y)) :
 zD P ψ h n ρ (.binOp op t x y m) ty w (kV op u v):=by
 unfold kV
 split
 · rename_i a m'
   rw [zX] at hx
   rw [k9] at hy
   obtain ⟨b,hy,hle⟩:=hy
   have hg:eqGuard op t x y (ρ x) (ρ y)=pure ():=by rw [hx]; exact eqGuard_at_int _ _ _ _ _ _ _
   have hv:∀ {c:Bool},(binOp op t (ρ x) (ρ y)).run P w=.ok (.bool c) w→kS P ρ (.binOp op t x y m) ty w w (.bool c):=fun h=>zR (qw hg h)
   have hf:∀ {c:Bool},(binOp op t (ρ x) (ρ y)).run P w=.ok (.bool c) w→zD P ψ h n ρ (.binOp op t x y m) ty w kw:=by
    intro c hc _
    cases c
    · exact .inr ⟨_,hv hc,zJ.2 rfl⟩
    · exact .inl ⟨_,hv hc,zJ.2 rfl⟩
   cases op <;> first | exact zA _ | skip
   · -- <
     have hr:(binOp .lss t (ρ x) (ρ y)).run P w=.ok (.bool (decide ((a:Int)<b))) w:=by rw [hx,hy]; simp [binOp,Op.intCmp]
     show zD P ψ h n ρ _ ty w (ifB (Nat.ble (Nat.succ a) m') _ _)
     rw [ja]
     split
     · rename_i hb
       have:=zL hb
       exact ⟨_,hv hr,zJ.2 (by rw [decide_eq_true (by omega)])⟩
     · exact hf hr
   · -- <=
     have hr:(binOp .leq t (ρ x) (ρ y)).run P w=.ok (.bool (decide ((a:Int)≤b))) w:=by rw [hx,hy]; simp [binOp,Op.intCmp]
     show zD P ψ h n ρ _ ty w (ifB (Nat.ble a m') _ _)
     rw [ja]
     split
     · rename_i hb
       have:=zL hb
       exact ⟨_,hv hr,zJ.2 (by rw [decide_eq_true (by omega)])⟩
     · exact hf hr
   · -- >
     have hr:(binOp .gtr t (ρ x) (ρ y)).run P w=.ok (.bool (decide ((b:Int)<a))) w:=by rw [hx,hy]; simp [binOp,Op.intCmp]
     show zD P ψ h n ρ _ ty w (ifB (Nat.ble a m') _ _)
     rw [ja]
     split
     · rename_i hb
       have:=zL hb
       exact ⟨_,hv hr,zJ.2 (by rw [decide_eq_false (by omega)])⟩
     · exact hf hr
   · -- >=
     have hr:(binOp .geq t (ρ x) (ρ y)).run P w=.ok (.bool (decide ((b:Int)≤a))) w:=by rw [hx,hy]; simp [binOp,Op.intCmp]
     show zD P ψ h n ρ _ ty w (ifB (Nat.ble (Nat.succ a) m') _ _)
     rw [ja]
     split
     · rename_i hb
       have:=zL hb
       exact ⟨_,hv hr,zJ.2 (by rw [decide_eq_false (by omega)])⟩
     · exact hf hr
 split
 · cases hb:Sym.bin op u v with
   | none=>exact zA _
   | some l=>
    obtain ⟨h1,z,h2,c,h3,h4⟩:=(SymFact.ok (P:=P)).1 op u v l hb ψ t _ _ w hx hy
    refine zJn (zR (qw ?_ h2)) (zJO rfl h3 h4)
    rcases h1 with ⟨k,q,e⟩ | ⟨b,e⟩ <;> rw [e]
    · exact eqGuard_at_int _ _ _ _ _ _ _
    · exact eqGuard_at_string _ _ _ _ _ _
 · exact zMq hx hy
theorem zHj [SymFact P] {op:BinOp} {t:TypeId} {x y:Operand} {m:TypeId} {c d:zT} (hx:zH ψ (aV es tm c) (ρ x)) (hy:zH ψ (aV es tm d) (ρ y)) :
 zD P ψ h n ρ (.binOp op t x y m) ty w (yU P (.arith op c d) es tm h n):=by
 show zD P ψ h n ρ (.binOp op t x y m) ty w (zP3 (aV es tm c) (fun a=>zP3 (aV es tm d) (fun b=>zMO op a b (aV es tm c) (aV es tm d)) (kV op (aV es tm c) (aV es tm d))) (kV op (aV es tm c) (aV es tm d)))
 have gen:=zMZ (P:=P) (h:=h) (n:=n) (op:=op) (t:=t) (m:=m) (ty:=ty) (w:=w) hx hy
 cases hc:aV es tm c <;> try (rw [hc] at gen; exact gen)
 case nat a=>
  rw [hc] at gen
  cases hd:aV es tm d <;> try (rw [hd] at gen; exact gen)
  case nat b=>
   rw [hd] at gen
   rw [hc,zX] at hx
   rw [hd,zX] at hy
   show zD P ψ h n ρ (.binOp op t x y m) ty w (Option.rec (motive:=fun _=>BinOp→CV→CV→OR) (fun op x y=>kV op x y) (fun v _ _ _=>.val v) (zHb op a b) op (.nat a) (.nat b))
   cases ho:zHb op a b with
   | none=>exact gen
   | some v=>
    obtain ⟨v',h1,h2⟩:=zPb (P:=P) (ψ:=ψ) t w ho
    exact ⟨v',zR (qw (by rw [hx]; exact eqGuard_at_int _ _ _ _ _ _ _) (by rw [hx,hy]; exact h1)),h2⟩
theorem ww {k:EqK} {x y:CV} {b:Bool} {u v:Value} (hx:zH ψ x u) (hy:zH ψ y v) (hc:ul k x y=some b) :
 (k=.bool∧∃ p q,u=.bool p∧v=.bool q∧b=(p == q))∨(k=.int∧∃ j p q,u=.int j p∧v=.int j q∧b=(p == q)) ∨
 (k=.str∧∃ p q,u=.string p∧v=.string q∧b=(p == q)):=by
 unfold ul at hc
 split at hc
 · injection hc with hc; rw [zJ] at hx hy; exact .inl ⟨rfl,_,_,hx,hy,hc.symm⟩
 · injection hc with hc; rw [zX] at hx hy
   refine .inr (.inl ⟨rfl,_,_,_,hx,hy,?_⟩)
   subst hc; rename_i a b; have:=@Nat.beq_eq a b; cases hb:Nat.beq a b <;> simp_all <;> omega
 · rw [zg] at hx hy
   rename_i k a j b'
   cases hk:kEq k j with
   | false=>rw [hk] at hc; cases hc
   | true=>
    rw [hk] at hc; injection hc with hc
    rw [yo] at hk
    have hk:k=j:=by simpa using hk
    subst hk
    refine .inr (.inl ⟨rfl,_,_,_,hx,hy,?_⟩)
    rw [← hc,za]; rfl
 · injection hc with hc; rw [zX] at hx; rw [zg] at hy
   refine .inr (.inl ⟨rfl,_,_,_,hx,hy,?_⟩)
   subst hc; rename_i a b; simp only [Int.negSucc_eq]; symm; simp only [beq_eq_false_iff_ne,ne_eq]; simp; omega
 · injection hc with hc; rw [zX] at hy; rw [zg] at hx
   refine .inr (.inl ⟨rfl,_,_,_,hx,hy,?_⟩)
   subst hc; rename_i a b; simp only [Int.negSucc_eq]; symm; simp only [beq_eq_false_iff_ne,ne_eq]; simp; omega
 · injection hc with hc; rw [ze] at hx hy
   obtain ⟨p,hx,rfl⟩:=hx
   obtain ⟨q,hy,rfl⟩:=hy
   refine .inr (.inr ⟨rfl,_,_,hx,hy,?_⟩)
   rw [← hc,qB,beq_toListBytes]
 · cases hc
end
end Go.Ev
namespace Go.Ev
variable [Sym]
noncomputable section
variable {P:Program} {ψ:Psi} {es:List CV} {tm:Tm} {h:zC} {n:Key} {ρ:Operand→Value} {E:Env} {ty:TypeId} {w:World}
variable [SymFact P]
theorem xg {t:TypeId} {cs:Array Value} {off:Nat} {v:Value} (ha:qG P t=some false) (hv:cs[off]? = some v) (w:World):(part t cs off).run P w=.ok v w:=by
 simp [part,jC ha,hv]
theorem zIp {t:TypeId} {cs:Array Value} {off s:Nat} (ha:qG P t=some true) (hs:x6 P t=some s) (w:World) :
 (part t cs off).run P w=.ok (.agg (cs.extract off (off+s))) w:=by
 simp [part,jC ha,ye hs]
theorem zMp {t:TypeId} (ht:P.underlying t=some .bool):qG P t=some false:=by unfold qG; rw [ht]
theorem zAS {t:TypeId} {k:IntKind} (ht:P.underlying t=some (.int k)):qG P t=some false:=by unfold qG; rw [ht]
theorem zIO {t:TypeId} (ht:P.underlying t=some .string):qG P t=some false:=by unfold qG; rw [ht]
theorem zB8 {xs ys:List CV} {us vs:Array Value} (hx:zS ψ xs us.toList) (hy:zS ψ ys vs.toList) (d:Nat) (w:World) :
 ∀ (fs:List Field) {l:List (Nat × EqK)} {b:Bool},wR P fs=some l→eqFields xs ys l=some b→(Op.eqFields (d+1) us vs fs).run P w=.ok b w
 | [],l,b,hl,hb=>by
  injection hl with hl; subst hl
  injection hb with hb; subst hb
  rfl
 | f::fs,l,b,hl,hb=>by
  unfold wR at hl
  split at hl
  · cases hl
  · rename_i hname
    have hname:f.name ≠ "_":=by simpa using hname
    cases hr:wR P fs with
    | none=>rw [hr] at hl; cases hl
    | some r=>
     simp only [hr] at hl
     have one:∀ {k:EqK},qG P f.type=some false→l=(f.offset,k)::r →
      (∀ {x y:CV} {u v:Value} {c:Bool},zH ψ x u→zH ψ y v→ul k x y=some c→(Op.equalIn (d+1) f.type u v).run P w=.ok c w) →
      (Op.eqFields (d+1) us vs (f::fs)).run P w=.ok b w:=by
      intro k ha hl hk
      subst hl
      unfold eqFields at hb
      rw [qV,qV] at hb
      cases h1:xs[f.offset]? with
      | none=>rw [h1] at hb; cases hb
      | some x=>cases h2:ys[f.offset]? with
       | none=>rw [h1,h2] at hb; cases hb
       | some y=>
        simp only [h1,h2] at hb
        obtain ⟨u,hu,hxu⟩:=hx.get h1
        obtain ⟨v,hv,hyv⟩:=hy.get h2
        have hu:us[f.offset]? = some u:=by simpa using hu
        have hv:vs[f.offset]? = some v:=by simpa using hv
        cases hc:ul k x y with
        | none=>simp only [hc] at hb; cases hb
        | some c=>
         simp only [hc] at hb
         have he:=hk hxu hyv hc
         cases c with
         | false=>
          injection hb with hb; subst hb
          simp [Op.eqFields,hname,xg ha hu,xg ha hv,he]
         | true=>
          have:=zB8 hx hy d w fs hr hb
          simp [Op.eqFields,hname,xg ha hu,xg ha hv,he,this]
     unfold und at hl
     split at hl
     · rename_i ht
       injection hl with hl
       refine one (zMp ht) hl.symm fun hx hy hc=>?_
       rcases ww hx hy hc with ⟨_,p,q,rfl,rfl,rfl⟩ | ⟨e,_⟩ | ⟨e,_⟩
       · exact run_equalIn_bool' w d _ p q ht
       · cases e
       · cases e
     · rename_i k ht
       injection hl with hl
       refine one (zAS ht) hl.symm fun hx hy hc=>?_
       rcases ww hx hy hc with ⟨e,_⟩ | ⟨_,j,p,q,rfl,rfl,rfl⟩ | ⟨e,_⟩
       · cases e
       · exact run_equalIn_int w d _ j k p q ht
       · cases e
     · rename_i ht
       injection hl with hl
       refine one (zIO ht) hl.symm fun hx hy hc=>?_
       rcases ww hx hy hc with ⟨e,_⟩ | ⟨e,_⟩ | ⟨_,p,q,rfl,rfl,rfl⟩
       · cases e
       · cases e
       · rw [run_equalIn_string w d _ p q ht,beq_toListBytes]
     · cases hl
theorem zCP {x:Operand} (h:xO x=true):∃ v,x=.const v:=by
 cases x <;> first | exact ⟨_,rfl⟩ | cases h
section
variable {t e e' D:TypeId} {a:Addr} {v:Value} {n1 n2 m1 m2 r:Nat} {f:Fn} {xs ys:Array Value} (d:Nat) (w:World)
theorem zRd (ht:P.underlying t=some (.pointer e)):(Op.equalIn (d+1) t (.pointer none) (.pointer none)).run P w=.ok true w:=by
 rw [Op.equalIn,Sem.run_bind,run_underlying ht,Result.andThen_ok]; rfl
theorem zR9 (ht:P.underlying t=some (.pointer e)):(Op.equalIn (d+1) t (.pointer none) (.pointer (some a))).run P w=.ok false w:=by
 rw [Op.equalIn,Sem.run_bind,run_underlying ht,Result.andThen_ok]; rfl
theorem zRn (ht:P.underlying t=some (.pointer e)):(Op.equalIn (d+1) t (.pointer (some a)) (.pointer none)).run P w=.ok false w:=by
 rw [Op.equalIn,Sem.run_bind,run_underlying ht,Result.andThen_ok]; rfl
theorem zRz {ms} (ht:P.underlying t=some (.interface ms)):(Op.equalIn (d+1) t .nilIface .nilIface).run P w=.ok true w:=by
 rw [Op.equalIn,Sem.run_bind,run_underlying ht,Result.andThen_ok]; rfl
theorem zSm {ms} (ht:P.underlying t=some (.interface ms)):(Op.equalIn (d+1) t .nilIface (.iface D v)).run P w=.ok false w:=by
 rw [Op.equalIn,Sem.run_bind,run_underlying ht,Result.andThen_ok]; rfl
theorem zRU {ms} (ht:P.underlying t=some (.interface ms)):(Op.equalIn (d+1) t (.iface D v) .nilIface).run P w=.ok false w:=by
 rw [Op.equalIn,Sem.run_bind,run_underlying ht,Result.andThen_ok]; rfl
theorem zT2 (ht:P.underlying t=some (.slice e)):(Op.equalIn (d+1) t (.slice none n1 m1) (.slice none n2 m2)).run P w=.ok true w:=by
 rw [Op.equalIn,Sem.run_bind,run_underlying ht,Result.andThen_ok]; rfl
theorem zTQ (ht:P.underlying t=some (.slice e)):(Op.equalIn (d+1) t (.slice none n1 m1) (.slice (some a) n2 m2)).run P w=.ok false w:=by
 rw [Op.equalIn,Sem.run_bind,run_underlying ht,Result.andThen_ok]; rfl
theorem zSP (ht:P.underlying t=some (.slice e)):(Op.equalIn (d+1) t (.slice (some a) n1 m1) (.slice none n2 m2)).run P w=.ok false w:=by
 rw [Op.equalIn,Sem.run_bind,run_underlying ht,Result.andThen_ok]; rfl
theorem zQC (ht:P.underlying t=some (.map e e')):(Op.equalIn (d+1) t (.map none) (.map none)).run P w=.ok true w:=by
 rw [Op.equalIn,Sem.run_bind,run_underlying ht,Result.andThen_ok]; rfl
theorem zSL (ht:P.underlying t=some (.map e e')):(Op.equalIn (d+1) t (.map none) (.map (some r))).run P w=.ok false w:=by
 rw [Op.equalIn,Sem.run_bind,run_underlying ht,Result.andThen_ok]; rfl
theorem zQI (ht:P.underlying t=some (.map e e')):(Op.equalIn (d+1) t (.map (some r)) (.map none)).run P w=.ok false w:=by
 rw [Op.equalIn,Sem.run_bind,run_underlying ht,Result.andThen_ok]; rfl
theorem zTZ {fa fb fc} (ht:P.underlying t=some (.func fa fb fc)):(Op.equalIn (d+1) t .nilFunc .nilFunc).run P w=.ok true w:=by
 rw [Op.equalIn,Sem.run_bind,run_underlying ht,Result.andThen_ok]; rfl
theorem zTs {fa fb fc} (ht:P.underlying t=some (.func fa fb fc)):(Op.equalIn (d+1) t .nilFunc (.func f xs ys)).run P w=.ok false w:=by
 rw [Op.equalIn,Sem.run_bind,run_underlying ht,Result.andThen_ok]; rfl
theorem zTt {fa fb fc} (ht:P.underlying t=some (.func fa fb fc)):(Op.equalIn (d+1) t (.func f xs ys) .nilFunc).run P w=.ok false w:=by
 rw [Op.equalIn,Sem.run_bind,run_underlying ht,Result.andThen_ok]; rfl
end
theorem zUR {t:TypeId} {x y:Operand} {k:EqK} {u v:CV} {b:Bool} (op:BinOp) (hk:zI4 P t=some k) (hx:zH ψ u (ρ x)) (hy:zH ψ v (ρ y))
 (hc:eqC k (xO x || xO y) u v=some b) (hop:op=.eql∨op=.neq) (w:World) :
 (eqGuard op t x y (ρ x) (ρ y)).run P w=.ok () w∧(Op.equal t (ρ x) (ρ y)).run P w=.ok b w ∧
   (∀ k' a j c,¬ (ρ x=.int k' a∧ρ y=.int j c))∧(∀ s r,¬ (ρ x=.string s∧ρ y=.string r))∧(∀ s c,ρ x≠.float s c)∧(∀ s c d,ρ x≠.complex s c d):=by
 obtain ⟨dd,hd⟩:∃ dd,∀ a b,Op.equal t a b=Op.equalIn (dd+1+1) t a b:=⟨9998,fun _ _=>rfl⟩
 unfold zI4 und at hk
 split at hk
 · rename_i ht
   injection hk with hk; subst hk
   rcases ww hx hy hc with ⟨_,p,q,h1,h2,rfl⟩ | ⟨e,_⟩ | ⟨e,_⟩
   · rw [h1,h2,hd]
     exact ⟨by rw [eqGuard_at_bool]; rfl,run_equalIn_bool' w _ _ p q ht,by simp,by simp,by simp,by simp⟩
   · cases e
   · cases e
 · rename_i e ht
   injection hk with hk; subst hk
   unfold eqC at hc
   simp only at hc
   split at hc
   · injection hc with hc; subst hc
     rw [xW] at hx hy
     rw [hx,hy,hd]
     exact ⟨by rw [eqGuard_at_pointer]; rfl,zRd _ w ht,by simp,by simp,by simp,by simp⟩
   · injection hc with hc; subst hc
     rw [xW] at hx
     rw [zu] at hy
     obtain ⟨p,_,hy⟩:=hy
     rw [hx,hy,hd]
     exact ⟨by rw [eqGuard_at_pointer]; rfl,zR9 _ w ht,by simp,by simp,by simp,by simp⟩
   · injection hc with hc; subst hc
     rw [xW] at hy
     rw [zu] at hx
     obtain ⟨p,_,hx⟩:=hx
     rw [hx,hy,hd]
     exact ⟨by rw [eqGuard_at_pointer]; rfl,zRn _ w ht,by simp,by simp,by simp,by simp⟩
   · cases hc
 · rename_i ms ht
   injection hk with hk; subst hk
   unfold eqC at hc
   simp only at hc
   split at hc
   · split at hc
     · rename_i hcst
       injection hc with hc; subst hc
       rw [yj] at hx hy
       rw [hx,hy,hd]
       refine ⟨?_,zRz _ w ht,by simp,by simp,by simp,by simp⟩
       rcases Bool.or_eq_true_iff.1 hcst with h1 | h1
       · obtain ⟨c,rfl⟩:=zCP h1
         rw [eqGuard_nil_constL]; rfl
       · obtain ⟨c,rfl⟩:=zCP h1
         rw [eqGuard_nil_constR]; rfl
     · cases hc
   · injection hc with hc; subst hc
     rw [yj] at hx
     rw [yf] at hy
     obtain ⟨p,hy,_⟩:=hy
     rw [hx,hy,hd]
     exact ⟨by rw [eqGuard_nil_iface]; rfl,zSm _ w ht,by simp,by simp,by simp,by simp⟩
   · injection hc with hc; subst hc
     rw [yj] at hy
     rw [yf] at hx
     obtain ⟨p,hx,_⟩:=hx
     rw [hx,hy,hd]
     exact ⟨by rw [eqGuard_at_iface]; rfl,zRU _ w ht,by simp,by simp,by simp,by simp⟩
   · cases hc
 · rename_i e ht
   injection hk with hk; subst hk
   unfold eqC at hc
   simp only at hc
   split at hc
   · injection hc with hc; subst hc
     rw [zw] at hx hy
     rw [hx,hy,hd]
     exact ⟨by rw [eqGuard_at_slice]; rfl,zT2 _ w ht,by simp,by simp,by simp,by simp⟩
   · injection hc with hc; subst hc
     rw [zw] at hx
     rw [yF] at hy
     obtain ⟨p,_,_,_,hy,_⟩:=hy
     rw [hx,hy,hd]
     exact ⟨by rw [eqGuard_at_slice]; rfl,zTQ _ w ht,by simp,by simp,by simp,by simp⟩
   · injection hc with hc; subst hc
     rw [zw] at hy
     rw [yF] at hx
     obtain ⟨p,_,_,_,hx,_⟩:=hx
     rw [hx,hy,hd]
     exact ⟨by rw [eqGuard_at_slice]; rfl,zSP _ w ht,by simp,by simp,by simp,by simp⟩
   · cases hc
 · rename_i e e' ht
   injection hk with hk; subst hk
   unfold eqC at hc
   simp only at hc
   split at hc
   · injection hc with hc; subst hc
     rw [yS] at hx hy
     rw [hx,hy,hd]
     exact ⟨by rw [eqGuard_at_map]; rfl,zQC _ w ht,by simp,by simp,by simp,by simp⟩
   · injection hc with hc; subst hc
     rw [yS] at hx
     rw [yq] at hy
     obtain ⟨p,_,hy⟩:=hy
     rw [hx,hy,hd]
     exact ⟨by rw [eqGuard_at_map]; rfl,zSL _ w ht,by simp,by simp,by simp,by simp⟩
   · injection hc with hc; subst hc
     rw [yS] at hy
     rw [yq] at hx
     obtain ⟨p,_,hx⟩:=hx
     rw [hx,hy,hd]
     exact ⟨by rw [eqGuard_at_map]; rfl,zQI _ w ht,by simp,by simp,by simp,by simp⟩
   · cases hc
 · rename_i a1 a2 a3 ht
   injection hk with hk; subst hk
   unfold eqC at hc
   simp only at hc
   split at hc
   · injection hc with hc; subst hc
     rw [xK] at hx hy
     rw [hx,hy,hd]
     exact ⟨by rw [eqGuard_at_nilFunc]; rfl,zTZ _ w ht,by simp,by simp,by simp,by simp⟩
   · injection hc with hc; subst hc
     rw [xK] at hx
     rw [xH] at hy
     obtain ⟨_,_,hy,_⟩:=hy
     rw [hx,hy,hd]
     exact ⟨by rw [eqGuard_at_nilFunc]; rfl,zTs _ w ht,by simp,by simp,by simp,by simp⟩
   · injection hc with hc; subst hc
     rw [xK] at hy
     rw [xH] at hx
     obtain ⟨_,_,hx,_⟩:=hx
     rw [hx,hy,hd]
     exact ⟨by rw [eqGuard_at_func]; rfl,zTt _ w ht,by simp,by simp,by simp,by simp⟩
   · cases hc
 · rename_i fs ht
   split at hk
   · cases hk
   · rename_i hg
     rw [Bool.not_eq_true,Bool.or_eq_false_iff] at hg
     cases hf:wR P fs.toList with
     | none=>rw [hf] at hk; cases hk
     | some l=>
      rw [hf] at hk
      injection hk with hk; subst hk
      unfold eqC at hc
      simp only at hc
      split at hc
      · rw [yn] at hx hy
        obtain ⟨us,h1,hx⟩:=hx
        obtain ⟨vs,h2,hy⟩:=hy
        have hfo:P.fieldsOf t=fs:=by unfold Program.fieldsOf; rw [ht]
        rw [h1,h2,hd]
        refine ⟨run_eqGuard_agg w op t x y us vs hg.1,?_,by simp,by simp,by simp,by simp⟩
        rw [run_equalIn_struct w (dd+1) t us vs (by rw [hfo]; exact ht) hg.2,hfo]
        exact zB8 hx hy dd w fs.toList hf hc
      · cases hc
 · cases hk
theorem zSO {t:TypeId} {u v:Value} {b:Bool} (w:World) (he:(Op.equal t u v).run P w=.ok b w) (h1:∀ k' a j c,¬ (u=.int k' a∧v=.int j c)) (h2:∀ s r,¬ (u=.string s∧v=.string r))
 (h3:∀ s c,u≠.float s c) (h4:∀ s c d,u≠.complex s c d):(binOp .eql t u v).run P w=.ok (.bool b) w∧(binOp .neq t u v).run P w=.ok (.bool (!b)) w:=by
 have e1:binOp .eql t u v=(do pure (.bool (← Op.equal t u v))):=by
  unfold binOp
  split <;> first | rfl | exact absurd ⟨rfl,rfl⟩ (h1 _ _ _ _) | exact absurd ⟨rfl,rfl⟩ (h2 _ _) | exact absurd rfl (h3 _ _) | exact absurd rfl (h4 _ _ _) | (simp_all; done)
 have e2:binOp .neq t u v=(do pure (.bool (!(← Op.equal t u v)))):=by
  unfold binOp
  split <;> first | rfl | exact absurd ⟨rfl,rfl⟩ (h1 _ _ _ _) | exact absurd ⟨rfl,rfl⟩ (h2 _ _) | exact absurd rfl (h3 _ _) | exact absurd rfl (h4 _ _ _) | (simp_all; done)
 rw [e1,e2]
 simp [he]
def zCb (v:Value):CV:=match v with
 | .int k n=>.int k n
 | _=>.any
theorem zO3 {v:Value}:zH ψ (zCb v) v:=by
 unfold zCb
 split
 · exact zg.2 rfl
 · exact x7
theorem zBH:∀ {l:List Value},zS ψ (l.map zCb) l
 | []=>zM.2 rfl
 | v::l=>zW.2 ⟨zO3,zBH⟩
theorem zIk {x:CV} {k:IntKind} {v:Value} (h:zNW x=some k) (hx:zH ψ x v):∃ n,v=.int k n:=by
 unfold zNW at h
 split at h
 · injection h with h; subst h; exact ⟨_,zX.1 hx⟩
 · injection h with h; subst h; exact ⟨_,zg.1 hx⟩
 · injection h with h; subst h; exact yk.1 hx
 · cases h
theorem zAy {xs ys:List CV} {us vs:List Value} (hx:zS ψ xs us) (hy:zS ψ ys vs):∀ {fs:List (Nat × EqK)},zAH xs ys fs=true→∃ b,eqFields (us.map zCb) (vs.map zCb) fs=some b
 | [],_=>⟨true,rfl⟩
 | (o,k)::r,h=>by
  unfold zAH at h
  rw [Bool.and_eq_true,Bool.and_eq_true] at h
  obtain ⟨⟨h1,h2⟩,h3⟩:=h
  split at h1
  · split at h2
    · rename_i x y hxo hyo
      split at h2
      · rename_i a b ha hb
        rw [yo,decide_eq_true_eq] at h2
        subst h2
        rw [qV] at hxo hyo
        obtain ⟨u,hu,hu2⟩:=hx.get hxo
        obtain ⟨v,hv,hv2⟩:=hy.get hyo
        obtain ⟨n,rfl⟩:=zIk ha hu2
        obtain ⟨q,rfl⟩:=zIk hb hv2
        obtain ⟨b',hb'⟩:=zAy hx hy h3
        have e1:zAj (us.map zCb) o=some (.int a n):=by rw [qV,List.getElem?_map,hu]; rfl
        have e2:zAj (vs.map zCb) o=some (.int a q):=by rw [qV,List.getElem?_map,hv]; rfl
        have e3:ul .int (.int a n) (.int a q)=some (zj n q):=by
         have hk:kEq a a=true:=by rw [yo]; simp
         show (match kEq a a with | true=>some (zj n q) | false=>none)=some (zj n q)
         rw [hk]
        show ∃ b,eqFields _ _ ((o,.int)::r)=some b
        unfold eqFields
        rw [e1,e2]
        simp only
        rw [e3]
        cases zj n q with
        | true=>exact ⟨b',hb'⟩
        | false=>exact ⟨false,rfl⟩
      · cases h2
    · cases h2
  · cases h1
theorem zLW {k:EqK} {x y:CV} {u v:Value} (cst:Bool) (h:zHD k x y=true) (hx:zH ψ x u) (hy:zH ψ y v):∃ c d b,zH ψ c u∧zH ψ d v∧eqC k cst c d=some b:=by
 unfold zHD at h
 split at h
 · rename_i fs xs ys
   rw [yn] at hx hy
   obtain ⟨us,rfl,hx⟩:=hx
   obtain ⟨vs,rfl,hy⟩:=hy
   obtain ⟨b,hb⟩:=zAy hx hy h
   exact ⟨.agg (us.toList.map zCb),.agg (vs.toList.map zCb),b,yn.2 ⟨us,rfl,zBH⟩,yn.2 ⟨vs,rfl,zBH⟩,hb⟩
 · cases h
theorem zQ8 {neg:Bool} {t:TypeId} {x y:Operand} {k:EqK} {m:TypeId} {c d:zT} (hk:zI4 P t=some k) (hx:zH ψ (aV es tm c) (ρ x)) (hy:zH ψ (aV es tm d) (ρ y)) :
 zD P ψ h n ρ (.binOp (match neg with | true=>.neq | false=>.eql) t x y m) ty w (yU P (.eq neg k (xO x || xO y) c d) es tm h n):=by
 show zD P ψ h n ρ _ ty w (match eqC k (xO x || xO y) (aV es tm c) (aV es tm d) with
  | some b=>.val (.bool (xor neg b))
  | none=>match zHD k (aV es tm c) (aV es tm d) with
   | true=>kw
   | false=>.err 123)
 have key:∀ {c' d':CV} {b:Bool},zH ψ c' (ρ x)→zH ψ d' (ρ y)→eqC k (xO x || xO y) c' d'=some b →
  kS P ρ (.binOp (match neg with | true=>.neq | false=>.eql) t x y m) ty w w (.bool (xor neg b)):=by
  intro c' d' b hx hy hc
  obtain ⟨h1,h2,h3,h4,h5,h6⟩:=zUR (match neg with | true=>.neq | false=>.eql) hk hx hy hc (by cases neg <;> simp) w
  obtain ⟨e1,e2⟩:=zSO w h2 h3 h4 h5 h6
  cases neg with
  | false=>
   have e:(xor false b)=b:=by cases b <;> rfl
   rw [e]
   refine zR ?_
   have h1:=h1
   simp only at h1
   simp [execOp,h1,e1]
  | true=>
   have e:(xor true b) = !b:=by cases b <;> rfl
   rw [e]
   refine zR ?_
   have h1:=h1
   simp only at h1
   simp [execOp,h1,e2]
 cases hc:eqC k (xO x || xO y) (aV es tm c) (aV es tm d) with
 | none=>
  cases ha:zHD k (aV es tm c) (aV es tm d) with
  | false=>exact zA _
  | true=>
   obtain ⟨c',d',b,h1,h2,h3⟩:=zLW (xO x || xO y) ha hx hy
   have hv:=key h1 h2 h3
   show zD P ψ h n ρ _ ty w kw
   intro _
   cases hx:xor neg b with
   | true=>rw [hx] at hv; exact .inl ⟨_,hv,zJ.2 rfl⟩
   | false=>rw [hx] at hv; exact .inr ⟨_,hv,zJ.2 rfl⟩
 | some b=>exact ⟨_,key hx hy hc,zJ.2 rfl⟩
theorem zPP (op:BinOp) (t:TypeId) (x y:Operand) (m:TypeId) (ha:yG P ψ es tm E ρ [x,y]) :
 zD P ψ h n ρ (.binOp op t x y m) ty w (yU P (zh P E (.binOp op t x y m)) es tm h n):=by
 rw [zh]
 unfold zOl
 split
 · exact y7 (C:=zD P ψ h n ρ (.binOp op t x y m) ty w) zA fun c d hc hd=>zHj (ha x (by simp) c hc) (ha y (by simp) d hd)
 · exact y7 (C:=zD P ψ h n ρ (.binOp op t x y m) ty w) zA fun c d hc hd=>zHj (ha x (by simp) c hc) (ha y (by simp) d hd)
 · split
   · rename_i k hk
     exact y7 (C:=zD P ψ h n ρ (.binOp .eql t x y m) ty w) zA fun c d hc hd=>zQ8 (neg:=false) hk (ha x (by simp) c hc) (ha y (by simp) d hd)
   · rename_i k hk
     exact y7 (C:=zD P ψ h n ρ (.binOp .neq t x y m) ty w) zA fun c d hc hd=>zQ8 (neg:=true) hk (ha x (by simp) c hc) (ha y (by simp) d hd)
   · exact zA _
end
end Go.Ev
namespace Go.Ev
variable [Sym]
noncomputable section
variable {P:Program} {ψ:Psi} {es:List CV} {tm:Tm} {h:zC} {n:Key} {ρ:Operand→Value} {E:Env} {ty:TypeId} {w:World}
variable [SymFact P]
theorem zR8 (op:UnOp) (t:TypeId) (x:Operand) (ha:yG P ψ es tm E ρ [x]):zD P ψ h n ρ (.unOp op t x) ty w (yU P (zh P E (.unOp op t x)) es tm h n):=by
 refine zr (C:=zD P ψ h n ρ (.unOp op t x) ty w) zA fun c hc=>?_
 have hx:=ha x (by simp) c hc
 cases op with
 | neg=>
  have main:∀ k m,ρ x=.int k m→zD P ψ h n ρ (.unOp .neg t x) ty w (.val (zb k (yr k (Int.sub (.ofNat 0) m)))):=by
   intro k m e
   refine ⟨_,zR ?_,yy _ _⟩
   simp only [execOp,e,Op.unary,Op.intArith,yz]
   rfl
  refine uY (C:=zD P ψ h n ρ (.unOp .neg t x) ty w) _ _ _ (zA _) (fun m hm=>?_) (fun k m hm=>?_)
  · rw [hm,zX] at hx; exact main _ _ hx
  · rw [hm,zg] at hx; exact main _ _ hx
 | xor=>
  have main:∀ k m,ρ x=.int k m→zD P ψ h n ρ (.unOp .xor t x) ty w (zEf (zUM k (if k.signed then -1 else k.max) m) 125):=by
   intro k m e
   refine ⟨_,zR ?_,yy _ _⟩
   simp only [execOp,e,Op.unary,Op.intBits,yz,wo]
   simp only [Sem.run_bind,Sem.run_pure,Result.andThen_ok,BitVec.toNat_xor]
   rfl
  refine uY (C:=zD P ψ h n ρ (.unOp .xor t x) ty w) _ _ _ (zA _) (fun m hm=>?_) (fun k m hm=>?_)
  · rw [hm,zX] at hx; exact main _ _ hx
  · rw [hm,zg] at hx; exact main _ _ hx
 | not=>
  refine vR (C:=zD P ψ h n ρ (.unOp .not t x) ty w) _ _ _ (zA _) fun b hb=>?_
  rw [hb,zJ] at hx
  exact ⟨.bool (!b),zR (by simp [execOp,hx,Op.unary]),zJ.2 (by rw [vF])⟩
 | plus=>exact zA _
theorem zCd (t:TypeId) (x:Operand) (ha:yG P ψ es tm E ρ [x]):zD P ψ h n ρ (.makeInterface t x) ty w (yU P (zh P E (.makeInterface t x)) es tm h n):=by
 rw [zh]
 unfold und
 split
 · exact zA _
 · rename_i d hd ht
   refine zr (C:=zD P ψ h n ρ (.makeInterface t x) ty w) zA fun c hc=>⟨.iface t (ρ x),zR ?_,yf.2 ⟨_,rfl,ha x (by simp) c hc⟩⟩
   simp only [execOp,Instr.makeInterface,Sem.run_bind,run_underlying ht,Result.andThen_ok]
   cases d <;> first | rfl | exact absurd ht (hd _)
 · exact zA _
theorem zI1 (fn:Fn) (a b:Array Operand) (ha:yG P ψ es tm E ρ (a.toList++b.toList)):zD P ψ h n ρ (.makeFunc fn a b) ty w (yU P (zh P E (.makeFunc fn a b)) es tm h n):=by
 rw [zh]
 split
 · rename_i a' b' h1 h2
   refine ⟨.func fn (a.map ρ) (b.map ρ),zR ?_,xH.2 ⟨_,_,rfl,?_,?_⟩⟩
   · simp [execOp,Instr.makeFunc]
   · rw [Array.toList_map]; exact ky _ (ha.sub fun y hy=>by simp; exact .inl (by simpa using hy)) h1
   · rw [Array.toList_map]; exact ky _ (ha.sub fun y hy=>by simp; exact .inr (by simpa using hy)) h2
 · exact zA _
theorem zGm (t:TypeId) (r:Option Operand):zh P E (.makeMap t r)=(match und P t,r with
 | some (.map _ _),none=>.mkmap
 | some (.map _ _),some (.const (.int _ _))=>.mkmap
 | _,_=>.bad 28):=rfl
theorem zJ3 (t:TypeId) (r:Option Operand) (hρ:∀ v,ρ (.const v)=v):zD P ψ h n ρ (.makeMap t r) ty w (yU P (zh P E (.makeMap t r)) es tm h n):=by
 have main:(∀ v,r.map ρ=some v→∃ k m,v=.int k m)→(∃ a b,P.underlying t=some (.map a b))→zD P ψ h n ρ (.makeMap t r) ty w (yU P .mkmap es tm h n):=by
  intro hr ⟨a,b,ht⟩
  refine ⟨_,.map (some w.heap.size),0,zR ?_,jI _ (.map #[] 0),fun ψ' _ hn=>⟨yq.2 ⟨_,hn,rfl⟩,#[],by simp,xJ.nil,wL.id 0⟩,by simp [zFD]⟩
  cases r with
  | none=>simp [execOp,Instr.makeMap]
  | some x=>
   obtain ⟨k,m,e⟩:=hr (ρ x) rfl
   simp [execOp,Instr.makeMap,e,run_underlying ht,asInt,asIntOf]
 rw [zGm]
 unfold und
 split
 · rename_i a b ht
   exact main (by simp) ⟨a,b,ht⟩
 · rename_i a b k m ht
   refine main (fun v hv=>?_) ⟨a,b,ht⟩
   simp only [Option.map_some,hρ] at hv
   injection hv with hv
   exact ⟨_,_,hv.symm⟩
 · exact zA _
theorem zJM (x:Operand) (i:Nat) (ha:yG P ψ es tm E ρ [x]):zD P ψ h n ρ (.extract x i) ty w (yU P (zh P E (.extract x i)) es tm h n):=by
 refine zr (C:=zD P ψ h n ρ (.extract x i) ty w) zA fun c hc=>?_
 have hx:=ha x (by simp) c hc
 refine zF9 (C:=zD P ψ h n ρ (.extract x i) ty w) _ _ _ (zA _) fun cs hcs=>?_
 refine jA (C:=zD P ψ h n ρ (.extract x i) ty w) _ _ (zA _) fun v hv=>?_
 rw [hcs,yW] at hx
 obtain ⟨a,hx,hr⟩:=hx
 rw [qV] at hv
 obtain ⟨y,hy,hr⟩:=hr.get hv
 have hy:a[i]? = some y:=by simpa using hy
 exact ⟨y,zR (by simp [execOp,hx,Instr.extract,hy]),hr⟩
theorem zE3 {a:Bool} {t:TypeId} {s:Nat} {cs:List CV} {vs:Array Value} {off:Nat} (ha:qG P t=some a) (hs:x6 P t=some s) (hr:zS ψ cs vs.toList) (w:World) :
 (a=false→∀ v,zAj cs off=some v→∃ y,(part t vs off).run P w=.ok y w∧zH ψ v y) ∧
 (a=true→∀ l,zAa cs off s=some l→∃ y,(part t vs off).run P w=.ok y w∧zH ψ (.agg l) y):=by
 constructor
 · rintro rfl v hv
   rw [qV] at hv
   obtain ⟨y,hy,hr⟩:=hr.get hv
   exact ⟨y,xg ha (by simpa using hy) w,hr⟩
 · rintro rfl l hl
   refine ⟨_,zIp ha hs w,yn.2 ⟨_,rfl,?_⟩⟩
   obtain ⟨h1,rfl⟩:=zDf hl
   have:(vs.extract off (off+s)).toList=(vs.toList.drop off).take s:=by
    rw [Array.toList_extract,List.extract_eq_take_drop]; simp
   rw [this]
   exact (hr.drop off).take s
theorem zOT (t:TypeId) (x:Operand) (f:Nat) (ha:yG P ψ es tm E ρ [x]):zD P ψ h n ρ (.field t x f) ty w (yU P (zh P E (.field t x f)) es tm h n):=by
 rw [zh]
 unfold und
 split
 · rename_i fs ht
   rw [yg]
   split
   · rename_i fd hfd
     split
     · rename_i a s h1 h2
       refine zr (C:=zD P ψ h n ρ (.field t x f) ty w) zA fun c hc=>?_
       have hx:=ha x (by simp) c hc
       refine uj (C:=zD P ψ h n ρ (.field t x f) ty w) _ _ _ (zA _) fun cs hcs=>?_
       rw [hcs,yn] at hx
       obtain ⟨vs,hx,hr⟩:=hx
       have hp:=zE3 (off:=fd.offset) h1 h2 hr w
       have run:∀ y,(part fd.type vs fd.offset).run P w=.ok y w→(execOp ρ (xw (.field t x f) ty)).run P w=.ok (.value y) w:=by
        intro y hy
        have hfd:fs[f]? = some fd:=by simpa using hfd
        simp [execOp,Instr.field,run_underlying ht,hfd,hx,asAgg,hy]
       cases a with
       | false=>
        refine jA (C:=zD P ψ h n ρ (.field t x f) ty w) _ _ (zA _) fun v hv=>?_
        obtain ⟨y,hy,hv⟩:=hp.1 rfl v hv
        exact ⟨y,zR (run y hy),hv⟩
       | true=>
        refine wX (C:=zD P ψ h n ρ (.field t x f) ty w) _ _ (zA _) fun l hl=>?_
        obtain ⟨y,hy,hv⟩:=hp.2 rfl l hl
        exact ⟨y,zR (run y hy),hv⟩
     · exact zA _
   · exact zA _
 · exact zA _
theorem zGO (t:TypeId) (x:Operand) (f:Nat) (ha:yG P ψ es tm E ρ [x]):zD P ψ h n ρ (.fieldAddr t x f) ty w (yU P (zh P E (.fieldAddr t x f)) es tm h n):=by
 rw [zh]
 unfold und
 split
 · rename_i fs ht
   rw [yg]
   split
   · rename_i fd hfd
     split
     · rename_i s h1
       refine zr (C:=zD P ψ h n ρ (.fieldAddr t x f) ty w) zA fun c hc=>?_
       have hx:=ha x (by simp) c hc
       refine xE (C:=zD P ψ h n ρ (.fieldAddr t x f) ty w) _ _ _ (zA _) fun b off hv=>?_
       show zD P ψ h n ρ _ ty w (wl _ _)
       rw [zt]
       rw [hv,zu] at hx
       obtain ⟨p,hp,hx⟩:=hx
       have hfd:fs[f]? = some fd:=by simpa using hfd
       refine ⟨.pointer (some ⟨p.blk,p.off+(off+fd.offset),none⟩),zR ?_,zu.2 ⟨p,hp,rfl⟩⟩
       simp [execOp,Instr.fieldAt,run_underlying ht,hfd,hx,Instr.sureAddr,fieldPlace,ye h1,xN,Nat.add_assoc]
     · exact zA _
   · exact zA _
 · exact zA _
end
end Go.Ev
namespace Go.Ev
variable [Sym]
noncomputable section
variable {P:Program} {ψ:Psi} {es:List CV} {tm:Tm} {h:zC} {n:Key} {ρ:Operand→Value} {E:Env} {ty:TypeId} {w:World}
variable [SymFact P]
theorem zDo (P:Program) [SymFact P] {ψ:Psi} {a:CV} {u:Value} (w:World) (ha:zH ψ a u):zH ψ (zJ8 a) u:=by
 unfold zJ8
 split
 · rename_i j
   split
   · rename_i k hk
     split
     · rename_i hs
       unfold zFS at hs
       split at hs
       · rename_i l r1 r2 hc he1 he2
         injection hs with hs
         obtain ⟨k',m,rfl,_⟩:=(SymFact.ok (P:=P)).2 _ _ _ hc ψ u ha
         obtain ⟨_,z1,hz1,c1,hc1,hr1⟩:=(SymFact.ok (P:=P)).1 _ _ _ _ he1 ψ 0 _ (.int .i64 k) w ha (zX.2 rfl)
         obtain ⟨_,z2,hz2,c2,hc2,hr2⟩:=(SymFact.ok (P:=P)).1 _ _ _ _ he2 ψ 0 _ (.int .i64 k) w ha (zX.2 rfl)
         obtain rfl:c1=.bool r1:=by simpa using hc1
         obtain rfl:c2=.bool r2:=by simpa using hc2
         rw [zJ.1 hr1] at hz1
         rw [zJ.1 hr2] at hz2
         rw [Bool.and_eq_true] at hs
         obtain ⟨rfl,rfl⟩:=hs
         by_cases ej:k'=.i64
         · subst ej
           have hz1:m≤k:=by simpa [binOp,Op.intCmp] using hz1
           have hz2:k≤m:=by simpa [binOp,Op.intCmp] using hz2
           obtain rfl:m=(k:Int):=by omega
           exact zX.2 rfl
         · simp [binOp,ej] at hz1
       · cases hs
     · exact ha
   · exact ha
 · exact ha
theorem zK5 (P:Program) [SymFact P] {ψ:Psi} {a:CV} {u:Value} (w:World) (ha:zH ψ a u):zH ψ (zU0 a) u:=by
 unfold zU0
 split
 · rename_i i t
   split
   · rename_i k hk
     split
     · rename_i s hs
       rw [jp] at ha
       obtain ⟨m,b,h1,rfl,h3⟩:=ha
       have h4:=zDo P w (ψ:=ψ) (a:=.sym ⟨.i64,0,[(i,1)]⟩) (u:=.int .i64 m) (by rw [zq,h1])
       rw [hk,zX] at h4
       injection h4 with _ h4
       have h4:m=k:=Int.ofNat.inj h4
       subst h4
       rw [yg,h3] at hs
       injection hs with hs
       exact ze.2 ⟨b,rfl,hs⟩
     · exact ha
   · exact ha
 · exact ha
theorem uX {c:CV} {v:Value} (hx:zH ψ c v) {i:Nat} (hc:c=.nat i∨∃ k,c=.int k (.ofNat i)):∃ k,v=.int k (Int.ofNat i):=by
 rcases hc with rfl | ⟨k,rfl⟩
 · exact ⟨_,zX.1 hx⟩
 · exact ⟨_,zg.1 hx⟩
theorem ya {C:OR→Prop} (v:CV) (k:Nat→OR) (e:Nat) (he:C (.err e)) (hk:∀ i,(v=.nat i∨∃ j,v=.int j (.ofNat i))→C (k i)):C (vp v k e):=
 zMc v k e he (fun i h=>hk i (.inl h)) (fun j i h=>hk i (.inr ⟨j,h⟩))
theorem qq:∀ {a b:List (Nat × Int)},j6 a b=true→a=b
 | [],[],_=>rfl
 | [],_::_,h=>by cases h
 | _::_,[],h=>by cases h
 | (i,x)::l,(j,y)::m,h=>by
  unfold j6 at h
  rw [Bool.and_eq_true,Bool.and_eq_true,za,decide_eq_true_eq] at h
  rw [yD h.1.1,h.1.2,qq h.2]
theorem zIm {a b:SE} (h:zRu a b=true):a=b:=by
 unfold zRu at h
 rw [Bool.and_eq_true,Bool.and_eq_true,yo,za,decide_eq_true_eq,decide_eq_true_eq] at h
 obtain ⟨k1,c1,l1⟩:=a
 obtain ⟨k2,c2,l2⟩:=b
 simp only at h
 rw [h.1.1,h.1.2,qq h.2]
theorem zE7 {C:OR→Prop} {esz:Nat} {b:Key} {off len:Nat} {v:CV} {z:OR} (hz:C z)
 (hk:∀ i m,v=.sym ⟨.i64,0,[(i,1)]⟩→esz=1→Sym.bin .geq (.sym ⟨.i64,0,[(i,1)]⟩) (.nat 0)=some [.bool true]→Sym.bin .leq (.sym ⟨.i64,0,[(i,1)]⟩) (.nat (Nat.sub len 1))=some [.bool true]→len=m+1→C (.val (.elt b off i m))):C (zSv esz b off len v z):=by
 unfold zSv
 split
 · rename_i e
   split
   · rename_i i a hl
     split
     · rename_i h1 h2 h3
       simp only [Bool.and_eq_true,yo,za,decide_eq_true_eq] at h1
       obtain ⟨⟨⟨q1,q2⟩,q3⟩,q4⟩:=h1
       obtain ⟨ek,ec,el⟩:=e
       simp only at q1 q2 hl
       subst q1 q2 q3 hl
       exact hk _ _ rfl (yD q4) h2 h3 rfl
     · exact hz
   · exact hz
 · exact hz
theorem zGK (t:TypeId) (x i:Operand) (ha:yG P ψ es tm E ρ [x,i]):zD P ψ h n ρ (.indexAddr t x i) ty w (yU P (zh P E (.indexAddr t x i)) es tm h n):=by
 rw [zh]
 unfold und
 split
 · rename_i len e ht
   split
   · rename_i s hs
     refine y7 (C:=zD P ψ h n ρ (.indexAddr t x i) ty w) zA fun c d hc hd=>?_
     have hx:=ha x (by simp) c hc
     have hi:=ha i (by simp) d hd
     refine xE (C:=zD P ψ h n ρ (.indexAddr t x i) ty w) _ _ _ (zA _) fun b off hv=>?_
     refine ya (C:=zD P ψ h n ρ (.indexAddr t x i) ty w) _ _ _ (zA _) fun j hj=>?_
     refine zG (C:=zD P ψ h n ρ (.indexAddr t x i) ty w) _ _ _ (zA _) fun hlt=>?_
     rw [zt]
     have hlt:j<len:=zL hlt
     obtain ⟨k,hi⟩:=uX hi hj
     rw [hv,zu] at hx
     obtain ⟨p,hp,hx⟩:=hx
     refine ⟨.pointer (some ⟨p.blk,p.off+(off+j*s),none⟩),zR ?_,zu.2 ⟨p,hp,rfl⟩⟩
     have h1:(0:Int)≤Int.ofNat j∧Int.ofNat j<(len:Int):=by simp; omega
     simp [execOp,Instr.indexAt,hi,hx,asIntOf,run_underlying ht,Instr.sureAddr,hlt,ye hs,xN,Nat.add_assoc]
   · exact zA _
 · rename_i e ht
   split
   · rename_i s hs
     refine y7 (C:=zD P ψ h n ρ (.indexAddr t x i) ty w) zA fun c d hc hd=>?_
     have hx:=ha x (by simp) c hc
     have hi:=ha i (by simp) d hd
     refine qf (C:=zD P ψ h n ρ (.indexAddr t x i) ty w) _ _ _ ?_ fun b s0 e0 n0 hv=>?_
     case refine_2=>
      rw [hv,qA] at hx
      obtain ⟨_,base,len,cap,iv,hx,hn,he,hoff⟩:=hx
      unfold zQE
      split
      · rename_i j hj
        split
        · rename_i hq
          rw [Bool.and_eq_true] at hq
          obtain rfl:=zIm hq.1
          obtain rfl:=yD hq.2
          split
          · rename_i h1 h2
            obtain ⟨_,z1,hz1,c1,hc1,hr1⟩:=(SymFact.ok (P:=P)).1 _ _ _ _ h1 ψ 0 (.int .i64 0) (.int .i64 iv) w (zX.2 rfl) (zq.2 he.symm)
            obtain ⟨_,z2,hz2,c2,hc2,hr2⟩:=(SymFact.ok (P:=P)).1 _ _ _ _ h2 ψ 0 (.int .i64 iv) (.int .i64 len) w (zq.2 he.symm) (zq.2 hn.symm)
            obtain rfl:c1=.bool true:=by simpa using hc1
            obtain rfl:c2=.bool true:=by simpa using hc2
            rw [zJ.1 hr1] at hz1
            rw [zJ.1 hr2] at hz2
            have g1:0≤iv:=by simpa [binOp,Op.intCmp] using hz1
            have g2:iv<len:=by simpa [binOp,Op.intCmp] using hz2
            rw [hj,zq,he] at hi
            obtain ⟨m,rfl⟩:∃ m:Nat,iv=(m:Int):=⟨iv.toNat,by omega⟩
            have hm:m<len:=by omega
            obtain ⟨p,x',hp,hbase,hof2⟩:=hoff (by omega) g2
            subst hbase
            rw [Int.toNat_natCast] at hof2
            refine ⟨.pointer (some ⟨p.blk,p.off+0,none⟩),zR ?_,zu.2 ⟨p,hp,rfl⟩⟩
            simp [execOp,Instr.indexAt,hi,hx,asIntOf,run_underlying ht,hm,ye hs,xN]
            exact hof2.1.symm
          · exact zA _
        · exact zA _
      · unfold zLX
        split
        · rename_i k hk
          split
          · rename_i hq h1 h2 h3
            obtain rfl:=yD hq
            rw [hk,zX] at hi
            obtain ⟨_,z1,hz1,c1,hc1,hr1⟩:=(SymFact.ok (P:=P)).1 _ _ _ _ h1 ψ 0 (.int .i64 (Int.ofNat k)) (.int .i64 len) w (zX.2 rfl) (zq.2 hn.symm)
            obtain ⟨_,z2,hz2,c2,hc2,hr2⟩:=(SymFact.ok (P:=P)).1 _ _ _ _ h2 ψ 0 (.int .i64 0) (.int .i64 iv) w (zX.2 rfl) (zq.2 he.symm)
            obtain ⟨_,z3,hz3,c3,hc3,hr3⟩:=(SymFact.ok (P:=P)).1 _ _ _ _ h3 ψ 0 (.int .i64 iv) (.int .i64 0) w (zq.2 he.symm) (zX.2 rfl)
            obtain rfl:c1=.bool true:=by simpa using hc1
            obtain rfl:c2=.bool true:=by simpa using hc2
            obtain rfl:c3=.bool true:=by simpa using hc3
            rw [zJ.1 hr1] at hz1
            rw [zJ.1 hr2] at hz2
            rw [zJ.1 hr3] at hz3
            have g1:(k:Int)<len:=by simpa [binOp,Op.intCmp] using hz1
            have g2:0≤iv:=by simpa [binOp,Op.intCmp] using hz2
            have g3:iv≤0:=by simpa [binOp,Op.intCmp] using hz3
            obtain rfl:iv=0:=by omega
            have hm:k<len:=by omega
            obtain ⟨p,x',hp,hbase,hof2⟩:=hoff (by omega) (by omega)
            subst hbase
            have hof:p.off=x':=by simpa using hof2.1
            rw [zt]
            refine ⟨_,zR ?_,zu.2 ⟨p,hp,rfl⟩⟩
            simp [execOp,Instr.indexAt,hi,hx,asIntOf,run_underlying ht,hm,ye hs,xN,hof]
          · exact zA _
        · exact zA _
     refine yV (C:=zD P ψ h n ρ (.indexAddr t x i) ty w) _ _ _ _ (zA _) (fun _=>zA _) fun b off len cap s' ex hv=>?_
     refine zE7 (C:=zD P ψ h n ρ (.indexAddr t x i) ty w) ?_ fun i' m e1 e2 e3 e4 e5=>?_
     case refine_2=>
      obtain rfl:=e2
      have hi0:=zDo P w hi
      rw [e1,zq] at hi0
      obtain ⟨hu,z1,hz1,c1,hc1,hr1⟩:=(SymFact.ok (P:=P)).1 _ _ _ _ e3 ψ 0 (ρ i) (.int .i64 0) w (zq.2 hi0) (zX.2 rfl)
      obtain ⟨_,z2,hz2,c2,hc2,hr2⟩:=(SymFact.ok (P:=P)).1 _ _ _ _ e4 ψ 0 (ρ i) (.int .i64 (m:Int)) w (zq.2 hi0) (zX.2 (by rw [e5]; simp))
      obtain rfl:c1=.bool true:=by simpa using hc1
      obtain rfl:c2=.bool true:=by simpa using hc2
      rw [zJ.1 hr1] at hz1
      rw [zJ.1 hr2] at hz2
      rcases hu with ⟨k',iv,hu⟩ | ⟨bs,hu⟩
      · by_cases ej:k'=.i64
        · subst ej
          rw [hu] at hz1 hz2
          have g1:0≤iv:=by simpa [binOp,Op.intCmp] using hz1
          have g2:iv≤m:=by simpa [binOp,Op.intCmp] using hz2
          obtain ⟨k,rfl⟩:∃ k:Nat,iv=(k:Int):=⟨iv.toNat,by omega⟩
          have hk:k≤m:=by omega
          rw [hv,yF] at hx
          obtain ⟨p,x',cap',hp,hx,_,hl,_,hor⟩:=hx
          have hlt:k<len:=by omega
          have hx':x'=p.off+off:=by
           rcases hor with h | h
           · exact h.1
           · omega
          subst hx'
          refine ⟨.pointer (some ⟨p.blk,p.off+(off+k),none⟩),zR ?_,zAB.2 ⟨p,k,hp,by rw [← hi0,hu],hk,rfl⟩⟩
          simp [execOp,Instr.indexAt,hu,hx,asIntOf,run_underlying ht,hlt,ye hs,xN,Nat.add_assoc]
        · rw [hu] at hz1
          simp [binOp,ej] at hz1
      · rw [hu] at hz1
        simp [binOp] at hz1
     refine ya (C:=zD P ψ h n ρ (.indexAddr t x i) ty w) _ _ _ (zA _) fun j hj=>?_
     refine zG (C:=zD P ψ h n ρ (.indexAddr t x i) ty w) _ _ _ (zA _) fun hlt=>?_
     rw [zt]
     have hlt:j<len:=zL hlt
     obtain ⟨k,hi⟩:=uX (zDo P w hi) hj
     rw [hv,yF] at hx
     obtain ⟨p,x',cap',hp,hx,_,hl,_,hor⟩:=hx
     have hx':x'=p.off+off:=by
      rcases hor with h | h
      · exact h.1
      · omega
     subst hx'
     refine ⟨.pointer (some ⟨p.blk,p.off+(off+j*s),none⟩),zR ?_,zu.2 ⟨p,hp,rfl⟩⟩
     simp [execOp,Instr.indexAt,hi,hx,asIntOf,run_underlying ht,hlt,ye hs,xN,Nat.add_assoc]
   · exact zA _
 · exact zA _
theorem zPl (t:TypeId) (x i:Operand) (ha:yG P ψ es tm E ρ [x,i]):zD P ψ h n ρ (.index t x i) ty w (yU P (zh P E (.index t x i)) es tm h n):=by
 rw [zh]
 unfold und
 split
 · rename_i len e ht
   split
   · rename_i s a hs hag
     refine y7 (C:=zD P ψ h n ρ (.index t x i) ty w) zA fun c d hc hd=>?_
     have hx:=ha x (by simp) c hc
     have hi:=ha i (by simp) d hd
     refine uj (C:=zD P ψ h n ρ (.index t x i) ty w) _ _ _ (zA _) fun cs hcs=>?_
     refine ya (C:=zD P ψ h n ρ (.index t x i) ty w) _ _ _ (zA _) fun j hj=>?_
     refine zG (C:=zD P ψ h n ρ (.index t x i) ty w) _ _ _ (zA _) fun hlt=>?_
     have hlt:j<len:=zL hlt
     obtain ⟨k,hi⟩:=uX hi hj
     rw [hcs,yn] at hx
     obtain ⟨vs,hx,hr⟩:=hx
     have hp:=zE3 (off:=j*s) hag hs hr w
     have run:∀ y,(part e vs (j*s)).run P w=.ok y w→(execOp ρ (xw (.index t x i) ty)).run P w=.ok (.value y) w:=by
      intro y hy
      simp [execOp,Instr.index,hi,hx,asIntOf,run_underlying ht,hlt,ye hs,hy]
     cases a with
     | false=>
      refine jA (C:=zD P ψ h n ρ (.index t x i) ty w) _ _ (zA _) fun v hv=>?_
      obtain ⟨y,hy,hv⟩:=hp.1 rfl v hv
      exact ⟨y,zR (run y hy),hv⟩
     | true=>
      refine wX (C:=zD P ψ h n ρ (.index t x i) ty w) _ _ (zA _) fun l hl=>?_
      obtain ⟨y,hy,hv⟩:=hp.2 rfl l hl
      exact ⟨y,zR (run y hy),hv⟩
   · exact zA _
 · rename_i ht
   refine y7 (C:=zD P ψ h n ρ (.index t x i) ty w) zA fun c d hc hd=>?_
   have hx:=ha x (by simp) c hc
   have hi:=ha i (by simp) d hd
   refine xv (C:=zD P ψ h n ρ (.index t x i) ty w) _ _ _ ?_ fun l hl=>?_
   case refine_2=>
    refine ya (C:=zD P ψ h n ρ (.index t x i) ty w) _ _ _ (zA _) fun j hj=>?_
    refine jA (C:=zD P ψ h n ρ (.index t x i) ty w) _ _ (zA _) fun c hc=>?_
    obtain ⟨k,hi⟩:=uX hi hj
    rw [hl,zy] at hx
    obtain ⟨s,hx,hr⟩:=hx
    rw [qV] at hc
    obtain ⟨v,hv,hvr⟩:=hr.get hc
    rw [List.getElem?_map] at hv
    cases hg:s.data.toList[j]? with
    | none=>rw [hg] at hv; cases hv
    | some u=>
     rw [hg] at hv
     injection hv with hv
     subst hv
     have hs:s[j]? = some u:=by
      have hj:j<s.size:=by
       rcases Nat.lt_or_ge j s.data.toList.length with h | h
       · exact h
       · rw [List.getElem?_eq_none h] at hg; cases hg
      rw [getElem?_pos s j hj]
      have:=hg
      rw [List.getElem?_eq_getElem (show j<s.data.toList.length from hj)] at this
      exact this
     refine ⟨.int .u8 (u.toNat:Int),zR ?_,hvr⟩
     simp [execOp,Instr.index,hi,hx,asIntOf,run_underlying ht,hs]
   refine yO (C:=zD P ψ h n ρ (.index t x i) ty w) _ _ _ (zA _) fun l hl=>?_
   refine ya (C:=zD P ψ h n ρ (.index t x i) ty w) _ _ _ (zA _) fun j hj=>?_
   refine uF (C:=zD P ψ h n ρ (.index t x i) ty w) _ _ _ (zA _) fun q hq=>?_
   obtain ⟨k,hi⟩:=uX hi hj
   rw [hl,ze] at hx
   obtain ⟨s,hx,rfl⟩:=hx
   rw [zS8] at hq
   unfold zo at hq
   rw [List.getElem?_map] at hq
   cases hg:s.data.toList[j]? with
   | none=>rw [hg] at hq; cases hq
   | some u=>
    rw [hg] at hq
    injection hq with hq
    subst hq
    have hs:s[j]? = some u:=by
     have hj:j<s.size:=by
      rcases Nat.lt_or_ge j s.data.toList.length with h | h
      · exact h
      · rw [List.getElem?_eq_none h] at hg; cases hg
     rw [getElem?_pos s j hj]
     have:=hg
     rw [List.getElem?_eq_getElem (show j<s.data.toList.length from hj)] at this
     exact this
    refine ⟨.int .u8 (u.toNat:Int),zR ?_,zg.2 rfl⟩
    simp [execOp,Instr.index,hi,hx,asIntOf,run_underlying ht,hs]
 · exact zA _
def zET (ψ:Psi) (es:List CV) (tm:Tm) (ρ:Operand→Value) (c:Option zT) (x:Option Operand):Prop:=match c,x with
 | none,none=>True
 | some c,some x=>zH ψ (aV es tm c) (ρ x)
 | _,_=>False
theorem zF4 {x:Option Operand} {c:Option zT} (hc:zKp P E x=some c) (ha:yG P ψ es tm E ρ x.toList):zET ψ es tm ρ c x:=by
 unfold zKp at hc
 split at hc
 · injection hc with hc; subst hc; exact trivial
 · rename_i y
   cases h1:zi P E y with
   | none=>rw [h1] at hc; cases hc
   | some d=>rw [h1] at hc; injection hc with hc; subst hc; exact ha y (by simp) d h1
theorem jb {v:Value} {k:IntKind} {i y:Nat} {code:BoundsCode} (hv:v=.int k (Int.ofNat i)) (h:i≤y) (w:World):(Instr.sliceBound v y code).run P w=.ok i w:=by
 subst hv
 have:=run_sliceBound (P:=P) (w:=w) k (Int.ofNat i) y code (by simp) (by simpa using h)
 simpa using this
theorem jk {C:OR→Prop} (c:Option zT) (x:Option Operand) (hok:zET ψ es tm ρ c x) (y d:Nat) (k:Nat→OR) (e:Nat) (he:C (.err e))
 (hn:c=none→x=none→C (k d)) (hs:∀ i o,c≠none→x=some o→i≤y→(∃ j,ρ o=.int j (Int.ofNat i))→C (k i)):C (zBD es tm c y d k e):=by
 cases c with
 | none=>cases x with
  | none=>exact hn rfl rfl
  | some x=>exact hok.elim
 | some c=>cases x with
  | none=>exact hok.elim
  | some x=>
   refine ya (C:=C) _ _ _ he fun i hi=>?_
   refine zG (C:=C) _ _ _ he fun hle=>?_
   exact hs i x (by simp) rfl (zL hle) (uX hok hi)
theorem jz {C:OR→Prop} (isSl:Bool) (len cap cap':Nat) (lo hi mx:Option zT) (xl xh xm:Option Operand) (h1:zET ψ es tm ρ lo xl) (h2:zET ψ es tm ρ hi xh)
 (h3:zET ψ es tm ρ mx xm) (hcap:cap≤cap') (k:Nat→Nat→Nat→OR) (e:Nat) (he:C (.err e)) (hno:xm.isSome=true→xh.isSome=true)
 (hk:∀ l h m m',(∀ w,(Instr.sliceBounds isSl len cap' (xl.map ρ) (xh.map ρ) (xm.map ρ)).run P w=.ok (l,h,m') w)→m≤m'→m'≤cap'→(mx≠none→m'=m) →
   (mx=none→m=cap∧m'=cap')→(h=len∨h≤m')→C (k l h m)):C (jD es tm len cap lo hi mx k e):=by
 refine jk (C:=C) mx xm h3 _ _ _ _ he (fun hm hxm=>?_) (fun m om hm hxm hmle ⟨jm,hjm⟩=>?_)
 · subst hm hxm
   refine jk (C:=C) hi xh h2 _ _ _ _ he (fun hh hxh=>?_) (fun h oh hh hxh hhle ⟨jh,hjh⟩=>?_)
   · subst hh hxh
     refine jk (C:=C) lo xl h1 _ _ _ _ he (fun hl hxl=>?_) (fun l ol hl hxl hlle ⟨jl,hjl⟩=>?_)
     · subst hl hxl
       exact hk _ _ _ cap' (fun w=>by simp [Instr.sliceBounds]) hcap (Nat.le_refl _) (by simp) (by simp) (.inl rfl)
     · subst hxl
       exact hk _ _ _ cap' (fun w=>by simp [Instr.sliceBounds,jb hjl hlle]) hcap (Nat.le_refl _) (by simp) (by simp) (.inl rfl)
   · subst hxh
     have hr:=fun (w:World) (code:BoundsCode)=>jb (P:=P) (code:=code) hjh (Nat.le_trans hhle hcap) w
     refine jk (C:=C) lo xl h1 _ _ _ _ he (fun hl hxl=>?_) (fun l ol hl hxl hlle ⟨jl,hjl⟩=>?_)
     · subst hl hxl
       exact hk _ _ _ cap' (fun w=>by simp [Instr.sliceBounds,hr]) hcap (Nat.le_refl _) (by simp) (by simp) (.inr (Nat.le_trans hhle hcap))
     · subst hxl
       exact hk _ _ _ cap' (fun w=>by simp [Instr.sliceBounds,hr,jb hjl hlle]) hcap (Nat.le_refl _) (by simp) (by simp) (.inr (Nat.le_trans hhle hcap))
 · subst hxm
   refine jk (C:=C) hi xh h2 _ _ _ _ he (fun hh hxh=>?_) (fun h oh hh hxh hhle ⟨jh,hjh⟩=>?_)
   · subst hxh; exact absurd (hno rfl) (by simp)
   · subst hxh
     have hr:=fun (w:World) (code:BoundsCode)=>jb (P:=P) (code:=code) hjh hhle w
     have hr':=fun (w:World) (code:BoundsCode)=>jb (P:=P) (code:=code) hjm (Nat.le_trans hmle hcap) w
     refine jk (C:=C) lo xl h1 _ _ _ _ he (fun hl hxl=>?_) (fun l ol hl hxl hlle ⟨jl,hjl⟩=>?_)
     · subst hl hxl
       exact hk _ _ _ m (fun w=>by simp [Instr.sliceBounds,hr,hr']) (Nat.le_refl _) (Nat.le_trans hmle hcap) (by simp) (fun e=>absurd e hm) (.inr hhle)
     · subst hxl
       exact hk _ _ _ m (fun w=>by simp [Instr.sliceBounds,hr,hr',jb hjl hlle]) (Nat.le_refl _) (Nat.le_trans hmle hcap) (by simp) (fun e=>absurd e hm) (.inr hhle)
theorem zPe (t:TypeId) (x:Operand) (xl xh xm:Option Operand) (ha:yG P ψ es tm E ρ ([x]++xl.toList++xh.toList++xm.toList)) :
 zD P ψ h n ρ (.slice t x xl xh xm) ty w (yU P (zh P E (.slice t x xl xh xm)) es tm h n):=by
 rw [zh]
 unfold zH3 und
 split
 · exact zA _
 rename_i hno
 have hno:xm.isSome=true→xh.isSome=true:=by
  intro h1; cases xh <;> simp_all
 split
 · rename_i c lo hi mx hc hlo hhi hmx
   have hx:=ha x (by simp) c hc
   have o1:=zF4 hlo (ha.sub fun y hy=>by simp at hy ⊢; exact .inr (.inl hy))
   have o2:=zF4 hhi (ha.sub fun y hy=>by simp at hy ⊢; exact .inr (.inr (.inl hy)))
   have o3:=zF4 hmx (ha.sub fun y hy=>by simp at hy ⊢; exact .inr (.inr (.inr hy)))
   split
   · rename_i k e ht
     split
     · rename_i s hs
       refine xE (C:=zD P ψ h n ρ (.slice t x xl xh xm) ty w) _ _ _ (zA _) fun b off hv=>?_
       rw [hv,zu] at hx
       obtain ⟨p,hp,hx⟩:=hx
       refine jz (C:=zD P ψ h n ρ (.slice t x xl xh xm) ty w) (P:=P) false k k k lo hi mx xl xh xm o1 o2 o3 (Nat.le_refl _) _ _ (zA _) hno fun l hh m m' hrun hm hm' hmx1 hmx2 hhm=>?_
       refine zG (C:=zD P ψ h n ρ (.slice t x xl xh xm) ty w) _ _ _ (zA _) fun hok=>?_
       rw [Bool.and_eq_true] at hok
       have g1:=zL hok.1
       have g2:=zL hok.2
       have hmm:m'=m:=by
        cases mx with
        | none=>have:=hmx2 rfl; omega
        | some _=>exact hmx1 (by simp)
       rw [zt,zt,zt]
       refine ⟨.slice (some (if m'=l then ⟨p.blk,p.off+off,none⟩ else ⟨p.blk,p.off+off+l*(s+1),none⟩)) (hh - l) (m' - l),zR ?_,?_⟩
       · simp only [execOp,Instr.sliceAt,Sem.run_bind,run_underlying ht,Result.andThen_ok,hx,Instr.sureAddr,Sem.run_pure,hrun,ye hs,xN]
       · refine yF.2 ⟨p,if m'=l then p.off+off else p.off+off+l*(s+1),m' - l,hp,?_,?_,?_,?_,?_⟩
         · split <;> rfl
         · subst hmm; exact Nat.le_refl _
         · show hh - l≤m' - l; omega
         · intro _; subst hmm; rfl
         · by_cases e:m'=l
           · right; omega
           · left
             refine ⟨by rw [if_neg e]; show p.off+off+l*(s+1)=p.off+(off+l*(s+1)); omega,by simp⟩
     · exact zA _
   · rename_i e ht
     split
     · rename_i s hs
       refine qf (C:=zD P ψ h n ρ (.slice t x xl xh xm) ty w) _ _ _ ?_ fun b z e0 n0 hv=>?_
       case refine_2=>
        rw [hv,qA] at hx
        obtain ⟨_,base,len,cap,iv,hx,hn,he,hoff⟩:=hx
        unfold zG0
        split
        · rename_i y
          have o2':=o2
          split
          · rename_i m hm
            split
            · rename_i hq h1 h2 h3
              rw [Bool.and_eq_true] at hq
              have hz:z=s+1:=yD hq.1
              have hm1:=zL hq.2
              subst hz
              obtain ⟨_,z1,hz1,c1,hc1,hr1⟩:=(SymFact.ok (P:=P)).1 _ _ _ _ h1 ψ 0 (.int .i64 (Int.ofNat m)) (.int .i64 len) w (zX.2 rfl) (zq.2 hn.symm)
              obtain ⟨_,z2,hz2,c2,hc2,hr2⟩:=(SymFact.ok (P:=P)).1 _ _ _ _ h2 ψ 0 (.int .i64 0) (.int .i64 iv) w (zX.2 rfl) (zq.2 he.symm)
              obtain ⟨_,z3,hz3,c3,hc3,hr3⟩:=(SymFact.ok (P:=P)).1 _ _ _ _ h3 ψ 0 (.int .i64 iv) (.int .i64 0) w (zq.2 he.symm) (zX.2 rfl)
              obtain rfl:c1=.bool true:=by simpa using hc1
              obtain rfl:c2=.bool true:=by simpa using hc2
              obtain rfl:c3=.bool true:=by simpa using hc3
              rw [zJ.1 hr1] at hz1
              rw [zJ.1 hr2] at hz2
              rw [zJ.1 hr3] at hz3
              have g1:(m:Int)≤len:=by simpa [binOp,Op.intCmp] using hz1
              have g2:0≤iv:=by simpa [binOp,Op.intCmp] using hz2
              have g3:iv≤0:=by simpa [binOp,Op.intCmp] using hz3
              obtain rfl:iv=0:=by omega
              obtain ⟨p,x',hp,hbase,hof,hsz,hlc⟩:=hoff (by omega) (by omega)
              have hof:p.off=x'+0:=by simpa using hof
              have hm':m≤cap:=by omega
              have hxl:xl=none:=by cases xl with
               | none=>rfl
               | some y=>exact o1.elim
              have hxm:xm=none:=by cases xm with
               | none=>rfl
               | some y=>exact o3.elim
              subst hxl hxm
              obtain ⟨z,rfl⟩:∃ z,xh=some z:=by cases xh with
               | none=>exact o2.elim
               | some z=>exact ⟨z,rfl⟩
              have hz:ρ z=.int .i64 (Int.ofNat m):=by
               have:=(show zH ψ (aV es tm y) (ρ z) from o2')
               rw [hm,zX] at this
               exact this
              have hbr:=fun (w:World) (code:BoundsCode)=>jb (P:=P) (code:=code) hz hm' w
              subst hbase
              rw [zt]
              refine ⟨.slice (some ⟨p.blk,x',none⟩) m cap,zR ?_,yF.2 ⟨p,x',cap,hp,rfl,hm',hm',by simp,.inl ⟨by omega,fun _=>hsz.symm⟩⟩⟩
              have hc0:cap≠0:=by omega
              simp [execOp,Instr.sliceAt,run_underlying ht,hx,Instr.slice,Instr.sliceBounds,hbr,ye hs,xN]
            · exact zA _
          · exact zA _
        · exact zA _
       refine yV (C:=zD P ψ h n ρ (.slice t x xl xh xm) ty w) _ _ _ _ (zA _) (fun hv=>?_) fun b off len cap s' ex hv=>?_
       · rw [hv,zw] at hx
         refine jz (C:=zD P ψ h n ρ (.slice t x xl xh xm) ty w) (P:=P) true 0 0 0 lo hi mx xl xh xm o1 o2 o3 (Nat.le_refl _) _ _ (zA _) hno fun l hh m m' hrun hm hm' hmx1 hmx2 hhm=>?_
         refine ⟨.slice (if m'=l then none else none) (hh - l) (m' - l),zR ?_,zw.2 ?_⟩
         · simp only [execOp,Instr.sliceAt,Sem.run_bind,run_underlying ht,Result.andThen_ok,hx,Instr.slice,hrun,ye hs,Option.map_none,Sem.run_pure]
         · have e1:m' - l=0:=by omega
           have e2:hh - l=0:=by omega
           rw [e1,e2,ite_self]
       · refine zG (C:=zD P ψ h n ρ (.slice t x xl xh xm) ty w) _ _ _ (zA _) fun hs'=>?_
         have hs':s'=s+1:=yD hs'
         subst hs'
         rw [hv,yF] at hx
         obtain ⟨p,x',cap',hp,hx,hcap,hlen,hex,hor⟩:=hx
         have hmain:zD P ψ h n ρ (.slice t x xl xh xm) ty w (jD es tm len cap lo hi mx (zN0 b off (s+1) (ex || mx.isSome)) 146):=by
          refine jz (C:=zD P ψ h n ρ (.slice t x xl xh xm) ty w) (P:=P) true len cap cap' lo hi mx xl xh xm o1 o2 o3 hcap _ _ (zA _) hno fun l hh m m' hrun hm hm' hmx1 hmx2 hhm=>?_
          refine zG (C:=zD P ψ h n ρ (.slice t x xl xh xm) ty w) _ _ _ (zA _) fun hok=>?_
          rw [Bool.and_eq_true] at hok
          have g1:=zL hok.1
          have g2:=zL hok.2
          rw [zt,zt,zt]
          refine ⟨.slice (some (if m'=l then ⟨p.blk,x',none⟩ else ⟨p.blk,x'+l*(s+1),none⟩)) (hh - l) (m' - l),zR ?_,?_⟩
          · simp only [execOp,Instr.sliceAt,Sem.run_bind,run_underlying ht,Result.andThen_ok,hx,Instr.slice,hrun,ye hs,xN,Option.map_some,Sem.run_pure]
            by_cases e:m'=l
            · rw [if_pos e,if_pos e]
            · rw [if_neg e,if_neg e]
          · refine yF.2 ⟨p,if m'=l then x' else x'+l*(s+1),m' - l,hp,?_,?_,?_,?_,?_⟩
            · split <;> rfl
            · show m - l≤m' - l; omega
            · show hh - l≤m' - l; omega
            · intro hx2
              rw [Bool.or_eq_true] at hx2
              cases mx with
              | none=>
               have h2:=hmx2 rfl
               have:=hex (by simpa using hx2)
               show m' - l=m - l; omega
              | some _=>have:=hmx1 (by simp); show m' - l=m - l; omega
            · by_cases e:m'=l
              · right; omega
              · rcases hor with ⟨e1,e2⟩ | e0
                · left
                  rw [if_neg e]
                  refine ⟨by show x'+l*(s+1)=p.off+(off+l*(s+1)); omega,fun hf=>?_⟩
                  rw [Bool.or_eq_false_iff] at hf
                  have h3:=e2 hf.1
                  have hm2:m'=cap':=by
                   cases mx with
                   | none=>exact (hmx2 rfl).2
                   | some _=>have:=hf.2; simp at this
                  have:l*(s+1)+(m' - l)*(s+1)=m'*(s+1):=by rw [← Nat.add_mul]; congr 1; omega
                  rw [← hm2] at h3
                  omega
                · right; omega
         unfold zA1
         split
         · rename_i y
           have o2':=o2
           split
           · rename_i m hm
             split
             · rename_i hlt0 _
               refine yb (C:=zD P ψ h n ρ (.slice t x xl xh xm) ty w) _ _ _ (zA _) fun vs hvs=>?_
               refine zG (C:=zD P ψ h n ρ (.slice t x xl xh xm) ty w) _ _ _ (zA _) fun hle=>?_
               have hle:off+m*(s+1)≤wz vs:=zL hle
               rw [zt]
               intro hrel
               have hcells:yc ψ w p vs:=hrel b _ p hvs hp
               have hsz:p.off+vs.length≤p.sz:=by
                obtain ⟨_,_,_,_,_,h3,_⟩:=hcells
                exact h3
               have hll:=jv vs
               have e:x'=p.off+off∧x'+cap'*(s+1)=p.sz:=by
                rcases hor with ⟨e,h⟩ | e
                · exact ⟨e,h rfl⟩
                · omega
               have hm':m≤cap':=by
                rcases Nat.lt_or_ge cap' m with h | h
                · have:=Nat.mul_le_mul_right (s+1) h
                  rw [Nat.succ_mul] at this
                  omega
                · exact h
               have hxl:xl=none:=by cases xl with
                | none=>rfl
                | some y=>exact o1.elim
               have hxm:xm=none:=by cases xm with
                | none=>rfl
                | some y=>exact o3.elim
               subst hxl hxm
               obtain ⟨z,rfl⟩:∃ z,xh=some z:=by cases xh with
                | none=>exact o2.elim
                | some z=>exact ⟨z,rfl⟩
               have hz:ρ z=.int .i64 (Int.ofNat m):=by
                have:=(show zH ψ (aV es tm y) (ρ z) from o2')
                rw [hm,zX] at this
                exact this
               have hbr:=fun (w:World) (code:BoundsCode)=>jb (P:=P) (code:=code) hz hm' w
               refine ⟨.slice (some ⟨p.blk,x',none⟩) m cap',zR ?_,yF.2 ⟨p,x',cap',hp,rfl,hm',hm',by simp,.inl ⟨e.1,fun _=>e.2⟩⟩⟩
               have hc0:cap'≠0:=by omega
               simp [execOp,Instr.sliceAt,run_underlying ht,hx,Instr.slice,Instr.sliceBounds,hbr,ye hs,xN]
             · exact hmain
           · exact hmain
         · exact hmain
     · exact zA _
   · rename_i ht
     split
     · refine xv (C:=zD P ψ h n ρ (.slice t x xl xh _) ty w) _ _ _ ?_ fun q hq=>?_
       case refine_2=>
        rw [zt]
        rw [hq,zy] at hx
        obtain ⟨b,hx,hr⟩:=hx
        have hlen:q.length=b.size:=zEB hr
        rw [jv,hlen]
        have hxm:xm=none:=by cases xm with
         | none=>rfl
         | some y=>exact absurd o3 (by simp [zET])
        subst hxm
        refine jz (C:=zD P ψ h n ρ (.slice t x xl xh none) ty w) (P:=P) false b.size b.size b.size lo hi none xl xh none o1 o2 trivial (Nat.le_refl _) _ _ (zA _) hno fun l hh m m' hrun hm hm' hmx1 hmx2 hhm=>?_
        refine zG (C:=zD P ψ h n ρ (.slice t x xl xh none) ty w) _ _ _ (zA _) fun hok=>?_
        have hok:=zL hok
        refine yX (C:=zD P ψ h n ρ (.slice t x xl xh none) ty w) _ _ _ (zA _) fun r hr'=>?_
        refine ⟨.string (b.extract l hh),zR ?_,zNh ?_⟩
        · simp only [execOp,Instr.sliceAt,Sem.run_bind,run_underlying ht,Result.andThen_ok,hx,Instr.slice,Option.map_none,Option.isSome_none,Bool.false_eq_true,if_false,hrun,Sem.run_pure]
          have hrun':=hrun w
          simp only [Option.map_none] at hrun'
          simp [hrun']
        · obtain ⟨_,rfl⟩:=zDf hr'
          rw [ByteArray.data_extract,Array.toList_extract,List.extract_eq_take_drop,List.map_take,List.map_drop]
          exact (hr.drop l).take _
       refine yO (C:=zD P ψ h n ρ (.slice t x xl xh _) ty w) _ _ _ (zA _) fun q hq=>?_
       rw [zt]
       rw [hq,ze] at hx
       obtain ⟨b,hx,rfl⟩:=hx
       rw [w5,xV]
       have hxm:xm=none:=by cases xm with
        | none=>rfl
        | some y=>exact absurd o3 (by simp [zET])
       subst hxm
       refine jz (C:=zD P ψ h n ρ (.slice t x xl xh none) ty w) (P:=P) false b.size b.size b.size lo hi none xl xh none o1 o2 trivial (Nat.le_refl _) _ _ (zA _) hno fun l hh m m' hrun hm hm' hmx1 hmx2 hhm=>?_
       refine zG (C:=zD P ψ h n ρ (.slice t x xl xh none) ty w) _ _ _ (zA _) fun hok=>?_
       have hok:=zL hok
       refine zHH (C:=zD P ψ h n ρ (.slice t x xl xh none) ty w) _ _ (zA _) fun r hr=>?_
       refine ⟨.string (b.extract l hh),zR ?_,ze.2 ⟨_,rfl,?_⟩⟩
       · simp only [execOp,Instr.sliceAt,Sem.run_bind,run_underlying ht,Result.andThen_ok,hx,Instr.slice,Option.map_none,Option.isSome_none,Bool.false_eq_true,if_false,hrun,Sem.run_pure]
         have hrun':=hrun w
         simp only [Option.map_none] at hrun'
         simp [hrun']
       · obtain ⟨_,rfl⟩:=zOW hr
         unfold zo
         rw [ByteArray.data_extract,Array.toList_extract,List.extract_eq_take_drop,List.map_take,List.map_drop]
         rfl
     · exact zA _
   · exact zA _
 · exact zA _
end
end Go.Ev
namespace Go.Ev
variable [Sym]
noncomputable section
variable {P:Program} {ψ:Psi} {es:List CV} {tm:Tm} {h:zC} {n:Key} {ρ:Operand→Value} {E:Env} {ty:TypeId} {w:World}
variable [SymFact P]
theorem zKa (P:Program) [SymFact P] {m:SE} (h:zTB m=true) {len:Nat} (hv:Sym.val m=.int .i64 len) (w:World):len=0:=by
 unfold zTB at h
 split at h
 · rename_i h1
   obtain ⟨_,z1,hz1,c1,hc1,hr1⟩:=(SymFact.ok (P:=P)).1 _ _ _ _ h1 (fun _=>none) 0 (.int .i64 len) (.int .i64 0) w (zq.2 hv.symm) (zX.2 rfl)
   obtain rfl:c1=.bool true:=by simpa using hc1
   rw [zJ.1 hr1] at hz1
   have g1:(len:Int)≤0:=by simpa [binOp,Op.intCmp] using hz1
   omega
 · cases h
theorem qh {s d:TypeId} {x:Operand} {v:Value} {w':World} (hr:(convert s d (ρ x)).run P w=.ok v w'):(execOp ρ (xw (.convert s d x) ty)).run P w=.ok (.value v) w':=by
 simp only [execOp,Sem.run_bind,hr,Result.andThen_ok]; rfl
theorem uH (l:List Nat):x8 l=l.map fun b=>CV.int .u8 (.ofNat b):=by
 induction l with
 | nil=>rfl
 | cons x l ih=>show _::x8 l=_; rw [ih]; rfl
theorem zA2 (s:ByteArray):zS ψ (x8 (zo s)) (s.data.map fun b=>Value.int .u8 b.toNat).toList:=by
 rw [uH]
 unfold zo
 rw [Array.toList_map]
 induction s.data.toList with
 | nil=>exact zM.2 rfl
 | cons x l ih=>exact zW.2 ⟨zg.2 rfl,ih⟩
theorem zH4 {B sz:Nat} {arr:Array Value} {e:TypeId} {fz:Nat × Nat} (hb:w.heap[B]? = some (.cells arr e fz)) (hsz:arr.size=sz) (hfz:fz.1=fz.2∨sz≤fz.1) :
 ∃ fz':Nat × Nat,w.freeze ⟨B,sz,none⟩ 1=w.upB B (.cells arr e fz')∧(fz'.1=fz'.2∨sz≤fz'.1):=by
 obtain ⟨lo,hi⟩:=fz
 refine ⟨if lo == hi then (sz,sz+1) else (min lo sz,max hi (sz+1)),?_,?_⟩
 · unfold World.freeze World.upB
   simp only [Nat.one_ne_zero,if_false]
   congr 1
   apply Array.ext_getElem?
   intro i
   rw [Array.getElem?_modify,Array.getElem?_setIfInBounds]
   by_cases hi:B=i
   · subst hi
     have hlt:B<w.heap.size:=by
      rcases Nat.lt_or_ge B w.heap.size with h | h
      · exact h
      · rw [Array.getElem?_eq_none h] at hb; cases hb
     rw [if_pos rfl,if_pos rfl,if_pos hlt,hb]
     rfl
   · rw [if_neg hi,if_neg hi]
 · simp only at hfz
   split
   · right; simp
   · rename_i hne
     rcases hfz with h | h
     · exact absurd (by simpa using h) hne
     · right; simp; omega
theorem zCA {B off sz:Nat} {arr:Array Value} {e:TypeId} {fz:Nat × Nat} (hb:w.heap[B]? = some (.cells arr e fz)) (hsz:arr.size=sz) :
 (markStringish ⟨B,off,none⟩).run P w=.ok () (w.freeze ⟨B,sz,none⟩ 1):=by
 have:w.shape? B=some (e,sz):=by unfold World.shape?; rw [hb,← hsz]
 simp [markStringish,this]
theorem zAD:∀ (r:List Nat) (s:ByteArray),(∀ b∈r,b≤255)→zo ((r.map Int.ofNat).foldl (fun r n=>r.push (UInt8.ofNat n.toNat)) s)=zo s++r
 | [],s,_=>by simp
 | b::r,s,hb=>by
  rw [List.map_cons,List.foldl_cons,zAD r _ fun c hc=>hb c (by simp [hc])]
  have hb:=hb b (by simp)
  have:zo (s.push (UInt8.ofNat (Int.ofNat b).toNat))=zo s++[b]:=by
   unfold zo
   show (s.data.push _).toList.map _=_
   rw [Array.toList_push,List.map_append]
   simp
   omega
  rw [this]; simp
theorem zLv (P:Program) [SymFact P] {c:CV} {x:Value} {w:World} (hb:zJh c=true) (hx:zH ψ c x):∃ n:Nat,x=.int .u8 (Int.ofNat n)∧n≤255:=by
 unfold zJh at hb
 split at hb
 · rename_i k m
   rw [Bool.and_eq_true,yo,decide_eq_true_eq] at hb
   obtain ⟨rfl,hb⟩:=hb
   exact ⟨m,zg.1 hx,zL hb⟩
 · rename_i e
   rw [Bool.and_eq_true,yo,decide_eq_true_eq] at hb
   obtain ⟨hk,hb⟩:=hb
   split at hb
   · rename_i h1 h2
     have hu:x=Sym.val e:=zq.1 hx
     obtain ⟨_,z1,hz1,c1,hc1,hr1⟩:=(SymFact.ok (P:=P)).1 _ _ _ _ h1 ψ 0 x (.int .u8 (.ofNat 255)) w hx (zg.2 rfl)
     obtain ⟨_,z2,hz2,c2,hc2,hr2⟩:=(SymFact.ok (P:=P)).1 _ _ _ _ h2 ψ 0 x (.int .u8 (.ofNat 0)) w hx (zg.2 rfl)
     obtain rfl:c1=.bool true:=by simpa using hc1
     obtain rfl:c2=.bool true:=by simpa using hc2
     rw [zJ.1 hr1] at hz1
     rw [zJ.1 hr2] at hz2
     cases x with
     | int j m=>
      by_cases ej:j=.u8
      · subst ej
        have g1:m≤255:=by simpa [binOp,Op.intCmp] using hz1
        have g2:0≤m:=by simpa [binOp,Op.intCmp] using hz2
        exact ⟨m.toNat,by rw [Int.ofNat_eq_natCast,Int.toNat_of_nonneg g2],by omega⟩
      · simp [binOp,ej] at hz1
     | _=>simp [binOp] at hz1
   · cases hb
 · cases hb
theorem zPp (P:Program) [SymFact P] {c r:CV} {x:Value} {w:World} (hb:zQr c=some r) (hx:zH ψ c x):∃ n:Nat,x=.int .u8 (Int.ofNat n)∧n≤127∧zH ψ r (.int .i32 n):=by
 unfold zQr at hb
 split at hb
 · rename_i k m
   split at hb
   · rename_i hc
     rw [Bool.and_eq_true,yo,decide_eq_true_eq] at hc
     obtain ⟨rfl,hc⟩:=hc
     injection hb with hb
     subst hb
     exact ⟨m,zg.1 hx,zL hc,zg.2 rfl⟩
   · cases hb
 · rename_i e
   split at hb
   · rename_i h0 h1 h2 h3
     rw [yo,decide_eq_true_eq] at h0
     injection hb with hb
     subst hb
     obtain ⟨_,z1,hz1,c1,hc1,hr1⟩:=(SymFact.ok (P:=P)).1 _ _ _ _ h1 ψ 0 x (.int .u8 (.ofNat 127)) w hx (zg.2 rfl)
     obtain ⟨_,z2,hz2,c2,hc2,hr2⟩:=(SymFact.ok (P:=P)).1 _ _ _ _ h2 ψ 0 x (.int .u8 (.ofNat 0)) w hx (zg.2 rfl)
     obtain ⟨j,a,e1,c',h4,h5⟩:=(SymFact.ok (P:=P)).2 _ _ _ h3 ψ _ hx
     obtain rfl:c1=.bool true:=by simpa using hc1
     obtain rfl:c2=.bool true:=by simpa using hc2
     obtain rfl:=List.mem_singleton.1 h4
     rw [zJ.1 hr1] at hz1
     rw [zJ.1 hr2] at hz2
     subst e1
     by_cases ej:j=.u8
     · subst ej
       have g1:a≤127:=by simpa [binOp,Op.intCmp] using hz1
       have g2:0≤a:=by simpa [binOp,Op.intCmp] using hz2
       have hw:IntKind.i32.wrap a=a:=by
        have hlt:IntKind.i32.wrap a=a:=by
         unfold IntKind.wrap
         simp [IntKind.bits,IntKind.signed]
         omega
        exact hlt
       rw [hw] at h5
       exact ⟨a.toNat,by rw [Int.ofNat_eq_natCast,Int.toNat_of_nonneg g2],by omega,by rw [Int.toNat_of_nonneg g2]; exact h5⟩
     · simp [binOp,ej] at hz1
   · cases hb
 · cases hb
theorem zB9 (P:Program) [SymFact P] {w:World}:∀ {cs:List CV} {xs:List Value},zCI cs=true→zS ψ cs xs→∃ r:List Nat,xs=(r.map Int.ofNat).map (Value.int .u8)∧∀ n∈r,n≤255
 | [],xs,_,hx=>by
  rw [zM] at hx
  subst hx
  exact ⟨[],rfl,by simp⟩
 | c::cs,xs,hb,hx=>by
  unfold zCI at hb
  rw [Bool.and_eq_true] at hb
  obtain ⟨v,q,rfl,h1,h2⟩:=zd.1 hx
  obtain ⟨n,rfl,hn⟩:=zLv P (w:=w) hb.1 h1
  obtain ⟨r,rfl,hr⟩:=zB9 P (w:=w) hb.2 h2
  exact ⟨n::r,rfl,fun m hm=>by
   rcases List.mem_cons.1 hm with rfl | hm
   · exact hn
   · exact hr m hm⟩
theorem zDQ:∀ {r:List Nat} {l:List Value},zS ψ (r.map (fun b=>CV.int .u8 (.ofNat b))) l→l=(r.map Int.ofNat).map (Value.int .u8)
 | [],l,h=>zM.1 h
 | b::r,l,h=>by
  obtain ⟨v,q,rfl,h1,h2⟩:=zd.1 h
  rw [zg.1 h1,zDQ h2]; rfl
theorem zJD (s d:TypeId) (x:Operand) (ha:yG P ψ es tm E ρ [x]):zD P ψ h n ρ (.convert s d x) ty w (yU P (zh P E (.convert s d x)) es tm h n):=by
 rw [zh]
 unfold zKc und
 split
 · rename_i k0 k hs hd
   refine zr (C:=zD P ψ h n ρ (.convert s d x) ty w) zA fun c hc=>?_
   have hx:=ha x (by simp) c hc
   have run:∀ j a,ρ x=.int j a→(convert s d (ρ x)).run P w=.ok (.int k (k.wrap a)) w:=by
    intro j a e
    rw [e]; simp [convert,run_underlying hs,run_underlying hd,Conv.intToInt]
   show zD P ψ h n ρ (.convert s d x) ty w (zGp k (aV es tm c))
   unfold zGp
   split
   · cases hb:Sym.cv k (aV es tm c) with
     | none=>exact zA _
     | some l=>
      obtain ⟨j,a,e,c',h3,h4⟩:=(SymFact.ok (P:=P)).2 k _ l hb ψ _ hx
      exact zJn (zR (qh (run j a e))) (zJO rfl h3 h4)
   refine kK (C:=zD P ψ h n ρ (.convert s d x) ty w) _ _ _ _ (zA _) (fun b hv=>?_) (fun j b hv=>?_) (fun j hv=>?_)
   · rw [hv,zX] at hx
     exact ⟨_,zR (qh (run _ _ hx)),by rw [yz]; exact yy _ _⟩
   · rw [hv,zg] at hx
     exact ⟨_,zR (qh (run _ _ hx)),by rw [yz]; exact yy _ _⟩
   · rw [hv,yk] at hx
     obtain ⟨b,hx⟩:=hx
     exact ⟨_,zR (qh (run _ _ hx)),yk.2 ⟨_,rfl⟩⟩
 · rename_i hs hd
   refine zr (C:=zD P ψ h n ρ (.convert s d x) ty w) zA fun c hc=>?_
   have hx:=ha x (by simp) c hc
   refine yO (C:=zD P ψ h n ρ (.convert s d x) ty w) _ _ _ (zA _) fun l hl=>?_
   rw [hl,ze] at hx
   obtain ⟨b,hx,e⟩:=hx
   exact ⟨.string b,zR (qh (by rw [hx]; simp [convert,run_underlying hs,run_underlying hd])),ze.2 ⟨b,rfl,e⟩⟩
 · rename_i e hs hd
   split
   · rename_i he
     refine zr (C:=zD P ψ h n ρ (.convert s d x) ty w) zA fun c hc=>?_
     have hx:=ha x (by simp) c hc
     have main:∀ (cs:List CV) (b:ByteArray),ρ x=.string b→(∀ ψ':Psi,ψ.le ψ'→zS ψ' cs (b.data.map fun b=>Value.int .u8 b.toNat).toList)→cs.length=b.size →
      zD P ψ h n ρ (.convert s d x) ty w (.alloc (.cells cs) (.sl n 0 b.size b.size 1 false)):=by
      intro cs b hx hcs hcl
      obtain ⟨cap,hcut,hcap⟩:∃ cap,cap=(Question.appendCap b.size 0 e).cut (w.tape w.drawn (Question.appendCap b.size 0 e))∧b.size≤cap:=⟨_,rfl,Nat.le_add_right _ _⟩
      let arr:Array Value:=(b.data.map fun (b:UInt8)=>Value.int .u8 b.toNat)++Array.replicate (cap - b.size) (Value.int .u8 0)
      have hbs:(b.data.map fun (b:UInt8)=>Value.int .u8 b.toNat).size=b.size:=by rw [Array.size_map]; rfl
      have harr:arr.size=cap:=by
       show ((b.data.map fun (b:UInt8)=>Value.int .u8 b.toNat)++Array.replicate (cap - b.size) (Value.int .u8 0)).size=cap
       rw [Array.size_append,hbs,Array.size_replicate]; omega
      let w1:World:={ w with drawn:=w.drawn+1,heap:=w.heap.push (.cells arr e) }
      have hb1:w1.heap[w.heap.size]? = some (.cells arr e (0,0)):=by simp [w1]
      obtain ⟨fz',hfz,hfz'⟩:=zH4 (w:=w1) hb1 harr (.inl rfl)
      have hsize1:w.heap.size<w1.heap.size:=by simp [w1]
      refine ⟨w1.upB w.heap.size (.cells arr e fz'),.slice (some ⟨w.heap.size,0,none⟩) b.size cap,cap,zR (qh ?_),?_,fun ψ' hle hn=>⟨?_,?_⟩,by unfold zFD; rw [xZ _ hsize1]; exact harr.symm⟩
      · rw [hx,← hfz]
        have hm:(markStringish ⟨w.heap.size,0,none⟩).run P w1=.ok () (w1.freeze ⟨w.heap.size,cap,none⟩ 1):=zCA hb1 harr
        simp only [convert,Sem.run_bind,run_underlying hs,run_underlying hd,run_underlying he,Result.andThen_ok,Conv.stringToBytes,run_choose,Question.forced,Bool.false_eq_true,if_false,newRow,run_newObj,Sem.run_pure,← hcut]
        exact (by
         show (((markStringish ⟨w.heap.size,0,none⟩).run P w1).andThen fun _ w'=>Result.ok (Value.slice (some ⟨w.heap.size,0,none⟩) b.size cap) w')=_
         rw [hm]; rfl)
      · refine ⟨by rw [zFt]; simp [w1],fun B hB=>?_,rfl,rfl,rfl⟩
        rw [vl _ (by omega)]
        simp only [w1,Array.getElem?_push]
        rw [if_neg (by omega)]
      · exact yF.2 ⟨_,0,cap,hn,rfl,hcap,hcap,by simp,.inl ⟨rfl,fun _=>by simp⟩⟩
      · refine ⟨arr,e,fz',xZ _ hsize1,harr,?_,hfz',fun i c hi=>?_⟩
        · rw [hcl]; simpa using hcap
        · obtain ⟨v,hv,hr⟩:=(hcs ψ' hle).get hi
          have hv:(b.data.map fun (b:UInt8)=>Value.int .u8 b.toNat)[i]? = some v:=by simpa using hv
          have hi':i<(b.data.map fun (b:UInt8)=>Value.int .u8 b.toNat).size:=by
           rcases Nat.lt_or_ge i (b.data.map fun (b:UInt8)=>Value.int .u8 b.toNat).size with h | h
           · exact h
           · rw [Array.getElem?_eq_none h] at hv; cases hv
          refine ⟨v,?_,hr⟩
          show ((b.data.map fun (b:UInt8)=>Value.int .u8 b.toNat)++Array.replicate (cap - b.size) (Value.int .u8 0))[0+i]? = some v
          rw [Nat.zero_add,Array.getElem?_append_left hi']; exact hv
     refine xv (C:=zD P ψ h n ρ (.convert s d x) ty w) _ _ _ ?_ fun l hl=>?_
     case refine_2=>
      rw [zt]
      rw [hl,zy] at hx
      obtain ⟨b,hx,hr⟩:=hx
      have hlen:l.length=b.size:=zEB hr
      rw [jv,hlen]
      refine main l b hx (fun ψ' hle=>?_) hlen
      rw [Array.toList_map]
      exact hr.mono hle
     refine yO (C:=zD P ψ h n ρ (.convert s d x) ty w) _ _ _ (zA _) fun l hl=>?_
     rw [zt]
     rw [hl,ze] at hx
     obtain ⟨b,hx,rfl⟩:=hx
     rw [w5,xV]
     exact main _ b hx (fun ψ' _=>zA2 (ψ:=ψ') b) (by rw [uH,List.length_map,xV])
   · exact zA _
 · rename_i e0 e hs hd
   split
   · rename_i hsd he
     have hsd:s=d:=yD hsd
     refine zr (C:=zD P ψ h n ρ (.convert s d x) ty w) zA fun c hc=>?_
     have hx:=ha x (by simp) c hc
     refine yV (C:=zD P ψ h n ρ (.convert s d x) ty w) _ _ _ _ (zA _) (fun _=>zA _) fun b off len cap s' ex hv=>?_
     refine yb (C:=zD P ψ h n ρ (.convert s d x) ty w) _ _ _ (zA _) fun vs hvs hrel _ _=>?_
     rw [hv] at hx
     have hx0:=hx
     rw [yF] at hx
     obtain ⟨p,x',cap',hp,hx,_⟩:=hx
     have hvs:zC.fam h b=some (.cells vs):=hvs
     obtain ⟨arr,el,fz,h1,h2,h3,h4,h5⟩:=hrel.on b _ p hvs hp
     obtain ⟨fz',hfz,hfz'⟩:=zH4 h1 h2 h4
     have hlt:p.blk<w.heap.size:=(hrel.on b _ p hvs hp).lt
     have hpost:=qo (n:=n) hrel hvs rfl hp (o':=.cells vs) (ob:=.cells arr el fz') ⟨arr,el,fz',xZ _ hlt,h2,h3,hfz',h5⟩
     have hsame:(zC.fam h).upd b (some (.cells vs))=zC.fam h:=by
      funext j; unfold Fam.upd; split
      · rename_i e; subst e; exact hvs.symm
      · rfl
     rw [hsame] at hpost
     refine ⟨_,ρ x,ψ,zR (qh ?_),hpost,hx0⟩
     rw [hx,← hfz]
     have hm:=zCA (P:=P) (off:=x') h1 h2
     subst hsd
     have he0:e0=e:=by rw [hs] at hd; injection hd with hd; injection hd
     subst he0
     simp [convert,run_underlying hs,run_underlying he,hm]
   · exact zA _
 · rename_i e hs hd
   split
   · rename_i he
     refine zr (C:=zD P ψ h n ρ (.convert s d x) ty w) zA fun c hc=>?_
     have hx:=ha x (by simp) c hc
     refine qf (C:=zD P ψ h n ρ (.convert s d x) ty w) _ _ _ ?_ fun b z e0 m hv=>?_
     case refine_2=>
      refine zG (C:=zD P ψ h n ρ (.convert s d x) ty w) _ _ _ (zA _) fun hm=>?_
      rw [hv,qA] at hx
      obtain ⟨_,base,len,cap,iv,hx,hn',_⟩:=hx
      obtain rfl:=zKa P hm hn' default
      refine ⟨.string .empty,zR (qh ?_),ze.2 ⟨_,rfl,rfl⟩⟩
      rw [hx,run_convert_bytes_string w s d e base 0 cap hs he hd]
      cases base with
      | none=>simp [Conv.bytesToString]
      | some a=>exact run_bytesToString w _ _ _ [] rfl
     refine yV (C:=zD P ψ h n ρ (.convert s d x) ty w) _ _ _ _ (zA _) (fun hv=>?_) fun b off len cap s' ex hv=>?_
     · rw [hv,zw] at hx
       refine ⟨.string .empty,zR (qh ?_),ze.2 ⟨_,rfl,rfl⟩⟩
       rw [hx,run_convert_bytes_string w s d e none 0 0 hs he hd]
       simp [Conv.bytesToString]
     · refine xB (C:=zD P ψ h n ρ (.convert s d x) ty w) _ _ _ (zA _) fun vs hvs=>?_
       refine yX (C:=zD P ψ h n ρ (.convert s d x) ty w) _ _ _ (zA _) fun cs hcs=>?_
       unfold zLS
       split
       · rename_i r hr
         intro hrel
         rw [hv,yF] at hx
         obtain ⟨p,x',cap',hp,hx,_,hl,_,hor⟩:=hx
         have hcells:zAq ψ w p vs:=by
          rcases hvs with hvs | hvs | ⟨u,hvs⟩
          · exact yc.toRo (hrel b _ p hvs hp)
          · exact hrel b _ p hvs hp
          · exact yc.toRo (jW.toCells (hrel b _ p hvs hp))
         obtain ⟨xs,hrun,hxs⟩:=xk (P:=P) hcells hcs
         obtain ⟨rfl,hle⟩:=wH hr
         have hxs:=zDQ hxs
         have hrun:(loadCells ⟨p.blk,x',none⟩ len).run P w=.ok ((r.map Int.ofNat).map (Value.int .u8)).toArray w:=by
          rcases hor with ⟨e,_⟩ | e
          · rw [e,← hxs]; exact hrun
          · have:len=0:=by omega
            subst this
            have:=(qJ hcs).1
            have hr0:r=[]:=by cases r <;> simp_all
            subst hr0
            rfl
         refine ⟨.string ((r.map Int.ofNat).foldl (fun r n=>r.push (UInt8.ofNat n.toNat)) ByteArray.empty),zR (qh ?_),ze.2 ⟨_,rfl,?_⟩⟩
         · rw [hx,run_convert_bytes_string w s d e _ _ _ hs he hd]
           exact run_bytesToString w _ _ _ _ hrun
         · rw [zAD r _ hle]; rfl
       · split
         · rename_i hbs
           intro hrel
           rw [hv,yF] at hx
           obtain ⟨p,x',cap',hp,hx,_,hl,_,hor⟩:=hx
           have hcells:zAq ψ w p vs:=by
            rcases hvs with hvs | hvs | ⟨u,hvs⟩
            · exact yc.toRo (hrel b _ p hvs hp)
            · exact hrel b _ p hvs hp
            · exact yc.toRo (jW.toCells (hrel b _ p hvs hp))
           obtain ⟨xs,hrun,hxs⟩:=xk (P:=P) hcells hcs
           obtain ⟨r,hr,hle⟩:=zB9 P (w:=w) hbs hxs
           have hrun:(loadCells ⟨p.blk,x',none⟩ len).run P w=.ok ((r.map Int.ofNat).map (Value.int .u8)).toArray w:=by
            rcases hor with ⟨e,_⟩ | e
            · rw [e,← hr]; exact hrun
            · have:len=0:=by omega
              subst this
              have h1:=(qJ hcs).1
              have h2:=hxs.length
              have hr0:r=[]:=by
               have:r.length=0:=by
                have:=congrArg List.length hr
                simp at this; omega
               exact List.length_eq_zero_iff.1 this
              subst hr0
              rfl
           have hb:=zAD r ByteArray.empty hle
           refine ⟨.string ((r.map Int.ofNat).foldl (fun r n=>r.push (UInt8.ofNat n.toNat)) ByteArray.empty),zR (qh ?_),zy.2 ⟨_,rfl,?_⟩⟩
           · rw [hx,run_convert_bytes_string w s d e _ _ _ hs he hd]
             exact run_bytesToString w _ _ _ _ hrun
           · generalize (r.map Int.ofNat).foldl (fun r n=>r.push (UInt8.ofNat n.toNat)) ByteArray.empty=z at hb
             have hz:zo z=r:=by rw [hb]; rfl
             have:(z.data.toList.map fun x=>Value.int .u8 (Int.ofNat x.toNat))=xs:=by
              rw [hr,← hz]
              unfold zo
              rw [List.map_map,List.map_map]
              rfl
             rw [this]; exact hxs
         · exact zA _
   · exact zA _
 · exact zA _
end
end Go.Ev
