/- A verified evaluator for the model's code: EvG, EvH, EvI, EvJ, EvK, EvL, EvM. -/
import Derived.Test.YtkolecenifiaaaaGreatDoorEv2
import Derived.Laws.Concat
import Derived.Laws.StructEq
import Derived.Laws.BytesString
set_option linter.unusedSectionVars false
set_option linter.unusedVariables false
set_option linter.unusedSimpArgs false
namespace Go.Ev
variable[Sym]
noncomputable section
variable{P:Program}{Y:Psi}{es:List CV}{tm:Tm}{h:zC}{n:Key}{U:Operand->Value}{E:Env}{ty:TypeId}{w:World}
abbrev qM (o:Op) (ty:TypeId):Oper:={ dst:=none,op:=o,type:=ty,pos := "",after:=#[],guard:=none }
def yG(P:Program)(Y:Psi)(es:List CV)(tm:Tm)(E:Env)(U:Operand->Value)(L:List Operand):Prop:=∀x∈L,∀c,zn P E x=some c->zG Y (aV es tm c) (U x)
theorem yG.sub{L L':List Operand}(h:yG P Y es tm E U L)(hs:∀x∈L',x∈L):yG P Y es tm E U L':=λx hx c hc=>h x (hs x hx) c hc
theorem zR{o:Op}{w w':World}{x:Value}(hx:(execOp U (qM o ty)).run P w=.ok (.value x) w'):kz P U o ty w w' x:=⟨_,hx,.inl rfl⟩
theorem wK{o:Op}{w w':World}(hx:(execOp U (qM o ty)).run P w=.ok .skip w'):kz P U o ty w w' undef:=⟨_,hx,.inr ⟨rfl,rfl⟩⟩
section
variable{C:OR->Prop}
theorem zu{f:zY->COp}{x:Operand}(hb:∀e,C (.err e))(hk:∀c,zn P E x=some c->C (yX P (f c) es tm h n)):C (yX P (xX P E f x) es tm h n):=by
 unfold xX;cases hx:zn P E x with
 |none=>exact hb _|some c=>exact hk c hx
theorem xK{f:zY->zY->COp}{x y:Operand}(hb:∀e,C (.err e))
 (hk:∀c d,zn P E x=some c->zn P E y=some d->C (yX P (f c d) es tm h n)):C (yX P (jc P E f x y) es tm h n):=by
 unfold jc;cases hx:zn P E x with
 |none=>exact hb _|some c=>cases hy:zn P E y with
  |none=>exact hb _|some d=>exact hk c d hx hy
end
theorem zA{o:Op}(e:Nat):zD P Y h n U o ty w (.err e):=trivial
theorem wU:∀(l:List Operand) {cs:List zY},yG P Y es tm E U l->jB P E l=some cs->zP Y (aVs es tm cs) (l.map U)
 | [],cs,_,hc=>by injection hc with hc; subst hc; exact zM.2 rfl
 |x::l,cs,ha,hc=>by
  unfold jB xH at hc;cases hx:zn P E x with
  |none=>rw[hx]at hc; cases hc|some c=>
   rw[hx]at hc;cases hl:xH (zn P E) l with
   |none=>simp[hl]at hc|some r=>simp[hl]at hc;subst hc;exact zW.2 ⟨ha x (by simp) c hx,wU l (ha.sub λy hy=>by simp[hy]) hl⟩
theorem zTp(x:Operand)(ha:yG P Y es tm E U [x]):zD P Y h n U (.move x) ty w (yX P (zj P E (.move x)) es tm h n):=by
 refine zu (C:=zD P Y h n U (.move x) ty w) zA λc hc=>⟨U x,zR ?_,ha x (by simp) c hc⟩
 simp only[execOp,Sem.run_pure]
theorem zO3(x:Operand)(ha:yG P Y es tm E U [x]):zD P Y h n U (.assign x) ty w (yX P (zj P E (.assign x)) es tm h n):=by
 refine zu (C:=zD P Y h n U (.assign x) ty w) zA λc hc=>⟨U x,zR ?_,ha x (by simp) c hc⟩
 simp only[execOp,Sem.run_pure]
theorem zSF(c a b:Operand)(ha:yG P Y es tm E U [c,a,b]):zD P Y h n U (.pick c a b) ty w (yX P (zj P E (.pick c a b)) es tm h n):=by
 rw[zj];cases hc:zn P E c with
 |none=>exact zA _|some c'=>cases h1:zn P E a with
  |none=>exact zA _|some a'=>cases h2:zn P E b with
   |none=>exact zA _|some b'=>
    refine uD (C:=zD P Y h n U (.pick c a b) ty w) _ _ _ (zA _) λt ht=>?_;have hv:=ha c (by simp) c' hc;rw[ht,zL]at hv;cases t with
    |true=>exact⟨U a,zR (by simp[execOp,hv,asBool]),ha a (by simp) a' h1⟩|false=>exact⟨U b,zR (by simp[execOp,hv,asBool]),ha b (by simp) b' h2⟩
theorem jY(w:World)(ob:Obj):New w { w with heap:=w.heap.push ob }:=
 ⟨by simp,λB hB=>by simp only[Array.getElem?_push]; rw[if_neg (by omega)],rfl,rfl,rfl⟩
theorem zMk(w:World)(ob:Obj):(w.heap.push ob)[w.heap.size]? = some ob:=by simp
theorem zIx{Y':Psi}(w:World)(arr:Array Value)(elem:TypeId){cs:List CV}{m:Nat}(hc:zP Y' cs (arr.toList.take m))(hm:m<=arr.size) :
 xQ Y' { w with heap:=w.heap.push (.cells arr elem) } ⟨w.heap.size,0,arr.size,λn=>n⟩ (.cells cs):=by
 have hl:=hc.length;rw[List.length_take]at hl;refine⟨arr,elem,(0,0),zMk _ _,rfl,by simp at hl ⊢; omega,.inl rfl,λi c hi=>?_⟩;obtain⟨x,hx,hr⟩:=hc.get hi;rw[List.getElem?_take]at hx;split at hx
 . exact⟨x,by simpa using hx,hr⟩
 . cases hx
theorem zAf{Y':Psi}(w:World)(arr:Array Value)(elem:TypeId){cs:List CV}(hc:zP Y' cs arr.toList) :
 xQ Y' { w with heap:=w.heap.push (.cells arr elem) } ⟨w.heap.size,0,arr.size,λn=>n⟩ (.cells cs):=
 zIx w arr elem (m:=arr.size) (by rw[List.take_of_length_le (by simp)]; exact hc) (Nat.le_refl _)
theorem zUd{Y':Psi}(w:World)(arr:Array Value)(elem:TypeId){cs:List CV}(hc:zP Y' cs arr.toList) :
 xQ Y' { w with heap:=w.heap.push (.cells arr elem) } ⟨w.heap.size,0,arr.size,λn=>n⟩ (.full true cs):=by
 have hl:=hc.length;refine⟨arr,elem,(0,0),zMk _ _,rfl,by simp at hl ⊢; omega,.inl rfl,λi c hi=>?_⟩;obtain⟨x,hx,hr⟩:=hc.get hi;exact⟨x,by simpa using hx,hr⟩
theorem zQW(t:TypeId):zD P Y h n U (.alloc t) ty w (yX P (zj P E (.alloc t)) es tm h n):=by
 rw[zj];cases hz:ji P t with
 |none=>exact zA _|some z=>obtain⟨v,h1,h2⟩:=zO5 hz;refine⟨_,.pointer (some ⟨w.heap.size,0,none⟩),v.cells.size,zR ?_,jY _ (.cells v.cells t),λY' _ hn=>⟨zx.2 ⟨_,hn,rfl⟩,zAf w v.cells t (h2 Y')⟩,by simp[zG0]⟩;simp[execOp,Instr.alloc,h1,newVar,newRow]
theorem zVE(t:TypeId)(x:Operand)(ha:yG P Y es tm E U [x]):zD P Y h n U (.box t x) ty w (yX P (zj P E (.box t x)) es tm h n):=by refine zu (C:=zD P Y h n U (.box t x) ty w) zA λc hc=>?_;refine yb (C:=zD P Y h n U (.box t x) ty w) _ _ _ (zA _) λcs hcs=>?_;have hv:=ux (ha x (by simp) c hc) hcs;refine⟨_,.pointer (some ⟨w.heap.size,0,none⟩),(U x).cells.size,zR ?_,jY _ (.cells (U x).cells t),λY' hle hn=>⟨zx.2 ⟨_,hn,rfl⟩,zAf w _ t (hv.mono hle)⟩,by simp[zG0]⟩;simp[execOp,Instr.box,newVar,newRow]
theorem zIz:∀{l:List CV} {t:List (List Nat)},zPK l=some t->∀k,k<l.length->∃s,l[k]? = some (.str s)/\t[k]? = some s
 | [],_,_,k,hk=>by simp at hk|c::r,t,h,k,hk=>by
  unfold zPK at h;split at h
  . rename_i e; cases e
  . rename_i s r' e;injection e with e1 e2;subst e1 e2;split at h
    . rename_i t' ht';injection h with h; subst h;cases k with
      |zero=>exact⟨s,rfl,rfl⟩|succ k=>obtain⟨s',h1,h2⟩:=zIz ht' k (by simpa using hk);exact⟨s',by simpa using h1,by simpa using h2⟩
    . cases h
  . cases h
theorem zTF(t:TypeId)(x:Operand)(ha:yG P Y es tm E U [x]):zD P Y h n U (.load t x) ty w (yX P (zj P E (.load t x)) es tm h n):=by
 rw[zj];cases h1:qd P t with
 |none=>exact zA _|some b=>cases h2:qR P t with
  |none=>cases b <;> exact zA _|some s=>
   cases b with
   |true=>
    refine zu (C:=zD P Y h n U (.load t x) ty w) zA λc hc=>?_;refine xU (C:=zD P Y h n U (.load t x) ty w) _ _ _ (zA _) λb off hv=>?_;refine xR (C:=zD P Y h n U (.load t x) ty w) _ _ _ (zA _) λvs hvs=>?_;refine zF6 (C:=zD P Y h n U (.load t x) ty w) _ _ (zA _) λl hl hrel=>?_;have hx:=ha x (by simp) c hc;rw[hv,zx]at hx;obtain⟨p,hp,hx⟩:=hx;have hcells:zBf Y w p vs:=by
     rcases hvs with hvs |hvs |⟨u,hvs⟩
     . exact yZ.toRo (hrel b _ p hvs hp)
     . exact hrel b _ p hvs hp
     . exact yZ.toRo (jt.toCells (hrel b _ p hvs hp))
    obtain⟨xs,hrun,hxs⟩:=qD (P:=P) hcells hl;refine⟨.agg xs.toArray,zR ?_,yx.2 ⟨_,rfl,by simpa using hxs⟩⟩;simp[execOp,Instr.loadAt,hx,Instr.sureAddr,loadVar,jS h1,yl h2,hrun]
   |false=>
    refine zu (C:=zD P Y h n U (.load t x) ty w) zA λc hc=>?_;refine zBF (C:=zD P Y h n U (.load t x) ty w) _ _ _ ?_ λb off hv=>?_
    . unfold zW8;split
      . rename_i b off i m hv;refine xR (C:=zD P Y h n U (.load t x) ty w) _ _ _ (zA _) λvs hvs=>?_;refine zAe (C:=zD P Y h n U (.load t x) ty w) _ _ (zA _) λl hl hrel=>?_;have hx:=ha x (by simp) c hc;rw[hv,zBt]at hx;obtain⟨p,k,hp,hval,hk,hx⟩:=hx;have hcells:zBf Y w p vs:=by
         rcases hvs with hvs |hvs |⟨u,hvs⟩
         . exact yZ.toRo (hrel b _ p hvs hp)
         . exact hrel b _ p hvs hp
         . exact yZ.toRo (jt.toCells (hrel b _ p hvs hp))
        unfold zYt at hl;split at hl
        . rename_i l' hl';split at hl
          . rename_i t' ht';injection hl with hl; subst hl;obtain⟨q1,q2⟩:=qh hl';obtain⟨s',q3,q4⟩:=zIz ht' k (by omega);rw[q2 k (by omega)]at q3;obtain⟨y,hrun,hy⟩:=zBE (P:=P) hcells q3;obtain⟨bs,rfl,hbs⟩:=zg.1 hy;refine⟨.string bs,zR ?_,kE.2 ⟨k,bs,hval,rfl,by rw[hbs]; exact q4⟩⟩;simp only[execOp,Instr.loadAt,hx,Instr.sureAddr,loadVar,Sem.run_bind,Sem.run_pure,Result.andThen_ok,jS h1,Bool.false_eq_true,if_false,hrun]
          . cases hl
        . cases hl
      . exact zA _
    refine xR (C:=zD P Y h n U (.load t x) ty w) _ _ _ (zA _) λvs hvs=>?_;refine zAe (C:=zD P Y h n U (.load t x) ty w) _ _ (zA _) λl hl hrel=>?_;have hx:=ha x (by simp) c hc;rw[hv,zx]at hx;obtain⟨p,hp,hx⟩:=hx;have hcells:zBf Y w p vs:=by
     rcases hvs with hvs |hvs |⟨u,hvs⟩
     . exact yZ.toRo (hrel b _ p hvs hp)
     . exact hrel b _ p hvs hp
     . exact yZ.toRo (jt.toCells (hrel b _ p hvs hp))
    rw[qp]at hl;obtain⟨y,hrun,hy⟩:=zBE (P:=P) hcells hl;refine⟨y,zR ?_,hy⟩;have hrun':∀m,(load ⟨p.blk,p.off+off,none⟩ m).run P w=.ok y w\/m≠.plain:=λm=>by
     cases m
     . exact .inl hrun
     . exact .inr (by decide)
    simp only[execOp,Instr.loadAt,hx,Instr.sureAddr,loadVar,Sem.run_bind,Sem.run_pure,Result.andThen_ok,jS h1,Bool.false_eq_true,if_false,hrun]
theorem zRx(t:TypeId)(a x:Operand)(ha:yG P Y es tm E U [a,x]):zD P Y h n U (.store t a x) ty w (yX P (zj P E (.store t a x)) es tm h n):=by
 rw[zj];cases h2:qR P t with
 |none=>exact zA _|some s=>
  refine xK (C:=zD P Y h n U (.store t a x) ty w) zA λc d hc hd=>?_;refine xU (C:=zD P Y h n U (.store t a x) ty w) _ _ _ (zA _) λb off hv=>?_;refine yh (C:=zD P Y h n U (.store t a x) ty w) _ _ _ (zA _) λvs hvs=>?_;refine yb (C:=zD P Y h n U (.store t a x) ty w) _ _ _ (zA _) λcs hcs=>?_;refine zJ (C:=zD P Y h n U (.store t a x) ty w) _ _ _ (zA _) λhs=>?_;refine yb (C:=zD P Y h n U (.store t a x) ty w) _ _ _ (zA _) λl hl hrel _ _=>?_;have hx:=ha a (by simp) c hc;rw[hv,zx]at hx;obtain⟨p,hp,hx⟩:=hx;have hval:=ux (ha x (by simp) d hd) hcs;obtain⟨w',hrun,hpost⟩:=wD (P:=P) n hrel hvs hp hl hval hs;refine⟨w',undef,Y,wK ?_,?_,qb⟩
  . have hsz:(U x).cells.size=s:=by
     have:=hval.length
     rw[(zAx hl).1]at this;simpa using this
    simp[execOp,Instr.storeAt,hx,Instr.sureAddr,storeVar,yl h2,hsz,hrun]
  . rw[z7]; exact hpost
theorem zRK(x:Operand)(ha:yG P Y es tm E U [x]):zD P Y h n U (.nilCheck x) ty w (yX P (zj P E (.nilCheck x)) es tm h n):=by
 refine zu (C:=zD P Y h n U (.nilCheck x) ty w) zA λc hc=>?_;have hx:=ha x (by simp) c hc;have key:∀{v:Value},U x=v->(∀w,(execOp U (qM (.nilCheck x) ty)).run P w=.ok (.value v) w)->zD P Y h n U (.nilCheck x) ty w (.val (aV es tm c)):=by intro v e hr;exact⟨v,zR (hr w),e ▸ hx⟩
 refine zBF (C:=zD P Y h n U (.nilCheck x) ty w) _ _ _ ?_ λb o hv=>?_
 . show zD P Y h n U (.nilCheck x) ty w (zHg (aV es tm c));generalize aV es tm c=v at *
   cases v <;> simp only[zHg] <;> try exact trivial
   case bool=>rw[zL]at hx; exact⟨_,zR (by simp[execOp,hx]),zL.2 rfl⟩
   case nat=>rw[zT]at hx; exact⟨_,zR (by simp[execOp,hx]),zT.2 rfl⟩
   case int=>rw[zf]at hx; exact⟨_,zR (by simp[execOp,hx]),zf.2 rfl⟩
   case anyi=>rw[yo]at hx; obtain⟨m,hx⟩:=hx; exact⟨_,zR (by simp[execOp,hx]),yo.2 ⟨m,rfl⟩⟩
   case str=>rw[zg]at hx; obtain⟨b,hx,e⟩:=hx; exact⟨_,zR (by simp[execOp,hx]),zg.2 ⟨b,rfl,e⟩⟩
   case big=>have:=hx; rw[wX]at hx; obtain⟨m,hx,_⟩:=hx; exact⟨U x,zR (by simp[execOp,hx]),this⟩
   case ptr=>have:=hx; rw[zx]at hx; obtain⟨p,hp,hx⟩:=hx; exact⟨U x,zR (by simp[execOp,hx]),this⟩
   case nilsl=>rw[yD]at hx; exact⟨_,zR (by simp[execOp,hx]),yD.2 rfl⟩
   case sl=>have:=hx; rw[yJ]at hx; obtain⟨p,x',c',hp,hx,_⟩:=hx; exact⟨U x,zR (by simp[execOp,hx]),this⟩
   case sst=>have:=hx; rw[ya]at hx; obtain⟨b,hx,e⟩:=hx; exact⟨U x,zR (by simp[execOp,hx]),this⟩
   case elt=>have:=hx; rw[zBt]at hx; obtain⟨_,_,_,_,_,hx⟩:=hx; exact⟨U x,zR (by simp[execOp,hx]),this⟩
   case few=>have:=hx; rw[kE]at hx; obtain⟨_,b,_,hx,_⟩:=hx; exact⟨U x,zR (by simp[execOp,hx]),this⟩
   case win=>have:=hx; rw[qW]at hx; obtain⟨_,base,l,c',i,hx,_⟩:=hx; exact⟨U x,zR (by cases base <;> simp[execOp,hx]),this⟩
   case nilmap=>rw[yg]at hx; exact⟨_,zR (by simp[execOp,hx]),yg.2 rfl⟩
   case map=>have:=hx; rw[xC]at hx; obtain⟨p,hp,hx⟩:=hx; exact⟨U x,zR (by simp[execOp,hx]),this⟩
   case func fn a b=>have h0:=hx;rw[xW]at hx; obtain⟨a',b',hx,_⟩:=hx;cases fn <;> simp only[] <;> first |exact trivial |exact⟨U x,zR (by simp[execOp,hx]),h0⟩
   case iface=>have:=hx; rw[yr]at hx; obtain⟨y,hx,_⟩:=hx; exact⟨U x,zR (by simp[execOp,hx]),this⟩
   case sym i=>have h0:=hx;rw[zp]at hx;rcases Sym.one i with⟨k,m,e⟩ |⟨b,e⟩ <;> rw[e]at hx <;> exact⟨U x,zR (by simp[execOp,hx]),h0⟩
   case agg=>have:=hx; rw[yx]at hx; obtain⟨y,hx,_⟩:=hx; exact⟨U x,zR (by simp[execOp,hx]),this⟩
   case tup=>have:=hx; rw[yU]at hx; obtain⟨y,hx,_⟩:=hx; exact⟨U x,zR (by simp[execOp,hx]),this⟩
 . have h0:=hx;rw[hv]at h0 hx;rw[zx]at hx; obtain⟨p,hp,hx⟩:=hx;exact⟨U x,zR (by simp[execOp,hx]),h0⟩
end
end Go.Ev
namespace Go.Ev
variable[Sym]
noncomputable section
variable{P:Program}{Y:Psi}{es:List CV}{tm:Tm}{h:zC}{n:Key}{U:Operand->Value}{E:Env}{ty:TypeId}{w:World}
theorem zFi{a b:Bool}(h:a=true ↔ b=true):Value.bool a=.bool b:=by rw[Bool.eq_iff_iff.2 h]
theorem xx(n:Nat):zG Y (kM n) (.int .i64 (Int.ofNat n)):=by cases n <;> exact zT.2 rfl
theorem vA(k:IntKind)(n:Nat):zG Y (j6 k n) (.int k (Int.ofNat n)):=by cases k <;> first |exact zf.2 rfl |exact xx n
theorem xF(k:IntKind)(n:Int):zG Y (mkInt k n) (.int k n):=by
 cases n with
 |ofNat m=>cases m <;> exact vA k _|negSucc m=>cases m <;> exact zf.2 rfl
theorem zOf(n:Int):zQn n=IntKind.i64.wrap n:=by
 have hb:∀m:Nat,Nat.ble m 9223372036854775807=true->(Int.ofNat m)=IntKind.i64.wrap (Int.ofNat m)/\(Int.negSucc m)=IntKind.i64.wrap (Int.negSucc m):=by
  intro m hm
  have:=Nat.le_of_ble_eq_true hm
  rw[Int.negSucc_eq];simp only[IntKind.wrap,IntKind.signed,IntKind.bits,Int.ofNat_eq_natCast];constructor <;> simp <;> omega
 cases n with
 |ofNat m=>
  show Bool.rec (motive:=λ_=>Int) (IntKind.i64.wrap (.ofNat m)) (.ofNat m) (Nat.ble m 9223372036854775807)=_;cases hm:Nat.ble m 9223372036854775807 with
  |true=>exact(hb m hm).1|false=>rfl
 |negSucc m=>
  show Bool.rec (motive:=λ_=>Int) (IntKind.i64.wrap (.negSucc m)) (.negSucc m) (Nat.ble m 9223372036854775807)=_;cases hm:Nat.ble m 9223372036854775807 with
  |true=>exact(hb m hm).2|false=>rfl
theorem xM(k:IntKind)(n:Int):yz k n=k.wrap n:=by
 cases k with
 |i64=>exact zOf n|u8=>cases n with
  |ofNat m=>show Int.ofNat (m % 256)=_; simp[IntKind.wrap,IntKind.signed,IntKind.bits]|negSucc m=>rfl
 |_=>rfl
theorem vW(k:IntKind)(n:Int):toU k n=(BitVec.ofInt k.bits n).toNat:=by
 rw[BitVec.toNat_ofInt];cases n with
 |ofNat m=>rfl|negSucc m=>have hp:0<2 ^ k.bits:=Nat.two_pow_pos _;have hlt:m % 2 ^ k.bits<2 ^ k.bits:=Nat.mod_lt _ hp;show 2 ^ k.bits - 1 - m % 2 ^ k.bits=_;rw[Int.negSucc_emod _ (by omega)];omega
theorem k8{op:BinOp}{k j:IntKind}{a b:Int}{c:CV}(t:TypeId)(w:World)(hk:k=j\/xD op=true)(hc:yR op k a b=some c) :
 ∃v,(binOp op t (.int k a) (.int j b)).run P w=.ok v w/\zG Y c v:=by
 cases op with
 |shl=>
  rw[binOp_shl];show ∃v,_;cases b with
  |negSucc b=>cases hc|ofNat b=>
   injection hc with hc; subst hc;refine⟨_,?_,xF _ _⟩;rw[xM]
   have:¬(Int.ofNat b<0):=by simp
   simp only[Op.shift,if_neg this,Sem.run_pure];simp
 |shr=>
  rw[binOp_shr];cases b with
  |negSucc b=>cases hc|ofNat b=>
   have:¬(Int.ofNat b<0):=by simp
   cases a with
   |ofNat a=>
    injection hc with hc; subst hc;refine⟨_,?_,vA _ _⟩;simp only[Op.shift,if_neg this,Sem.run_pure];have e:(Int.ofNat a).fdiv (2 ^ min (Int.ofNat b).toNat k.bits)=Int.ofNat (a / 2 ^ min b k.bits):=by
     have:=Int.ofNat_fdiv a (2 ^ min b k.bits)
     simp only[Int.ofNat_eq_natCast,Int.toNat_natCast];rw[this]; push_cast; rfl
    rw[e]; rfl
   |negSucc a=>injection hc with hc; subst hc;refine⟨_,?_,xF _ _⟩;simp only[Op.shift,if_neg this,Sem.run_pure];simp
 |quo=>
  rcases hk with rfl |hk
  . rw[binOp_quo];unfold Op.intDiv;have hc':Bool.rec (motive:=λ_=>Option CV) (some (mkInt k (yz k (a.tdiv b)))) none (zm b (.ofNat 0))=some c:=hc;rw[zX]at hc';by_cases h0:b=0
    . subst h0; simp at hc'
    . have:decide (b=Int.ofNat 0)=false:=by simpa using h0
      rw[this]at hc';injection hc' with hc'; subst hc';refine⟨_,?_,xF _ _⟩;rw[if_neg h0,xM,Sem.run_pure]
  . cases hk
 |rem=>
  rcases hk with rfl |hk
  . rw[binOp_rem];unfold Op.intDiv;have hc':Bool.rec (motive:=λ_=>Option CV) (some (mkInt k (a.tmod b))) none (zm b (.ofNat 0))=some c:=hc;rw[zX]at hc';by_cases h0:b=0
    . subst h0; simp at hc'
    . have:decide (b=Int.ofNat 0)=false:=by simpa using h0
      rw[this]at hc';injection hc' with hc'; subst hc';refine⟨_,?_,xF _ _⟩;rw[if_neg h0,Sem.run_pure]
  . cases hk
 |add=>
  rcases hk with rfl |hk
  . injection hc with hc; subst hc;exact⟨_,by rw[binOp_add,Op.intArith,Sem.run_pure,xM]; rfl,xF _ _⟩
  . cases hk
 |sub=>
  rcases hk with rfl |hk
  . injection hc with hc; subst hc;exact⟨_,by rw[binOp_sub,Op.intArith,Sem.run_pure,xM]; rfl,xF _ _⟩
  . cases hk
 |mul=>
  rcases hk with rfl |hk
  . injection hc with hc; subst hc;exact⟨_,by rw[binOp_mul,Op.intArith,Sem.run_pure,xM]; rfl,xF _ _⟩
  . cases hk
 |and=>
  rcases hk with rfl |hk
  . injection hc with hc; subst hc;refine⟨_,?_,xF _ _⟩;rw[binOp_and,Op.intBits,Sem.run_pure,xM,BitVec.toNat_and,vW,vW]; rfl
  . cases hk
 |or=>
  rcases hk with rfl |hk
  . injection hc with hc; subst hc;refine⟨_,?_,xF _ _⟩;rw[binOp_or,Op.intBits,Sem.run_pure,xM,BitVec.toNat_or,vW,vW]; rfl
  . cases hk
 |xor=>
  rcases hk with rfl |hk
  . injection hc with hc; subst hc;refine⟨_,?_,xF _ _⟩;rw[binOp_xor,Op.intBits,Sem.run_pure,xM,BitVec.toNat_xor,vW,vW]; rfl
  . cases hk
 |andNot=>
  rcases hk with rfl |hk
  . injection hc with hc; subst hc;refine⟨_,?_,xF _ _⟩;rw[binOp_andNot,Op.intBits,Sem.run_pure,xM,BitVec.toNat_and,BitVec.toNat_not,vW,vW]; rfl
  . cases hk
 |eql=>
  rcases hk with rfl |hk
  . injection hc with hc; subst hc;refine⟨_,by rw[binOp_eql,Sem.run_pure],zL.2 ?_⟩;rw[zX]; rfl
  . cases hk
 |neq=>
  rcases hk with rfl |hk
  . injection hc with hc; subst hc;refine⟨_,by rw[binOp_neq,Sem.run_pure],zL.2 ?_⟩;rw[zX,vt]; rfl
  . cases hk
 |lss=>
  rcases hk with rfl |hk
  . injection hc with hc; subst hc;refine⟨_,by rw[binOp_lss,Sem.run_pure],zL.2 ?_⟩;rw[ql]
  . cases hk
 |leq=>
  rcases hk with rfl |hk
  . injection hc with hc; subst hc;refine⟨_,by rw[binOp_leq,Sem.run_pure],zL.2 ?_⟩;rw[ql,vt]; exact zFi (by simp)
  . cases hk
 |gtr=>
  rcases hk with rfl |hk
  . injection hc with hc; subst hc;refine⟨_,by rw[binOp_gtr,Sem.run_pure],zL.2 ?_⟩;rw[ql]
  . cases hk
 |geq=>
  rcases hk with rfl |hk
  . injection hc with hc; subst hc;refine⟨_,by rw[binOp_geq,Sem.run_pure],zL.2 ?_⟩;rw[ql,vt]; exact zFi (by simp)
  . cases hk
theorem zLV{n:Nat}{c:CV}(h:okN n=some c):n<=9223372036854775807/\c=kM n:=by
 have h':Bool.rec (motive:=λ_=>Option CV) none (some (kM n)) (Nat.ble n 9223372036854775807)=some c:=h;cases hb:Nat.ble n 9223372036854775807 with
 |false=>rw[hb]at h'; cases h'|true=>rw[hb]at h'; injection h' with h'; exact⟨zH hb,h'.symm⟩
theorem zBJ{n:Nat}(h:n<=9223372036854775807):IntKind.i64.wrap (n:Int)=(n:Int):=by simp only[IntKind.wrap,IntKind.signed,IntKind.bits]; simp; omega
theorem zQ9{op:BinOp}{a b:Nat}{c:CV}(t:TypeId)(w:World)(hc:zIJ op a b=some c) :
 ∃v,(binOp op t (.int .i64 (Int.ofNat a)) (.int .i64 (Int.ofNat b))).run P w=.ok v w/\zG Y c v:=by
 cases op with
 |add=>
  obtain⟨h1,rfl⟩:=zLV (n:=a+b) hc;refine⟨_,?_,xx _⟩;rw[binOp_add,Op.intArith,Sem.run_pure]
  have:=zBJ h1
  simp only[Int.ofNat_eq_natCast]at *
  rw[<- Int.natCast_add,this]
 |sub=>
  have hc':Bool.rec (motive:=λ_=>Option CV) none (Bool.rec (motive:=λ_=>Option CV) none (some (kM (Nat.sub a b))) (Nat.ble a 9223372036854775807)) (Nat.ble b a)=some c:=hc;cases h1:Nat.ble b a with
  |false=>rw[h1]at hc'; cases hc'|true=>cases h2:Nat.ble a 9223372036854775807 with
   |false=>rw[h1,h2]at hc'; cases hc'|true=>
    rw[h1,h2]at hc';injection hc' with hc'; subst hc';have h1:=zH h1;have h2:=zH h2;refine⟨_,?_,xx _⟩;rw[binOp_sub,Op.intArith,Sem.run_pure]
    have:=zBJ (n:=a - b) (by omega)
    simp only[Int.ofNat_eq_natCast]at *
    rw[<- Int.natCast_sub h1,this]; rfl
 |mul=>
  obtain⟨h1,rfl⟩:=zLV (n:=a*b) hc;refine⟨_,?_,xx _⟩;rw[binOp_mul,Op.intArith,Sem.run_pure]
  have:=zBJ h1
  simp only[Int.ofNat_eq_natCast]at *
  rw[<- Int.natCast_mul,this]
 |and=>
  have hc':Bool.rec (motive:=λ_=>Option CV) none (Bool.rec (motive:=λ_=>Option CV) none (some (kM (Nat.land a b))) (Nat.ble b 9223372036854775807)) (Nat.ble a 9223372036854775807)=some c:=hc;cases h1:Nat.ble a 9223372036854775807 with
  |false=>rw[h1]at hc'; cases hc'|true=>cases h2:Nat.ble b 9223372036854775807 with
   |false=>rw[h1,h2]at hc'; cases hc'|true=>
    rw[h1,h2]at hc';injection hc' with hc'; subst hc';have h1:=zH h1;have h2:=zH h2;refine⟨_,?_,xx _⟩;rw[binOp_and,Op.intBits,Sem.run_pure,BitVec.toNat_and,<- vW,<- vW];have e:∀{m:Nat},m<=9223372036854775807->toU .i64 (Int.ofNat m)=m:=λ{m} hm=>Nat.mod_eq_of_lt (show m<2 ^ 64 by omega);rw[e h1,e h2]
    have:(a &&& b)<=9223372036854775807:=Nat.le_trans Nat.and_le_left h1
    rw[zBJ this]; rfl
 |eql=>injection hc with hc; subst hc; exact⟨_,by rw[binOp_eql,Sem.run_pure],zL.2 (zFi (by simp; omega))⟩
 |neq=>injection hc with hc; subst hc; exact⟨_,by rw[binOp_neq,Sem.run_pure],zL.2 (by rw[vt]; exact zFi (by have:=@Nat.beq_eq a b; cases hb:Nat.beq a b <;> simp_all <;> omega))⟩
 |lss=>injection hc with hc; subst hc; exact⟨_,by rw[binOp_lss,Sem.run_pure],zL.2 (zFi (by simp; omega))⟩
 |leq=>injection hc with hc; subst hc; exact⟨_,by rw[binOp_leq,Sem.run_pure],zL.2 (zFi (by simp))⟩
 |gtr=>injection hc with hc; subst hc; exact⟨_,by rw[binOp_gtr,Sem.run_pure],zL.2 (zFi (by simp; omega))⟩
 |geq=>injection hc with hc; subst hc; exact⟨_,by rw[binOp_geq,Sem.run_pure],zL.2 (zFi (by simp))⟩
 |_=>cases hc
theorem xu(b:ByteArray):(zy b).length=b.size:=by unfold zy; rw[List.length_map]; rfl
theorem zXX{a b:List UInt8}(h:a.map UInt8.toNat=b.map UInt8.toNat):a=b:=by
 induction a generalizing b with
 |nil=>cases b with
  |nil=>rfl|cons y b=>cases h
 |cons x a ih=>cases b with
  |nil=>cases h|cons y b=>simp only[List.map_cons,List.cons.injEq]at h;rw[UInt8.toNat_inj.1 h.1,ih h.2]
theorem qX(a b:ByteArray):qY (zy a) (zy b)=(a.toList == b.toList):=by
 rw[kr,ByteArray.toList_eq,ByteArray.toList_eq,Bool.eq_iff_iff];simp only[decide_eq_true_eq,beq_iff_eq];constructor
 . exact zXX
 . intro e; unfold zy; rw[e]
theorem zJK(a b:List UInt8):zBn (a.map UInt8.toNat) (b.map UInt8.toNat)=Op.bytesLess a b:=by
 induction a generalizing b with
 |nil=>cases b <;> rfl|cons x a ih=>cases b with
  |nil=>rfl|cons y b=>
   show Bool.rec (motive:=λ_=>Bool) (Bool.rec (motive:=λ_=>Bool) false (zBn (a.map UInt8.toNat) (b.map UInt8.toNat)) (Nat.beq x.toNat y.toNat)) true (Nat.ble (Nat.succ x.toNat) y.toNat)=_;rw[Op.bytesLess,ih];by_cases h1:x<y
   . have:Nat.ble (Nat.succ x.toNat) y.toNat=true:=Nat.ble_eq_true_of_le (UInt8.lt_iff_toNat_lt.1 h1)
     rw[this]; simp[h1]
   . have hn:Nat.ble (Nat.succ x.toNat) y.toNat=false:=by
      cases hb:Nat.ble (Nat.succ x.toNat) y.toNat with
      |false=>rfl|true=>exact absurd (UInt8.lt_iff_toNat_lt.2 (zH hb)) h1
     rw[hn];by_cases h2:x=y
     . subst h2; simp
     . have:Nat.beq x.toNat y.toNat=false:=vG λe=>h2 (UInt8.toNat_inj.1 e)
       rw[this]; simp[h1,h2]
theorem wV(a b:ByteArray):zBn (zy a) (zy b)=Op.bytesLess a.toList b.toList:=by rw[ByteArray.toList_eq,ByteArray.toList_eq]; exact zJK _ _
theorem zIm(a b:ByteArray):zy (a++b)=zy a++zy b:=by obtain⟨⟨x⟩⟩:=a;obtain⟨⟨y⟩⟩:=b;rw[ByteArray.mk_append_mk];simp[zy]
theorem ul{op:BinOp}{a b:ByteArray}{c:CV}(t:TypeId)(w:World)(hc:zUQ op (zy a) (zy b)=some c) :
 ∃v,(binOp op t (.string a) (.string b)).run P w=.ok v w/\zG Y c v:=by
 have hb:binOp op t (.string a) (.string b)=Op.stringOp op a b:=by cases op <;> simp[binOp]
 rw[hb];cases op with
 |add=>
  have hc':Bool.rec (motive:=λ_=>Option CV) none (some (.str (zXR (zy a) (zy b)))) (Nat.ble (Nat.add (zDF (zy a)) (zDF (zy b))) 1000000)=some c:=hc;cases h1:Nat.ble (Nat.add (zDF (zy a)) (zDF (zy b))) 1000000 with
  |false=>rw[h1]at hc'; cases hc'|true=>rw[h1]at hc';injection hc' with hc'; subst hc';have h1:=zH h1;rw[zAi,zAi,xu,xu]at h1;have h1:a.size+b.size<=1000000:=h1;exact⟨_,run_string_add_sum w a b (by omega),zg.2 ⟨_,rfl,by rw[zVk,zIm]⟩⟩
 |eql=>injection hc with hc; subst hc; exact⟨_,by rw[Op.stringOp]; rfl,zL.2 (by rw[qX])⟩
 |neq=>injection hc with hc; subst hc; exact⟨_,by rw[Op.stringOp]; rfl,zL.2 (by rw[vt,qX])⟩
 |lss=>injection hc with hc; subst hc; exact⟨_,by rw[Op.stringOp]; rfl,zL.2 (by rw[wV])⟩
 |leq=>injection hc with hc; subst hc; exact⟨_,by rw[Op.stringOp]; rfl,zL.2 (by rw[qX,wV])⟩
 |gtr=>injection hc with hc; subst hc; exact⟨_,by rw[Op.stringOp]; rfl,zL.2 (by rw[vt,qX,wV])⟩
 |geq=>injection hc with hc; subst hc; exact⟨_,by rw[Op.stringOp]; rfl,zL.2 (by rw[vt,wV])⟩
 |_=>cases hc
end
end Go.Ev
namespace Go.Ev
variable[Sym]
noncomputable section
variable{P:Program}{Y:Psi}{es:List CV}{tm:Tm}{h:zC}{n:Key}{U:Operand->Value}{E:Env}{ty:TypeId}{w:World}
theorem jO{op:BinOp}{t:TypeId}{x y:Operand}{c:TypeId}{v:Value}(hg:eqGuard op t x y (U x) (U y)=pure ())(hr:(binOp op t (U x) (U y)).run P w=.ok v w) :
 (execOp U (qM (.binOp op t x y c) ty)).run P w=.ok (.value v) w:=by
 simp[execOp,hg,hr]
def Has(Y:Psi):OR->Value->Prop
 |.val c,v=>zG Y c v|.fork a b,v=>Has Y a v\/Has Y b v|_,_=>False
theorem zLa{o:Op}{x:Value}(hv:kz P U o ty w w x){r:OR}(hh:Has Y r x):zD P Y h n U o ty w r:=by
 induction r with
 |val c=>exact⟨x,hv,hh⟩|fork a b iha ihb=>exact λ_=>Or.imp (λq=>iha q) (λq=>ihb q) hh
 |_=>exact False.elim hh
theorem zBB{k:IntKind}{m:Nat}{v:Value}(hv:zG Y (j6 k m) v):v=.int k (Int.ofNat m):=by cases k <;> first |exact zf.1 hv |(cases m <;> exact zT.1 hv)
theorem jL{k:IntKind}{m:Int}{v:Value}(hv:zG Y (mkInt k m) v):v=.int k m:=by
 cases m with
 |ofNat m=>cases m <;> exact zBB hv|negSucc m=>cases m <;> exact zf.1 hv
theorem zQP(b:Bool):Has Y wT (.bool b):=by
 cases b
 . exact .inr (zL.2 rfl)
 . exact .inl (zL.2 rfl)
theorem zHH(k:IntKind){j:Nat}:∀{m:Nat},j<=m->Has Y (zOP k m) (.int k (Int.ofNat j))
 | 0,hj=>by
  obtain rfl:j=0:=by omega
  exact vA k 0
 |m+1,hj=>by
  by_cases e:j=m+1
  . subst e; exact .inr (vA k (m+1))
  . exact .inl (zHH k (m:=m) (by omega))
theorem zGW(k:IntKind){z:Int}:∀{m:Nat},z.natAbs<=m->Has Y (zN1 k m) (.int k z)
 | 0,hj=>by
  obtain rfl:z=0:=by omega
  exact vA k 0
 |m+1,hj=>by
  by_cases e:z.natAbs=m+1
  . refine .inr ?_;cases z with
    |ofNat p=>
     obtain rfl:p=m+1:=by simpa using e
     exact .inl (vA k (m+1))
    |negSucc p=>
     obtain rfl:p=m:=by simpa [Int.natAbs_negSucc]using e
     exact .inr (zf.2 rfl)
  . exact .inl (zGW k (m:=m) (by omega))
theorem wG{op:BinOp}{k j:IntKind}{a b:Int}{c:CV}{t:TypeId}{x y:Operand}{m:TypeId}{r:OR}(hx:U x=.int k a)(hy:U y=.int j b)
 (hk:k=j\/xD op=true) (hc:yR op k a b=some c) (hr:∀v,zG Y c v->Has Y r v):zD P Y h n U (.binOp op t x y m) ty w r:=by
 obtain⟨v,h1,h2⟩:=k8 (P:=P) (Y:=Y) t w hk hc;exact zLa (zR (jO (by rw[hx]; exact eqGuard_at_int _ _ _ _ _ _ _) (by rw[hx,hy]; exact h1))) (hr v h2)
theorem uy{k:IntKind}{m:Int}:∀v,zG Y (mkInt k m) v->Has Y (.val (.anyi k)) v:=λ_ hv=>yo.2 ⟨_,jL hv⟩
theorem zU5{b:Bool}:∀v,zG Y (.bool b) v->Has Y wT v:=λv hv=>by rw[zL]at hv; subst hv; exact zQP b
theorem zAh{op:BinOp}{j k:IntKind}{a b:Int}{t:TypeId}{x y:Operand}{c:TypeId}(hx:U x=.int j a)(hy:U y=.int k b) :
 zD P Y h n U (.binOp op t x y c) ty w (jd op j k):=by
 refine zJ (C:=zD P Y h n U (.binOp op t x y c) ty w) _ _ _ (zA _) λhk=>?_;rw[yj]at hk;have hk:j=k:=by simpa using hk
 subst hk;cases op <;> first |exact zA _ |exact wG hx hy (.inl rfl) rfl uy |exact wG hx hy (.inl rfl) rfl zU5
theorem zHu{k:IntKind}{a:Int}{m:Nat}(hm:m<=127):∃j,j<=m/\yz k (.ofNat (Nat.land (toU k a) (toU k (.ofNat m))))=.ofNat j:=by
 have h1:toU k (.ofNat m)=m:=by show m % 2 ^ k.bits=m;exact Nat.mod_eq_of_lt (by cases k <;> simp[IntKind.bits] <;> omega)
 refine⟨Nat.land (toU k a) m,Nat.and_le_right,?_⟩;rw[h1,xM];have h2:Nat.land (toU k a) m<=127:=Nat.le_trans Nat.and_le_right hm;generalize Nat.land (toU k a) m=q at h2;cases k <;> simp[IntKind.wrap,IntKind.signed,IntKind.bits] <;> omega
theorem zCr{a:Int}{m:Nat}:(a.tmod (.ofNat (m+1))).natAbs<=m:=by
 have:=Int.natAbs_tmod a (.ofNat (m+1))
 have h2:(Int.ofNat (m+1)).natAbs=m+1:=rfl;rw[this,h2]
 have:=Nat.mod_lt a.natAbs (show 0<m+1 by omega)
 omega
theorem zOS{op:BinOp}{k j:IntKind}{a b:Int}{t:TypeId}{x y:Operand}{c:TypeId}(hx:U x=.int k a)(hy:U y=.int j b)(hk:k=j\/xD op=true) :
 zD P Y h n U (.binOp op t x y c) ty w (zHN op k b):=by
 have plain:∀op',op=op'->xD op'=false->zD P Y h n U (.binOp op t x y c) ty w (jd op' k k):=by
  intro op' e hs;subst e;rcases hk with rfl |hk
  . exact zAh hx hy
  . rw[hs]at hk; cases hk
 have eqk:xD op=false->k=j:=λhs=>hk.resolve_right (by rw[hs]; simp);cases op <;> first
  |exact plain _ rfl rfl
  |skip
 case quo=>
  obtain rfl:=eqk rfl;cases b with
  |ofNat m=>
   cases m with
   |zero=>exact zA _|succ m=>refine wG hx hy (.inl rfl) (c:=mkInt k (yz k (a.tdiv (.ofNat (m+1))))) ?_ uy;show Bool.rec (motive:=λ_=>Option CV) (some (mkInt k (yz k (a.tdiv (.ofNat (m+1)))))) none (zm (.ofNat (m+1)) (.ofNat 0))=_;rw[zX,decide_eq_false (by intro h; injection h with h; cases h)]
  |negSucc m=>refine wG hx hy (.inl rfl) (c:=mkInt k (yz k (a.tdiv (.negSucc m)))) ?_ uy;show Bool.rec (motive:=λ_=>Option CV) (some (mkInt k (yz k (a.tdiv (.negSucc m))))) none (zm (.negSucc m) (.ofNat 0))=_;rw[zX,decide_eq_false (by intro h; cases h)]
 case rem=>
  obtain rfl:=eqk rfl;cases b with
  |negSucc m=>exact zA _|ofNat m=>
   cases m with
   |zero=>exact zA _|succ m=>
    refine zJ (C:=zD P Y h n U (.binOp .rem t x y c) ty w) _ _ _ (zA _) λhm=>?_;have hc:yR .rem k a (.ofNat (m+1))=some (mkInt k (a.tmod (.ofNat (m+1)))):=by show Bool.rec (motive:=λ_=>Option CV) (some (mkInt k (a.tmod (.ofNat (m+1))))) none (zm (.ofNat (m+1)) (.ofNat 0))=_;rw[zX,decide_eq_false (by intro h; injection h with h; cases h)]
    refine wG hx hy (.inl rfl) hc λv hv=>?_;have hv:=jL hv;subst hv;have hs:=zCr (a:=a) (m:=m);split
    . exact zGW k hs
    . exact yo.2 ⟨_,rfl⟩
 case and=>
  obtain rfl:=eqk rfl;cases b with
  |negSucc m=>exact wG hx hy (.inl rfl) rfl uy|ofNat m=>refine zJ (C:=zD P Y h n U (.binOp .and t x y c) ty w) _ _ _ (zA _) λhm=>?_;obtain⟨q,h1,h2⟩:=zHu (k:=k) (a:=a) (zH hm);refine wG hx hy (.inl rfl) rfl λv hv=>?_;rw[h2]at hv;rw[jL hv];exact zHH k h1
 case shl=>
  cases b with
  |negSucc m=>exact zA _|ofNat m=>exact wG hx hy hk rfl uy
 case shr=>
  cases b with
  |negSucc m=>exact zA _|ofNat m=>
   cases a with
   |ofNat a=>exact wG hx hy hk rfl λv hv=>yo.2 ⟨_,zBB hv⟩
   |negSucc a=>exact wG hx hy hk rfl uy
theorem zSg{op:BinOp}{k j:IntKind}{a b:Int}{c:CV}{t:TypeId}{x y:Operand}{m:TypeId}(hx:U x=.int k a)(hy:U y=.int j b)
 (hk:k=j\/xD op=true) (hc:yR op k a b=some c):zD P Y h n U (.binOp op t x y m) ty w (.val c):=by
 obtain⟨v,h1,h2⟩:=k8 (P:=P) (Y:=Y) t w hk hc;exact⟨v,zR (jO (by rw[hx]; exact eqGuard_at_int _ _ _ _ _ _ _) (by rw[hx,hy]; exact h1)),h2⟩
def zX6[Sym](P:Program):Prop:=
 (∀op x y l,Sym.bin op x y=some l->∀(Y:Psi) t u v w,zG Y x u->zG Y y v->((∃k m,u=.int k m)\/∃b,u=.string b)/\∃z,(binOp op t u v).run P w=.ok z w/\∃c∈l,zG Y c z) /\
 (∀k x l,Sym.cv k x=some l->∀(Y:Psi) u,zG Y x u->∃j m,u=.int j m/\∃c∈l,zG Y c (.int k (k.wrap m)))
class SymFact(P:Program):Prop where
 ok:zX6 P
 inn:∀k ks,Sym.inn k ks=true->∀(Y:Psi) v vs,zG Y k v->zP Y ks vs->v∈vs
 mx:∀a b c,Sym.mx a b=some c->∀(Y:Psi) u v,zG Y a u->zG Y b v->∃x y,u=.int .i64 x/\v=.int .i64 y/\zG Y c (.int .i64 (max x y))
 srt:∀l m,Sym.srt l=some m->∀(Y:Psi) vs,zP Y l vs->∃zs:List Int,vs=zs.map (Value.int .i64)/\zP Y m ((zs.mergeSort λa b=>decide (a<=b)).map (Value.int .i64))
theorem zJm{v:Value}:∀{l:List CV} {d c:CV},c∈d::l->zG Y c v->Has Y (forkL d l) v
 | [],d,c,hc,hv=>by
  obtain rfl:c=d:=by simpa using hc
  exact hv
 |e::l,d,c,hc,hv=>by
  rcases List.mem_cons.1 hc with rfl |hc
  . exact .inl hv
  . exact .inr (zJm hc hv)
theorem zLJ{v:Value}{o:Option (List CV)}{l:List CV}{c:CV}{e:Nat}(ho:o=some l)(hc:c∈l)(hv:zG Y c v):Has Y (zV8 o e) v:=by
 subst ho;cases l with
 |nil=>cases hc|cons d l=>exact zJm hc hv
theorem zOq{op:BinOp}{t:TypeId}{x y:Operand}{m:TypeId}{u v:CV}(hx:zG Y u (U x))(hy:zG Y v (U y)) :
 zD P Y h n U (.binOp op t x y m) ty w (zN2 op u v):=by
 have two:∀(k:IntKind) (a:Int),U x=.int k a->zD P Y h n U (.binOp op t x y m) ty w
  (zUL v (λj b=>yv (kEq k j || xD op) (zFy (yR op k a b) 117) 118) (λj=>jd op j k) 119):=by
  intro k a hx;have known:∀(j:IntKind) (b:Int),U y=.int j b->zD P Y h n U (.binOp op t x y m) ty w (yv (kEq k j || xD op) (zFy (yR op k a b) 117) 118):=by intro j b hy;refine zJ (C:=zD P Y h n U (.binOp op t x y m) ty w) _ _ _ (zA _) λhk=>?_;refine jQ (C:=zD P Y h n U (.binOp op t x y m) ty w) _ _ (zA _) λc hc=>?_;refine zSg hx hy ?_ hc;rw[yj]at hk;simpa using hk
  refine ko (C:=zD P Y h n U (.binOp op t x y m) ty w) _ _ _ _ (zA _) (λb hv=>?_) (λj b hv=>?_) (λj hv=>?_)
  . rw[hv,zT]at hy; exact known _ _ hy
  . rw[hv,zf]at hy; exact known _ _ hy
  . rw[hv,yo]at hy; obtain⟨b,hy⟩:=hy;by_cases e:j=k
    . subst e; exact zAh hx hy
    . unfold jd; rw[yj,decide_eq_false e]; exact zA _
 refine zJD (C:=zD P Y h n U (.binOp op t x y m) ty w) _ _ _ _ _ (zA _) (λa hu=>?_) (λk a hu=>?_) (λk hu=>?_) (λs hu=>?_)
 . rw[hu,zT]at hx; exact two _ _ hx
 . rw[hu,zf]at hx; exact two _ _ hx
 . rw[hu,yo]at hx; obtain⟨a,hx⟩:=hx;have any:∀(j:IntKind) (b:Int),U y=.int j b->zD P Y h n U (.binOp op t x y m) ty w (jd op j k):=by
    intro j b hy;by_cases e:j=k
    . subst e; exact zAh hx hy
    . unfold jd; rw[yj,decide_eq_false e]; exact zA _
   have right:∀(j:IntKind) (b:Int),U y=.int j b->zD P Y h n U (.binOp op t x y m) ty w (yv (kEq k j || xD op) (zHN op k b) 118):=by intro j b hy;refine zJ (C:=zD P Y h n U (.binOp op t x y m) ty w) _ _ _ (zA _) λhk=>?_;refine zOS hx hy ?_;rw[yj]at hk;simpa using hk
   refine ko (C:=zD P Y h n U (.binOp op t x y m) ty w) _ _ _ _ (zA _) (λb hv=>?_) (λj b hv=>?_) (λj hv=>?_)
   . rw[hv,zT]at hy; exact right _ _ hy
   . rw[hv,zf]at hy; exact right _ _ hy
   . rw[hv,yo]at hy; obtain⟨b,hy⟩:=hy; exact any _ _ hy
 . rw[hu,zg]at hx; obtain⟨a,hx,rfl⟩:=hx;refine yP (C:=zD P Y h n U (.binOp op t x y m) ty w) _ _ _ (zA _) λl hl=>?_;rw[hl,zg]at hy; obtain⟨b,hy,rfl⟩:=hy;refine jQ (C:=zD P Y h n U (.binOp op t x y m) ty w) _ _ (zA _) λc hc=>?_;obtain⟨v,h1,h2⟩:=ul (P:=P) (Y:=Y) t w hc;exact⟨v,zR (jO (by rw[hx]; exact eqGuard_at_string _ _ _ _ _ _) (by rw[hx,hy]; exact h1)),h2⟩
theorem zOY[SymFact P]{op:BinOp}{t:TypeId}{x y:Operand}{m:TypeId}{u v:CV}(hx:zG Y u (U x))(hy:zG Y v (U y)) :
 zD P Y h n U (.binOp op t x y m) ty w (wA op u v):=by
 unfold wA;split
 . rename_i a m';rw[zT]at hx;rw[wX]at hy;obtain⟨b,hy,hle⟩:=hy;have hg:eqGuard op t x y (U x) (U y)=pure ():=by rw[hx]; exact eqGuard_at_int _ _ _ _ _ _ _
   have hv:∀{c:Bool},(binOp op t (U x) (U y)).run P w=.ok (.bool c) w->kz P U (.binOp op t x y m) ty w w (.bool c):=λh=>zR (jO hg h);have hf:∀{c:Bool},(binOp op t (U x) (U y)).run P w=.ok (.bool c) w->zD P Y h n U (.binOp op t x y m) ty w wT:=by
    intro c hc _;cases c
    . exact .inr ⟨_,hv hc,zL.2 rfl⟩
    . exact .inl ⟨_,hv hc,zL.2 rfl⟩
   cases op <;> first |exact zA _ |skip
   . -- <
     have hr:(binOp .lss t (U x) (U y)).run P w=.ok (.bool (decide ((a:Int)<b))) w:=by rw[hx,hy]; simp[binOp,Op.intCmp]
     show zD P Y h n U _ ty w (ifB (Nat.ble (Nat.succ a) m') _ _);rw[jx];split
     . rename_i hb
       have:=zH hb
       exact⟨_,hv hr,zL.2 (by rw[decide_eq_true (by omega)])⟩
     . exact hf hr
   . -- <=
     have hr:(binOp .leq t (U x) (U y)).run P w=.ok (.bool (decide ((a:Int)<=b))) w:=by rw[hx,hy]; simp[binOp,Op.intCmp]
     show zD P Y h n U _ ty w (ifB (Nat.ble a m') _ _);rw[jx];split
     . rename_i hb
       have:=zH hb
       exact⟨_,hv hr,zL.2 (by rw[decide_eq_true (by omega)])⟩
     . exact hf hr
   . -- >
     have hr:(binOp .gtr t (U x) (U y)).run P w=.ok (.bool (decide ((b:Int)<a))) w:=by rw[hx,hy]; simp[binOp,Op.intCmp]
     show zD P Y h n U _ ty w (ifB (Nat.ble a m') _ _);rw[jx];split
     . rename_i hb
       have:=zH hb
       exact⟨_,hv hr,zL.2 (by rw[decide_eq_false (by omega)])⟩
     . exact hf hr
   . -- >=
     have hr:(binOp .geq t (U x) (U y)).run P w=.ok (.bool (decide ((b:Int)<=a))) w:=by rw[hx,hy]; simp[binOp,Op.intCmp]
     show zD P Y h n U _ ty w (ifB (Nat.ble (Nat.succ a) m') _ _);rw[jx];split
     . rename_i hb
       have:=zH hb
       exact⟨_,hv hr,zL.2 (by rw[decide_eq_false (by omega)])⟩
     . exact hf hr
 split
 . cases hb:Sym.bin op u v with
   |none=>exact zA _|some l=>
    obtain⟨h1,z,h2,c,h3,h4⟩:=(SymFact.ok (P:=P)).1 op u v l hb Y t _ _ w hx hy;refine zLa (zR (jO ?_ h2)) (zLJ rfl h3 h4);rcases h1 with⟨k,q,e⟩ |⟨b,e⟩ <;> rw[e]
    . exact eqGuard_at_int _ _ _ _ _ _ _
    . exact eqGuard_at_string _ _ _ _ _ _
 . exact zOq hx hy
theorem zIT[SymFact P]{op:BinOp}{t:TypeId}{x y:Operand}{m:TypeId}{c d:zY}(hx:zG Y (aV es tm c) (U x))(hy:zG Y (aV es tm d) (U y)) :
 zD P Y h n U (.binOp op t x y m) ty w (yX P (.arith op c d) es tm h n):=by
 show zD P Y h n U (.binOp op t x y m) ty w (zR5 (aV es tm c) (λa=>zR5 (aV es tm d) (λb=>zOM op a b (aV es tm c) (aV es tm d)) (wA op (aV es tm c) (aV es tm d))) (wA op (aV es tm c) (aV es tm d)));have gen:=zOY (P:=P) (h:=h) (n:=n) (op:=op) (t:=t) (m:=m) (ty:=ty) (w:=w) hx hy;cases hc:aV es tm c <;> try (rw[hc]at gen; exact gen)
 case nat a=>
  rw[hc]at gen;cases hd:aV es tm d <;> try (rw[hd]at gen; exact gen)
  case nat b=>
   rw[hd]at gen;rw[hc,zT]at hx;rw[hd,zT]at hy;show zD P Y h n U (.binOp op t x y m) ty w (Option.rec (motive:=λ_=>BinOp->CV->CV->OR) (λop x y=>wA op x y) (λv _ _ _=>.val v) (zIJ op a b) op (.nat a) (.nat b));cases ho:zIJ op a b with
   |none=>exact gen|some v=>obtain⟨v',h1,h2⟩:=zQ9 (P:=P) (Y:=Y) t w ho;exact⟨v',zR (jO (by rw[hx]; exact eqGuard_at_int _ _ _ _ _ _ _) (by rw[hx,hy]; exact h1)),h2⟩
theorem zCe(P:Program)[SymFact P]{a b:CV}{u v:Value}{r:Bool}(ha:zG Y a u)(hb:zG Y b v)(hr:zAT a b=some r):∃j p q,u=.int j p/\v=.int j q/\r=(p == q):=by
 unfold zAT at hr;split at hr
 . rename_i l r1 r2 hc he1 he2;injection hr with hr; subst hr;obtain⟨k,m,rfl,_⟩:=(SymFact.ok (P:=P)).2 _ _ _ hc Y u ha;obtain⟨_,z1,hz1,c1,hc1,hr1⟩:=(SymFact.ok (P:=P)).1 _ _ _ _ he1 Y 0 _ v default ha hb;obtain⟨_,z2,hz2,c2,hc2,hr2⟩:=(SymFact.ok (P:=P)).1 _ _ _ _ he2 Y 0 _ v default ha hb;obtain rfl:c1=.bool r1:=by simpa using hc1
   obtain rfl:c2=.bool r2:=by simpa using hc2
   rw[zL.1 hr1]at hz1;rw[zL.1 hr2]at hz2;cases v with
   |int j n=>
    by_cases ej:k=j
    . subst ej;have hz1:decide (m<=n)=r1:=by simpa [binOp,Op.intCmp]using hz1
      have hz2:decide (n<=m)=r2:=by simpa [binOp,Op.intCmp]using hz2
      refine⟨_,_,_,rfl,rfl,?_⟩;rw[<- hz1,<- hz2,Bool.eq_iff_iff,Bool.and_eq_true,decide_eq_true_eq,decide_eq_true_eq,beq_iff_eq];omega
    . simp[binOp,ej]at hz1
   |_=>simp[binOp]at hz1
 . cases hr
theorem vc(P:Program)[SymFact P]{k:EqK}{x y:CV}{b:Bool}{u v:Value}(hx:zG Y x u)(hy:zG Y y v)(hc:zAH k x y=some b) :
 (k=.bool/\∃p q,u=.bool p/\v=.bool q/\b=(p == q))\/(k=.int/\∃j p q,u=.int j p/\v=.int j q/\b=(p == q)) \/
 (k=.str/\∃p q,u=.string p/\v=.string q/\b=(p == q)):=by
 unfold zAH at hc;split at hc
 . injection hc with hc; rw[zL]at hx hy; exact .inl ⟨rfl,_,_,hx,hy,hc.symm⟩
 . injection hc with hc; rw[zT]at hx hy;refine .inr (.inl ⟨rfl,_,_,_,hx,hy,?_⟩);subst hc; rename_i a b; have:=@Nat.beq_eq a b; cases hb:Nat.beq a b <;> simp_all <;> omega
 . rw[zf]at hx hy;rename_i k a j b';cases hk:kEq k j with
   |false=>rw[hk]at hc; cases hc|true=>
    rw[hk]at hc; injection hc with hc;rw[yj]at hk;have hk:k=j:=by simpa using hk
    subst hk;refine .inr (.inl ⟨rfl,_,_,_,hx,hy,?_⟩);rw[<- hc,zX]; rfl
 . injection hc with hc; rw[zT]at hx; rw[zf]at hy;refine .inr (.inl ⟨rfl,_,_,_,hx,hy,?_⟩);subst hc; rename_i a b; simp only[Int.negSucc_eq]; symm; simp only[beq_eq_false_iff_ne,ne_eq]; simp; omega
 . injection hc with hc; rw[zT]at hy; rw[zf]at hx;refine .inr (.inl ⟨rfl,_,_,_,hx,hy,?_⟩);subst hc; rename_i a b; simp only[Int.negSucc_eq]; symm; simp only[beq_eq_false_iff_ne,ne_eq]; simp; omega
 . injection hc with hc; rw[zg]at hx hy;obtain⟨p,hx,rfl⟩:=hx;obtain⟨q,hy,rfl⟩:=hy;refine .inr (.inr ⟨rfl,_,_,hx,hy,?_⟩);rw[<- hc,qX,beq_toListBytes]
 . exact .inr (.inl ⟨rfl,zCe P hx hy hc⟩)
 . exact .inr (.inl ⟨rfl,zCe P hx hy hc⟩)
 . exact .inr (.inl ⟨rfl,zCe P hx hy hc⟩)
 . cases hc
end
end Go.Ev
namespace Go.Ev
variable[Sym]
noncomputable section
variable{P:Program}{Y:Psi}{es:List CV}{tm:Tm}{h:zC}{n:Key}{U:Operand->Value}{E:Env}{ty:TypeId}{w:World}
variable[SymFact P]
theorem qA{t:TypeId}{cs:Array Value}{off:Nat}{v:Value}(ha:qd P t=some false)(hv:cs[off]? = some v)(w:World):(part t cs off).run P w=.ok v w:=by simp[part,jS ha,hv]
theorem zJ2{t:TypeId}{cs:Array Value}{off s:Nat}(ha:qd P t=some true)(hs:qR P t=some s)(w:World) :
 (part t cs off).run P w=.ok (.agg (cs.extract off (off+s))) w:=by
 simp[part,jS ha,yl hs]
theorem zOp{t:TypeId}(ht:P.underlying t=some .bool):qd P t=some false:=by unfold qd; rw[ht]
theorem zBK{t:TypeId}{k:IntKind}(ht:P.underlying t=some (.int k)):qd P t=some false:=by unfold qd; rw[ht]
theorem zKz{t:TypeId}(ht:P.underlying t=some .string):qd P t=some false:=by unfold qd; rw[ht]
theorem zC6{xs ys:List CV}{us vs:Array Value}(hx:zP Y xs us.toList)(hy:zP Y ys vs.toList)(d:Nat)(w:World) :
 ∀(fs:List Field) {l:List (Nat × EqK)} {b:Bool},w4 P fs=some l->eqFields xs ys l=some b->(Op.eqFields (d+1) us vs fs).run P w=.ok b w
 | [],l,b,hl,hb=>by injection hl with hl; subst hl;injection hb with hb; subst hb;rfl
 |f::fs,l,b,hl,hb=>by
  unfold w4 at hl;split at hl
  . cases hl
  . rename_i hname;have hname:f.name ≠ "_":=by simpa using hname
    cases hr:w4 P fs with
    |none=>rw[hr]at hl; cases hl|some r=>
     simp only[hr]at hl;have one:∀{k:EqK},qd P f.type=some false->l=(f.offset,k)::r ->
      (∀{x y:CV} {u v:Value} {c:Bool},zG Y x u->zG Y y v->zAH k x y=some c->(Op.equalIn (d+1) f.type u v).run P w=.ok c w) ->
      (Op.eqFields (d+1) us vs (f::fs)).run P w=.ok b w:=by
      intro k ha hl hk;subst hl;unfold eqFields at hb;rw[qp,qp]at hb;cases h1:xs[f.offset]? with
      |none=>rw[h1]at hb; cases hb|some x=>cases h2:ys[f.offset]? with
       |none=>rw[h1,h2]at hb; cases hb|some y=>
        simp only[h1,h2]at hb;obtain⟨u,hu,hxu⟩:=hx.get h1;obtain⟨v,hv,hyv⟩:=hy.get h2;have hu:us[f.offset]? = some u:=by simpa using hu
        have hv:vs[f.offset]? = some v:=by simpa using hv
        cases hc:zAH k x y with
        |none=>simp only[hc]at hb; cases hb|some c=>
         simp only[hc]at hb;have he:=hk hxu hyv hc;cases c with
         |false=>injection hb with hb; subst hb;simp[Op.eqFields,hname,qA ha hu,qA ha hv,he]
         |true=>
          have:=zC6 hx hy d w fs hr hb
          simp[Op.eqFields,hname,qA ha hu,qA ha hv,he,this]
     unfold und at hl;split at hl
     . rename_i ht;injection hl with hl;refine one (zOp ht) hl.symm λhx hy hc=>?_;rcases vc P hx hy hc with⟨_,p,q,rfl,rfl,rfl⟩ |⟨e,_⟩ |⟨e,_⟩
       . exact run_equalIn_bool' w d _ p q ht
       . cases e
       . cases e
     . rename_i k ht;injection hl with hl;refine one (zBK ht) hl.symm λhx hy hc=>?_;rcases vc P hx hy hc with⟨e,_⟩ |⟨_,j,p,q,rfl,rfl,rfl⟩ |⟨e,_⟩
       . cases e
       . exact run_equalIn_int w d _ j k p q ht
       . cases e
     . rename_i ht;injection hl with hl;refine one (zKz ht) hl.symm λhx hy hc=>?_;rcases vc P hx hy hc with⟨e,_⟩ |⟨e,_⟩ |⟨_,p,q,rfl,rfl,rfl⟩
       . cases e
       . cases e
       . rw[run_equalIn_string w d _ p q ht,beq_toListBytes]
     . cases hl
theorem zDV{x:Operand}(h:xi x=true):∃v,x=.const v:=by cases x <;> first |exact⟨_,rfl⟩ |cases h
section
variable{t e e' D:TypeId}{a:Addr}{v:Value}{n1 n2 m1 m2 r:Nat}{f:Fn}{xs ys:Array Value}(d:Nat)(w:World)
theorem zTm(ht:P.underlying t=some (.pointer e)):(Op.equalIn (d+1) t (.pointer none) (.pointer none)).run P w=.ok true w:=by rw[Op.equalIn,Sem.run_bind,run_underlying ht,Result.andThen_ok]; rfl
theorem zUg(ht:P.underlying t=some (.pointer e)):(Op.equalIn (d+1) t (.pointer none) (.pointer (some a))).run P w=.ok false w:=by rw[Op.equalIn,Sem.run_bind,run_underlying ht,Result.andThen_ok]; rfl
theorem zTt(ht:P.underlying t=some (.pointer e)):(Op.equalIn (d+1) t (.pointer (some a)) (.pointer none)).run P w=.ok false w:=by rw[Op.equalIn,Sem.run_bind,run_underlying ht,Result.andThen_ok]; rfl
theorem zTE{ms}(ht:P.underlying t=some (.interface ms)):(Op.equalIn (d+1) t .nilIface .nilIface).run P w=.ok true w:=by rw[Op.equalIn,Sem.run_bind,run_underlying ht,Result.andThen_ok]; rfl
theorem zUx{ms}(ht:P.underlying t=some (.interface ms)):(Op.equalIn (d+1) t .nilIface (.iface D v)).run P w=.ok false w:=by rw[Op.equalIn,Sem.run_bind,run_underlying ht,Result.andThen_ok]; rfl
theorem zTY{ms}(ht:P.underlying t=some (.interface ms)):(Op.equalIn (d+1) t (.iface D v) .nilIface).run P w=.ok false w:=by rw[Op.equalIn,Sem.run_bind,run_underlying ht,Result.andThen_ok]; rfl
theorem zWq(ht:P.underlying t=some (.slice e)):(Op.equalIn (d+1) t (.slice none n1 m1) (.slice none n2 m2)).run P w=.ok true w:=by rw[Op.equalIn,Sem.run_bind,run_underlying ht,Result.andThen_ok]; rfl
theorem zWd(ht:P.underlying t=some (.slice e)):(Op.equalIn (d+1) t (.slice none n1 m1) (.slice (some a) n2 m2)).run P w=.ok false w:=by rw[Op.equalIn,Sem.run_bind,run_underlying ht,Result.andThen_ok]; rfl
theorem zU2(ht:P.underlying t=some (.slice e)):(Op.equalIn (d+1) t (.slice (some a) n1 m1) (.slice none n2 m2)).run P w=.ok false w:=by rw[Op.equalIn,Sem.run_bind,run_underlying ht,Result.andThen_ok]; rfl
theorem zSI(ht:P.underlying t=some (.map e e')):(Op.equalIn (d+1) t (.map none) (.map none)).run P w=.ok true w:=by rw[Op.equalIn,Sem.run_bind,run_underlying ht,Result.andThen_ok]; rfl
theorem zUX(ht:P.underlying t=some (.map e e')):(Op.equalIn (d+1) t (.map none) (.map (some r))).run P w=.ok false w:=by rw[Op.equalIn,Sem.run_bind,run_underlying ht,Result.andThen_ok]; rfl
theorem zSO(ht:P.underlying t=some (.map e e')):(Op.equalIn (d+1) t (.map (some r)) (.map none)).run P w=.ok false w:=by rw[Op.equalIn,Sem.run_bind,run_underlying ht,Result.andThen_ok]; rfl
theorem zWl{fa fb fc}(ht:P.underlying t=some (.func fa fb fc)):(Op.equalIn (d+1) t .nilFunc .nilFunc).run P w=.ok true w:=by rw[Op.equalIn,Sem.run_bind,run_underlying ht,Result.andThen_ok]; rfl
theorem zVJ{fa fb fc}(ht:P.underlying t=some (.func fa fb fc)):(Op.equalIn (d+1) t .nilFunc (.func f xs ys)).run P w=.ok false w:=by rw[Op.equalIn,Sem.run_bind,run_underlying ht,Result.andThen_ok]; rfl
theorem zVK{fa fb fc}(ht:P.underlying t=some (.func fa fb fc)):(Op.equalIn (d+1) t (.func f xs ys) .nilFunc).run P w=.ok false w:=by rw[Op.equalIn,Sem.run_bind,run_underlying ht,Result.andThen_ok]; rfl
end
theorem zXl{t:TypeId}{x y:Operand}{k:EqK}{u v:CV}{b:Bool}(op:BinOp)(hk:zKO P t=some k)(hx:zG Y u (U x))(hy:zG Y v (U y))
 (hc:eqC k (xi x || xi y) u v=some b) (hop:op=.eql\/op=.neq) (w:World) :
 (eqGuard op t x y (U x) (U y)).run P w=.ok () w/\(Op.equal t (U x) (U y)).run P w=.ok b w /\
   (∀k' a j c,¬(U x=.int k' a/\U y=.int j c))/\(∀s r,¬(U x=.string s/\U y=.string r))/\(∀s c,U x≠.float s c)/\(∀s c d,U x≠.complex s c d):=by
 obtain⟨dd,hd⟩:∃dd,∀a b,Op.equal t a b=Op.equalIn (dd+1+1) t a b:=⟨9998,λ_ _=>rfl⟩
 unfold zKO und at hk;split at hk
 . rename_i ht;injection hk with hk; subst hk;rcases vc P hx hy hc with⟨_,p,q,h1,h2,rfl⟩ |⟨e,_⟩ |⟨e,_⟩
   . rw[h1,h2,hd];exact⟨by rw[eqGuard_at_bool]; rfl,run_equalIn_bool' w _ _ p q ht,by simp,by simp,by simp,by simp⟩
   . cases e
   . cases e
 . rename_i e ht;injection hk with hk; subst hk;unfold eqC at hc;simp only at hc;split at hc
   . injection hc with hc; subst hc;rw[xv]at hx hy;rw[hx,hy,hd];exact⟨by rw[eqGuard_at_pointer]; rfl,zTm _ w ht,by simp,by simp,by simp,by simp⟩
   . injection hc with hc; subst hc;rw[xv]at hx;rw[zx]at hy;obtain⟨p,_,hy⟩:=hy;rw[hx,hy,hd];exact⟨by rw[eqGuard_at_pointer]; rfl,zUg _ w ht,by simp,by simp,by simp,by simp⟩
   . injection hc with hc; subst hc;rw[xv]at hy;rw[zx]at hx;obtain⟨p,_,hx⟩:=hx;rw[hx,hy,hd];exact⟨by rw[eqGuard_at_pointer]; rfl,zTt _ w ht,by simp,by simp,by simp,by simp⟩
   . cases hc
 . rename_i ms ht;injection hk with hk; subst hk;unfold eqC at hc;simp only at hc;split at hc
   . split at hc
     . rename_i hcst;injection hc with hc; subst hc;rw[yu]at hx hy;rw[hx,hy,hd];refine⟨?_,zTE _ w ht,by simp,by simp,by simp,by simp⟩;rcases Bool.or_eq_true_iff.1 hcst with h1 |h1
       . obtain⟨c,rfl⟩:=zDV h1;rw[eqGuard_nil_constL]; rfl
       . obtain⟨c,rfl⟩:=zDV h1;rw[eqGuard_nil_constR]; rfl
     . cases hc
   . injection hc with hc; subst hc;rw[yu]at hx;rw[yr]at hy;obtain⟨p,hy,_⟩:=hy;rw[hx,hy,hd];exact⟨by rw[eqGuard_nil_iface]; rfl,zUx _ w ht,by simp,by simp,by simp,by simp⟩
   . injection hc with hc; subst hc;rw[yu]at hy;rw[yr]at hx;obtain⟨p,hx,_⟩:=hx;rw[hx,hy,hd];exact⟨by rw[eqGuard_at_iface]; rfl,zTY _ w ht,by simp,by simp,by simp,by simp⟩
   . cases hc
 . rename_i e ht;injection hk with hk; subst hk;unfold eqC at hc;simp only at hc;split at hc
   . injection hc with hc; subst hc;rw[yD]at hx hy;rw[hx,hy,hd];exact⟨by rw[eqGuard_at_slice]; rfl,zWq _ w ht,by simp,by simp,by simp,by simp⟩
   . injection hc with hc; subst hc;rw[yD]at hx;rw[yJ]at hy;obtain⟨p,_,_,_,hy,_⟩:=hy;rw[hx,hy,hd];exact⟨by rw[eqGuard_at_slice]; rfl,zWd _ w ht,by simp,by simp,by simp,by simp⟩
   . injection hc with hc; subst hc;rw[yD]at hy;rw[yJ]at hx;obtain⟨p,_,_,_,hx,_⟩:=hx;rw[hx,hy,hd];exact⟨by rw[eqGuard_at_slice]; rfl,zU2 _ w ht,by simp,by simp,by simp,by simp⟩
   . cases hc
 . rename_i e e' ht;injection hk with hk; subst hk;unfold eqC at hc;simp only at hc;split at hc
   . injection hc with hc; subst hc;rw[yg]at hx hy;rw[hx,hy,hd];exact⟨by rw[eqGuard_at_map]; rfl,zSI _ w ht,by simp,by simp,by simp,by simp⟩
   . injection hc with hc; subst hc;rw[yg]at hx;rw[xC]at hy;obtain⟨p,_,hy⟩:=hy;rw[hx,hy,hd];exact⟨by rw[eqGuard_at_map]; rfl,zUX _ w ht,by simp,by simp,by simp,by simp⟩
   . injection hc with hc; subst hc;rw[yg]at hy;rw[xC]at hx;obtain⟨p,_,hx⟩:=hx;rw[hx,hy,hd];exact⟨by rw[eqGuard_at_map]; rfl,zSO _ w ht,by simp,by simp,by simp,by simp⟩
   . cases hc
 . rename_i a1 a2 a3 ht;injection hk with hk; subst hk;unfold eqC at hc;simp only at hc;split at hc
   . injection hc with hc; subst hc;rw[xY]at hx hy;rw[hx,hy,hd];exact⟨by rw[eqGuard_at_nilFunc]; rfl,zWl _ w ht,by simp,by simp,by simp,by simp⟩
   . injection hc with hc; subst hc;rw[xY]at hx;rw[xW]at hy;obtain⟨_,_,hy,_⟩:=hy;rw[hx,hy,hd];exact⟨by rw[eqGuard_at_nilFunc]; rfl,zVJ _ w ht,by simp,by simp,by simp,by simp⟩
   . injection hc with hc; subst hc;rw[xY]at hy;rw[xW]at hx;obtain⟨_,_,hx,_⟩:=hx;rw[hx,hy,hd];exact⟨by rw[eqGuard_at_func]; rfl,zVK _ w ht,by simp,by simp,by simp,by simp⟩
   . cases hc
 . rename_i fs ht;split at hk
   . cases hk
   . rename_i hg;rw[Bool.not_eq_true,Bool.or_eq_false_iff]at hg;cases hf:w4 P fs.toList with
     |none=>rw[hf]at hk; cases hk|some l=>
      rw[hf]at hk;injection hk with hk; subst hk;unfold eqC at hc;simp only at hc;split at hc
      . rw[yx]at hx hy;obtain⟨us,h1,hx⟩:=hx;obtain⟨vs,h2,hy⟩:=hy;have hfo:P.fieldsOf t=fs:=by unfold Program.fieldsOf; rw[ht]
        rw[h1,h2,hd];refine⟨run_eqGuard_agg w op t x y us vs hg.1,?_,by simp,by simp,by simp,by simp⟩;rw[run_equalIn_struct w (dd+1) t us vs (by rw[hfo]; exact ht) hg.2,hfo];exact zC6 hx hy dd w fs.toList hf hc
      . cases hc
 . cases hk
theorem zU0{t:TypeId}{u v:Value}{b:Bool}(w:World)(he:(Op.equal t u v).run P w=.ok b w)(h1:∀k' a j c,¬(u=.int k' a/\v=.int j c))(h2:∀s r,¬(u=.string s/\v=.string r))
 (h3:∀s c,u≠.float s c) (h4:∀s c d,u≠.complex s c d):(binOp .eql t u v).run P w=.ok (.bool b) w/\(binOp .neq t u v).run P w=.ok (.bool (!b)) w:=by
 have e1:binOp .eql t u v=(do pure (.bool (<- Op.equal t u v))):=by unfold binOp;split <;> first |rfl |exact absurd ⟨rfl,rfl⟩ (h1 _ _ _ _) |exact absurd ⟨rfl,rfl⟩ (h2 _ _) |exact absurd rfl (h3 _ _) |exact absurd rfl (h4 _ _ _) |(simp_all; done)
 have e2:binOp .neq t u v=(do pure (.bool (!(<- Op.equal t u v)))):=by unfold binOp;split <;> first |rfl |exact absurd ⟨rfl,rfl⟩ (h1 _ _ _ _) |exact absurd ⟨rfl,rfl⟩ (h2 _ _) |exact absurd rfl (h3 _ _) |exact absurd rfl (h4 _ _ _) |(simp_all; done)
 rw[e1,e2];simp[he]
def zC9(v:Value):CV:=match v with
 |.int k n=>.int k n|_=>.any
theorem zQZ{v:Value}:zG Y (zC9 v) v:=by
 unfold zC9;split
 . exact zf.2 rfl
 . exact xo
theorem zCB:∀{l:List Value},zP Y (l.map zC9) l
 | []=>zM.2 rfl|v::l=>zW.2 ⟨zQZ,zCB⟩
theorem zJW{x:CV}{k:IntKind}{v:Value}(h:zPZ x=some k)(hx:zG Y x v):∃n,v=.int k n:=by
 unfold zPZ at h;split at h
 . injection h with h; subst h; exact⟨_,zT.1 hx⟩
 . injection h with h; subst h; exact⟨_,zf.1 hx⟩
 . injection h with h; subst h; exact yo.1 hx
 . cases h
theorem zBq{xs ys:List CV}{us vs:List Value}(hx:zP Y xs us)(hy:zP Y ys vs):∀{fs:List (Nat × EqK)},zBA xs ys fs=true->∃b,eqFields (us.map zC9) (vs.map zC9) fs=some b
 | [],_=>⟨true,rfl⟩
 |(o,k)::r,h=>by
  unfold zBA at h;rw[Bool.and_eq_true,Bool.and_eq_true]at h;obtain⟨⟨h1,h2⟩,h3⟩:=h;split at h1
  . split at h2
    . rename_i x y hxo hyo;split at h2
      . rename_i a b ha hb;rw[yj,decide_eq_true_eq]at h2;subst h2;rw[qp]at hxo hyo;obtain⟨u,hu,hu2⟩:=hx.get hxo;obtain⟨v,hv,hv2⟩:=hy.get hyo;obtain⟨n,rfl⟩:=zJW ha hu2;obtain⟨q,rfl⟩:=zJW hb hv2;obtain⟨b',hb'⟩:=zBq hx hy h3;have e1:zA6 (us.map zC9) o=some (.int a n):=by rw[qp,List.getElem?_map,hu]; rfl
        have e2:zA6 (vs.map zC9) o=some (.int a q):=by rw[qp,List.getElem?_map,hv]; rfl
        have e3:zAH .int (.int a n) (.int a q)=some (zm n q):=by
         have hk:kEq a a=true:=by rw[yj]; simp
         show(match kEq a a with |true=>some (zm n q) |false=>none)=some (zm n q);rw[hk]
        show ∃b,eqFields _ _ ((o,.int)::r)=some b;unfold eqFields;rw[e1,e2];simp only;rw[e3];cases zm n q with
        |true=>exact⟨b',hb'⟩|false=>exact⟨false,rfl⟩
      . cases h2
    . cases h2
  . cases h1
theorem zNZ{k:EqK}{x y:CV}{u v:Value}(cst:Bool)(h:zJh k x y=true)(hx:zG Y x u)(hy:zG Y y v):∃c d b,zG Y c u/\zG Y d v/\eqC k cst c d=some b:=by
 unfold zJh at h;split at h
 . rename_i fs xs ys;rw[yx]at hx hy;obtain⟨us,rfl,hx⟩:=hx;obtain⟨vs,rfl,hy⟩:=hy;obtain⟨b,hb⟩:=zBq hx hy h;exact⟨.agg (us.toList.map zC9),.agg (vs.toList.map zC9),b,yx.2 ⟨us,rfl,zCB⟩,yx.2 ⟨vs,rfl,zCB⟩,hb⟩
 . cases h
theorem zTh{neg:Bool}{t:TypeId}{x y:Operand}{k:EqK}{m:TypeId}{c d:zY}(hk:zKO P t=some k)(hx:zG Y (aV es tm c) (U x))(hy:zG Y (aV es tm d) (U y)) :
 zD P Y h n U (.binOp (match neg with |true=>.neq |false=>.eql) t x y m) ty w (yX P (.eq neg k (xi x || xi y) c d) es tm h n):=by
 show zD P Y h n U _ ty w (match eqC k (xi x || xi y) (aV es tm c) (aV es tm d)with
  |some b=>.val (.bool (xor neg b))|none=>match zJh k (aV es tm c) (aV es tm d)with
   |true=>wT|false=>.err 123)
 have key:∀{c' d':CV} {b:Bool},zG Y c' (U x)->zG Y d' (U y)->eqC k (xi x || xi y) c' d'=some b ->
  kz P U (.binOp (match neg with |true=>.neq |false=>.eql) t x y m) ty w w (.bool (xor neg b)):=by
  intro c' d' b hx hy hc;obtain⟨h1,h2,h3,h4,h5,h6⟩:=zXl (match neg with |true=>.neq |false=>.eql) hk hx hy hc (by cases neg <;> simp) w;obtain⟨e1,e2⟩:=zU0 w h2 h3 h4 h5 h6;cases neg with
  |false=>
   have e:(xor false b)=b:=by cases b <;> rfl
   rw[e];refine zR ?_;have h1:=h1;simp only at h1;simp[execOp,h1,e1]
  |true=>
   have e:(xor true b) = !b:=by cases b <;> rfl
   rw[e];refine zR ?_;have h1:=h1;simp only at h1;simp[execOp,h1,e2]
 cases hc:eqC k (xi x || xi y) (aV es tm c) (aV es tm d)with
 |none=>
  cases ha:zJh k (aV es tm c) (aV es tm d)with
  |false=>exact zA _|true=>
   obtain⟨c',d',b,h1,h2,h3⟩:=zNZ (xi x || xi y) ha hx hy;have hv:=key h1 h2 h3;show zD P Y h n U _ ty w wT;intro _;cases hx:xor neg b with
   |true=>rw[hx]at hv; exact .inl ⟨_,hv,zL.2 rfl⟩|false=>rw[hx]at hv; exact .inr ⟨_,hv,zL.2 rfl⟩
 |some b=>exact⟨_,key hx hy hc,zL.2 rfl⟩
theorem zRQ(op:BinOp)(t:TypeId)(x y:Operand)(m:TypeId)(ha:yG P Y es tm E U [x,y]) :
 zD P Y h n U (.binOp op t x y m) ty w (yX P (zj P E (.binOp op t x y m)) es tm h n):=by
 rw[zj];unfold zQk;split
 . exact xK (C:=zD P Y h n U (.binOp op t x y m) ty w) zA λc d hc hd=>zIT (ha x (by simp) c hc) (ha y (by simp) d hd)
 . exact xK (C:=zD P Y h n U (.binOp op t x y m) ty w) zA λc d hc hd=>zIT (ha x (by simp) c hc) (ha y (by simp) d hd)
 . split
   . rename_i k hk;exact xK (C:=zD P Y h n U (.binOp .eql t x y m) ty w) zA λc d hc hd=>zTh (neg:=false) hk (ha x (by simp) c hc) (ha y (by simp) d hd)
   . rename_i k hk;exact xK (C:=zD P Y h n U (.binOp .neq t x y m) ty w) zA λc d hc hd=>zTh (neg:=true) hk (ha x (by simp) c hc) (ha y (by simp) d hd)
   . exact zA _
end
end Go.Ev
namespace Go.Ev
variable[Sym]
noncomputable section
variable{P:Program}{Y:Psi}{es:List CV}{tm:Tm}{h:zC}{n:Key}{U:Operand->Value}{E:Env}{ty:TypeId}{w:World}
variable[SymFact P]
theorem zUe(op:UnOp)(t:TypeId)(x:Operand)(ha:yG P Y es tm E U [x]):zD P Y h n U (.unOp op t x) ty w (yX P (zj P E (.unOp op t x)) es tm h n):=by
 refine zu (C:=zD P Y h n U (.unOp op t x) ty w) zA λc hc=>?_;have hx:=ha x (by simp) c hc;cases op with
 |neg=>
  have main:∀k m,U x=.int k m->zD P Y h n U (.unOp .neg t x) ty w (.val (mkInt k (yz k (Int.sub (.ofNat 0) m)))):=by intro k m e;refine⟨_,zR ?_,xF _ _⟩;simp only[execOp,e,Op.unary,Op.intArith,xM];rfl
  refine zAw (C:=zD P Y h n U (.unOp .neg t x) ty w) _ _ _ (zA _) (λm hm=>?_) (λk m hm=>?_)
  . rw[hm,zT]at hx; exact main _ _ hx
  . rw[hm,zf]at hx; exact main _ _ hx
 |xor=>
  have main:∀k m,U x=.int k m->zD P Y h n U (.unOp .xor t x) ty w (zFy (zXd k (if k.signed then -1 else k.max) m) 125):=by intro k m e;refine⟨_,zR ?_,xF _ _⟩;simp only[execOp,e,Op.unary,Op.intBits,xM,vW];simp only[Sem.run_bind,Sem.run_pure,Result.andThen_ok,BitVec.toNat_xor];rfl
  refine zAw (C:=zD P Y h n U (.unOp .xor t x) ty w) _ _ _ (zA _) (λm hm=>?_) (λk m hm=>?_)
  . rw[hm,zT]at hx; exact main _ _ hx
  . rw[hm,zf]at hx; exact main _ _ hx
 |not=>refine uD (C:=zD P Y h n U (.unOp .not t x) ty w) _ _ _ (zA _) λb hb=>?_;rw[hb,zL]at hx;exact⟨.bool (!b),zR (by simp[execOp,hx,Op.unary]),zL.2 (by rw[vt])⟩
 |plus=>exact zA _
theorem zDa(t:TypeId)(x:Operand)(ha:yG P Y es tm E U [x]):zD P Y h n U (.makeInterface t x) ty w (yX P (zj P E (.makeInterface t x)) es tm h n):=by
 rw[zj];unfold und;split
 . exact zA _
 . rename_i d hd ht;refine zu (C:=zD P Y h n U (.makeInterface t x) ty w) zA λc hc=>⟨.iface t (U x),zR ?_,yr.2 ⟨_,rfl,ha x (by simp) c hc⟩⟩
   simp only[execOp,Instr.makeInterface,Sem.run_bind,run_underlying ht,Result.andThen_ok];cases d <;> first |rfl |exact absurd ht (hd _)
 . exact zA _
theorem zKL(fn:Fn)(a b:Array Operand)(ha:yG P Y es tm E U (a.toList++b.toList)):zD P Y h n U (.makeFunc fn a b) ty w (yX P (zj P E (.makeFunc fn a b)) es tm h n):=by
 rw[zj];split
 . rename_i a' b' h1 h2;refine⟨.func fn (a.map U) (b.map U),zR ?_,xW.2 ⟨_,_,rfl,?_,?_⟩⟩
   . simp[execOp,Instr.makeFunc]
   . rw[Array.toList_map]; exact wU _ (ha.sub λy hy=>by simp; exact .inl (by simpa using hy)) h1
   . rw[Array.toList_map]; exact wU _ (ha.sub λy hy=>by simp; exact .inr (by simpa using hy)) h2
 . exact zA _
theorem zHM(t:TypeId)(r:Option Operand):zj P E (.makeMap t r)=(match und P t,r with
 |some (.map _ _),none=>.mkmap|some (.map _ _),some (.const (.int _ _))=>.mkmap|_,_=>.bad 28):=rfl
theorem zL1(t:TypeId)(r:Option Operand)(hU:∀v,U (.const v)=v):zD P Y h n U (.makeMap t r) ty w (yX P (zj P E (.makeMap t r)) es tm h n):=by
 have main:(∀v,r.map U=some v->∃k m,v=.int k m)->(∃a b,P.underlying t=some (.map a b))->zD P Y h n U (.makeMap t r) ty w (yX P .mkmap es tm h n):=by
  intro hr ⟨a,b,ht⟩;refine⟨_,.map (some w.heap.size),0,zR ?_,jY _ (.map #[] 0),λY' _ hn=>⟨xC.2 ⟨_,hn,rfl⟩,#[],by simp,xg.nil,vd.id 0⟩,by simp[zG0]⟩;cases r with
  |none=>simp[execOp,Instr.makeMap]|some x=>obtain⟨k,m,e⟩:=hr (U x) rfl;simp[execOp,Instr.makeMap,e,run_underlying ht,asInt,asIntOf]
 rw[zHM];unfold und;split
 . rename_i a b ht;exact main (by simp) ⟨a,b,ht⟩
 . rename_i a b k m ht;refine main (λv hv=>?_) ⟨a,b,ht⟩;simp only[Option.map_some,hU]at hv;injection hv with hv;exact⟨_,_,hv.symm⟩
 . exact zA _
theorem zLI(x:Operand)(i:Nat)(ha:yG P Y es tm E U [x]):zD P Y h n U (.extract x i) ty w (yX P (zj P E (.extract x i)) es tm h n):=by
 refine zu (C:=zD P Y h n U (.extract x i) ty w) zA λc hc=>?_;have hx:=ha x (by simp) c hc;refine zHw (C:=zD P Y h n U (.extract x i) ty w) _ _ _ (zA _) λcs hcs=>?_;refine jQ (C:=zD P Y h n U (.extract x i) ty w) _ _ (zA _) λv hv=>?_;rw[hcs,yU]at hx;obtain⟨a,hx,hr⟩:=hx;rw[qp]at hv;obtain⟨y,hy,hr⟩:=hr.get hv;have hy:a[i]? = some y:=by simpa using hy
 exact⟨y,zR (by simp[execOp,hx,Instr.extract,hy]),hr⟩
theorem zGo{a:Bool}{t:TypeId}{s:Nat}{cs:List CV}{vs:Array Value}{off:Nat}(ha:qd P t=some a)(hs:qR P t=some s)(hr:zP Y cs vs.toList)(w:World) :
 (a=false->∀v,zA6 cs off=some v->∃y,(part t vs off).run P w=.ok y w/\zG Y v y) /\
 (a=true->∀l,zAY cs off s=some l->∃y,(part t vs off).run P w=.ok y w/\zG Y (.agg l) y):=by
 constructor
 . rintro rfl v hv;rw[qp]at hv;obtain⟨y,hy,hr⟩:=hr.get hv;exact⟨y,qA ha (by simpa using hy) w,hr⟩
 . rintro rfl l hl;refine⟨_,zJ2 ha hs w,yx.2 ⟨_,rfl,?_⟩⟩;obtain⟨h1,rfl⟩:=zEr hl
   have:(vs.extract off (off+s)).toList=(vs.toList.drop off).take s:=by rw[Array.toList_extract,List.extract_eq_take_drop]; simp
   rw[this];exact(hr.drop off).take s
theorem zQQ(t:TypeId)(x:Operand)(f:Nat)(ha:yG P Y es tm E U [x]):zD P Y h n U (.field t x f) ty w (yX P (zj P E (.field t x f)) es tm h n):=by
 rw[zj];unfold und;split
 . rename_i fs ht;rw[nth_eq];split
   . rename_i fd hfd;split
     . rename_i a s h1 h2;refine zu (C:=zD P Y h n U (.field t x f) ty w) zA λc hc=>?_;have hx:=ha x (by simp) c hc;refine zAF (C:=zD P Y h n U (.field t x f) ty w) _ _ _ (zA _) λcs hcs=>?_;rw[hcs,yx]at hx;obtain⟨vs,hx,hr⟩:=hx;have hp:=zGo (off:=fd.offset) h1 h2 hr w;have run:∀y,(part fd.type vs fd.offset).run P w=.ok y w->(execOp U (qM (.field t x f) ty)).run P w=.ok (.value y) w:=by
        intro y hy;have hfd:fs[f]? = some fd:=by simpa using hfd
        simp[execOp,Instr.field,run_underlying ht,hfd,hx,asAgg,hy]
       cases a with
       |false=>refine jQ (C:=zD P Y h n U (.field t x f) ty w) _ _ (zA _) λv hv=>?_;obtain⟨y,hy,hv⟩:=hp.1 rfl v hv;exact⟨y,zR (run y hy),hv⟩
       |true=>refine vC (C:=zD P Y h n U (.field t x f) ty w) _ _ (zA _) λl hl=>?_;obtain⟨y,hy,hv⟩:=hp.2 rfl l hl;exact⟨y,zR (run y hy),hv⟩
     . exact zA _
   . exact zA _
 . exact zA _
theorem zIk(t:TypeId)(x:Operand)(f:Nat)(ha:yG P Y es tm E U [x]):zD P Y h n U (.fieldAddr t x f) ty w (yX P (zj P E (.fieldAddr t x f)) es tm h n):=by
 rw[zj];unfold und;split
 . rename_i fs ht;rw[nth_eq];split
   . rename_i fd hfd;split
     . rename_i s h1;refine zu (C:=zD P Y h n U (.fieldAddr t x f) ty w) zA λc hc=>?_;have hx:=ha x (by simp) c hc;refine xU (C:=zD P Y h n U (.fieldAddr t x f) ty w) _ _ _ (zA _) λb off hv=>?_;show zD P Y h n U _ ty w (vP _ _);rw[zw];rw[hv,zx]at hx;obtain⟨p,hp,hx⟩:=hx;have hfd:fs[f]? = some fd:=by simpa using hfd
       refine⟨.pointer (some ⟨p.blk,p.off+(off+fd.offset),none⟩),zR ?_,zx.2 ⟨p,hp,rfl⟩⟩;simp[execOp,Instr.fieldAt,run_underlying ht,hfd,hx,Instr.sureAddr,fieldPlace,yl h1,xf,Nat.add_assoc]
     . exact zA _
   . exact zA _
 . exact zA _
end
end Go.Ev
namespace Go.Ev
variable[Sym]
noncomputable section
variable{P:Program}{Y:Psi}{es:List CV}{tm:Tm}{h:zC}{n:Key}{U:Operand->Value}{E:Env}{ty:TypeId}{w:World}
variable[SymFact P]
theorem zEE(P:Program)[SymFact P]{Y:Psi}{a:CV}{u:Value}(w:World)(ha:zG Y a u):zG Y (zL6 a) u:=by
 unfold zL6;split
 . rename_i j;split
   . rename_i k hk;split
     . rename_i hs;unfold zAT at hs;split at hs
       . rename_i l r1 r2 hc he1 he2;injection hs with hs;obtain⟨k',m,rfl,_⟩:=(SymFact.ok (P:=P)).2 _ _ _ hc Y u ha;obtain⟨_,z1,hz1,c1,hc1,hr1⟩:=(SymFact.ok (P:=P)).1 _ _ _ _ he1 Y 0 _ (.int .i64 k) w ha (zT.2 rfl);obtain⟨_,z2,hz2,c2,hc2,hr2⟩:=(SymFact.ok (P:=P)).1 _ _ _ _ he2 Y 0 _ (.int .i64 k) w ha (zT.2 rfl);obtain rfl:c1=.bool r1:=by simpa using hc1
         obtain rfl:c2=.bool r2:=by simpa using hc2
         rw[zL.1 hr1]at hz1;rw[zL.1 hr2]at hz2;rw[Bool.and_eq_true]at hs;obtain⟨rfl,rfl⟩:=hs;by_cases ej:k'=.i64
         . subst ej;have hz1:m<=k:=by simpa [binOp,Op.intCmp]using hz1
           have hz2:k<=m:=by simpa [binOp,Op.intCmp]using hz2
           obtain rfl:m=(k:Int):=by omega
           exact zT.2 rfl
         . simp[binOp,ej]at hz1
       . cases hs
     . exact ha
   . exact ha
 . exact ha
theorem zNa(P:Program)[SymFact P]{Y:Psi}{a:CV}{u:Value}(w:World)(ha:zG Y a u):zG Y (zXt a) u:=by
 unfold zXt;split
 . rename_i i t;split
   . rename_i k hk;split
     . rename_i s hs;rw[kE]at ha;obtain⟨m,b,h1,rfl,h3⟩:=ha;have h4:=zEE P w (Y:=Y) (a:=.sym ⟨.i64,0,[(i,1)]⟩) (u:=.int .i64 m) (by rw[zp,h1]);rw[hk,zT]at h4;injection h4 with _ h4;have h4:m=k:=Int.ofNat.inj h4;subst h4;rw[nth_eq,h3]at hs;injection hs with hs;exact zg.2 ⟨b,rfl,hs⟩
     . exact ha
   . exact ha
 . exact ha
theorem zAv{c:CV}{v:Value}(hx:zG Y c v){i:Nat}(hc:c=.nat i\/∃k,c=.int k (.ofNat i)):∃k,v=.int k (Int.ofNat i):=by
 rcases hc with rfl |⟨k,rfl⟩
 . exact⟨_,zT.1 hx⟩
 . exact⟨_,zf.1 hx⟩
theorem yf{C:OR->Prop}(v:CV)(k:Nat->OR)(e:Nat)(he:C (.err e))(hk:∀i,(v=.nat i\/∃j,v=.int j (.ofNat i))->C (k i)):C (ue v k e):=
 zOc v k e he (λi h=>hk i (.inl h)) (λj i h=>hk i (.inr ⟨j,h⟩))
theorem jJ:∀{a b:List (Nat × Int)},j9 a b=true->a=b
 | [],[],_=>rfl| [],_::_,h=>by cases h|_::_,[],h=>by cases h|(i,x)::l,(j,y)::m,h=>by unfold j9 at h;rw[Bool.and_eq_true,Bool.and_eq_true,zX,decide_eq_true_eq]at h;rw[ze h.1.1,h.1.2,jJ h.2]
theorem zBy{a b:SE}(h:zMK a b=true):a=b:=by unfold zMK at h;rw[Bool.and_eq_true,Bool.and_eq_true,yj,zX,decide_eq_true_eq,decide_eq_true_eq]at h;obtain⟨k1,c1,l1⟩:=a;obtain⟨k2,c2,l2⟩:=b;simp only at h;rw[h.1.1,h.1.2,jJ h.2]
theorem zGr{C:OR->Prop}{esz:Nat}{b:Key}{off len:Nat}{v:CV}{z:OR}(hz:C z)
 (hk:∀i m,v=.sym ⟨.i64,0,[(i,1)]⟩->esz=1->Sym.bin .geq (.sym ⟨.i64,0,[(i,1)]⟩) (.nat 0)=some [.bool true]->Sym.bin .leq (.sym ⟨.i64,0,[(i,1)]⟩) (.nat (Nat.sub len 1))=some [.bool true]->len=m+1->C (.val (.elt b off i m))):C (zUG esz b off len v z):=by
 unfold zUG;split
 . rename_i e;split
   . rename_i i a hl;split
     . rename_i h1 h2 h3;simp only[Bool.and_eq_true,yj,zX,decide_eq_true_eq]at h1;obtain⟨⟨⟨q1,q2⟩,q3⟩,q4⟩:=h1;obtain⟨ek,ec,el⟩:=e;simp only at q1 q2 hl;subst q1 q2 q3 hl;exact hk _ _ rfl (ze q4) h2 h3 rfl
     . exact hz
   . exact hz
 . exact hz
theorem zIg(t:TypeId)(x i:Operand)(ha:yG P Y es tm E U [x,i]):zD P Y h n U (.indexAddr t x i) ty w (yX P (zj P E (.indexAddr t x i)) es tm h n):=by
 rw[zj];unfold und;split
 . rename_i len e ht;split
   . rename_i s hs;refine xK (C:=zD P Y h n U (.indexAddr t x i) ty w) zA λc d hc hd=>?_;have hx:=ha x (by simp) c hc;have hi:=ha i (by simp) d hd;refine xU (C:=zD P Y h n U (.indexAddr t x i) ty w) _ _ _ (zA _) λb off hv=>?_;refine yf (C:=zD P Y h n U (.indexAddr t x i) ty w) _ _ _ (zA _) λj hj=>?_;refine zJ (C:=zD P Y h n U (.indexAddr t x i) ty w) _ _ _ (zA _) λhlt=>?_;rw[zw];have hlt:j<len:=zH hlt;obtain⟨k,hi⟩:=zAv hi hj;rw[hv,zx]at hx;obtain⟨p,hp,hx⟩:=hx;refine⟨.pointer (some ⟨p.blk,p.off+(off+j*s),none⟩),zR ?_,zx.2 ⟨p,hp,rfl⟩⟩;have h1:(0:Int)<=Int.ofNat j/\Int.ofNat j<(len:Int):=by simp; omega
     simp[execOp,Instr.indexAt,hi,hx,asIntOf,run_underlying ht,Instr.sureAddr,hlt,yl hs,xf,Nat.add_assoc]
   . exact zA _
 . rename_i e ht;split
   . rename_i s hs;refine xK (C:=zD P Y h n U (.indexAddr t x i) ty w) zA λc d hc hd=>?_;have hx:=ha x (by simp) c hc;have hi:=ha i (by simp) d hd;refine qy (C:=zD P Y h n U (.indexAddr t x i) ty w) _ _ _ ?_ λb s0 e0 n0 hv=>?_
     case refine_2=>
      rw[hv,qW]at hx;obtain⟨_,base,len,cap,iv,hx,hn,he,hoff⟩:=hx;unfold zSK;split
      . rename_i j hj;split
        . rename_i hq;rw[Bool.and_eq_true]at hq;obtain rfl:=zBy hq.1;obtain rfl:=ze hq.2;split
          . rename_i h1 h2;obtain⟨_,z1,hz1,c1,hc1,hr1⟩:=(SymFact.ok (P:=P)).1 _ _ _ _ h1 Y 0 (.int .i64 0) (.int .i64 iv) w (zT.2 rfl) (zp.2 he.symm);obtain⟨_,z2,hz2,c2,hc2,hr2⟩:=(SymFact.ok (P:=P)).1 _ _ _ _ h2 Y 0 (.int .i64 iv) (.int .i64 len) w (zp.2 he.symm) (zp.2 hn.symm);obtain rfl:c1=.bool true:=by simpa using hc1
            obtain rfl:c2=.bool true:=by simpa using hc2
            rw[zL.1 hr1]at hz1;rw[zL.1 hr2]at hz2;have g1:0<=iv:=by simpa [binOp,Op.intCmp]using hz1
            have g2:iv<len:=by simpa [binOp,Op.intCmp]using hz2
            rw[hj,zp,he]at hi;obtain⟨m,rfl⟩:∃m:Nat,iv=(m:Int):=⟨iv.toNat,by omega⟩
            have hm:m<len:=by omega
            obtain⟨p,x',hp,hbase,hof2⟩:=hoff (by omega) g2;subst hbase;rw[Int.toNat_natCast]at hof2;refine⟨.pointer (some ⟨p.blk,p.off+0,none⟩),zR ?_,zx.2 ⟨p,hp,rfl⟩⟩;simp[execOp,Instr.indexAt,hi,hx,asIntOf,run_underlying ht,hm,yl hs,xf];exact hof2.1.symm
          . exact zA _
        . exact zA _
      . unfold zN0;split
        . rename_i k hk;split
          . rename_i hq h1 h2 h3;obtain rfl:=ze hq;rw[hk,zT]at hi;obtain⟨_,z1,hz1,c1,hc1,hr1⟩:=(SymFact.ok (P:=P)).1 _ _ _ _ h1 Y 0 (.int .i64 (Int.ofNat k)) (.int .i64 len) w (zT.2 rfl) (zp.2 hn.symm);obtain⟨_,z2,hz2,c2,hc2,hr2⟩:=(SymFact.ok (P:=P)).1 _ _ _ _ h2 Y 0 (.int .i64 0) (.int .i64 iv) w (zT.2 rfl) (zp.2 he.symm);obtain⟨_,z3,hz3,c3,hc3,hr3⟩:=(SymFact.ok (P:=P)).1 _ _ _ _ h3 Y 0 (.int .i64 iv) (.int .i64 0) w (zp.2 he.symm) (zT.2 rfl);obtain rfl:c1=.bool true:=by simpa using hc1
            obtain rfl:c2=.bool true:=by simpa using hc2
            obtain rfl:c3=.bool true:=by simpa using hc3
            rw[zL.1 hr1]at hz1;rw[zL.1 hr2]at hz2;rw[zL.1 hr3]at hz3;have g1:(k:Int)<len:=by simpa [binOp,Op.intCmp]using hz1
            have g2:0<=iv:=by simpa [binOp,Op.intCmp]using hz2
            have g3:iv<=0:=by simpa [binOp,Op.intCmp]using hz3
            obtain rfl:iv=0:=by omega
            have hm:k<len:=by omega
            obtain⟨p,x',hp,hbase,hof2⟩:=hoff (by omega) (by omega);subst hbase;have hof:p.off=x':=by simpa using hof2.1
            rw[zw];refine⟨_,zR ?_,zx.2 ⟨p,hp,rfl⟩⟩;simp[execOp,Instr.indexAt,hi,hx,asIntOf,run_underlying ht,hm,yl hs,xf,hof]
          . exact zA _
        . exact zA _
     refine yY (C:=zD P Y h n U (.indexAddr t x i) ty w) _ _ _ _ (zA _) (λ_=>zA _) λb off len cap s' ex hv=>?_;refine zGr (C:=zD P Y h n U (.indexAddr t x i) ty w) ?_ λi' m e1 e2 e3 e4 e5=>?_
     case refine_2=>
      obtain rfl:=e2;have hi0:=zEE P w hi;rw[e1,zp]at hi0;obtain⟨hu,z1,hz1,c1,hc1,hr1⟩:=(SymFact.ok (P:=P)).1 _ _ _ _ e3 Y 0 (U i) (.int .i64 0) w (zp.2 hi0) (zT.2 rfl);obtain⟨_,z2,hz2,c2,hc2,hr2⟩:=(SymFact.ok (P:=P)).1 _ _ _ _ e4 Y 0 (U i) (.int .i64 (m:Int)) w (zp.2 hi0) (zT.2 (by rw[e5]; simp));obtain rfl:c1=.bool true:=by simpa using hc1
      obtain rfl:c2=.bool true:=by simpa using hc2
      rw[zL.1 hr1]at hz1;rw[zL.1 hr2]at hz2;rcases hu with⟨k',iv,hu⟩ |⟨bs,hu⟩
      . by_cases ej:k'=.i64
        . subst ej;rw[hu]at hz1 hz2;have g1:0<=iv:=by simpa [binOp,Op.intCmp]using hz1
          have g2:iv<=m:=by simpa [binOp,Op.intCmp]using hz2
          obtain⟨k,rfl⟩:∃k:Nat,iv=(k:Int):=⟨iv.toNat,by omega⟩
          have hk:k<=m:=by omega
          rw[hv,yJ]at hx;obtain⟨p,x',cap',hp,hx,_,hl,_,hor⟩:=hx;have hlt:k<len:=by omega
          have hx':x'=p.off+off:=by
           rcases hor with h |h
           . exact h.1
           . omega
          subst hx';refine⟨.pointer (some ⟨p.blk,p.off+(off+k),none⟩),zR ?_,zBt.2 ⟨p,k,hp,by rw[<- hi0,hu],hk,rfl⟩⟩;simp[execOp,Instr.indexAt,hu,hx,asIntOf,run_underlying ht,hlt,yl hs,xf,Nat.add_assoc]
        . rw[hu]at hz1;simp[binOp,ej]at hz1
      . rw[hu]at hz1;simp[binOp]at hz1
     refine yf (C:=zD P Y h n U (.indexAddr t x i) ty w) _ _ _ (zA _) λj hj=>?_;refine zJ (C:=zD P Y h n U (.indexAddr t x i) ty w) _ _ _ (zA _) λhlt=>?_;rw[zw];have hlt:j<len:=zH hlt;obtain⟨k,hi⟩:=zAv (zEE P w hi) hj;rw[hv,yJ]at hx;obtain⟨p,x',cap',hp,hx,_,hl,_,hor⟩:=hx;have hx':x'=p.off+off:=by
      rcases hor with h |h
      . exact h.1
      . omega
     subst hx';refine⟨.pointer (some ⟨p.blk,p.off+(off+j*s),none⟩),zR ?_,zx.2 ⟨p,hp,rfl⟩⟩;simp[execOp,Instr.indexAt,hi,hx,asIntOf,run_underlying ht,hlt,yl hs,xf,Nat.add_assoc]
   . exact zA _
 . exact zA _
theorem zRj(t:TypeId)(x i:Operand)(ha:yG P Y es tm E U [x,i]):zD P Y h n U (.index t x i) ty w (yX P (zj P E (.index t x i)) es tm h n):=by
 rw[zj];unfold und;split
 . rename_i len e ht;split
   . rename_i s a hs hag;refine xK (C:=zD P Y h n U (.index t x i) ty w) zA λc d hc hd=>?_;have hx:=ha x (by simp) c hc;have hi:=ha i (by simp) d hd;refine zAF (C:=zD P Y h n U (.index t x i) ty w) _ _ _ (zA _) λcs hcs=>?_;refine yf (C:=zD P Y h n U (.index t x i) ty w) _ _ _ (zA _) λj hj=>?_;refine zJ (C:=zD P Y h n U (.index t x i) ty w) _ _ _ (zA _) λhlt=>?_;have hlt:j<len:=zH hlt;obtain⟨k,hi⟩:=zAv hi hj;rw[hcs,yx]at hx;obtain⟨vs,hx,hr⟩:=hx;have hp:=zGo (off:=j*s) hag hs hr w;have run:∀y,(part e vs (j*s)).run P w=.ok y w->(execOp U (qM (.index t x i) ty)).run P w=.ok (.value y) w:=by intro y hy;simp[execOp,Instr.index,hi,hx,asIntOf,run_underlying ht,hlt,yl hs,hy]
     cases a with
     |false=>refine jQ (C:=zD P Y h n U (.index t x i) ty w) _ _ (zA _) λv hv=>?_;obtain⟨y,hy,hv⟩:=hp.1 rfl v hv;exact⟨y,zR (run y hy),hv⟩
     |true=>refine vC (C:=zD P Y h n U (.index t x i) ty w) _ _ (zA _) λl hl=>?_;obtain⟨y,hy,hv⟩:=hp.2 rfl l hl;exact⟨y,zR (run y hy),hv⟩
   . exact zA _
 . rename_i ht;refine xK (C:=zD P Y h n U (.index t x i) ty w) zA λc d hc hd=>?_;have hx:=ha x (by simp) c hc;have hi:=ha i (by simp) d hd;refine qK (C:=zD P Y h n U (.index t x i) ty w) _ _ _ ?_ λl hl=>?_
   case refine_2=>
    refine yf (C:=zD P Y h n U (.index t x i) ty w) _ _ _ (zA _) λj hj=>?_;refine jQ (C:=zD P Y h n U (.index t x i) ty w) _ _ (zA _) λc hc=>?_;obtain⟨k,hi⟩:=zAv hi hj;rw[hl,ya]at hx;obtain⟨s,hx,hr⟩:=hx;rw[qp]at hc;obtain⟨v,hv,hvr⟩:=hr.get hc;rw[List.getElem?_map]at hv;cases hg:s.data.toList[j]? with
    |none=>rw[hg]at hv; cases hv|some u=>
     rw[hg]at hv;injection hv with hv;subst hv;have hs:s[j]? = some u:=by
      have hj:j<s.size:=by
       rcases Nat.lt_or_ge j s.data.toList.length with h |h
       . exact h
       . rw[List.getElem?_eq_none h]at hg; cases hg
      rw[getElem?_pos s j hj]
      have:=hg
      rw[List.getElem?_eq_getElem (show j<s.data.toList.length from hj)]at this;exact this
     refine⟨.int .u8 (u.toNat:Int),zR ?_,hvr⟩;simp[execOp,Instr.index,hi,hx,asIntOf,run_underlying ht,hs]
   refine yP (C:=zD P Y h n U (.index t x i) ty w) _ _ _ (zA _) λl hl=>?_;refine yf (C:=zD P Y h n U (.index t x i) ty w) _ _ _ (zA _) λj hj=>?_;refine zAa (C:=zD P Y h n U (.index t x i) ty w) _ _ _ (zA _) λq hq=>?_;obtain⟨k,hi⟩:=zAv hi hj;rw[hl,zg]at hx;obtain⟨s,hx,rfl⟩:=hx;rw[zVn]at hq;unfold zy at hq;rw[List.getElem?_map]at hq;cases hg:s.data.toList[j]? with
   |none=>rw[hg]at hq; cases hq|some u=>
    rw[hg]at hq;injection hq with hq;subst hq;have hs:s[j]? = some u:=by
     have hj:j<s.size:=by
      rcases Nat.lt_or_ge j s.data.toList.length with h |h
      . exact h
      . rw[List.getElem?_eq_none h]at hg; cases hg
     rw[getElem?_pos s j hj]
     have:=hg
     rw[List.getElem?_eq_getElem (show j<s.data.toList.length from hj)]at this;exact this
    refine⟨.int .u8 (u.toNat:Int),zR ?_,zf.2 rfl⟩;simp[execOp,Instr.index,hi,hx,asIntOf,run_underlying ht,hs]
 . exact zA _
def zGd(Y:Psi)(es:List CV)(tm:Tm)(U:Operand->Value)(c:Option zY)(x:Option Operand):Prop:=match c,x with
 |none,none=>True|some c,some x=>zG Y (aV es tm c) (U x)|_,_=>False
theorem zHq{x:Option Operand}{c:Option zY}(hc:zMn P E x=some c)(ha:yG P Y es tm E U x.toList):zGd Y es tm U c x:=by
 unfold zMn at hc;split at hc
 . injection hc with hc; subst hc; exact trivial
 . rename_i y;cases h1:zn P E y with
   |none=>rw[h1]at hc; cases hc|some d=>rw[h1]at hc; injection hc with hc; subst hc; exact ha y (by simp) d h1
theorem jy{v:Value}{k:IntKind}{i y:Nat}{code:BoundsCode}(hv:v=.int k (Int.ofNat i))(h:i<=y)(w:World):(Instr.sliceBound v y code).run P w=.ok i w:=by
 subst hv
 have:=run_sliceBound (P:=P) (w:=w) k (Int.ofNat i) y code (by simp) (by simpa using h)
 simpa using this
theorem j7{C:OR->Prop}(c:Option zY)(x:Option Operand)(hok:zGd Y es tm U c x)(y d:Nat)(k:Nat->OR)(e:Nat)(he:C (.err e))
 (hn:c=none->x=none->C (k d)) (hs:∀i o,c≠none->x=some o->i<=y->(∃j,U o=.int j (Int.ofNat i))->C (k i)):C (zCy es tm c y d k e):=by
 cases c with
 |none=>cases x with
  |none=>exact hn rfl rfl|some x=>exact hok.elim
 |some c=>cases x with
  |none=>exact hok.elim|some x=>refine yf (C:=C) _ _ _ he λi hi=>?_;refine zJ (C:=C) _ _ _ he λhle=>?_;exact hs i x (by simp) rfl (zH hle) (zAv hok hi)
theorem kQ{C:OR->Prop}(isSl:Bool)(len cap cap':Nat)(lo hi mx:Option zY)(xl xh xm:Option Operand)(h1:zGd Y es tm U lo xl)(h2:zGd Y es tm U hi xh)
 (h3:zGd Y es tm U mx xm) (hcap:cap<=cap') (k:Nat->Nat->Nat->OR) (e:Nat) (he:C (.err e)) (hno:xm.isSome=true->xh.isSome=true)
 (hk:∀l h m m',(∀w,(Instr.sliceBounds isSl len cap' (xl.map U) (xh.map U) (xm.map U)).run P w=.ok (l,h,m') w)->m<=m'->m'<=cap'->(mx≠none->m'=m) ->
   (mx=none->m=cap/\m'=cap')->(h=len\/h<=m')->C (k l h m)):C (jT es tm len cap lo hi mx k e):=by
 refine j7 (C:=C) mx xm h3 _ _ _ _ he (λhm hxm=>?_) (λm om hm hxm hmle ⟨jm,hjm⟩=>?_)
 . subst hm hxm;refine j7 (C:=C) hi xh h2 _ _ _ _ he (λhh hxh=>?_) (λh oh hh hxh hhle ⟨jh,hjh⟩=>?_)
   . subst hh hxh;refine j7 (C:=C) lo xl h1 _ _ _ _ he (λhl hxl=>?_) (λl ol hl hxl hlle ⟨jl,hjl⟩=>?_)
     . subst hl hxl;exact hk _ _ _ cap' (λw=>by simp[Instr.sliceBounds]) hcap (Nat.le_refl _) (by simp) (by simp) (.inl rfl)
     . subst hxl;exact hk _ _ _ cap' (λw=>by simp[Instr.sliceBounds,jy hjl hlle]) hcap (Nat.le_refl _) (by simp) (by simp) (.inl rfl)
   . subst hxh;have hr:=λ(w:World) (code:BoundsCode)=>jy (P:=P) (code:=code) hjh (Nat.le_trans hhle hcap) w;refine j7 (C:=C) lo xl h1 _ _ _ _ he (λhl hxl=>?_) (λl ol hl hxl hlle ⟨jl,hjl⟩=>?_)
     . subst hl hxl;exact hk _ _ _ cap' (λw=>by simp[Instr.sliceBounds,hr]) hcap (Nat.le_refl _) (by simp) (by simp) (.inr (Nat.le_trans hhle hcap))
     . subst hxl;exact hk _ _ _ cap' (λw=>by simp[Instr.sliceBounds,hr,jy hjl hlle]) hcap (Nat.le_refl _) (by simp) (by simp) (.inr (Nat.le_trans hhle hcap))
 . subst hxm;refine j7 (C:=C) hi xh h2 _ _ _ _ he (λhh hxh=>?_) (λh oh hh hxh hhle ⟨jh,hjh⟩=>?_)
   . subst hxh; exact absurd (hno rfl) (by simp)
   . subst hxh;have hr:=λ(w:World) (code:BoundsCode)=>jy (P:=P) (code:=code) hjh hhle w;have hr':=λ(w:World) (code:BoundsCode)=>jy (P:=P) (code:=code) hjm (Nat.le_trans hmle hcap) w;refine j7 (C:=C) lo xl h1 _ _ _ _ he (λhl hxl=>?_) (λl ol hl hxl hlle ⟨jl,hjl⟩=>?_)
     . subst hl hxl;exact hk _ _ _ m (λw=>by simp[Instr.sliceBounds,hr,hr']) (Nat.le_refl _) (Nat.le_trans hmle hcap) (by simp) (λe=>absurd e hm) (.inr hhle)
     . subst hxl;exact hk _ _ _ m (λw=>by simp[Instr.sliceBounds,hr,hr',jy hjl hlle]) (Nat.le_refl _) (Nat.le_trans hmle hcap) (by simp) (λe=>absurd e hm) (.inr hhle)
theorem zRc(t:TypeId)(x:Operand)(xl xh xm:Option Operand)(ha:yG P Y es tm E U ([x]++xl.toList++xh.toList++xm.toList)) :
 zD P Y h n U (.slice t x xl xh xm) ty w (yX P (zj P E (.slice t x xl xh xm)) es tm h n):=by
 rw[zj];unfold zJF und;split
 . exact zA _
 rename_i hno;have hno:xm.isSome=true->xh.isSome=true:=by intro h1; cases xh <;> simp_all
 split
 . rename_i c lo hi mx hc hlo hhi hmx;have hx:=ha x (by simp) c hc;have o1:=zHq hlo (ha.sub λy hy=>by simp at hy ⊢; exact .inr (.inl hy));have o2:=zHq hhi (ha.sub λy hy=>by simp at hy ⊢; exact .inr (.inr (.inl hy)));have o3:=zHq hmx (ha.sub λy hy=>by simp at hy ⊢; exact .inr (.inr (.inr hy)));split
   . rename_i k e ht;split
     . rename_i s hs;refine xU (C:=zD P Y h n U (.slice t x xl xh xm) ty w) _ _ _ (zA _) λb off hv=>?_;rw[hv,zx]at hx;obtain⟨p,hp,hx⟩:=hx;refine kQ (C:=zD P Y h n U (.slice t x xl xh xm) ty w) (P:=P) false k k k lo hi mx xl xh xm o1 o2 o3 (Nat.le_refl _) _ _ (zA _) hno λl hh m m' hrun hm hm' hmx1 hmx2 hhm=>?_;refine zJ (C:=zD P Y h n U (.slice t x xl xh xm) ty w) _ _ _ (zA _) λhok=>?_;rw[Bool.and_eq_true]at hok;have g1:=zH hok.1;have g2:=zH hok.2;have hmm:m'=m:=by
        cases mx with
        |none=>have:=hmx2 rfl; omega|some _=>exact hmx1 (by simp)
       rw[zw,zw,zw];refine⟨.slice (some (if m'=l then⟨p.blk,p.off+off,none⟩else⟨p.blk,p.off+off+l*(s+1),none⟩)) (hh - l) (m' - l),zR ?_,?_⟩
       . simp only[execOp,Instr.sliceAt,Sem.run_bind,run_underlying ht,Result.andThen_ok,hx,Instr.sureAddr,Sem.run_pure,hrun,yl hs,xf]
       . refine yJ.2 ⟨p,if m'=l then p.off+off else p.off+off+l*(s+1),m' - l,hp,?_,?_,?_,?_,?_⟩
         . split <;> rfl
         . subst hmm; exact Nat.le_refl _
         . show hh - l<=m' - l; omega
         . intro _; subst hmm; rfl
         . by_cases e:m'=l
           . right; omega
           . left;refine⟨by rw[if_neg e]; show p.off+off+l*(s+1)=p.off+(off+l*(s+1)); omega,by simp⟩
     . exact zA _
   . rename_i e ht;split
     . rename_i s hs;refine qy (C:=zD P Y h n U (.slice t x xl xh xm) ty w) _ _ _ ?_ λb z e0 n0 hv=>?_
       case refine_2=>
        rw[hv,qW]at hx;obtain⟨_,base,len,cap,iv,hx,hn,he,hoff⟩:=hx;unfold zIw;split
        . rename_i y;have o2':=o2;split
          . rename_i m hm;split
            . rename_i hq h1 h2 h3;rw[Bool.and_eq_true]at hq;have hz:z=s+1:=ze hq.1;have hm1:=zH hq.2;subst hz;obtain⟨_,z1,hz1,c1,hc1,hr1⟩:=(SymFact.ok (P:=P)).1 _ _ _ _ h1 Y 0 (.int .i64 (Int.ofNat m)) (.int .i64 len) w (zT.2 rfl) (zp.2 hn.symm);obtain⟨_,z2,hz2,c2,hc2,hr2⟩:=(SymFact.ok (P:=P)).1 _ _ _ _ h2 Y 0 (.int .i64 0) (.int .i64 iv) w (zT.2 rfl) (zp.2 he.symm);obtain⟨_,z3,hz3,c3,hc3,hr3⟩:=(SymFact.ok (P:=P)).1 _ _ _ _ h3 Y 0 (.int .i64 iv) (.int .i64 0) w (zp.2 he.symm) (zT.2 rfl);obtain rfl:c1=.bool true:=by simpa using hc1
              obtain rfl:c2=.bool true:=by simpa using hc2
              obtain rfl:c3=.bool true:=by simpa using hc3
              rw[zL.1 hr1]at hz1;rw[zL.1 hr2]at hz2;rw[zL.1 hr3]at hz3;have g1:(m:Int)<=len:=by simpa [binOp,Op.intCmp]using hz1
              have g2:0<=iv:=by simpa [binOp,Op.intCmp]using hz2
              have g3:iv<=0:=by simpa [binOp,Op.intCmp]using hz3
              obtain rfl:iv=0:=by omega
              obtain⟨p,x',hp,hbase,hof,hsz,hlc⟩:=hoff (by omega) (by omega);have hof:p.off=x'+0:=by simpa using hof
              have hm':m<=cap:=by omega
              have hxl:xl=none:=by cases xl with
               |none=>rfl|some y=>exact o1.elim
              have hxm:xm=none:=by cases xm with
               |none=>rfl|some y=>exact o3.elim
              subst hxl hxm;obtain⟨z,rfl⟩:∃z,xh=some z:=by cases xh with
               |none=>exact o2.elim|some z=>exact⟨z,rfl⟩
              have hz:U z=.int .i64 (Int.ofNat m):=by
               have:=(show zG Y (aV es tm y) (U z)from o2')
               rw[hm,zT]at this;exact this
              have hbr:=λ(w:World) (code:BoundsCode)=>jy (P:=P) (code:=code) hz hm' w;subst hbase;rw[zw];refine⟨.slice (some ⟨p.blk,x',none⟩) m cap,zR ?_,yJ.2 ⟨p,x',cap,hp,rfl,hm',hm',by simp,.inl ⟨by omega,λ_=>hsz.symm⟩⟩⟩;have hc0:cap≠0:=by omega
              simp[execOp,Instr.sliceAt,run_underlying ht,hx,Instr.slice,Instr.sliceBounds,hbr,yl hs,xf]
            . exact zA _
          . exact zA _
        . exact zA _
       refine yY (C:=zD P Y h n U (.slice t x xl xh xm) ty w) _ _ _ _ (zA _) (λhv=>?_) λb off len cap s' ex hv=>?_
       . rw[hv,yD]at hx;refine kQ (C:=zD P Y h n U (.slice t x xl xh xm) ty w) (P:=P) true 0 0 0 lo hi mx xl xh xm o1 o2 o3 (Nat.le_refl _) _ _ (zA _) hno λl hh m m' hrun hm hm' hmx1 hmx2 hhm=>?_;refine⟨.slice (if m'=l then none else none) (hh - l) (m' - l),zR ?_,yD.2 ?_⟩
         . simp only[execOp,Instr.sliceAt,Sem.run_bind,run_underlying ht,Result.andThen_ok,hx,Instr.slice,hrun,yl hs,Option.map_none,Sem.run_pure]
         . have e1:m' - l=0:=by omega
           have e2:hh - l=0:=by omega
           rw[e1,e2,ite_self]
       . refine zJ (C:=zD P Y h n U (.slice t x xl xh xm) ty w) _ _ _ (zA _) λhs'=>?_;have hs':s'=s+1:=ze hs';subst hs';rw[hv,yJ]at hx;obtain⟨p,x',cap',hp,hx,hcap,hlen,hex,hor⟩:=hx;have hmain:zD P Y h n U (.slice t x xl xh xm) ty w (jT es tm len cap lo hi mx (zP3 b off (s+1) (ex || mx.isSome)) 146):=by
          refine kQ (C:=zD P Y h n U (.slice t x xl xh xm) ty w) (P:=P) true len cap cap' lo hi mx xl xh xm o1 o2 o3 hcap _ _ (zA _) hno λl hh m m' hrun hm hm' hmx1 hmx2 hhm=>?_;refine zJ (C:=zD P Y h n U (.slice t x xl xh xm) ty w) _ _ _ (zA _) λhok=>?_;rw[Bool.and_eq_true]at hok;have g1:=zH hok.1;have g2:=zH hok.2;rw[zw,zw,zw];refine⟨.slice (some (if m'=l then⟨p.blk,x',none⟩else⟨p.blk,x'+l*(s+1),none⟩)) (hh - l) (m' - l),zR ?_,?_⟩
          . simp only[execOp,Instr.sliceAt,Sem.run_bind,run_underlying ht,Result.andThen_ok,hx,Instr.slice,hrun,yl hs,xf,Option.map_some,Sem.run_pure];by_cases e:m'=l
            . rw[if_pos e,if_pos e]
            . rw[if_neg e,if_neg e]
          . refine yJ.2 ⟨p,if m'=l then x' else x'+l*(s+1),m' - l,hp,?_,?_,?_,?_,?_⟩
            . split <;> rfl
            . show m - l<=m' - l; omega
            . show hh - l<=m' - l; omega
            . intro hx2;rw[Bool.or_eq_true]at hx2;cases mx with
              |none=>
               have h2:=hmx2 rfl
               have:=hex (by simpa using hx2)
               show m' - l=m - l; omega
              |some _=>have:=hmx1 (by simp); show m' - l=m - l; omega
            . by_cases e:m'=l
              . right; omega
              . rcases hor with⟨e1,e2⟩ |e0
                . left;rw[if_neg e];refine⟨by show x'+l*(s+1)=p.off+(off+l*(s+1)); omega,λhf=>?_⟩;rw[Bool.or_eq_false_iff]at hf;have h3:=e2 hf.1;have hm2:m'=cap':=by
                   cases mx with
                   |none=>exact(hmx2 rfl).2|some _=>have:=hf.2; simp at this
                  have:l*(s+1)+(m' - l)*(s+1)=m'*(s+1):=by rw[<- Nat.add_mul]; congr 1; omega
                  rw[<- hm2]at h3;omega
                . right; omega
         unfold zBS;split
         . rename_i y;have o2':=o2;split
           . rename_i m hm;split
             . rename_i hlt0 _;refine yh (C:=zD P Y h n U (.slice t x xl xh xm) ty w) _ _ _ (zA _) λvs hvs=>?_;refine zJ (C:=zD P Y h n U (.slice t x xl xh xm) ty w) _ _ _ (zA _) λhle=>?_;have hle:off+m*(s+1)<=um vs:=zH hle;rw[zw];intro hrel;have hcells:yZ Y w p vs:=hrel b _ p hvs hp;have hsz:p.off+vs.length<=p.sz:=by obtain⟨_,_,_,_,_,h3,_⟩:=hcells;exact h3
               have hll:=vQ vs;have e:x'=p.off+off/\x'+cap'*(s+1)=p.sz:=by
                rcases hor with⟨e,h⟩ |e
                . exact⟨e,h rfl⟩
                . omega
               have hm':m<=cap':=by
                rcases Nat.lt_or_ge cap' m with h |h
                . have:=Nat.mul_le_mul_right (s+1) h
                  rw[Nat.succ_mul]at this;omega
                . exact h
               have hxl:xl=none:=by cases xl with
                |none=>rfl|some y=>exact o1.elim
               have hxm:xm=none:=by cases xm with
                |none=>rfl|some y=>exact o3.elim
               subst hxl hxm;obtain⟨z,rfl⟩:∃z,xh=some z:=by cases xh with
                |none=>exact o2.elim|some z=>exact⟨z,rfl⟩
               have hz:U z=.int .i64 (Int.ofNat m):=by
                have:=(show zG Y (aV es tm y) (U z)from o2')
                rw[hm,zT]at this;exact this
               have hbr:=λ(w:World) (code:BoundsCode)=>jy (P:=P) (code:=code) hz hm' w;refine⟨.slice (some ⟨p.blk,x',none⟩) m cap',zR ?_,yJ.2 ⟨p,x',cap',hp,rfl,hm',hm',by simp,.inl ⟨e.1,λ_=>e.2⟩⟩⟩;have hc0:cap'≠0:=by omega
               simp[execOp,Instr.sliceAt,run_underlying ht,hx,Instr.slice,Instr.sliceBounds,hbr,yl hs,xf]
             . exact hmain
           . exact hmain
         . exact hmain
     . exact zA _
   . rename_i ht;split
     . refine qK (C:=zD P Y h n U (.slice t x xl xh _) ty w) _ _ _ ?_ λq hq=>?_
       case refine_2=>
        rw[zw];rw[hq,ya]at hx;obtain⟨b,hx,hr⟩:=hx;have hlen:q.length=b.size:=zFW hr;rw[vQ,hlen];have hxm:xm=none:=by cases xm with
         |none=>rfl|some y=>exact absurd o3 (by simp[zGd])
        subst hxm;refine kQ (C:=zD P Y h n U (.slice t x xl xh none) ty w) (P:=P) false b.size b.size b.size lo hi none xl xh none o1 o2 trivial (Nat.le_refl _) _ _ (zA _) hno λl hh m m' hrun hm hm' hmx1 hmx2 hhm=>?_;refine zJ (C:=zD P Y h n U (.slice t x xl xh none) ty w) _ _ _ (zA _) λhok=>?_;have hok:=zH hok;refine yb (C:=zD P Y h n U (.slice t x xl xh none) ty w) _ _ _ (zA _) λr hr'=>?_;refine⟨.string (b.extract l hh),zR ?_,zPf ?_⟩
        . simp only[execOp,Instr.sliceAt,Sem.run_bind,run_underlying ht,Result.andThen_ok,hx,Instr.slice,Option.map_none,Option.isSome_none,Bool.false_eq_true,if_false,hrun,Sem.run_pure];have hrun':=hrun w;simp only[Option.map_none]at hrun';simp[hrun']
        . obtain⟨_,rfl⟩:=zEr hr';rw[ByteArray.data_extract,Array.toList_extract,List.extract_eq_take_drop,List.map_take,List.map_drop];exact(hr.drop l).take _
       refine yP (C:=zD P Y h n U (.slice t x xl xh _) ty w) _ _ _ (zA _) λq hq=>?_;rw[zw];rw[hq,zg]at hx;obtain⟨b,hx,rfl⟩:=hx;rw[zAi,xu];have hxm:xm=none:=by cases xm with
        |none=>rfl|some y=>exact absurd o3 (by simp[zGd])
       subst hxm;refine kQ (C:=zD P Y h n U (.slice t x xl xh none) ty w) (P:=P) false b.size b.size b.size lo hi none xl xh none o1 o2 trivial (Nat.le_refl _) _ _ (zA _) hno λl hh m m' hrun hm hm' hmx1 hmx2 hhm=>?_;refine zJ (C:=zD P Y h n U (.slice t x xl xh none) ty w) _ _ _ (zA _) λhok=>?_;have hok:=zH hok;refine zJk (C:=zD P Y h n U (.slice t x xl xh none) ty w) _ _ (zA _) λr hr=>?_;refine⟨.string (b.extract l hh),zR ?_,zg.2 ⟨_,rfl,?_⟩⟩
       . simp only[execOp,Instr.sliceAt,Sem.run_bind,run_underlying ht,Result.andThen_ok,hx,Instr.slice,Option.map_none,Option.isSome_none,Bool.false_eq_true,if_false,hrun,Sem.run_pure];have hrun':=hrun w;simp only[Option.map_none]at hrun';simp[hrun']
       . obtain⟨_,rfl⟩:=zQS hr;unfold zy;rw[ByteArray.data_extract,Array.toList_extract,List.extract_eq_take_drop,List.map_take,List.map_drop];rfl
     . exact zA _
   . exact zA _
 . exact zA _
end
end Go.Ev
namespace Go.Ev
variable[Sym]
noncomputable section
variable{P:Program}{Y:Psi}{es:List CV}{tm:Tm}{h:zC}{n:Key}{U:Operand->Value}{E:Env}{ty:TypeId}{w:World}
variable[SymFact P]
theorem zL8(P:Program)[SymFact P]{m:SE}(h:zVV m=true){len:Nat}(hv:Sym.val m=.int .i64 len)(w:World):len=0:=by
 unfold zVV at h;split at h
 . rename_i h1;obtain⟨_,z1,hz1,c1,hc1,hr1⟩:=(SymFact.ok (P:=P)).1 _ _ _ _ h1 (λ_=>none) 0 (.int .i64 len) (.int .i64 0) w (zp.2 hv.symm) (zT.2 rfl);obtain rfl:c1=.bool true:=by simpa using hc1
   rw[zL.1 hr1]at hz1;have g1:(len:Int)<=0:=by simpa [binOp,Op.intCmp]using hz1
   omega
 . cases h
theorem jA{s d:TypeId}{x:Operand}{v:Value}{w':World}(hr:(convert s d (U x)).run P w=.ok v w'):(execOp U (qM (.convert s d x) ty)).run P w=.ok (.value v) w':=by simp only[execOp,Sem.run_bind,hr,Result.andThen_ok]; rfl
theorem zAd(l:List Nat):qT l=l.map λb=>CV.int .u8 (.ofNat b):=by
 induction l with
 |nil=>rfl|cons x l ih=>show _::qT l=_; rw[ih]; rfl
theorem zBT(s:ByteArray):zP Y (qT (zy s)) (s.data.map λb=>Value.int .u8 b.toNat).toList:=by
 rw[zAd];unfold zy;rw[Array.toList_map];induction s.data.toList with
 |nil=>exact zM.2 rfl|cons x l ih=>exact zW.2 ⟨zf.2 rfl,ih⟩
theorem zJG{B sz:Nat}{arr:Array Value}{e:TypeId}{fz:Nat × Nat}(hb:w.heap[B]? = some (.cells arr e fz))(hsz:arr.size=sz)(hfz:fz.1=fz.2\/sz<=fz.1) :
 ∃fz':Nat × Nat,w.freeze ⟨B,sz,none⟩ 1=w.upB B (.cells arr e fz')/\(fz'.1=fz'.2\/sz<=fz'.1):=by
 obtain⟨lo,hi⟩:=fz;refine⟨if lo == hi then(sz,sz+1)else(min lo sz,max hi (sz+1)),?_,?_⟩
 . unfold World.freeze World.upB;simp only[Nat.one_ne_zero,if_false]
   congr 1
   apply Array.ext_getElem?;intro i;rw[Array.getElem?_modify,Array.getElem?_setIfInBounds];by_cases hi:B=i
   . subst hi;have hlt:B<w.heap.size:=by
      rcases Nat.lt_or_ge B w.heap.size with h |h
      . exact h
      . rw[Array.getElem?_eq_none h]at hb; cases hb
     rw[if_pos rfl,if_pos rfl,if_pos hlt,hb];rfl
   . rw[if_neg hi,if_neg hi]
 . simp only at hfz;split
   . right; simp
   . rename_i hne;rcases hfz with h |h
     . exact absurd (by simpa using h) hne
     . right; simp; omega
theorem zDD{B off sz:Nat}{arr:Array Value}{e:TypeId}{fz:Nat × Nat}(hb:w.heap[B]? = some (.cells arr e fz))(hsz:arr.size=sz) :
 (markStringish ⟨B,off,none⟩).run P w=.ok () (w.freeze ⟨B,sz,none⟩ 1):=by
 have:w.shape? B=some (e,sz):=by unfold World.shape?; rw[hb,<- hsz]
 simp[markStringish,this]
theorem zBv:∀(r:List Nat) (s:ByteArray),(∀b∈r,b<=255)->zy ((r.map Int.ofNat).foldl (λr n=>r.push (UInt8.ofNat n.toNat)) s)=zy s++r
 | [],s,_=>by simp|b::r,s,hb=>by
  rw[List.map_cons,List.foldl_cons,zBv r _ λc hc=>hb c (by simp[hc])];have hb:=hb b (by simp)
  have:zy (s.push (UInt8.ofNat (Int.ofNat b).toNat))=zy s++[b]:=by unfold zy;show(s.data.push _).toList.map _=_;rw[Array.toList_push,List.map_append];simp;omega
  rw[this]; simp
theorem zNC(P:Program)[SymFact P]{c:CV}{x:Value}{w:World}(hb:zK2 c=true)(hx:zG Y c x):∃n:Nat,x=.int .u8 (Int.ofNat n)/\n<=255:=by
 unfold zK2 at hb;split at hb
 . rename_i k m;rw[Bool.and_eq_true,yj,decide_eq_true_eq]at hb;obtain⟨rfl,hb⟩:=hb;exact⟨m,zf.1 hx,zH hb⟩
 . rename_i e;rw[Bool.and_eq_true,yj,decide_eq_true_eq]at hb;obtain⟨hk,hb⟩:=hb;split at hb
   . rename_i h1 h2;have hu:x=Sym.val e:=zp.1 hx;obtain⟨_,z1,hz1,c1,hc1,hr1⟩:=(SymFact.ok (P:=P)).1 _ _ _ _ h1 Y 0 x (.int .u8 (.ofNat 255)) w hx (zf.2 rfl);obtain⟨_,z2,hz2,c2,hc2,hr2⟩:=(SymFact.ok (P:=P)).1 _ _ _ _ h2 Y 0 x (.int .u8 (.ofNat 0)) w hx (zf.2 rfl);obtain rfl:c1=.bool true:=by simpa using hc1
     obtain rfl:c2=.bool true:=by simpa using hc2
     rw[zL.1 hr1]at hz1;rw[zL.1 hr2]at hz2;cases x with
     |int j m=>
      by_cases ej:j=.u8
      . subst ej;have g1:m<=255:=by simpa [binOp,Op.intCmp]using hz1
        have g2:0<=m:=by simpa [binOp,Op.intCmp]using hz2
        exact⟨m.toNat,by rw[Int.ofNat_eq_natCast,Int.toNat_of_nonneg g2],by omega⟩
      . simp[binOp,ej]at hz1
     |_=>simp[binOp]at hz1
   . cases hb
 . cases hb
theorem zRn(P:Program)[SymFact P]{c r:CV}{x:Value}{w:World}(hb:zSx c=some r)(hx:zG Y c x):∃n:Nat,x=.int .u8 (Int.ofNat n)/\n<=127/\zG Y r (.int .i32 n):=by
 unfold zSx at hb;split at hb
 . rename_i k m;split at hb
   . rename_i hc;rw[Bool.and_eq_true,yj,decide_eq_true_eq]at hc;obtain⟨rfl,hc⟩:=hc;injection hb with hb;subst hb;exact⟨m,zf.1 hx,zH hc,zf.2 rfl⟩
   . cases hb
 . rename_i e;split at hb
   . rename_i h0 h1 h2 h3;rw[yj,decide_eq_true_eq]at h0;injection hb with hb;subst hb;obtain⟨_,z1,hz1,c1,hc1,hr1⟩:=(SymFact.ok (P:=P)).1 _ _ _ _ h1 Y 0 x (.int .u8 (.ofNat 127)) w hx (zf.2 rfl);obtain⟨_,z2,hz2,c2,hc2,hr2⟩:=(SymFact.ok (P:=P)).1 _ _ _ _ h2 Y 0 x (.int .u8 (.ofNat 0)) w hx (zf.2 rfl);obtain⟨j,a,e1,c',h4,h5⟩:=(SymFact.ok (P:=P)).2 _ _ _ h3 Y _ hx;obtain rfl:c1=.bool true:=by simpa using hc1
     obtain rfl:c2=.bool true:=by simpa using hc2
     obtain rfl:=List.mem_singleton.1 h4;rw[zL.1 hr1]at hz1;rw[zL.1 hr2]at hz2;subst e1;by_cases ej:j=.u8
     . subst ej;have g1:a<=127:=by simpa [binOp,Op.intCmp]using hz1
       have g2:0<=a:=by simpa [binOp,Op.intCmp]using hz2
       have hw:IntKind.i32.wrap a=a:=by
        have hlt:IntKind.i32.wrap a=a:=by unfold IntKind.wrap;simp[IntKind.bits,IntKind.signed];omega
        exact hlt
       rw[hw]at h5;exact⟨a.toNat,by rw[Int.ofNat_eq_natCast,Int.toNat_of_nonneg g2],by omega,by rw[Int.toNat_of_nonneg g2]; exact h5⟩
     . simp[binOp,ej]at hz1
   . cases hb
 . cases hb
theorem zC7(P:Program)[SymFact P]{w:World}:∀{cs:List CV} {xs:List Value},zDN cs=true->zP Y cs xs->∃r:List Nat,xs=(r.map Int.ofNat).map (Value.int .u8)/\∀n∈r,n<=255
 | [],xs,_,hx=>by rw[zM]at hx;subst hx;exact⟨[],rfl,by simp⟩|c::cs,xs,hb,hx=>by
  unfold zDN at hb;rw[Bool.and_eq_true]at hb;obtain⟨v,q,rfl,h1,h2⟩:=za.1 hx;obtain⟨n,rfl,hn⟩:=zNC P (w:=w) hb.1 h1;obtain⟨r,rfl,hr⟩:=zC7 P (w:=w) hb.2 h2;exact⟨n::r,rfl,λm hm=>by
   rcases List.mem_cons.1 hm with rfl |hm
   . exact hn
   . exact hr m hm⟩
theorem zE9:∀{r:List Nat} {l:List Value},zP Y (r.map (λb=>CV.int .u8 (.ofNat b))) l->l=(r.map Int.ofNat).map (Value.int .u8)
 | [],l,h=>zM.1 h|b::r,l,h=>by obtain⟨v,q,rfl,h1,h2⟩:=za.1 h;rw[zf.1 h1,zE9 h2]; rfl
theorem zLy(s d:TypeId)(x:Operand)(ha:yG P Y es tm E U [x]):zD P Y h n U (.convert s d x) ty w (yX P (zj P E (.convert s d x)) es tm h n):=by
 rw[zj];unfold zMa und;split
 . rename_i k0 k hs hd;refine zu (C:=zD P Y h n U (.convert s d x) ty w) zA λc hc=>?_;have hx:=ha x (by simp) c hc;have run:∀j a,U x=.int j a->(convert s d (U x)).run P w=.ok (.int k (k.wrap a)) w:=by intro j a e;rw[e]; simp[convert,run_underlying hs,run_underlying hd,Conv.intToInt]
   show zD P Y h n U (.convert s d x) ty w (zHP k (aV es tm c));unfold zHP;split
   . cases hb:Sym.cv k (aV es tm c)with
     |none=>exact zA _|some l=>obtain⟨j,a,e,c',h3,h4⟩:=(SymFact.ok (P:=P)).2 k _ l hb Y _ hx;exact zLa (zR (jA (run j a e))) (zLJ rfl h3 h4)
   refine ko (C:=zD P Y h n U (.convert s d x) ty w) _ _ _ _ (zA _) (λb hv=>?_) (λj b hv=>?_) (λj hv=>?_)
   . rw[hv,zT]at hx;exact⟨_,zR (jA (run _ _ hx)),by rw[xM]; exact xF _ _⟩
   . rw[hv,zf]at hx;exact⟨_,zR (jA (run _ _ hx)),by rw[xM]; exact xF _ _⟩
   . rw[hv,yo]at hx;obtain⟨b,hx⟩:=hx;exact⟨_,zR (jA (run _ _ hx)),yo.2 ⟨_,rfl⟩⟩
 . rename_i hs hd;refine zu (C:=zD P Y h n U (.convert s d x) ty w) zA λc hc=>?_;have hx:=ha x (by simp) c hc;refine yP (C:=zD P Y h n U (.convert s d x) ty w) _ _ _ (zA _) λl hl=>?_;rw[hl,zg]at hx;obtain⟨b,hx,e⟩:=hx;exact⟨.string b,zR (jA (by rw[hx]; simp[convert,run_underlying hs,run_underlying hd])),zg.2 ⟨b,rfl,e⟩⟩
 . rename_i e hs hd;split
   . rename_i he;refine zu (C:=zD P Y h n U (.convert s d x) ty w) zA λc hc=>?_;have hx:=ha x (by simp) c hc;have main:∀(cs:List CV) (b:ByteArray),U x=.string b->(∀Y':Psi,Y.le Y'->zP Y' cs (b.data.map λb=>Value.int .u8 b.toNat).toList)->cs.length=b.size ->
      zD P Y h n U (.convert s d x) ty w (.alloc (.cells cs) (.sl n 0 b.size b.size 1 false)):=by
      intro cs b hx hcs hcl;obtain⟨cap,hcut,hcap⟩:∃cap,cap=(Question.appendCap b.size 0 e).cut (w.tape w.drawn (Question.appendCap b.size 0 e))/\b.size<=cap:=⟨_,rfl,Nat.le_add_right _ _⟩
      let arr:Array Value:=(b.data.map λ(b:UInt8)=>Value.int .u8 b.toNat)++Array.replicate (cap - b.size) (Value.int .u8 0)
      have hbs:(b.data.map λ(b:UInt8)=>Value.int .u8 b.toNat).size=b.size:=by rw[Array.size_map]; rfl
      have harr:arr.size=cap:=by show((b.data.map λ(b:UInt8)=>Value.int .u8 b.toNat)++Array.replicate (cap - b.size) (Value.int .u8 0)).size=cap;rw[Array.size_append,hbs,Array.size_replicate]; omega
      let w1:World:={ w with drawn:=w.drawn+1,heap:=w.heap.push (.cells arr e) }
      have hb1:w1.heap[w.heap.size]? = some (.cells arr e (0,0)):=by simp[w1]
      obtain⟨fz',hfz,hfz'⟩:=zJG (w:=w1) hb1 harr (.inl rfl);have hsize1:w.heap.size<w1.heap.size:=by simp[w1]
      refine⟨w1.upB w.heap.size (.cells arr e fz'),.slice (some ⟨w.heap.size,0,none⟩) b.size cap,cap,zR (jA ?_),?_,λY' hle hn=>⟨?_,?_⟩,by unfold zG0; rw[xe _ hsize1]; exact harr.symm⟩
      . rw[hx,<- hfz];have hm:(markStringish ⟨w.heap.size,0,none⟩).run P w1=.ok () (w1.freeze ⟨w.heap.size,cap,none⟩ 1):=zDD hb1 harr;simp only[convert,Sem.run_bind,run_underlying hs,run_underlying hd,run_underlying he,Result.andThen_ok,Conv.stringToBytes,run_choose,Question.forced,Bool.false_eq_true,if_false,newRow,run_newObj,Sem.run_pure,<- hcut];exact(by show(((markStringish ⟨w.heap.size,0,none⟩).run P w1).andThen λ_ w'=>Result.ok (Value.slice (some ⟨w.heap.size,0,none⟩) b.size cap) w')=_;rw[hm]; rfl)
      . refine⟨by rw[zDq]; simp[w1],λB hB=>?_,rfl,rfl,rfl⟩;rw[w5 _ (by omega)];simp only[w1,Array.getElem?_push];rw[if_neg (by omega)]
      . exact yJ.2 ⟨_,0,cap,hn,rfl,hcap,hcap,by simp,.inl ⟨rfl,λ_=>by simp⟩⟩
      . refine⟨arr,e,fz',xe _ hsize1,harr,?_,hfz',λi c hi=>?_⟩
        . rw[hcl]; simpa using hcap
        . obtain⟨v,hv,hr⟩:=(hcs Y' hle).get hi;have hv:(b.data.map λ(b:UInt8)=>Value.int .u8 b.toNat)[i]? = some v:=by simpa using hv
          have hi':i<(b.data.map λ(b:UInt8)=>Value.int .u8 b.toNat).size:=by
           rcases Nat.lt_or_ge i (b.data.map λ(b:UInt8)=>Value.int .u8 b.toNat).size with h |h
           . exact h
           . rw[Array.getElem?_eq_none h]at hv; cases hv
          refine⟨v,?_,hr⟩;show((b.data.map λ(b:UInt8)=>Value.int .u8 b.toNat)++Array.replicate (cap - b.size) (Value.int .u8 0))[0+i]? = some v;rw[Nat.zero_add,Array.getElem?_append_left hi']; exact hv
     refine qK (C:=zD P Y h n U (.convert s d x) ty w) _ _ _ ?_ λl hl=>?_
     case refine_2=>rw[zw];rw[hl,ya]at hx;obtain⟨b,hx,hr⟩:=hx;have hlen:l.length=b.size:=zFW hr;rw[vQ,hlen];refine main l b hx (λY' hle=>?_) hlen;rw[Array.toList_map];exact hr.mono hle
     refine yP (C:=zD P Y h n U (.convert s d x) ty w) _ _ _ (zA _) λl hl=>?_;rw[zw];rw[hl,zg]at hx;obtain⟨b,hx,rfl⟩:=hx;rw[zAi,xu];exact main _ b hx (λY' _=>zBT (Y:=Y') b) (by rw[zAd,List.length_map,xu])
   . exact zA _
 . rename_i e0 e hs hd;split
   . rename_i hsd he;have hsd:s=d:=ze hsd;refine zu (C:=zD P Y h n U (.convert s d x) ty w) zA λc hc=>?_;have hx:=ha x (by simp) c hc;refine yY (C:=zD P Y h n U (.convert s d x) ty w) _ _ _ _ (zA _) (λ_=>zA _) λb off len cap s' ex hv=>?_;refine yh (C:=zD P Y h n U (.convert s d x) ty w) _ _ _ (zA _) λvs hvs hrel _ _=>?_;rw[hv]at hx;have hx0:=hx;rw[yJ]at hx;obtain⟨p,x',cap',hp,hx,_⟩:=hx;have hvs:zC.fam h b=some (.cells vs):=hvs;obtain⟨arr,el,fz,h1,h2,h3,h4,h5⟩:=hrel.on b _ p hvs hp;obtain⟨fz',hfz,hfz'⟩:=zJG h1 h2 h4;have hlt:p.blk<w.heap.size:=(hrel.on b _ p hvs hp).lt;have hpost:=qj (n:=n) hrel hvs rfl hp (o':=.cells vs) (ob:=.cells arr el fz') ⟨arr,el,fz',xe _ hlt,h2,h3,hfz',h5⟩;have hsame:(zC.fam h).upd b (some (.cells vs))=zC.fam h:=by
      funext j; unfold Fam.upd; split
      . rename_i e; subst e; exact hvs.symm
      . rfl
     rw[hsame]at hpost;refine⟨_,U x,Y,zR (jA ?_),hpost,hx0⟩;rw[hx,<- hfz];have hm:=zDD (P:=P) (off:=x') h1 h2;subst hsd;have he0:e0=e:=by rw[hs]at hd; injection hd with hd; injection hd
     subst he0;simp[convert,run_underlying hs,run_underlying he,hm]
   . exact zA _
 . rename_i e hs hd;split
   . rename_i he;refine zu (C:=zD P Y h n U (.convert s d x) ty w) zA λc hc=>?_;have hx:=ha x (by simp) c hc;refine qy (C:=zD P Y h n U (.convert s d x) ty w) _ _ _ ?_ λb z e0 m hv=>?_
     case refine_2=>
      refine zJ (C:=zD P Y h n U (.convert s d x) ty w) _ _ _ (zA _) λhm=>?_;rw[hv,qW]at hx;obtain⟨_,base,len,cap,iv,hx,hn',_⟩:=hx;obtain rfl:=zL8 P hm hn' default;refine⟨.string .empty,zR (jA ?_),zg.2 ⟨_,rfl,rfl⟩⟩;rw[hx,run_convert_bytes_string w s d e base 0 cap hs he hd];cases base with
      |none=>simp[Conv.bytesToString]|some a=>exact run_bytesToString w _ _ _ [] rfl
     refine yY (C:=zD P Y h n U (.convert s d x) ty w) _ _ _ _ (zA _) (λhv=>?_) λb off len cap s' ex hv=>?_
     . rw[hv,yD]at hx;refine⟨.string .empty,zR (jA ?_),zg.2 ⟨_,rfl,rfl⟩⟩;rw[hx,run_convert_bytes_string w s d e none 0 0 hs he hd];simp[Conv.bytesToString]
     . refine xR (C:=zD P Y h n U (.convert s d x) ty w) _ _ _ (zA _) λvs hvs=>?_;refine yb (C:=zD P Y h n U (.convert s d x) ty w) _ _ _ (zA _) λcs hcs=>?_;unfold zNW;split
       . rename_i r hr;intro hrel;rw[hv,yJ]at hx;obtain⟨p,x',cap',hp,hx,_,hl,_,hor⟩:=hx;have hcells:zBf Y w p vs:=by
          rcases hvs with hvs |hvs |⟨u,hvs⟩
          . exact yZ.toRo (hrel b _ p hvs hp)
          . exact hrel b _ p hvs hp
          . exact yZ.toRo (jt.toCells (hrel b _ p hvs hp))
         obtain⟨xs,hrun,hxs⟩:=qD (P:=P) hcells hcs;obtain⟨rfl,hle⟩:=wh hr;have hxs:=zE9 hxs;have hrun:(loadCells ⟨p.blk,x',none⟩ len).run P w=.ok ((r.map Int.ofNat).map (Value.int .u8)).toArray w:=by
          rcases hor with⟨e,_⟩ |e
          . rw[e,<- hxs]; exact hrun
          . have:len=0:=by omega
            subst this
            have:=(qh hcs).1
            have hr0:r=[]:=by cases r <;> simp_all
            subst hr0;rfl
         refine⟨.string ((r.map Int.ofNat).foldl (λr n=>r.push (UInt8.ofNat n.toNat)) ByteArray.empty),zR (jA ?_),zg.2 ⟨_,rfl,?_⟩⟩
         . rw[hx,run_convert_bytes_string w s d e _ _ _ hs he hd];exact run_bytesToString w _ _ _ _ hrun
         . rw[zBv r _ hle]; rfl
       . split
         . rename_i hbs;intro hrel;rw[hv,yJ]at hx;obtain⟨p,x',cap',hp,hx,_,hl,_,hor⟩:=hx;have hcells:zBf Y w p vs:=by
            rcases hvs with hvs |hvs |⟨u,hvs⟩
            . exact yZ.toRo (hrel b _ p hvs hp)
            . exact hrel b _ p hvs hp
            . exact yZ.toRo (jt.toCells (hrel b _ p hvs hp))
           obtain⟨xs,hrun,hxs⟩:=qD (P:=P) hcells hcs;obtain⟨r,hr,hle⟩:=zC7 P (w:=w) hbs hxs;have hrun:(loadCells ⟨p.blk,x',none⟩ len).run P w=.ok ((r.map Int.ofNat).map (Value.int .u8)).toArray w:=by
            rcases hor with⟨e,_⟩ |e
            . rw[e,<- hr]; exact hrun
            . have:len=0:=by omega
              subst this;have h1:=(qh hcs).1;have h2:=hxs.length;have hr0:r=[]:=by
               have:r.length=0:=by
                have:=congrArg List.length hr
                simp at this; omega
               exact List.length_eq_zero_iff.1 this
              subst hr0;rfl
           have hb:=zBv r ByteArray.empty hle;refine⟨.string ((r.map Int.ofNat).foldl (λr n=>r.push (UInt8.ofNat n.toNat)) ByteArray.empty),zR (jA ?_),ya.2 ⟨_,rfl,?_⟩⟩
           . rw[hx,run_convert_bytes_string w s d e _ _ _ hs he hd];exact run_bytesToString w _ _ _ _ hrun
           . generalize (r.map Int.ofNat).foldl (λr n=>r.push (UInt8.ofNat n.toNat)) ByteArray.empty=z at hb;have hz:zy z=r:=by rw[hb]; rfl
             have:(z.data.toList.map λx=>Value.int .u8 (Int.ofNat x.toNat))=xs:=by rw[hr,<- hz];unfold zy;rw[List.map_map,List.map_map];rfl
             rw[this]; exact hxs
         . exact zA _
   . exact zA _
 . exact zA _
end
end Go.Ev
