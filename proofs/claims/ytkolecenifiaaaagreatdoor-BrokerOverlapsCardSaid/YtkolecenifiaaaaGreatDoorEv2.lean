/- A verified evaluator for the model's code: EvC, EvOpt, EvD, EvE, EvF. -/
import Derived.Test.YtkolecenifiaaaaGreatDoorEv1
import Derived.Laws.Sem
import Derived.Laws.Cells
import Derived.Laws.CopyRow
import Derived.Laws.Entries
import Derived.ChangeKeysEq
import Derived.Laws.Slices
import Derived.Laws.StructEq
import Derived.Laws.Append
set_option linter.unusedSectionVars false
set_option linter.unusedVariables false
set_option linter.unusedSimpArgs false
namespace Go.Ev
variable[Sym]
theorem LV.get_nil(d:Dg):LV.nil.get d=CV.any:=by cases d <;> rfl
theorem LV.get_upd_same(f:CV->CV)(d:Dg)(t:LV):(LV.upd f d t).get d=f (t.get d):=by cases d <;> cases t <;> rfl
theorem LV.get_upd_other(f:CV->CV)(d e:Dg)(t:LV)(h:e≠d):(LV.upd f d t).get e=t.get e:=by cases d <;> cases e <;> first |exact absurd rfl h |(cases t <;> rfl)
theorem L1.get_nil(d:Dg):L1.nil.get d=LV.nil:=by cases d <;> rfl
theorem L1.get_upd_same(f:LV->LV)(d:Dg)(t:L1):(L1.upd f d t).get d=f (t.get d):=by cases d <;> cases t <;> rfl
theorem L1.get_upd_other(f:LV->LV)(d e:Dg)(t:L1)(h:e≠d):(L1.upd f d t).get e=t.get e:=by cases d <;> cases e <;> first |exact absurd rfl h |(cases t <;> rfl)
theorem HV.get_nil(d:Dg):HV.nil.get d=none:=by cases d <;> rfl
theorem HV.get_upd_same(f:Option CObj->Option CObj)(d:Dg)(t:HV):(HV.upd f d t).get d=f (t.get d):=by cases d <;> cases t <;> rfl
theorem HV.get_upd_other(f:Option CObj->Option CObj)(d e:Dg)(t:HV)(h:e≠d):(HV.upd f d t).get e=t.get e:=by cases d <;> cases e <;> first |exact absurd rfl h |(cases t <;> rfl)
theorem H1.get_nil(d:Dg):H1.nil.get d=HV.nil:=by cases d <;> rfl
theorem H1.get_upd_same(f:HV->HV)(d:Dg)(t:H1):(H1.upd f d t).get d=f (t.get d):=by cases d <;> cases t <;> rfl
theorem H1.get_upd_other(f:HV->HV)(d e:Dg)(t:H1)(h:e≠d):(H1.upd f d t).get e=t.get e:=by cases d <;> cases e <;> first |exact absurd rfl h |(cases t <;> rfl)
theorem H2.get_nil(d:Dg):H2.nil.get d=H1.nil:=by cases d <;> rfl
theorem H2.get_upd_same(f:H1->H1)(d:Dg)(t:H2):(H2.upd f d t).get d=f (t.get d):=by cases d <;> cases t <;> rfl
theorem H2.get_upd_other(f:H1->H1)(d e:Dg)(t:H2)(h:e≠d):(H2.upd f d t).get e=t.get e:=by cases d <;> cases e <;> first |exact absurd rfl h |(cases t <;> rfl)
theorem H3.get_nil(d:Dg):H3.nil.get d=H2.nil:=by cases d <;> rfl
theorem H3.get_upd_same(f:H2->H2)(d:Dg)(t:H3):(H3.upd f d t).get d=f (t.get d):=by cases d <;> cases t <;> rfl
theorem H3.get_upd_other(f:H2->H2)(d e:Dg)(t:H3)(h:e≠d):(H3.upd f d t).get e=t.get e:=by cases d <;> cases e <;> first |exact absurd rfl h |(cases t <;> rfl)
theorem zGO(o:Option CObj)(k:Key)(h:zC):zb k (yy o k h)=o:=by cases k; simp only[zb,yy,H3.get_upd_same,H2.get_upd_same,H1.get_upd_same,HV.get_upd_same]
theorem zFA(o:Option CObj)(k j:Key)(h:zC)(hne:j≠k):zb j (yy o k h)=zb j h:=by
 obtain⟨a,b,c,d⟩:=k;obtain⟨a',b',c',d'⟩:=j;simp only[zb,yy];by_cases h1:a'=a
 . subst h1;rw[H3.get_upd_same];by_cases h2:b'=b
   . subst h2;rw[H2.get_upd_same];by_cases h3:c'=c
     . subst h3;rw[H1.get_upd_same];by_cases h4:d'=d
       . subst h4; exact absurd rfl hne
       . rw[HV.get_upd_other _ _ _ _ h4]
     . rw[H1.get_upd_other _ _ _ _ h3]
   . rw[H2.get_upd_other _ _ _ _ h2]
 . rw[H3.get_upd_other _ _ _ _ h1]
theorem zEb(o:Option CObj)(k j:Key)(h:zC):zb j (yy o k h)=if j=k then o else zb j h:=by
 split
 . subst_vars; exact zGO ..
 . exact zFA _ _ _ _ ‹_›
theorem zGe(p:Loc):qC p Tm.nil=.any:=by cases p <;> simp only[qC,Tm.nil,LV.get_nil,L1.get_nil]
theorem kV(v:CV)(p:Loc)(t:Tm):qC p (wP v p t)=v:=by cases p <;> cases t <;> simp only[qC,wP,LV.get_upd_same,L1.get_upd_same]
theorem x9(v:CV)(p q:Loc)(t:Tm)(hne:q≠p):qC q (wP v p t)=qC q t:=by
 cases t;cases p with
 |s d=>cases q with
  |s d'=>
   have:d'≠d:=λe=>hne (by rw[e])
   simp only[qC,wP,LV.get_upd_other _ _ _ _ this]
  |w c' d'=>rfl
 |w c d=>cases q with
  |s d'=>rfl|w c' d'=>
   simp only[qC,wP];by_cases h1:c'=c
   . subst h1;rw[L1.get_upd_same]
     have:d'≠d:=λe=>hne (by rw[e])
     rw[LV.get_upd_other _ _ _ _ this]
   . rw[L1.get_upd_other _ _ _ _ h1]
theorem zEt{a b:Nat}(h:b<a):Nat.ble a b=false:=by
 cases e:Nat.ble a b with
 |false=>rfl|true=>have:=Nat.le_of_ble_eq_true e; omega
theorem zH{a b:Nat}(h:Nat.ble a b=true):a<=b:=Nat.le_of_ble_eq_true h
theorem vG{a b:Nat}(h:a≠b):Nat.beq a b=false:=by
 cases e:Nat.beq a b with
 |false=>rfl|true=>exact absurd (Nat.eq_of_beq_eq_true e) h
theorem ze{a b:Nat}(h:Nat.beq a b=true):a=b:=Nat.eq_of_beq_eq_true h
theorem qw(a:Nat):Nat.beq a a=true:=by simp
theorem Dg.ix_lt(d:Dg):d.ix<16:=by cases d <;> decide
theorem Dg.ix_inj{a b:Dg}(h:a.ix=b.ix):a=b:=by cases a <;> cases b <;> first |rfl |(exfalso; revert h; decide)
theorem Dg.succ_some{d e:Dg}(h:d.succ=some e):e.ix=d.ix+1:=by cases d <;> simp only[Dg.succ,Option.some.injEq,reduceCtorEq]at h <;> subst h <;> rfl
theorem Dg.succ_none{d:Dg}(h:d.succ=none):d.ix=15:=by cases d <;> simp only[Dg.succ,reduceCtorEq]at h <;> rfl
theorem Dg.ix_ofN{n:Nat}(h:n<16):(Dg.ofN n).ix=n:=by
 match n,h with
 | 0,_ | 1,_ | 2,_ | 3,_ | 4,_ | 5,_ | 6,_ | 7,_ | 8,_ | 9,_ | 10,_ | 11,_ | 12,_ | 13,_ | 14,_ | 15,_=>rfl|n+16,h=>omega
theorem Key.ix_le(k:Key):k.ix<=65535:=by
 obtain⟨a,b,c,d⟩:=k
 have:=a.ix_lt; have:=b.ix_lt; have:=c.ix_lt; have:=d.ix_lt
 simp only[Key.ix]; omega
theorem Key.ix_inj{j k:Key}(h:j.ix=k.ix):j=k:=by
 obtain⟨a,b,c,d⟩:=j;obtain⟨a',b',c',d'⟩:=k
 have:=a.ix_lt; have:=b.ix_lt; have:=c.ix_lt; have:=d.ix_lt
 have:=a'.ix_lt; have:=b'.ix_lt; have:=c'.ix_lt; have:=d'.ix_lt
 simp only[Key.ix]at h;have h4:d.ix=d'.ix:=by omega
 have h3:c.ix=c'.ix:=by omega
 have h2:b.ix=b'.ix:=by omega
 have h1:a.ix=a'.ix:=by omega
 rw[Dg.ix_inj h1,Dg.ix_inj h2,Dg.ix_inj h3,Dg.ix_inj h4]
theorem Key.ix_succ{k:Key}(h:k.ix<65535):k.succ.ix=k.ix+1:=by
 obtain⟨a,b,c,d⟩:=k;simp only[Key.ix]at h ⊢;simp only[Key.succ];have hz:Dg.d0.ix=0:=rfl;cases hd:d.succ with
 |some d'=>have:=Dg.succ_some hd; simp only[]; omega|none=>
  have:=Dg.succ_none hd
  cases hc:c.succ with
  |some c'=>have:=Dg.succ_some hc; simp only[]; omega|none=>
   have:=Dg.succ_none hc
   cases hb:b.succ with
   |some b'=>have:=Dg.succ_some hb; simp only[]; omega|none=>
    have:=Dg.succ_none hb
    cases ha:a.succ with
    |some a'=>have:=Dg.succ_some ha; simp only[]; omega|none=>have:=Dg.succ_none ha; omega
theorem Key.ix_succ_top{k:Key}(h:k.ix=65535):k.succ.ix=65535:=by
 obtain⟨a,b,c,d⟩:=k
 have:=a.ix_lt; have:=b.ix_lt; have:=c.ix_lt; have:=d.ix_lt
 simp only[Key.ix]at h;have ha:a=.d15:=Dg.ix_inj (by show a.ix=15; omega);have hb:b=.d15:=Dg.ix_inj (by show b.ix=15; omega);have hc:c=.d15:=Dg.ix_inj (by show c.ix=15; omega);have hd:d=.d15:=Dg.ix_inj (by show d.ix=15; omega)
 subst_vars; rfl
theorem Key.ix_le_succ(k:Key):k.ix<=k.succ.ix:=by
 have:=k.ix_le
 by_cases h:k.ix=65535
 . rw[Key.ix_succ_top h]; omega
 . rw[Key.ix_succ (by omega)]; omega
def Key.room(k:Key):Prop:=k.ix<65535
theorem Key.room_of_succ{k:Key}(h:k.succ.room):k.room:=by
 have:=k.ix_le
 unfold Key.room at *
 by_cases h':k.ix=65535
 . rw[Key.ix_succ_top h']at h; omega
 . omega
theorem Key.ix_ofNat{n:Nat}(h:n<=65535):(Key.ofNat n).ix=n:=by simp only[Key.ofNat,Key.ix,Dg.ix_ofN (Nat.mod_lt _ (by omega:16 > 0))];omega
theorem Loc.ofNat_inj{a b:Nat}(ha:a<=271)(hb:b<=271)(h:Loc.ofNat a=Loc.ofNat b):a=b:=by
 unfold Loc.ofNat at h;by_cases h1:a<=15 <;> by_cases h2:b<=15
 . rw[Nat.ble_eq_true_of_le h1,Nat.ble_eq_true_of_le h2]at h;injection h with h
   have:=congrArg Dg.ix h
   rw[Dg.ix_ofN (by omega),Dg.ix_ofN (by omega)]at this;exact this
 . rw[Nat.ble_eq_true_of_le h1,(zEt (by omega):Nat.ble b 15=false)]at h;cases h
 . rw[Nat.ble_eq_true_of_le h2,(zEt (by omega):Nat.ble a 15=false)]at h;cases h
 . rw[(zEt (by omega):Nat.ble a 15=false),(zEt (by omega):Nat.ble b 15=false)]at h;injection h with h1 h2;have e1:=congrArg Dg.ix h1;have e2:=congrArg Dg.ix h2;rw[Dg.ix_ofN (by omega),Dg.ix_ofN (by omega)]at e1 e2;omega
theorem nth_eq{α:Type}(l:List α)(k:Nat):nth l k=l[k]?:=by
 induction l generalizing k with
 |nil=>rfl|cons x xs ih=>cases k with
  |zero=>rfl|succ k=>simp[nth,ih]
theorem qp(l:List CV)(k:Nat):zA6 l k=l[k]?:=by
 induction l generalizing k with
 |nil=>rfl|cons x xs ih=>cases k with
  |zero=>rfl|succ k=>simpa [zA6]using ih k
theorem zVn(l:List Nat)(k:Nat):zXb l k=l[k]?:=by
 induction l generalizing k with
 |nil=>rfl|cons x xs ih=>cases k with
  |zero=>rfl|succ k=>simpa [zXb]using ih k
theorem zSS(l:List CV)(k:Nat):zPi l k=l.drop k:=by
 induction l generalizing k with
 |nil=>simp[zPi]|cons x xs ih=>cases k with
  |zero=>rfl|succ k=>simpa [zPi]using ih k
theorem zTA(l:List Nat)(k:Nat):zPX l k=l.drop k:=by
 induction l generalizing k with
 |nil=>simp[zPX]|cons x xs ih=>cases k with
  |zero=>rfl|succ k=>simpa [zPX]using ih k
theorem zLU(l:List CV)(k:Nat):zME l k=if k<=l.length then some (l.take k)else none:=by
 induction l generalizing k with
 |nil=>cases k with
  |zero=>rfl|succ k=>rfl
 |cons x xs ih=>cases k with
  |zero=>rfl|succ k=>
   have:zME (x::xs) (k+1)=zJA x (zME xs k):=rfl
   rw[this,ih];by_cases h:k<=xs.length
   . rw[if_pos h,if_pos (by simpa using h)]; rfl
   . rw[if_neg h,if_neg (by simpa using h)]; rfl
theorem zLM(l:List Nat)(k:Nat):zMi l k=if k<=l.length then some (l.take k)else none:=by
 induction l generalizing k with
 |nil=>cases k with
  |zero=>rfl|succ k=>rfl
 |cons x xs ih=>cases k with
  |zero=>rfl|succ k=>
   have:zMi (x::xs) (k+1)=zPE x (zMi xs k):=rfl
   rw[this,ih];by_cases h:k<=xs.length
   . rw[if_pos h,if_pos (by simpa using h)]; rfl
   . rw[if_neg h,if_neg (by simpa using h)]; rfl
theorem zEr{l r:List CV}{off n:Nat}(h:zAY l off n=some r):(n=0\/off+n<=l.length)/\r=(l.drop off).take n:=by
 unfold zAY at h;rw[zLU,zSS]at h;split at h
 . rename_i hle;rw[List.length_drop]at hle;exact⟨by omega,(Option.some.inj h).symm⟩
 . cases h
theorem qh{l r:List CV}{off n:Nat}(h:zAY l off n=some r):r.length=n/\∀i,i<n->r[i]? = l[off+i]?:=by obtain⟨hle,rfl⟩:=zEr h;refine⟨by simp; omega,λi hi=>?_⟩;rw[List.getElem?_take_of_lt hi,List.getElem?_drop]
theorem zQS{l r:List Nat}{off n:Nat}(h:zXu l off n=some r):(n=0\/off+n<=l.length)/\r=(l.drop off).take n:=by
 unfold zXu at h;rw[zLM,zTA]at h;split at h
 . rename_i hle;rw[List.length_drop]at hle;exact⟨by omega,(Option.some.inj h).symm⟩
 . cases h
theorem zGP{xs l r:List CV}{s:Nat}(h:zFt xs s l=some r):xs.length=s/\s<=l.length/\r=xs++l.drop s:=by
 induction xs generalizing s l r with
 |nil=>cases s with
  |zero=>exact⟨rfl,Nat.zero_le _,(Option.some.inj h).symm⟩|succ s=>cases h
 |cons x xs ih=>cases s with
  |zero=>cases h|succ s=>cases l with
   |nil=>cases h|cons y l=>
    have e:zFt (x::xs) (s+1) (y::l)=zJA x (zFt xs s l):=rfl;rw[e]at h;cases hr:zFt xs s l with
    |none=>rw[hr]at h; cases h|some r'=>rw[hr]at h;obtain⟨h1,h2,h3⟩:=ih hr;injection h with h;exact⟨by simp[h1],by simpa using h2,by rw[<- h,h3]; simp⟩
theorem zNc{xs l r:List CV}{s k:Nat}(h:jv xs s l k=some r):xs.length=s/\k+s<=l.length/\r=l.take k++xs++l.drop (k+s):=by
 induction l generalizing k r with
 |nil=>cases k with
  |zero=>obtain⟨h1,h2,h3⟩:=zGP (show zFt xs s []=some r from h);exact⟨h1,by simpa using h2,by simpa using h3⟩
  |succ k=>cases h
 |cons y l ih=>cases k with
  |zero=>obtain⟨h1,h2,h3⟩:=zGP (show zFt xs s (y::l)=some r from h);exact⟨h1,by simpa using h2,by simpa using h3⟩
  |succ k=>
   have e:jv xs s (y::l) (k+1)=zJA y (jv xs s l k):=rfl;rw[e]at h;cases hr:jv xs s l k with
   |none=>rw[hr]at h; cases h|some r'=>
    rw[hr]at h;obtain⟨h1,h2,h3⟩:=ih hr;injection h with h;refine⟨h1,by simp; omega,?_⟩;rw[<- h,h3]
    have:k+1+s=(k+s)+1:=by omega
    simp[this]
theorem zAx{xs l r:List CV}{s k:Nat}(h:jv xs s l k=some r):xs.length=s/\k+s<=l.length/\r.length=l.length /\
 (∀i,i<s->r[k+i]? = xs[i]?)/\(∀i,i<k\/k+s<=i->r[i]? = l[i]?):=by
 obtain⟨h1,h2,rfl⟩:=zNc h;have hk:(l.take k).length=k:=by simp; omega
 refine⟨h1,h2,by simp; omega,λi hi=>?_,λi hi=>?_⟩
 . rw[List.append_assoc,List.getElem?_append_right (by omega),hk,Nat.add_sub_cancel_left,List.getElem?_append_left (by omega)]
 . rcases hi with hi |hi
   . rw[List.append_assoc,List.getElem?_append_left (by omega),List.getElem?_take_of_lt hi]
   . rw[List.getElem?_append_right (by simp; omega),List.getElem?_drop]
     congr 1; simp; omega
theorem zAi(l:List Nat):zDF l=l.length:=by
 induction l with
 |nil=>rfl|cons x xs ih=>simp only[List.length_cons,<- ih]; rfl
theorem zDv(l:List CE):zRo l=l.length:=by
 induction l with
 |nil=>rfl|cons x xs ih=>simp only[List.length_cons,<- ih]; rfl
theorem zVk(a b:List Nat):zXR a b=a++b:=by
 induction a with
 |nil=>rfl|cons x xs ih=>simp only[List.cons_append,<- ih]; rfl
theorem uA(a b:List CV):zEg a b=a++b:=by
 induction a with
 |nil=>rfl|cons x xs ih=>simp only[List.cons_append,<- ih]; rfl
theorem zE4(x:List CV)(n:Nat):(wW x n).length=n*x.length:=by
 induction n with
 |zero=>simp[wW]|succ n ih=>rw[wW,List.length_append,ih,Nat.succ_mul]; omega
theorem zTd{x:List CV}(n:Nat){i:Nat}(h:i<n*x.length):(wW x n)[i]? = x[i % x.length]?:=by
 induction n generalizing i with
 |zero=>simp at h|succ n ih=>
  rw[wW];by_cases hi:i<x.length
  . rw[List.getElem?_append_left hi,Nat.mod_eq_of_lt hi]
  . rw[List.getElem?_append_right (by omega),ih (by rw[Nat.succ_mul]at h; omega)]
    congr 1
    rw[Nat.mod_eq_sub_mod (by omega:i >= x.length)]
theorem kr(a b:List Nat):qY a b=decide (a=b):=by
 induction a generalizing b with
 |nil=>cases b <;> simp[qY]|cons x xs ih=>cases b with
  |nil=>simp[qY]|cons y ys=>
   have e:qY (x::xs) (y::ys)=(match Nat.beq x y with |false=>false |true=>qY xs ys):=by cases h:Nat.beq x y <;> simp[qY,h]
   rw[e,ih];by_cases h:x=y
   . subst h; simp
   . rw[vG h]; simp[h]
theorem zX(a b:Int):zm a b=decide (a=b):=by
 cases a with
 |ofNat a=>cases b with
  |ofNat b=>
   show Nat.beq a b=_;by_cases h:a=b
   . subst h; simp
   . rw[vG h]; simp; omega
  |negSucc b=>show false=_; simp
 |negSucc a=>cases b with
  |ofNat b=>show false=_; simp|negSucc b=>
   show Nat.beq a b=_;by_cases h:a=b
   . subst h; simp
   . rw[vG h]; simp[h]
theorem ql(a b:Int):vL a b=decide (a<b):=by
 cases a with
 |ofNat a=>cases b with
  |ofNat b=>
   show Nat.ble (a+1) b=_;by_cases h:a<b
   . rw[Nat.ble_eq_true_of_le h]; simp[h]
   . rw[(zEt (by omega):Nat.ble (a+1) b=false)]; simp; omega
  |negSucc b=>show false=_; simp; omega
 |negSucc a=>cases b with
  |ofNat b=>show true=_; simp; omega|negSucc b=>
   show Nat.ble (b+1) a=_;by_cases h:b<a
   . rw[Nat.ble_eq_true_of_le h]; simp; omega
   . rw[(zEt (by omega):Nat.ble (b+1) a=false)]; simp; omega
theorem yj(j k:IntKind):kEq j k=decide (j=k):=by cases j <;> cases k <;> rfl
theorem vt(b:Bool):zBk b = !b:=by cases b <;> rfl
end Go.Ev
namespace Go.Ev
def zLn:List zY->Nat->zY
 | [],_=>.k .any|x::_,0=>x|_::l,n+1=>zLn l n
def wc(s:List zY)(x:zY):zY:=match x with
 |.e i=>zLn s i|.l p=>.l p|.k v=>.k v
def vV(g:zY->zY):Option zY->Option zY
 |none=>none|some x=>some (g x)
def zH1(g:zY->zY):List zY->List zY
 | []=>[]
 |x::l=>g x::zH1 g l
def zQ3(g:zY->zY):List zKf->List zKf
 | []=>[]
 |p::l=>⟨p.off,p.size,g p.arg⟩::zQ3 g l
def zF2(g:zY->zY):COp->COp
 |.mv x=>.mv (g x)|.pick c a b=>.pick (g c) (g a) (g b)|.alloc cs=>.alloc cs|.box x=>.box (g x)|.build z ps=>.build z (zQ3 g ps)|.bslice z l e ps=>.bslice z l e (zQ3 g ps)|.load1 x=>.load1 (g x)|.loadN s x=>.loadN s (g x)|.store s a x=>.store s (g a) (g x)|.nilck x=>.nilck (g x)|.arith op x y=>.arith op (g x) (g y)|.eq n k c x y=>.eq n k c (g x) (g y)|.un op x=>.un op (g x)|.cvInt k x=>.cvInt k (g x)|.cvStr x=>.cvStr (g x)|.cvSB x=>.cvSB (g x)|.cvMark x=>.cvMark (g x)|.cvBS x=>.cvBS (g x)|.iface t x=>.iface t (g x)|.mkfn f a b=>.mkfn f (zH1 g a) (zH1 g b)|.mkmap=>.mkmap|.mkslice z e b l c=>.mkslice z e b (g l) (g c)|.slArr l e x a b c=>.slArr l e (g x) (vV g a) (vV g b) (vV g c)|.slSl e x a b c=>.slSl e (g x) (vV g a) (vV g b) (vV g c)|.slStr x a b=>.slStr (g x) (vV g a) (vV g b)|.addOff k x=>.addOff k (g x)|.part a o s x=>.part a o s (g x)|.ixArr l e x i=>.ixArr l e (g x) (g i)|.ixSl e x i=>.ixSl e (g x) (g i)|.ixAgg l e a x i=>.ixAgg l e a (g x) (g i)|.ixStr x i=>.ixStr (g x) (g i)|.lookup kk z ok x k=>.lookup kk z ok (g x) (g k)|.mapupd kk m k v=>.mapupd kk (g m) (g k) (g v)|.rangeStr x=>.rangeStr (g x)|.rangeMap x=>.rangeMap (g x)|.next s x=>.next s (g x)|.entry x=>.entry (g x)|.tassert t z ok x=>.tassert t z ok (g x)|.tiface t z ok x=>.tiface t z ok (g x)|.extract i x=>.extract i (g x)|.call f a=>.call f (zH1 g a)|.ext e a=>.ext e (zH1 g a)|.callv f a=>.callv (g f) (zH1 g a)|.invoke r n a=>.invoke (g r) n (zH1 g a)|.append e b s x=>.append e b (g s) (g x)|.appz z e s x=>.appz z e (g s) (g x)|.copy e d x=>.copy e (g d) (g x)|.lenStr x=>.lenStr (g x)|.lenSl x=>.lenSl (g x)|.lenMap x=>.lenMap (g x)|.capSl x=>.capSl (g x)|.delete kk m k=>.delete kk (g m) (g k)|.clearMap x=>.clearMap (g x)|.clearSl z e x=>.clearSl z e (g x)|.minmax mx x r=>.minmax mx (g x) (zH1 g r)|.defer f a=>.defer (g f) (zH1 g a)|.recov=>.recov|.bad c=>.bad c
noncomputable section
section
variable[Sym]{P:Program}{g:zY->zY}{es es':List CV}{tm:Tm}
theorem zPd(hg:∀x,aV es' tm (g x)=aV es tm x):∀l,aVs es' tm (zH1 g l)=aVs es tm l
 | []=>rfl|x::l=>by show aV es' tm (g x)::aVs es' tm (zH1 g l)=aV es tm x::aVs es tm l;rw[hg,zPd hg l]
theorem zJO(hg:∀x,aV es' tm (g x)=aV es tm x):∀ps cells,zBx es' tm (zQ3 g ps) cells=zBx es tm ps cells
 | [],_=>rfl|p::l,cells=>by show Option.rec (motive:=λ_=>Option (List CV)) none (zBx es' tm (zQ3 g l)) (zDR p.size p.off cells (cellsOf (aV es' tm (g p.arg))))=Option.rec (motive:=λ_=>Option (List CV)) none (zBx es tm l) (zDR p.size p.off cells (cellsOf (aV es tm p.arg)));rw[hg,show zBx es' tm (zQ3 g l)=zBx es tm l from funext (zJO hg l)]
theorem zOU(hg:∀x,aV es' tm (g x)=aV es tm x)(x:Option zY)(y d:Nat)(k:Nat->OR)(e:Nat):zCy es' tm (vV g x) y d k e=zCy es tm x y d k e:=by
 cases x with
 |none=>rfl|some x=>show ue (aV es' tm (g x)) (λi=>yv (Nat.ble i y) (k i) e) e=ue (aV es tm x) (λi=>yv (Nat.ble i y) (k i) e) e;rw[hg]
theorem zM8(hg:∀x,aV es' tm (g x)=aV es tm x)(l c:Nat)(x y z:Option zY)(k:Nat->Nat->Nat->OR)(e:Nat):jT es' tm l c (vV g x) (vV g y) (vV g z) k e=jT es tm l c x y z k e:=by unfold jT;simp only[zOU hg]
theorem zMO(hg:∀x,aV es' tm (g x)=aV es tm x)(h:zC)(b:Key)(o c s:Nat)(ex:Bool)(x y z:Option zY)(k:OR):zBS es' tm h b o c s ex (vV g x) (vV g y) (vV g z) k=zBS es tm h b o c s ex x y z k:=by cases ex <;> cases x <;> cases y <;> cases z <;> first |rfl |(simp only[vV,zBS,hg])
theorem zRG(hg:∀x,aV es' tm (g x)=aV es tm x)(b:Key)(z:Nat)(e m:SE)(s:Nat)(x y w:Option zY):zIw es' tm b z e m s (vV g x) (vV g y) (vV g w)=zIw es tm b z e m s x y w:=by cases x <;> cases y <;> cases w <;> first |rfl |(simp only[vV,zIw,hg])
theorem zOz(x:Option zY):(vV g x).isSome=x.isSome:=by cases x <;> rfl
theorem zG4(hg:∀x,aV es' tm (g x)=aV es tm x)(op:COp)(h:zC)(n:Key):yX P (zF2 g op) es' tm h n=yX P op es tm h n:=by
 have h1:=zPd (g:=g) hg;have h2:=zJO (g:=g) hg;have h3:=zM8 (g:=g) hg;have h4:=zMO (g:=g) hg;have h6:=zRG (g:=g) hg;have h5:∀(l c:Nat) (x y:Option zY) (k:Nat->Nat->Nat->OR) (e:Nat),jT es' tm l c (vV g x) (vV g y) none k e=jT es tm l c x y none k e:=λl c x y k e=>h3 l c x y none k e;cases op <;> first
  |rfl
  | (simp only [zF2,yX,xMv,zWU,zSP,zX7,zSb,zPA,zT9,zTO,zTr,zSt,zTH,xEq,xUn,zSe,zTX,zWS,zPD,zWZ,zSo,zW3,zUW,zMr,zTs,zWN,zUh,zQv,zWO,zTI,zWY,zSm,zUC,zPG,zPo,zIq,zJU,zW1,zSQ,
      zMN,zP9,zNB,zW5,zWK,zUz,zPU,zBU,zQm,zJe,zPH,zUI,zQA,zSc,zPb,zJB,zM4,zPQ,zSR,zSn,zYm,hg,h1,h2,h3,h4,h5,h6,zOz])
end
end
def zPu(p d:Loc):Bool:=decide (p=d)
def noW(p:Loc):List jD->Bool
 | []=>true|i::r=>(match i with
  |.i _=>true|.o _ d=>!zPu p d|.g _ _ _ none=>true|.g _ _ _ (some d)=>!zPu p d)&&noW p r
def zJ3(op:COp):Option zY:=match op with
 |.mv x=>some x|_=>none
def zOu(i:jD):Option Loc:=match i with
 |.o op d=>(match zJ3 op with
  |some (.e 0)=>some d|_=>none)
 |_=>none
def inl(y:zY)(r:List jD):Bool:=match y with
 |.l p=>noW p r|_=>true
def upA(x:zY):zY:=match x with
 |.e i=>.e (i+1)|.l p=>.l p|.k v=>.k v
def shA(s:List zY):List zY:=.e 0::s.map upA
def kX:List jD->Option COp->List zY->List jD
 | [],none,_=>[]
 | [],some q,_=>[.i q]
 |i::r,q,s=>match q,zOu i with
  |some q,some d=>.o q d::kX r none (.e 0::s)|q,_=>(match q with
   |some q=>[.i q]
   |none=>[])++(match i with
   |.i op=>(match zJ3 op with
    |some x=>(match inl (wc s x) r with
     |true=>kX r none (wc s x::s)|false=>kX r (some (.mv (wc s x))) (shA s))
    |none=>kX r (some (zF2 (wc s) op)) (shA s))
   |.o op d=>.o (zF2 (wc s) op) d::kX r none (shA s)|.g x w op d=>.g (wc s x) w (zF2 (wc s) op) d::kX r none (shA s))
def zAo:CCode->CCode
 |.region ops=>.region (kX ops none [])|.seq a b=>.seq (zAo a) (zAo b)|.cond x a b=>.cond x (zAo a) (zAo b)|.block i b=>.block i (zAo b)|.loop b=>.loop (zAo b)|.scope b=>.scope (zAo b)|.skip=>.skip|.dregion l=>.dregion l|.exit i=>.exit i|.ret=>.ret|.bad c=>.bad c
def zPF:CFn->CFn
 |.mk b r=>.mk (zAo b) r|.mkD o b r=>.mkD o (zAo b) r|.ext e=>.ext e|.bad c=>.bad c
def zFz(i:jD)(r:List jD)(s:List zY):List jD:=match i with
 |.i op=>(match zJ3 op with
  |some x=>(match inl (wc s x) r with
   |true=>kX r none (wc s x::s)|false=>kX r (some (.mv (wc s x))) (shA s))
  |none=>kX r (some (zF2 (wc s) op)) (shA s))
 |.o op d=>.o (zF2 (wc s) op) d::kX r none (shA s)|.g x w op d=>.g (wc s x) w (zF2 (wc s) op) d::kX r none (shA s)
theorem zRW(i:jD)(r:List jD)(s:List zY):kX (i::r) none s=zFz i r s:=by cases i <;> rfl
theorem zR1(i:jD)(r:List jD)(q:COp)(s:List zY):kX (i::r) (some q) s=match zOu i with
 |some d=>.o q d::kX r none (.e 0::s)|none=>.i q::zFz i r s:=by
 show(match some q,zOu i with
  |some q,some d=>jD.o q d::kX r none (.e 0::s)|q,_=>(match q with
   |some q=>[jD.i q]
   |none=>[])++zFz i r s)=_
 cases zOu i <;> rfl
theorem zQX{op:COp}{r:List jD}{s:List zY}(h:zJ3 op=none):zFz (.i op) r s=kX r (some (zF2 (wc s) op)) (shA s):=by unfold zFz;simp only[h]
theorem zRe{x:zY}{r:List jD}{s:List zY}(h:inl (wc s x) r=true):zFz (.i (.mv x)) r s=kX r none (wc s x::s):=by unfold zFz;simp only[zJ3,h]
theorem zOx{x:zY}{r:List jD}{s:List zY}(h:inl (wc s x) r=false):zFz (.i (.mv x)) r s=kX r (some (.mv (wc s x))) (shA s):=by unfold zFz;simp only[zJ3,h]
theorem zJE{op:COp}{x:zY}(h:zJ3 op=some x):op=.mv x:=by
 unfold zJ3 at h;split at h
 . injection h with h; rw[h]
 . cases h
theorem zRd{i:jD}{d:Loc}(h:zOu i=some d):i=.o (.mv (.e 0)) d:=by
 unfold zOu at h;split at h
 . rename_i op d';split at h
   . rename_i e;injection h with h;rw[zJE e,h]
   . cases h
 . cases h
def zYu(i:jD):Option Loc:=match i with
 |.i _=>none|.o _ d=>some d|.g _ _ _ d=>d
theorem zA5{p:Loc}{i:jD}{r:List jD}(h:noW p (i::r)=true):noW p r=true/\∀d,zYu i=some d->d≠p:=by
 unfold noW at h;rw[Bool.and_eq_true]at h;refine⟨h.2,λd hd e=>?_⟩;subst e;have h1:=h.1;cases i with
 |i _=>cases hd|o _ d'=>injection hd with hd;subst hd;simp[zPu]at h1
 |g _ _ _ d'=>have hd:d'=some d:=hd;subst hd;simp[zPu]at h1
noncomputable section
section
variable[Sym]{P:Program}{call:yw}
theorem qu{k k':KE}{d d':Option Loc}{es es':List CV}{tm:Tm}{ds:xz}
 (H:∀v ds h n,yN d v tm (λtm=>k (v::es) tm ds h n)=yN d' v tm (λtm=>k' (v::es') tm ds h n)) :
 ∀(r:OR) (h:zC) (n:Key),after r call k d es tm ds h n=after r call k' d' es' tm ds h n
 |.val v,h,n=>H v ds h n|.read v,h,n=>H v ds h n|.alloc o v,h,n=>H v ds (yy (some o) n h) n.succ|.eff v h' n',_,_=>H v ds h' n'|.call f args,h,n=>by
  have:∀r:R,R.rec (motive:=λ_=>R) (λ_ _ _ _ _=>.err 300) (λv h n=>yN d v tm λtm=>k (v::es) tm ds h n) (λc=>.err c) (λ_ _ a b=>.fork a b) r =
   R.rec (motive:=λ_=>R) (λ_ _ _ _ _=>.err 300) (λv h n=>yN d' v tm λtm=>k' (v::es') tm ds h n) (λc=>.err c) (λ_ _ a b=>.fork a b) r:=by
   intro r;induction r with
   |ok=>rfl|ret v h n=>exact H v ds h n|err=>rfl|fork a b iha ihb=>show R.fork _ _=R.fork _ _; rw[iha,ihb]
  exact this (call false f args h n)
 |.dfr f args,h,n=>H .undef ((f,args)::ds) h n|.recov,h,n=>H .niliface ds h n|.err c,_,_=>rfl|.fork a b,h,n=>by show R.fork (after a call k d es tm ds h n) (after b call k d es tm ds h n)=R.fork (after a call k' d' es' tm ds h n) (after b call k' d' es' tm ds h n);rw[qu H a,qu H b]
def uR(s:List zY)(es es':List CV)(tm:Tm):Prop:=∀x,aV es' tm (wc s x)=aV es tm x
theorem zMc{s:List zY}{es es':List CV}{tm:Tm}{y:zY}{v:CV}(h:uR s es es' tm)(hy:aV es' tm y=v):uR (y::s) (v::es) es' tm:=by
 intro x;cases x with
 |e i=>cases i with
  |zero=>exact hy|succ i=>exact h (.e i)
 |l p=>rfl|k v=>rfl
theorem zYF{es:List CV}{tm:Tm}{v:CV}(x:zY):aV (v::es) tm (upA x)=aV es tm x:=by cases x <;> rfl
theorem zMF{v:CV}{es:List CV}{tm:Tm}:∀(s:List zY) (i:Nat),aV (v::es) tm (zLn (s.map upA) i)=aV es tm (zLn s i)
 | [],_=>rfl|x::_,0=>zYF x|_::s,i+1=>zMF s i
theorem zKH{s:List zY}{es es':List CV}{tm:Tm}(h:uR s es es' tm)(v:CV):uR (shA s) (v::es) (v::es') tm:=by
 intro x;cases x with
 |e i=>cases i with
  |zero=>rfl|succ i=>show aV (v::es') tm (zLn (s.map upA) i)=aV es tm (.e i);rw[zMF];exact h (.e i)
 |l p=>rfl|k v=>rfl
def OkW(s:List zY)(ops:List jD):Prop:=∀p,zY.l p∈s->noW p ops=true
theorem zMu:∀{s:List zY} {i:Nat} {p:Loc},zLn s i=.l p->zY.l p∈s
 | [],_,_,h=>by cases h|x::_,0,_,h=>by have h:x=_:=h;rw[h]; simp|_::s,i+1,_,h=>List.mem_cons_of_mem _ (zMu (s:=s) h)
theorem zQl{s:List zY}{es es':List CV}{tm:Tm}{d:Loc}{v:CV}(h:uR s es es' tm)(hs:∀p,zY.l p∈s->d≠p):uR s es es' (wP v d tm):=by
 intro x;cases x with
 |e i=>
  have h0:aV es' tm (zLn s i)=aV es tm (.e i):=h (.e i);show aV es' (wP v d tm) (zLn s i)=aV es tm (.e i);rw[<- h0];cases hc:zLn s i with
  |e j=>rfl|l p=>show qC p (wP v d tm)=qC p tm;exact x9 v d p tm (λe=>hs p (zMu hc) e.symm)|k w=>rfl
 |l p=>rfl|k v=>rfl
theorem zQf{s:List zY}{p:Loc}(h:zY.l p∈shA s):zY.l p∈s:=by
 unfold shA at h;rcases List.mem_cons.1 h with h |h
 . cases h
 . obtain⟨x,hx,e⟩:=List.mem_map.1 h;cases x with
   |e i=>cases e|l q=>injection e with e; rw[<- e]; exact hx
   |k v=>cases e
theorem zH2{s:List zY}{i:jD}{r:List jD}(h:OkW s (i::r)):OkW (shA s) r:=λp hp=>(zA5 (h p (zQf hp))).1
theorem zPL:∀(ops:List jD),
 (∀(s:List zY) (es es':List CV) (tm:Tm) (ds:xz) (h:zC) (n:Key),uR s es es' tm->OkW s ops->xE P call (kX ops none s) es' tm ds h n=xE P call ops es tm ds h n) /\
 (∀(q:COp) (s:List zY) (es es':List CV) (tm:Tm) (ds:xz) (h:zC) (n:Key),(∀v,uR s (v::es) (v::es') tm)->OkW s ops->xE P call (kX ops (some q) s) es' tm ds h n=after (yX P q es' tm h n) call (xE P call ops) none es tm ds h n)
 | []=>⟨λs es es' tm ds h n hi ho=>rfl,λq s es es' tm ds h n hi ho=>by show after (yX P q es' tm h n) call (xE P call []) none es' tm ds h n=after (yX P q es' tm h n) call (xE P call []) none es tm ds h n;exact qu (k:=xE P call []) (k':=xE P call []) (d:=none) (d':=none) (es:=es') (es':=es) (λv ds h n=>rfl) _ _ _⟩
 |i::r=>by
  obtain⟨ih1,ih2⟩:=zPL r;have body:∀(s:List zY) (es es':List CV) (tm:Tm) (ds:xz) (h:zC) (n:Key),uR s es es' tm->OkW s (i::r)->xE P call (zFz i r s) es' tm ds h n=xE P call (i::r) es tm ds h n:=by
   intro s es es' tm ds h n hi ho;have hput:∀d,zYu i=some d->∀v,uR (shA s) (v::es) (v::es') (wP v d tm):=λd hd v=>zQl (zKH hi v) λp hp=>(zA5 (ho p (zQf hp))).2 d hd;cases i with
   |i op=>
    cases hm:zJ3 op with
    |none=>rw[zQX hm];refine(ih2 _ _ es es' tm ds h n (zKH hi) (zH2 ho)).trans ?_;rw[zG4 hi];rfl|some x=>
     obtain rfl:=zJE hm;cases hl:inl (wc s x) r with
     |true=>
      rw[zRe hl];refine(ih1 _ (aV es tm x::es) es' tm ds h n (zMc hi (hi x)) λp hp=>?_).trans rfl;rcases List.mem_cons.1 hp with hp |hp
      . rw[<- hp]at hl;exact hl
      . exact(zA5 (ho p hp)).1
     |false=>rw[zOx hl];refine(ih2 _ _ es es' tm ds h n (zKH hi) (zH2 ho)).trans ?_;show xE P call r (aV es' tm (wc s x)::es) tm ds h n=xE P call r (aV es tm x::es) tm ds h n;rw[hi x]
   |o op d=>show after (yX P (zF2 (wc s) op) es' tm h n) call (xE P call (kX r none (shA s))) (some d) es' tm ds h n=after (yX P op es tm h n) call (xE P call r) (some d) es tm ds h n;rw[zG4 hi];refine qu (k:=xE P call (kX r none (shA s))) (k':=xE P call r) (d:=some d) (d':=some d) (es:=es') (es':=es) (λv ds h n=>?_) _ _ _;exact ih1 _ _ _ _ _ _ _ (hput d rfl v) (zH2 ho)|g x w op d=>
    show iG P call (wc s x) w (zF2 (wc s) op) d (xE P call (kX r none (shA s))) es' tm ds h n=iG P call x w op d (xE P call r) es tm ds h n;have H:∀v ds h n,yN d v tm (λtm=>xE P call (kX r none (shA s)) (v::es') tm ds h n)=yN d v tm (λtm=>xE P call r (v::es) tm ds h n):=by
     intro v ds h n;cases d with
     |none=>exact ih1 _ _ _ _ _ _ _ (zKH hi v) (zH2 ho)|some d=>exact ih1 _ _ _ _ _ _ _ (hput d rfl v) (zH2 ho)
    unfold iG;rw[hi x,zG4 hi];cases kS w (aV es tm x)with
    |true=>exact qu H _ _ _|false=>cases we (aV es tm x)with
     |true=>exact H .undef ds h n|false=>rfl
  refine⟨λs es es' tm ds h n hi ho=>?_,λq s es es' tm ds h n hi ho=>?_⟩
  . rw[zRW];exact body s es es' tm ds h n hi ho
  . rw[zR1];cases hf:zOu i with
    |some d=>
     obtain rfl:=zRd hf;show after (yX P q es' tm h n) call (xE P call (kX r none (.e 0::s))) (some d) es' tm ds h n=_;refine qu (k:=xE P call (kX r none (.e 0::s))) (k':=xE P call (.o (.mv (.e 0)) d::r)) (d:=some d) (d':=none) (es:=es') (es':=es) (λv ds h n=>?_) _ _ _;refine(ih1 _ (v::v::es) (v::es') (wP v d tm) ds h n (zMc (zQl (hi v) λp hp=>(zA5 (ho p hp)).2 d rfl) rfl) λp hp=>?_).trans rfl;rcases List.mem_cons.1 hp with hp |hp
     . cases hp
     . exact(zA5 (ho p hp)).1
    |none=>show after (yX P q es' tm h n) call (xE P call (zFz i r s)) none es' tm ds h n=_;refine qu (k:=xE P call (zFz i r s)) (k':=xE P call (i::r)) (d:=none) (d':=none) (es:=es') (es':=es) (λv ds h n=>?_) _ _ _;exact body s (v::es) (v::es') tm ds h n (hi v) ho
theorem zQ6(ops:List jD):xE P call (kX ops none []) []=xE P call ops []:=by
 funext tm ds h n
 exact(zPL ops).1 [] [] [] tm ds h n (λx=>by cases x <;> rfl) (λp hp=>by cases hp)
theorem zHd(c:CCode):zq P call (zAo c)=zq P call c:=by
 induction c with
 |region ops=>exact zQ6 ops|seq a b iha ihb=>show(λtm ds h n=>qi (zq P call (zAo b)) (zq P call (zAo a) tm ds h n))=_;rw[iha,ihb]; rfl|cond x a b iha ihb=>show(λtm ds h n=>zIo (zq P call (zAo a)) (zq P call (zAo b)) (aV [] tm x) tm ds h n)=_;rw[iha,ihb]; rfl|block i b ih=>show(λtm ds h n=>zAM i (zq P call (zAo b) tm ds h n))=_;rw[ih]; rfl|loop b ih=>show zB8 zA0 (zq P call (zAo b))=_;rw[ih]; rfl|scope b ih=>show zq P call (zAo b)=_;rw[ih]; rfl|_=>rfl
theorem zJV(d:Bool)(fn:CFn)(args:List CV)(h:zC)(n:Key):zB4 P d call (zPF fn) args h n=zB4 P d call fn args h n:=by
 cases fn with
 |mk b r=>show xJ d call r (zq P call (zAo b) (qz args 0 .nil) [] h n)=_;rw[zHd]; rfl|mkD o b r=>
  cases d with
  |true=>show xJ true call r (qi (zq P call (zAo b)) (xE P call o [] (qz args 0 .nil) [] h n))=_;rw[zHd]; rfl|false=>rfl
 |ext e=>rfl|bad c=>rfl
end
end
end Go.Ev
namespace Go.Ev
variable[Sym]
structure Pl where
 blk:Nat
 off:Nat
 sz:Nat
 ck:Nat->Nat
abbrev Psi:=Key->Option Pl
mutual
def zG(Y:Psi):CV->Value->Prop
 |.bool b,v=>v=.bool b|.nat n,v=>v=.int .i64 (Int.ofNat n)|.int k n,v=>v=.int k n|.anyi k,v=>∃n,v=.int k n|.str s,v=>∃b,v=.string b/\zy b=s|.nilptr,v=>v=.pointer none|.ptr b o,v=>∃p,Y b=some p/\v=.pointer (some ⟨p.blk,p.off+o,none⟩)|.nilsl,v=>v=.slice none 0 0|.sl b o len cap esz ex,v=>∃p x cap',Y b=some p/\v=.slice (some ⟨p.blk,x,none⟩) len cap'/\cap<=cap'/\len<=cap'/\(ex=true->cap'=cap) /\
  ((x=p.off+o/\(ex=false->x+cap'*esz=p.sz))\/cap'=0)
 |.nilmap,v=>v=.map none|.map b,v=>∃p,Y b=some p/\v=.map (some p.blk)|.func fn a c,v=>∃a' c',v=.func fn a' c'/\zP Y a a'.toList/\zP Y c c'.toList|.nilfunc,v=>v=.nilFunc|.iface t x,v=>∃y,v=.iface t y/\zG Y x y|.niliface,v=>v=.nilIface|.agg cs,v=>∃a,v=.agg a/\zP Y cs a.toList|.tup cs,v=>∃a,v=.tuple a/\zP Y cs a.toList|.sym i,v=>v=Sym.val i|.win b esz e n,v=>Sym.arg b=some v/\∃base:Option Addr,∃len cap:Nat,∃i:Int,v=.slice base len cap/\Sym.val n=.int .i64 len/\Sym.val e=.int .i64 i /\
  (0<=i->i<len->∃p x,Y b=some p/\base=some ⟨p.blk,x,none⟩/\p.off=x+i.toNat*esz/\p.sz=x+cap*esz/\len<=cap)
 |.sst l,v=>∃b:ByteArray,v=.string b/\zP Y l (b.data.toList.map λx=>Value.int .u8 (Int.ofNat x.toNat))|.big n,v=>∃m:Nat,v=.int .i64 (Int.ofNat m)/\n<=m|.few i t,v=>∃(m:Nat) (b:ByteArray),Sym.val ⟨.i64,0,[(i,1)]⟩=.int .i64 m/\v=.string b/\t[m]? = some (zy b)|.elt b off i m,v=>∃(p:Pl) (k:Nat),Y b=some p/\Sym.val ⟨.i64,0,[(i,1)]⟩=.int .i64 k/\k<=m/\v=.pointer (some ⟨p.blk,p.off+(off+k),none⟩)|.any,_=>True
def zP(Y:Psi):List CV->List Value->Prop
 | [],l=>l=[]
 |c::cs,l=>∃v r,l=v::r/\zG Y c v/\zP Y cs r
end
def Psi.le(Y Y':Psi):Prop:=∀k p,Y k=some p->Y' k=some p
theorem Psi.le_refl(Y:Psi):Y.le Y:=λ_ _ h=>h
theorem Psi.le_trans{a b c:Psi}(h:a.le b)(h':b.le c):a.le c:=λk p e=>h' k p (h k p e)
mutual
theorem zG.mono{Y Y':Psi}(hle:Y.le Y'):∀(c:CV) {v:Value},zG Y c v->zG Y' c v
 |.bool _,_,h=>h|.nat _,_,h=>h|.int _ _,_,h=>h|.anyi _,_,h=>h|.str _,_,h=>h|.nilptr,_,h=>h|.ptr _ _,_,h=>by unfold zG at h ⊢;obtain⟨p,hp,e⟩:=h;exact⟨p,hle _ _ hp,e⟩
 |.nilsl,_,h=>h|.sl ..,_,h=>by unfold zG at h ⊢;obtain⟨p,x,c,hp,r⟩:=h;exact⟨p,x,c,hle _ _ hp,r⟩
 |.nilmap,_,h=>h|.map _,_,h=>by unfold zG at h ⊢;obtain⟨p,hp,e⟩:=h;exact⟨p,hle _ _ hp,e⟩
 |.func _ a c,_,h=>by unfold zG at h ⊢;obtain⟨a',c',e,h1,h2⟩:=h;exact⟨a',c',e,zP.mono hle a h1,zP.mono hle c h2⟩
 |.nilfunc,_,h=>h|.iface _ x,_,h=>by unfold zG at h ⊢;obtain⟨y,e,h1⟩:=h;exact⟨y,e,zG.mono hle x h1⟩
 |.niliface,_,h=>h|.agg cs,_,h=>by unfold zG at h ⊢;obtain⟨a,e,h1⟩:=h;exact⟨a,e,zP.mono hle cs h1⟩
 |.tup cs,_,h=>by unfold zG at h ⊢;obtain⟨a,e,h1⟩:=h;exact⟨a,e,zP.mono hle cs h1⟩
 |.sym _,_,h=>h|.win ..,_,h=>by unfold zG at h ⊢;obtain⟨h0,base,len,cap,i,h1,h2,h3,h4⟩:=h;refine⟨h0,base,len,cap,i,h1,h2,h3,λq1 q2=>?_⟩;obtain⟨p,x,hp,r⟩:=h4 q1 q2;exact⟨p,x,hle _ _ hp,r⟩
 |.sst l,_,h=>by unfold zG at h ⊢;obtain⟨b,e,h1⟩:=h;exact⟨b,e,zP.mono hle l h1⟩
 |.big _,_,h=>h|.few _ _,_,h=>h|.elt ..,_,h=>by unfold zG at h ⊢;obtain⟨p,k,hp,r⟩:=h;exact⟨p,k,hle _ _ hp,r⟩
 |.any,_,_=>by unfold zG; trivial
theorem zP.mono{Y Y':Psi}(hle:Y.le Y'):∀(cs:List CV) {l:List Value},zP Y cs l->zP Y' cs l
 | [],_,h=>h|c::cs,_,h=>by unfold zP at h ⊢;obtain⟨v,r,e,h1,h2⟩:=h;exact⟨v,r,e,zG.mono hle c h1,zP.mono hle cs h2⟩
end
section
variable{Y:Psi}
theorem zM{l:List Value}:zP Y [] l ↔ l=[]:=by unfold zP; rfl
theorem za{c:CV}{cs:List CV}{l:List Value}:zP Y (c::cs) l ↔ ∃v r,l=v::r/\zG Y c v/\zP Y cs r:=by rw[zP]
theorem zW{c:CV}{cs:List CV}{v:Value}{r:List Value}:zP Y (c::cs) (v::r) ↔ zG Y c v/\zP Y cs r:=by
 rw[za];constructor
 . rintro⟨v',r',e,h1,h2⟩; cases e; exact⟨h1,h2⟩
 . rintro⟨h1,h2⟩; exact⟨v,r,rfl,h1,h2⟩
theorem zP.length{cs:List CV}{l:List Value}(h:zP Y cs l):l.length=cs.length:=by
 induction cs generalizing l with
 |nil=>rw[zM]at h; subst h; rfl|cons c cs ih=>rw[za]at h;obtain⟨v,r,rfl,_,h2⟩:=h;simp[ih h2]
theorem qS{cs:List CV}{l:List Value}:zP Y cs l ↔ l.length=cs.length/\∀(i:Nat) (c:CV) (v:Value),cs[i]? = some c->l[i]? = some v->zG Y c v:=by
 induction cs generalizing l with
 |nil=>rw[zM]; cases l <;> simp|cons c cs ih=>
  cases l with
  |nil=>rw[za]; simp|cons v r=>
   rw[zW,ih];constructor
   . rintro⟨h1,h2,h3⟩;refine⟨by simp[h2],λi d u hd hu=>?_⟩;cases i with
     |zero=>simp at hd hu; subst hd; subst hu; exact h1|succ i=>exact h3 i d u (by simpa using hd) (by simpa using hu)
   . rintro⟨h1,h2⟩;refine⟨h2 0 c v rfl rfl,by simpa using h1,λi d u hd hu=>h2 (i+1) d u (by simpa using hd) (by simpa using hu)⟩
theorem zP.get{cs:List CV}{l:List Value}(h:zP Y cs l){i:Nat}{c:CV}(hc:cs[i]? = some c):∃v,l[i]? = some v/\zG Y c v:=by
 obtain⟨h1,h2⟩:=qS.1 h;have hi:i<cs.length:=by
  rcases Nat.lt_or_ge i cs.length with h |h
  . exact h
  . rw[List.getElem?_eq_none h]at hc; cases hc
 have:l[i]? = some (l[i]'(by omega)):=List.getElem?_eq_getElem _
 exact⟨_,this,h2 i c _ hc this⟩
theorem zP.append{a b:List CV}{l m:List Value}(h:zP Y a l)(h':zP Y b m):zP Y (a++b) (l++m):=by
 induction a generalizing l with
 |nil=>rw[zM]at h; subst h; exact h'|cons c a ih=>rw[za]at h;obtain⟨v,r,rfl,h1,h2⟩:=h;exact zW.2 ⟨h1,ih h2⟩
theorem zP.take{cs:List CV}{l:List Value}(h:zP Y cs l)(n:Nat):zP Y (cs.take n) (l.take n):=by
 obtain⟨h1,h2⟩:=qS.1 h;refine qS.2 ⟨by simp[h1],λi c v hc hv=>?_⟩;rw[List.getElem?_take]at hc hv;split at hc
 . rename_i hi; rw[if_pos hi]at hv; exact h2 i c v hc hv
 . cases hc
theorem zP.drop{cs:List CV}{l:List Value}(h:zP Y cs l)(n:Nat):zP Y (cs.drop n) (l.drop n):=by obtain⟨h1,h2⟩:=qS.1 h;refine qS.2 ⟨by simp[h1],λi c v hc hv=>?_⟩;rw[List.getElem?_drop]at hc hv;exact h2 _ c v hc hv
theorem zL{b:Bool}{v:Value}:zG Y (.bool b) v ↔ v=.bool b:=by rw[zG]
theorem zT{n:Nat}{v:Value}:zG Y (.nat n) v ↔ v=.int .i64 (Int.ofNat n):=by rw[zG]
theorem zf{k:IntKind}{n:Int}{v:Value}:zG Y (.int k n) v ↔ v=.int k n:=by rw[zG]
theorem yo{k:IntKind}{v:Value}:zG Y (.anyi k) v ↔ ∃n,v=.int k n:=by rw[zG]
theorem zg{s:List Nat}{v:Value}:zG Y (.str s) v ↔ ∃b,v=.string b/\zy b=s:=by rw[zG]
theorem xv{v:Value}:zG Y .nilptr v ↔ v=.pointer none:=by rw[zG]
theorem zx{b:Key}{o:Nat}{v:Value}:zG Y (.ptr b o) v ↔ ∃p,Y b=some p/\v=.pointer (some ⟨p.blk,p.off+o,none⟩):=by rw[zG]
theorem yD{v:Value}:zG Y .nilsl v ↔ v=.slice none 0 0:=by rw[zG]
theorem yJ{b:Key}{o len cap esz:Nat}{ex:Bool}{v:Value}:zG Y (.sl b o len cap esz ex) v ↔ ∃p x cap',Y b=some p/\v=.slice (some ⟨p.blk,x,none⟩) len cap'/\cap<=cap'/\len<=cap' /\
 (ex=true->cap'=cap)/\((x=p.off+o/\(ex=false->x+cap'*esz=p.sz))\/cap'=0):=by rw[zG]
theorem yg{v:Value}:zG Y .nilmap v ↔ v=.map none:=by rw[zG]
theorem xC{b:Key}{v:Value}:zG Y (.map b) v ↔ ∃p,Y b=some p/\v=.map (some p.blk):=by rw[zG]
theorem xW{fn:Fn}{a c:List CV}{v:Value}:zG Y (.func fn a c) v ↔ ∃a' c',v=.func fn a' c'/\zP Y a a'.toList/\zP Y c c'.toList:=by rw[zG]
theorem xY{v:Value}:zG Y .nilfunc v ↔ v=.nilFunc:=by rw[zG]
theorem yr{t:TypeId}{x:CV}{v:Value}:zG Y (.iface t x) v ↔ ∃y,v=.iface t y/\zG Y x y:=by rw[zG]
theorem yu{v:Value}:zG Y .niliface v ↔ v=.nilIface:=by rw[zG]
theorem yx{cs:List CV}{v:Value}:zG Y (.agg cs) v ↔ ∃a,v=.agg a/\zP Y cs a.toList:=by rw[zG]
theorem yU{cs:List CV}{v:Value}:zG Y (.tup cs) v ↔ ∃a,v=.tuple a/\zP Y cs a.toList:=by rw[zG]
theorem zp{i:SE}{v:Value}:zG Y (.sym i) v ↔ v=Sym.val i:=by rw[zG]
theorem qW{b:Key}{esz:Nat}{e n:SE}{v:Value}:zG Y (.win b esz e n) v ↔ Sym.arg b=some v/\∃base:Option Addr,∃len cap:Nat,∃i:Int,v=.slice base len cap/\Sym.val n=.int .i64 len/\Sym.val e=.int .i64 i/\(0<=i->i<len->∃p x,Y b=some p/\base=some ⟨p.blk,x,none⟩/\p.off=x+i.toNat*esz/\p.sz=x+cap*esz/\len<=cap):=by rw[zG]
theorem ya{l:List CV}{v:Value}:zG Y (.sst l) v ↔ ∃b:ByteArray,v=.string b/\zP Y l (b.data.toList.map λx=>Value.int .u8 (Int.ofNat x.toNat)):=by rw[zG]
theorem wX{n:Nat}{v:Value}:zG Y (.big n) v ↔ ∃m:Nat,v=.int .i64 (Int.ofNat m)/\n<=m:=by rw[zG]
theorem kE{i:Nat}{t:List (List Nat)}{v:Value}:zG Y (.few i t) v ↔ ∃(m:Nat) (b:ByteArray),Sym.val ⟨.i64,0,[(i,1)]⟩=.int .i64 m/\v=.string b/\t[m]? = some (zy b):=by rw[zG]
theorem zBt{b:Key}{off i m:Nat}{v:Value}:zG Y (.elt b off i m) v ↔ ∃(p:Pl) (k:Nat),Y b=some p/\Sym.val ⟨.i64,0,[(i,1)]⟩=.int .i64 k/\k<=m/\v=.pointer (some ⟨p.blk,p.off+(off+k),none⟩):=by rw[zG]
theorem xo{v:Value}:zG Y .any v:=by rw[zG]; trivial
theorem qb:zG Y .undef undef:=yU.2 ⟨#[],rfl,zM.2 rfl⟩
end
def zD3(Y:Psi)(ck:Nat->Nat)(c:CE)(e:MapEntry):Prop:=zG Y c.key e.key/\zG Y c.val e.val/\e.born=ck c.born
def yI(Y:Psi)(ck:Nat->Nat):List CE->List MapEntry->Prop
 | [],l=>l=[]
 |c::cs,l=>∃e r,l=e::r/\zD3 Y ck c e/\yI Y ck cs r
structure vd(ck:Nat->Nat)(clock:Nat):Prop where
 one:∀a b,ck a=ck b->a=b
 cmp:∀k x,x<clock+k ↔ ck x<ck (clock+k)
 run:∀k,ck (clock+k)=ck clock+k
def zCQ(ck:Nat->Nat)(y:Nat):Prop:=∀x,x<y ↔ ck x<ck y
theorem vd.id(clock:Nat):vd (λn=>n) clock:=⟨λ_ _ h=>h,λ_ _=>Iff.rfl,λ_=>rfl⟩
theorem vd.succ{ck:Nat->Nat}{clock:Nat}(h:vd ck clock):vd ck (clock+1):=
 ⟨h.one,λk x=>by rw[show clock+1+k=clock+(1+k)from by omega]; exact h.cmp (1+k) x,λk=>by rw[show clock+1+k=clock+(1+k)from by omega,h.run,h.run 1]; omega⟩
theorem vd.here{ck:Nat->Nat}{clock:Nat}(h:vd ck clock):zCQ ck clock:=λx=>h.cmp 0 x
theorem vd.step{ck:Nat->Nat}{clock:Nat}(h:vd ck clock):ck (clock+1)=ck clock+1:=h.run 1
theorem vd.inj{ck:Nat->Nat}{clock:Nat}(h:vd ck clock){a b:Nat}:ck a=ck b ↔ a=b:=⟨h.one a b,λe=>by rw[e]⟩
def xg(Y:Psi)(ck:Nat->Nat)(es:List CE)(l:List MapEntry):Prop:=∃l',l'.Perm l/\yI Y ck es l'
theorem xg.nil{Y:Psi}{ck:Nat->Nat}:xg Y ck [] []:=⟨[],List.Perm.refl _,rfl⟩
def wl(Y:Psi):List (CV × CV)->List MapEntry->Prop
 | [],l=>l=[]
 |q::r,l=>(zG Y q.2 (.string .empty)/\wl Y r l)\/∃e m,l=e::m/\zG Y q.1 e.key/\zG Y q.2 e.val/\wl Y r m
def zNN(Y:Psi)(es:List (CV × CV))(l:List MapEntry):Prop:=∃l',l'.Perm l/\wl Y es l'
def yZ(Y:Psi)(w:World)(p:Pl)(vs:List CV):Prop:=
 ∃arr elem fz,w.heap[p.blk]? = some (.cells arr elem fz)/\arr.size=p.sz/\p.off+vs.length<=p.sz/\(fz.1=fz.2\/p.sz<=fz.1) /\
  ∀i c,vs[i]? = some c->∃x,arr[p.off+i]? = some x/\zG Y c x
def zBf(Y:Psi)(w:World)(p:Pl)(vs:List CV):Prop:=
 ∃arr elem fz,w.heap[p.blk]? = some (.cells arr elem fz)/\p.off+vs.length<=arr.size /\
  ∀i c,vs[i]? = some c->∃x,arr[p.off+i]? = some x/\zG Y c x
def jt(Y:Psi)(w:World)(p:Pl)(u:Bool)(vs:List CV):Prop:=
 ∃arr elem fz,w.heap[p.blk]? = some (.cells arr elem fz)/\arr.size=p.sz/\p.off+vs.length=p.sz/\(fz.1=fz.2\/u=false/\p.sz<=fz.1) /\
  ∀i c,vs[i]? = some c->∃x,arr[p.off+i]? = some x/\zG Y c x
theorem jt.toCells{Y:Psi}{w:World}{p:Pl}{u:Bool}{vs:List CV}(h:jt Y w p u vs):yZ Y w p vs:=
 let ⟨a,e,f,h1,h2,h3,h4,h5⟩:=h
 ⟨a,e,f,h1,h2,Nat.le_of_eq h3,h4.elim .inl (λh=>.inr h.2),h5⟩
theorem yZ.toRo{Y:Psi}{w:World}{p:Pl}{vs:List CV}(h:yZ Y w p vs):zBf Y w p vs:=
 let ⟨a,e,f,h1,h2,h3,_,h5⟩:=h
 ⟨a,e,f,h1,h2.symm ▸ h3,h5⟩
def zYp(w:World)(p:Pl):Prop:=∃arr elem fz,w.heap[p.blk]? = some (.cells arr elem fz)/\arr.size=p.sz / 64/\p.off+2*(p.sz % 64)<=arr.size/\(fz.1=fz.2\/arr.size<=fz.1) /\
 ∀i,i<p.sz % 64->arr[p.off+2*i]? = some (.int .i64 1)/\∃n,arr[p.off+(2*i+1)]? = some (.int .i64 n)
def xQ(Y:Psi)(w:World)(p:Pl):CObj->Prop
 |.cells vs=>yZ Y w p vs|.ro vs=>zBf Y w p vs|.map es clock=>∃arr,w.heap[p.blk]? = some (.map arr (p.ck clock))/\xg Y p.ck es arr.toList/\vd p.ck clock|.striter s pos=>∃b,w.heap[p.blk]? = some (.stringIter b pos)/\zP Y s (b.data.toList.map λx=>Value.int .u8 (Int.ofNat x.toNat))/\p.off=0|.full u vs=>jt Y w p u vs|.mapz es=>∃arr clock,w.heap[p.blk]? = some (.map arr clock)/\zNN Y es arr.toList|.seen b=>∃arr elem fz,w.heap[p.blk]? = some (.cells arr elem fz)/\arr.size=p.sz/\p.off+1<=p.sz/\(fz.1=fz.2\/p.sz<=fz.1)/\∃q len cap,arr[p.off]? = some (.slice (some ⟨q.blk,q.off,none⟩) len cap)/\Y b=some q/\1<=len/\len<=32/\len<=cap/\q.sz=len+64*(q.off+cap*2)
 |.hid=>zYp w p|.bag ks=>∃arr elem fz vs,w.heap[p.blk]? = some (.cells arr elem fz)/\zP Y ks vs/\((arr.toList.drop p.off).take ks.length).Perm vs|.mapiter m since seen stepped=>∃m' ck,w.heap[p.blk]? = some (.mapIter m' (ck since) (seen.map ck).toArray (ck stepped))/\p.off=0 /\
  (match m with
   |none=>m'=none|some k=>∃q,Y k=some q/\m'=some q.blk/\ck=q.ck/\zCQ ck since/\zCQ ck stepped)
abbrev Fam:=Key->Option CObj
noncomputable def zC.fam(h:zC):Fam:=λk=>zb k h
def CObj.isRo:CObj->Bool
 |.ro _=>true|_=>false
def jC(Y:Psi)(g:Fam)(w:World):Prop:=∀k o p,g k=some o->Y k=some p->xQ Y w p o
structure Rel(Y:Psi)(g:Fam)(w:World):Prop where
 on:jC Y g w
 tot:∀k o,g k=some o->∃p,Y k=some p
 inj:∀k₁ k₂ o₁ o₂ p₁ p₂,g k₁=some o₁->g k₂=some o₂->Y k₁=some p₁->Y k₂=some p₂->(o₁.isRo=false\/o₂.isRo=false)->p₁.blk=p₂.blk->k₁=k₂
structure yF(Y:Psi)(g:Fam)(n:Key)(w:World)(Y':Psi)(g':Fam)(n':Key)(w':World):Prop where
 ext:Y.le Y'
 out:∀k,(k.ix<n.ix\/n'.ix<=k.ix)->Y' k=Y k
 rel:Rel Y' g' w'
 frame:∀B,B<w.heap.size->(∀k o p,g k=some o->o.isRo=false->Y k=some p->p.blk≠B)->w'.heap[B]? = w.heap[B]?
 img:∀k o p,g' k=some o->o.isRo=false->Y' k=some p->(∃k₀ o₀ p₀,g k₀=some o₀/\o₀.isRo=false/\Y k₀=some p₀/\p₀.blk=p.blk)\/w.heap.size<=p.blk
 size:w.heap.size<=w'.heap.size
 tape:w'.tape=w.tape
 os:w'.os=w.os
 output:w'.output=w.output
 mono:n.ix<=n'.ix
 imgA:∀k o p,g' k=some o->Y' k=some p->(∃k₀ o₀ p₀,g k₀=some o₀/\Y k₀=some p₀/\p₀.blk=p.blk)\/w.heap.size<=p.blk
theorem yF.refl{Y:Psi}{g:Fam}{n:Key}{w:World}(h:Rel Y g w):yF Y g n w Y g n w:=
 ⟨Psi.le_refl _,λ_ _=>rfl,h,λ_ _ _=>rfl,λk o p h1 h2 h3=>.inl ⟨k,o,p,h1,h2,h3,rfl⟩,Nat.le_refl _,rfl,rfl,rfl,Nat.le_refl _,λk o p h1 h3=>.inl ⟨k,o,p,h1,h3,rfl⟩⟩
theorem yF.trans{Y Y₁ Y₂:Psi}{g g₁ g₂:Fam}{n n₁ n₂:Key}{w w₁ w₂:World}(h:yF Y g n w Y₁ g₁ n₁ w₁)(h':yF Y₁ g₁ n₁ w₁ Y₂ g₂ n₂ w₂) :
 yF Y g n w Y₂ g₂ n₂ w₂:=by
 have hm:=h.mono;have hm':=h'.mono;refine⟨Psi.le_trans h.ext h'.ext,λk hk=>?_,h'.rel,λB hB hfree=>?_,λk o p h1 h2 h3=>?_,Nat.le_trans h.size h'.size,
  h'.tape.trans h.tape,h'.os.trans h.os,h'.output.trans h.output,Nat.le_trans hm hm',λk o p h1 h3=>?_⟩
 . rw[h'.out k (by omega),h.out k (by omega)]
 . rw[h'.frame B (Nat.lt_of_lt_of_le hB h.size),h.frame B hB hfree];intro k o p hk hro hp e;rcases h.img k o p hk hro hp with⟨k₀,o₀,p₀,a,b,c,d⟩ |hge
   . exact hfree k₀ o₀ p₀ a b c (d.trans e)
   . omega
 . rcases h'.img k o p h1 h2 h3 with⟨k₀,o₀,p₀,a,b,c,d⟩ |hge
   . rcases h.img k₀ o₀ p₀ a b c with⟨k₁,o₁,p₁,a',b',c',d'⟩ |hge
     . exact .inl ⟨k₁,o₁,p₁,a',b',c',d'.trans d⟩
     . exact .inr (by omega)
   . exact .inr (Nat.le_trans h.size hge)
 . rcases h'.imgA k o p h1 h3 with⟨k₀,o₀,p₀,a,c,d⟩ |hge
   . rcases h.imgA k₀ o₀ p₀ a c with⟨k₁,o₁,p₁,a',c',d'⟩ |hge
     . exact .inl ⟨k₁,o₁,p₁,a',c',d'.trans d⟩
     . exact .inr (by omega)
   . exact .inr (Nat.le_trans h.size hge)
end Go.Ev
namespace Go.Ev
variable[Sym]
theorem xQ.congr{Y:Psi}{w w':World}{p:Pl}{o:CObj}(h:w'.heap[p.blk]? = w.heap[p.blk]?)(ho:xQ Y w p o):xQ Y w' p o:=by
 cases o with
 |cells vs=>obtain⟨arr,e,fz,h1,r⟩:=ho; exact⟨arr,e,fz,h.trans h1,r⟩
 |ro vs=>obtain⟨arr,e,fz,h1,r⟩:=ho; exact⟨arr,e,fz,h.trans h1,r⟩
 |map es c=>obtain⟨arr,h1,r⟩:=ho; exact⟨arr,h.trans h1,r⟩
 |striter s q=>obtain⟨b,h1,r⟩:=ho; exact⟨b,h.trans h1,r⟩
 |full u vs=>obtain⟨arr,e,fz,h1,r⟩:=ho; exact⟨arr,e,fz,h.trans h1,r⟩
 |mapz es=>obtain⟨arr,c,h1,r⟩:=ho; exact⟨arr,c,h.trans h1,r⟩
 |seen b=>obtain⟨arr,e,fz,h1,r⟩:=ho; exact⟨arr,e,fz,h.trans h1,r⟩
 |hid=>obtain⟨arr,e,fz,h1,r⟩:=ho; exact⟨arr,e,fz,h.trans h1,r⟩
 |bag ks=>obtain⟨arr,e,fz,vs,h1,r⟩:=ho; exact⟨arr,e,fz,vs,h.trans h1,r⟩
 |mapiter m a b c=>obtain⟨m',ck,h1,r⟩:=ho; exact⟨m',ck,h.trans h1,r⟩
theorem yI.mono{Y Y':Psi}(hle:Y.le Y'){ck:Nat->Nat}:∀{es:List CE} {l:List MapEntry},yI Y ck es l->yI Y' ck es l
 | [],_,h=>h|c::es,_,h=>by obtain⟨e,r,rfl,⟨h1,h2,h3⟩,h4⟩:=h;exact⟨e,r,rfl,⟨h1.mono hle,h2.mono hle,h3⟩,yI.mono hle h4⟩
theorem xg.mono{Y Y':Psi}(hle:Y.le Y'){ck:Nat->Nat}{es:List CE}{l:List MapEntry}(h:xg Y ck es l):xg Y' ck es l:=
 let ⟨l',hp,hc⟩:=h
 ⟨l',hp,hc.mono hle⟩
theorem wl.mono{Y Y':Psi}(hle:Y.le Y'):∀{es:List (CV × CV)} {l:List MapEntry},wl Y es l->wl Y' es l
 | [],_,h=>h|_::_,_,.inl ⟨h1,h2⟩=>.inl ⟨h1.mono hle,wl.mono hle h2⟩|_::_,_,.inr ⟨e,m,h0,h1,h2,h3⟩=>.inr ⟨e,m,h0,h1.mono hle,h2.mono hle,wl.mono hle h3⟩
theorem zNN.mono{Y Y':Psi}(hle:Y.le Y'){es:List (CV × CV)}{l:List MapEntry}(h:zNN Y es l):zNN Y' es l:=
 let ⟨l',hp,hc⟩:=h
 ⟨l',hp,hc.mono hle⟩
theorem xQ.mono{Y Y':Psi}(hle:Y.le Y'){w:World}{p:Pl}{o:CObj}(ho:xQ Y w p o):xQ Y' w p o:=by
 cases o with
 |cells vs=>obtain⟨arr,e,fz,h1,h2,h3,h4,h5⟩:=ho;exact⟨arr,e,fz,h1,h2,h3,h4,λi c hc=>let ⟨x,a,b⟩:=h5 i c hc; ⟨x,a,b.mono hle⟩⟩
 |ro vs=>obtain⟨arr,e,fz,h1,h3,h5⟩:=ho;exact⟨arr,e,fz,h1,h3,λi c hc=>let ⟨x,a,b⟩:=h5 i c hc; ⟨x,a,b.mono hle⟩⟩
 |map es c=>obtain⟨arr,h1,r,h2⟩:=ho; exact⟨arr,h1,r.mono hle,h2⟩
 |mapz es=>obtain⟨arr,c,h1,r⟩:=ho; exact⟨arr,c,h1,r.mono hle⟩
 |seen b=>obtain⟨arr,e,fz,h1,h2,h3,h4,q,l,c,h5,h6,h7⟩:=ho; exact⟨arr,e,fz,h1,h2,h3,h4,q,l,c,h5,hle _ _ h6,h7⟩
 |hid=>exact ho|bag ks=>obtain⟨arr,e,fz,vs,h1,h2,h3⟩:=ho; exact⟨arr,e,fz,vs,h1,h2.mono hle,h3⟩
 |striter s q=>obtain⟨b,h1,h2,h3⟩:=ho; exact⟨b,h1,h2.mono hle,h3⟩
 |full u vs=>obtain⟨arr,e,fz,h1,h2,h3,h4,h5⟩:=ho;exact⟨arr,e,fz,h1,h2,h3,h4,λi c hc=>let ⟨x,a,b⟩:=h5 i c hc; ⟨x,a,b.mono hle⟩⟩
 |mapiter m a b c=>
  obtain⟨m',ck,h1,h2,r⟩:=ho;refine⟨m',ck,h1,h2,?_⟩;cases m with
  |none=>exact r|some k=>obtain⟨q,h3,h4⟩:=r; exact⟨q,hle _ _ h3,h4⟩
theorem xQ.lt{Y:Psi}{w:World}{p:Pl}{o:CObj}(ho:xQ Y w p o):p.blk<w.heap.size:=by
 have key:∀{o:Obj},w.heap[p.blk]? = some o->p.blk<w.heap.size:=by
  intro o h;rcases Nat.lt_or_ge p.blk w.heap.size with h' |h'
  . exact h'
  . rw[Array.getElem?_eq_none h']at h; cases h
 cases o with
 |cells vs=>obtain⟨arr,e,fz,h1,_⟩:=ho; exact key h1
 |ro vs=>obtain⟨arr,e,fz,h1,_⟩:=ho; exact key h1
 |map es c=>obtain⟨arr,h1,_⟩:=ho; exact key h1
 |striter s q=>obtain⟨b,h1,_⟩:=ho; exact key h1
 |full u vs=>obtain⟨arr,e,fz,h1,_⟩:=ho; exact key h1
 |mapz es=>obtain⟨arr,c,h1,_⟩:=ho; exact key h1
 |seen b=>obtain⟨arr,e,fz,h1,_⟩:=ho; exact key h1
 |hid=>obtain⟨arr,e,fz,h1,_⟩:=ho; exact key h1
 |bag ks=>obtain⟨arr,e,fz,vs,h1,_⟩:=ho; exact key h1
 |mapiter m a b c=>obtain⟨m',ck,h1,_⟩:=ho; exact key h1
def Fam.upd(g:Fam)(k:Key)(o:Option CObj):Fam:=λj=>if j=k then o else g j
theorem z7(o:Option CObj)(k:Key)(h:zC):zC.fam (yy o k h)=Fam.upd (zC.fam h) k o:=by funext j; exact zEb o k j h
theorem Fam.upd_same(g:Fam)(k:Key)(o:Option CObj):g.upd k o k=o:=by simp[Fam.upd]
theorem Fam.upd_other(g:Fam){k j:Key}(o:Option CObj)(h:j≠k):g.upd k o j=g j:=by simp[Fam.upd,h]
theorem Rel.sub{Y:Psi}{g g':Fam}{w:World}(h:Rel Y g w)(hs:∀k o,g' k=some o->g k=some o):Rel Y g' w:=
 ⟨λk o p a b=>h.on k o p (hs k o a) b,λk o a=>h.tot k o (hs k o a),λk₁ k₂ o₁ o₂ p₁ p₂ a b=>h.inj k₁ k₂ o₁ o₂ p₁ p₂ (hs _ _ a) (hs _ _ b)⟩
end Go.Ev
namespace Go
def World.upB(w:World)(B:Nat)(o:Obj):World:={ w with heap:=w.heap.setIfInBounds B o }
end Go
namespace Go.Ev
variable[Sym]
theorem xe{w:World}{B:Nat}(o:Obj)(h:B<w.heap.size):(w.upB B o).heap[B]? = some o:=by simp[World.upB,h]
theorem w5{w:World}{B C:Nat}(o:Obj)(h:C≠B):(w.upB B o).heap[C]? = w.heap[C]?:=by simp only[World.upB,Array.getElem?_setIfInBounds];rw[if_neg (λe=>h e.symm)]
theorem zDq(w:World)(B:Nat)(o:Obj):(w.upB B o).heap.size=w.heap.size:=by simp[World.upB]
theorem qj{Y:Psi}{g:Fam}{n k:Key}{w:World}{p:Pl}{o o':CObj}{ob:Obj}(h:Rel Y g w)(hk:g k=some o)(hro:o.isRo=false)
 (hp:Y k=some p) (ho':xQ Y (w.upB p.blk ob) p o'):yF Y g n w Y (g.upd k (some o')) n (w.upB p.blk ob):=by
 have hlt:=(h.on k o p hk hp).lt;refine⟨Psi.le_refl _,λ_ _=>rfl,⟨?_,?_,?_⟩,?_,?_,by rw[zDq]; exact Nat.le_refl _,rfl,rfl,rfl,Nat.le_refl _,?_⟩
 . intro j q pj hq hpj;by_cases hj:j=k
   . subst hj;rw[Fam.upd_same]at hq;rw[hp]at hpj;injection hq with hq; injection hpj with hpj;subst hq; subst hpj; exact ho'
   . rw[Fam.upd_other _ _ hj]at hq;refine xQ.congr (w5 _ λe=>hj ?_) (h.on j q pj hq hpj);exact h.inj j k q o pj p hq hk hpj hp (.inr hro) e
 . intro j q hq;by_cases hj:j=k
   . subst hj; exact⟨p,hp⟩
   . rw[Fam.upd_other _ _ hj]at hq; exact h.tot j q hq
 . intro k₁ k₂ o₁ o₂ p₁ p₂ h1 h2 h3 h4 hr e;have e1:∃q,g k₁=some q/\(o₁.isRo=false->q.isRo=false):=by
    by_cases hj:k₁=k
    . subst hj; exact⟨o,hk,λ_=>hro⟩
    . rw[Fam.upd_other _ _ hj]at h1; exact⟨_,h1,λh=>h⟩
   have e2:∃q,g k₂=some q/\(o₂.isRo=false->q.isRo=false):=by
    by_cases hj:k₂=k
    . subst hj; exact⟨o,hk,λ_=>hro⟩
    . rw[Fam.upd_other _ _ hj]at h2; exact⟨_,h2,λh=>h⟩
   obtain⟨q1,e1,r1⟩:=e1; obtain⟨q2,e2,r2⟩:=e2;exact h.inj k₁ k₂ q1 q2 p₁ p₂ e1 e2 h3 h4 (hr.imp r1 r2) e
 . intro B _ hfree;exact w5 _ λe=>hfree k o p hk hro hp e.symm
 . intro j q pj hq hroj hpj;by_cases hj:j=k
   . subst hj;rw[hp]at hpj; injection hpj with hpj; subst hpj;exact .inl ⟨j,o,p,hk,hro,hp,rfl⟩
   . rw[Fam.upd_other _ _ hj]at hq;exact .inl ⟨j,q,pj,hq,hroj,hpj,rfl⟩
 . intro j q pj hq hpj;by_cases hj:j=k
   . subst hj;rw[hp]at hpj; injection hpj with hpj; subst hpj;exact .inl ⟨j,o,p,hk,hp,rfl⟩
   . rw[Fam.upd_other _ _ hj]at hq;exact .inl ⟨j,q,pj,hq,hpj,rfl⟩
structure New(w w':World):Prop where
 size:w'.heap.size=w.heap.size+1
 old:∀B,B<w.heap.size->w'.heap[B]? = w.heap[B]?
 tape:w'.tape=w.tape
 os:w'.os=w.os
 output:w'.output=w.output
def Psi.upd(Y:Psi)(k:Key)(p:Pl):Psi:=λj=>if j=k then some p else Y j
theorem Psi.upd_same(Y:Psi)(k:Key)(p:Pl):Y.upd k p k=some p:=by simp[Psi.upd]
theorem Psi.upd_other(Y:Psi){k j:Key}(p:Pl)(h:j≠k):Y.upd k p j=Y j:=by simp[Psi.upd,h]
theorem Psi.le_upd{Y:Psi}{k:Key}(p:Pl)(h:Y k=none):Y.le (Y.upd k p):=by
 intro j q hj;by_cases e:j=k
 . subst e; rw[h]at hj; cases hj
 . rw[Psi.upd_other _ _ e]; exact hj
theorem vH{Y:Psi}{g:Fam}{n:Key}{w w':World}{sz:Nat}{ck:Nat->Nat}{o:CObj}(h:Rel Y g w)(hn:n.room)(hnone:Y n=none)(hw:New w w')
 (ho:xQ (Y.upd n ⟨w.heap.size,0,sz,ck⟩) w' ⟨w.heap.size,0,sz,ck⟩ o) :
 yF Y g n w (Y.upd n ⟨w.heap.size,0,sz,ck⟩) (g.upd n (some o)) n.succ w':=by
 have hix:=Key.ix_succ hn;have hle:=Psi.le_upd (Y:=Y) (k:=n) ⟨w.heap.size,0,sz,ck⟩ hnone;have hgn:∀j q,g j=some q->j≠n:=by intro j q hj e;subst e;obtain⟨p,hp⟩:=h.tot j q hj;rw[hnone]at hp; cases hp
 refine⟨hle,λk hk=>?_,⟨?_,?_,?_⟩,λB hB _=>hw.old B hB,?_,by rw[hw.size]; omega,hw.tape,hw.os,hw.output,by omega,?_⟩
 . exact Psi.upd_other _ _ (λe=>by subst e; omega)
 . intro j q pj hq hpj;by_cases hj:j=n
   . subst hj;rw[Fam.upd_same]at hq; rw[Psi.upd_same]at hpj;injection hq with hq; injection hpj with hpj;subst hq; subst hpj; exact ho
   . rw[Fam.upd_other _ _ hj]at hq; rw[Psi.upd_other _ _ hj]at hpj
     have:=h.on j q pj hq hpj
     exact xQ.congr (hw.old _ this.lt) (this.mono hle)
 . intro j q hq;by_cases hj:j=n
   . subst hj; exact⟨_,Psi.upd_same _ _ _⟩
   . rw[Fam.upd_other _ _ hj]at hq;obtain⟨p,hp⟩:=h.tot j q hq;exact⟨p,hle _ _ hp⟩
 . intro k₁ k₂ o₁ o₂ p₁ p₂ h1 h2 h3 h4 hr e;by_cases j1:k₁=n <;> by_cases j2:k₂=n
   . rw[j1,j2]
   . exfalso;subst j1;rw[Psi.upd_same]at h3; injection h3 with h3; subst h3;rw[Fam.upd_other _ _ j2]at h2; rw[Psi.upd_other _ _ j2]at h4
     have:=(h.on _ _ _ h2 h4).lt
     simp only at e; omega
   . exfalso;subst j2;rw[Psi.upd_same]at h4; injection h4 with h4; subst h4;rw[Fam.upd_other _ _ j1]at h1; rw[Psi.upd_other _ _ j1]at h3
     have:=(h.on _ _ _ h1 h3).lt
     simp only at e; omega
   . rw[Fam.upd_other _ _ j1]at h1; rw[Psi.upd_other _ _ j1]at h3;rw[Fam.upd_other _ _ j2]at h2; rw[Psi.upd_other _ _ j2]at h4;exact h.inj _ _ _ _ _ _ h1 h2 h3 h4 hr e
 . intro j q pj hq hro hpj;by_cases hj:j=n
   . subst hj;rw[Psi.upd_same]at hpj; injection hpj with hpj; subst hpj;exact .inr (Nat.le_refl _)
   . rw[Fam.upd_other _ _ hj]at hq; rw[Psi.upd_other _ _ hj]at hpj;exact .inl ⟨j,q,pj,hq,hro,hpj,rfl⟩
 . intro j q pj hq hpj;by_cases hj:j=n
   . subst hj;rw[Psi.upd_same]at hpj; injection hpj with hpj; subst hpj;exact .inr (Nat.le_refl _)
   . rw[Fam.upd_other _ _ hj]at hq; rw[Psi.upd_other _ _ hj]at hpj;exact .inl ⟨j,q,pj,hq,hpj,rfl⟩
theorem zUm{Y:Psi}{g:Fam}{n:Key}{w:World}(h:Rel Y g w)(b:Key):yF Y g n w Y (g.upd b none) n w:=by
 have hs:∀k o,g.upd b none k=some o->g k=some o:=by
  intro k o hk;by_cases e:k=b
  . subst e; rw[Fam.upd_same]at hk; cases hk
  . rwa [Fam.upd_other _ _ e]at hk
 exact⟨Psi.le_refl _,λ_ _=>rfl,h.sub hs,λ_ _ _=>rfl,λk o p h1 h2 h3=>.inl ⟨k,o,p,hs k o h1,h2,h3,rfl⟩,Nat.le_refl _,rfl,rfl,rfl,Nat.le_refl _,λk o p h1 h3=>.inl ⟨k,o,p,hs k o h1,h3,rfl⟩⟩
theorem zJj{Y:Psi}{g:Fam}{n b:Key}{w:World}{p p':Pl}{o o':CObj}{ob:Obj}(h:Rel Y g w)(hn:n.room)(hnone:Y n=none)(hb:g b=some o)
 (hro:o.isRo=false) (hp:Y b=some p) (hpp:p'.blk=p.blk) (ho':xQ (Y.upd n p') (w.upB p.blk ob) p' o') :
 yF Y g n w (Y.upd n p') ((g.upd b none).upd n (some o')) n.succ (w.upB p.blk ob):=by
 have hix:=Key.ix_succ hn;have hle:=Psi.le_upd (Y:=Y) (k:=n) p' hnone;have hlt:=(h.on b o p hb hp).lt;have hgn:∀j q,g j=some q->j≠n:=by intro j q hj e;subst e;obtain⟨p,hp⟩:=h.tot j q hj;rw[hnone]at hp; cases hp
 have hold:∀j q,j≠n->((g.upd b none).upd n (some o')) j=some q->j≠b/\g j=some q:=by
  intro j q hj hq;rw[Fam.upd_other _ _ hj]at hq;by_cases e:j=b
  . subst e; rw[Fam.upd_same]at hq; cases hq
  . rw[Fam.upd_other _ _ e]at hq; exact⟨e,hq⟩
 refine⟨hle,λk hk=>?_,⟨?_,?_,?_⟩,?_,?_,by rw[zDq]; exact Nat.le_refl _,rfl,rfl,rfl,by omega,?_⟩
 . exact Psi.upd_other _ _ (λe=>by subst e; omega)
 . intro j q pj hq hpj;by_cases hj:j=n
   . subst hj;rw[Fam.upd_same]at hq; rw[Psi.upd_same]at hpj;injection hq with hq; injection hpj with hpj;subst hq; subst hpj; exact ho'
   . obtain⟨hjb,hq⟩:=hold j q hj hq;rw[Psi.upd_other _ _ hj]at hpj;refine xQ.congr (w5 _ λe=>hjb (h.inj j b q o pj p hq hb hpj hp (.inr hro) e)) ((h.on j q pj hq hpj).mono hle)
 . intro j q hq;by_cases hj:j=n
   . subst hj; exact⟨_,Psi.upd_same _ _ _⟩
   . obtain⟨_,hq⟩:=hold j q hj hq;obtain⟨p,hp⟩:=h.tot j q hq;exact⟨p,hle _ _ hp⟩
 . intro k₁ k₂ o₁ o₂ p₁ p₂ h1 h2 h3 h4 hr e;by_cases j1:k₁=n <;> by_cases j2:k₂=n
   . rw[j1,j2]
   . exfalso;subst j1;rw[Psi.upd_same]at h3; injection h3 with h3; subst h3;obtain⟨hjb,h2⟩:=hold _ _ j2 h2;rw[Psi.upd_other _ _ j2]at h4;exact hjb (h.inj _ b _ o _ p h2 hb h4 hp (.inr hro) (e.symm.trans hpp))
   . exfalso;subst j2;rw[Psi.upd_same]at h4; injection h4 with h4; subst h4;obtain⟨hjb,h1⟩:=hold _ _ j1 h1;rw[Psi.upd_other _ _ j1]at h3;exact hjb (h.inj _ b _ o _ p h1 hb h3 hp (.inr hro) (e.trans hpp))
   . obtain⟨_,h1⟩:=hold _ _ j1 h1;obtain⟨_,h2⟩:=hold _ _ j2 h2;rw[Psi.upd_other _ _ j1]at h3; rw[Psi.upd_other _ _ j2]at h4;exact h.inj _ _ _ _ _ _ h1 h2 h3 h4 hr e
 . intro B _ hfree;exact w5 _ λe=>hfree b o p hb hro hp e.symm
 . intro j q pj hq hroj hpj;by_cases hj:j=n
   . subst hj;rw[Psi.upd_same]at hpj; injection hpj with hpj; subst hpj;exact .inl ⟨b,o,p,hb,hro,hp,hpp.symm⟩
   . obtain⟨_,hq⟩:=hold j q hj hq;rw[Psi.upd_other _ _ hj]at hpj;exact .inl ⟨j,q,pj,hq,hroj,hpj,rfl⟩
 . intro j q pj hq hpj;by_cases hj:j=n
   . subst hj;rw[Psi.upd_same]at hpj; injection hpj with hpj; subst hpj;exact .inl ⟨b,o,p,hb,hp,hpp.symm⟩
   . obtain⟨_,hq⟩:=hold j q hj hq;rw[Psi.upd_other _ _ hj]at hpj;exact .inl ⟨j,q,pj,hq,hpj,rfl⟩
theorem xf(b o n:Nat):(⟨b,o,none⟩:Addr).add n=⟨b,o+n,none⟩:=by unfold Addr.add; split <;> simp_all
section
variable{Y:Psi}{w:World}{P:Program}
theorem zBf.cell{p:Pl}{vs:List CV}(h:zBf Y w p vs){i:Nat}{c:CV}(hc:vs[i]? = some c) :
 ∃x,w.cell? ⟨p.blk,p.off+i,none⟩=some x/\zG Y c x:=by
 obtain⟨arr,e,fz,h1,h3,h5⟩:=h;obtain⟨x,hx,hr⟩:=h5 i c hc;exact⟨x,by simp[World.cell?,h1,hx],hr⟩
theorem zBE{p:Pl}{vs:List CV}(h:zBf Y w p vs){i:Nat}{c:CV}(hc:vs[i]? = some c) :
 ∃x,(load ⟨p.blk,p.off+i,none⟩).run P w=.ok x w/\zG Y c x:=by
 obtain⟨x,hx,hr⟩:=h.cell hc;exact⟨x,by rw[run_load,hx],hr⟩
theorem qD{p:Pl}{vs l:List CV}(h:zBf Y w p vs){off s:Nat}(hl:zAY vs off s=some l) :
 ∃xs:List Value,(loadCells ⟨p.blk,p.off+off,none⟩ s).run P w=.ok xs.toArray w/\zP Y l xs:=by
 obtain⟨hlen,hget⟩:=qh hl;have key:∀j,j<s->∃x,w.cell? ((⟨p.blk,p.off+off,none⟩:Addr).add j)=some x/\∀c,l[j]? = some c->zG Y c x:=by intro j hj;have hc:l[j]? = some (l[j]'(by omega)):=List.getElem?_eq_getElem _;have hv:=(hget j hj).symm.trans hc;obtain⟨x,hx,hr⟩:=h.cell hv;rw[xf];refine⟨x,by rw[Nat.add_assoc]; exact hx,λc hc'=>?_⟩;rw[hc]at hc'; injection hc' with hc'; subst hc'; exact hr
 have cells:∀m,m<=s->∃xs:List Value,xs.length=m/\∀j,j<m->∃x,xs[j]? = some x/\w.cell? ((⟨p.blk,p.off+off,none⟩:Addr).add j)=some x /\
  ∀c,l[j]? = some c->zG Y c x:=by
  intro m;induction m with
  |zero=>exact λ_=>⟨[],rfl,λj hj=>by omega⟩
  |succ m ih=>
   intro hm;obtain⟨xs,hxl,hxs⟩:=ih (by omega);obtain⟨x,hx,hr⟩:=key m (by omega);refine⟨xs++[x],by simp[hxl],λj hj=>?_⟩;by_cases e:j=m
   . subst e; exact⟨x,by rw[List.getElem?_append_right (by omega)]; simp[hxl],hx,hr⟩
   . obtain⟨y,hy,r⟩:=hxs j (by omega);exact⟨y,by rw[List.getElem?_append_left (by omega)]; exact hy,r⟩
 obtain⟨xs,hxl,hxs⟩:=cells s (Nat.le_refl _);refine⟨xs,?_,qS.2 ⟨by omega,λi c v hc hv=>?_⟩⟩
 . have:=run_loadCells_list (P:=P) w ⟨p.blk,p.off+off,none⟩ xs (λj v hv=>by
    have hj:j<s:=by
     rcases Nat.lt_or_ge j xs.length with h |h
     . omega
     . rw[List.getElem?_eq_none h]at hv; cases hv
    obtain⟨x,hx,hc,_⟩:=hxs j hj;rw[hx]at hv; injection hv with hv; subst hv; exact hc)
   rwa [hxl]at this
 . have hj:i<s:=by
    rcases Nat.lt_or_ge i l.length with h |h
    . omega
    . rw[List.getElem?_eq_none h]at hc; cases hc
   obtain⟨x,hx,_,hr⟩:=hxs i hj;rw[hx]at hv; injection hv with hv; subst hv;exact hr c hc
theorem vM(B o:Nat)(t:TypeId)(fz:Nat × Nat):∀(vs:List Value) (i:Nat) (cur:Array Value) (w:World),w.heap[B]? = some (.cells cur t fz) ->
 (fz.1=fz.2\/cur.size<=fz.1)->o+i+vs.length<=cur.size->(∀v∈vs,v.oneCell'=true) ->
 (storeCells ⟨B,o,none⟩ vs i).run P w=.ok () (w.upB B (.cells (cur.toList.take (o+i)++vs++cur.toList.drop (o+i+vs.length)).toArray t fz))
 | [],i,cur,w,hg,_,_,_=>by
  simp only[storeCells,List.append_nil,List.length_nil,Nat.add_zero,List.take_append_drop,Array.toArray_toList,Sem.run_pure]
  congr 1
  unfold World.upB;have hB:B<w.heap.size:=by
   rcases Nat.lt_or_ge B w.heap.size with h |h
   . exact h
   . rw[Array.getElem?_eq_none h]at hg; cases hg
  have:w.heap.setIfInBounds B (.cells cur t fz)=w.heap:=by
   apply Array.ext_getElem?;intro j;rw[Array.getElem?_setIfInBounds];split
   . rename_i e; subst e; simp[hB]at hg ⊢; exact hg.symm
   . rfl
  rw[this]
 |v::rest,i,cur,w,hg,hfz,hl,h1=>by
  have hi:o+i<cur.size:=by simp at hl; omega
  have hB:B<w.heap.size:=by
   rcases Nat.lt_or_ge B w.heap.size with h |h
   . exact h
   . rw[Array.getElem?_eq_none h]at hg; cases hg
  have hcell:w.cell? ⟨B,o+i,none⟩=some cur[o+i]:=by simp[World.cell?,hg,hi]
  have hfro:w.frozen? ⟨B,o+i,none⟩=false:=by
   simp only[World.frozen?,hg];rcases hfz with h |h
   . simp; omega
   . simp; omega
  have hset:w.setCell ⟨B,o+i,none⟩ v=w.upB B (.cells (cur.setIfInBounds (o+i) v) t fz):=by
   unfold World.setCell World.upB
   congr 1
   apply Array.ext_getElem?;intro j;rw[Array.getElem?_modify,Array.getElem?_setIfInBounds];split
   . rename_i e; subst e; rw[hg]; simp
   . rfl
  have hst:(store ((⟨B,o,none⟩:Addr).add i) v).run P w=.ok () (w.upB B (.cells (cur.setIfInBounds (o+i) v) t fz)):=by rw[xf,run_store P w _ v _ (h1 v (by simp)),hcell];simp[hfro,hset]
  have ih:=vM B o t fz rest (i+1) (cur.setIfInBounds (o+i) v) (w.upB B (.cells (cur.setIfInBounds (o+i) v) t fz)) (xe _ hB)
   (by simpa using hfz) (by simp at hl ⊢; omega) (λx hx=>h1 x (by simp[hx]))
  simp only[storeCells,Sem.run_bind,hst,Result.andThen_ok,ih];have e:=list_seg_step cur.toList (o+i) v rest (by simp at hl ⊢; omega);have e':(List.take (o+(i+1)) (cur.setIfInBounds (o+i) v).toList++rest++List.drop (o+(i+1)+rest.length) (cur.setIfInBounds (o+i) v).toList) =
   (List.take (o+i) cur.toList++v::rest++List.drop (o+i+(v::rest).length) cur.toList):=by
   simpa [Array.toList_setIfInBounds,Nat.add_assoc]using e
  rw[e']
  congr 1
  unfold World.upB
  congr 1
  simp[Array.setIfInBounds_setIfInBounds]
theorem zHn{c:CV}{v:Value}(h:zG Y c v)(hc:c.single=true):v.oneCell'=true:=by
 cases c <;> simp only[CV.single,Bool.false_eq_true]at hc
 case bool=>rw[zL]at h; subst h; rfl
 case nat=>rw[zT]at h; subst h; rfl
 case int=>rw[zf]at h; subst h; rfl
 case anyi=>rw[yo]at h; obtain⟨n,rfl⟩:=h; rfl
 case str=>rw[zg]at h; obtain⟨b,rfl,_⟩:=h; rfl
 case big=>rw[wX]at h; obtain⟨n,rfl,_⟩:=h; rfl
 case nilptr=>rw[xv]at h; subst h; rfl
 case ptr=>rw[zx]at h; obtain⟨p,_,rfl⟩:=h; rfl
 case nilsl=>rw[yD]at h; subst h; rfl
 case sl=>rw[yJ]at h; obtain⟨p,x,c,_,rfl,_⟩:=h; rfl
 case nilmap=>rw[yg]at h; subst h; rfl
 case map=>rw[xC]at h; obtain⟨p,_,rfl⟩:=h; rfl
 case func=>rw[xW]at h; obtain⟨a,b,rfl,_⟩:=h; rfl
 case nilfunc=>rw[xY]at h; subst h; rfl
 case iface=>rw[yr]at h; obtain⟨y,rfl,_⟩:=h; rfl
 case niliface=>rw[yu]at h; subst h; rfl
 case sst=>rw[ya]at h; obtain⟨b,rfl,_⟩:=h; rfl
 case few=>rw[kE]at h; obtain⟨_,b,_,rfl,_⟩:=h; rfl
 case elt=>rw[zBt]at h; obtain⟨_,_,_,_,_,rfl⟩:=h; rfl
 case win=>rw[qW]at h; obtain⟨_,base,l,c,i,rfl,_⟩:=h; rfl
 case sym i=>rw[zp]at h; subst h;rcases Sym.one i with⟨k,n,e⟩ |⟨s,e⟩ <;> rw[e] <;> rfl
theorem uJ(l:List CV):xk l=true ↔ ∀c∈l,c.single=true:=by
 induction l with
 |nil=>simp[xk]|cons c l ih=>
  have:xk (c::l)=(match c.single with |false=>false |true=>xk l):=by cases h:c.single <;> simp[xk,h]
  rw[this];cases h:c.single <;> simp[h,ih]
theorem zFo{cs:List CV}{l:List Value}(h:zP Y cs l)(hs:xk cs=true):∀v∈l,v.oneCell'=true:=by
 induction cs generalizing l with
 |nil=>rw[zM]at h; subst h; simp|cons c cs ih=>
  rw[za]at h;obtain⟨v,r,rfl,h1,h2⟩:=h;have hall:=(uJ _).1 hs;intro x hx;rcases List.mem_cons.1 hx with rfl |hx
  . exact zHn h1 (hall c (by simp))
  . exact ih h2 ((uJ _).2 λd hd=>hall d (by simp[hd])) x hx
theorem wD{g:Fam}{k:Key}{p:Pl}{vs cs l:List CV}{xs:List Value}{off s:Nat}(n:Key)(hrel:Rel Y g w)(hk:g k=some (.cells vs))(hp:Y k=some p)
 (hl:jv cs s vs off=some l) (hx:zP Y cs xs) (hs:xk cs=true) :
 ∃w',(storeCells ⟨p.blk,p.off+off,none⟩ xs).run P w=.ok () w'/\yF Y g n w Y (g.upd k (some (.cells l))) n w':=by
 obtain⟨arr,t,fz,h1,h2,h3,h4,h5⟩:=hrel.on k _ p hk hp;obtain⟨hcs,hle,hll,hin,hout⟩:=zAx hl;have hxl:=hx.length;have hlt:p.blk<w.heap.size:=xQ.lt (o:=.cells vs) ⟨arr,t,fz,h1,h2,h3,h4,h5⟩;refine⟨_,vM p.blk (p.off+off) t fz xs 0 arr w h1 (by rw[h2]; exact h4) (by omega) (zFo hx hs),?_⟩;refine qj hrel hk rfl hp ⟨_,t,fz,xe _ hlt,by simp; omega,by omega,h4,λi c hc=>?_⟩;simp only[Nat.add_zero,List.getElem?_toArray];have htake:(arr.toList.take (p.off+off)).length=p.off+off:=by simp; omega
 by_cases hi:off<=i/\i<off+s
 . have:=hin (i - off) (by omega)
   rw[show off+(i - off)=i from by omega,hc]at this;obtain⟨x,hx1,hx2⟩:=hx.get this.symm;refine⟨x,?_,hx2⟩;rw[List.append_assoc,List.getElem?_append_right (by omega),htake,List.getElem?_append_left (by omega)];rw[show p.off+i - (p.off+off)=i - off from by omega]; exact hx1
 . have:=hout i (by omega)
   rw[hc]at this;obtain⟨x,hx1,hx2⟩:=h5 i c this.symm;refine⟨x,?_,hx2⟩;by_cases hlo:i<off
   . rw[List.append_assoc,List.getElem?_append_left (by omega),List.getElem?_take_of_lt (by omega)];simpa using hx1
   . rw[List.getElem?_append_right (by simp; omega),List.getElem?_drop]
     have:p.off+off+xs.length+(p.off+i - (List.take (p.off+off) arr.toList++xs).length)=p.off+i:=by simp; omega
     rw[this]; simpa using hx1
end
end Go.Ev
namespace Go.Ev
variable[Sym]
theorem vQ(l:List CV):um l=l.length:=by
 induction l with
 |nil=>rfl|cons x l ih=>exact congrArg Nat.succ ih
theorem wh:∀{l:List CV} {r:List Nat},kI l=some r->l=r.map (λb=>CV.int .u8 (.ofNat b))/\∀b∈r,b<=255
 | [],r,hr=>by injection hr with hr; subst hr; exact⟨rfl,by simp⟩
 |c::l,r,hr=>by
  have hr':Option.rec (motive:=λ_=>Option (List Nat)->Option (List Nat)) (λ_=>none) (λb r=>zPE b r) (vx c) (kI l)=some r:=hr;cases h1:vx c with
  |none=>rw[h1]at hr'; cases hr'|some b=>cases h2:kI l with
   |none=>rw[h1,h2]at hr'; cases hr'|some q=>
    rw[h1,h2]at hr';injection hr' with hr'; subst hr';obtain⟨rfl,h3⟩:=wh h2;unfold vx at h1;split at h1
    . split at h1
      . rename_i hle;injection h1 with h1; subst h1;exact⟨rfl,by simp; exact⟨zH hle,h3⟩⟩
      . cases h1
    . cases h1
theorem zHv{Y:Psi}:∀{r:List Nat} {m:List UInt8},zP Y (r.map λb=>CV.int .u8 (.ofNat b)) (m.map λx=>Value.int .u8 (Int.ofNat x.toNat))->m.map (λx=>x.toNat)=r
 | [],[],_=>rfl| [],_::_,h=>by simp[zM]at h|_::_,[],h=>by
  have:=zP.length h
  simp at this
 |x::r,y::m,h=>by
  rw[List.map_cons,List.map_cons]at h;obtain⟨h1,h2⟩:=zW.1 h;have h1:=zf.1 h1;injection h1 with _ h1;have h1:y.toNat=x:=by injection h1
  rw[List.map_cons,zHv h2,h1]
theorem zPf{Y:Psi}{l:List CV}{b:ByteArray}(h:zP Y l (b.data.toList.map λx=>Value.int .u8 (Int.ofNat x.toNat))):zG Y (zQV l) (.string b):=by
 unfold zQV;split
 . rename_i r hr;obtain⟨rfl,_⟩:=wh hr;exact zg.2 ⟨b,rfl,zHv h⟩
 . exact ya.2 ⟨b,rfl,h⟩
theorem zFW{Y:Psi}{l:List CV}{b:ByteArray}(h:zP Y l (b.data.toList.map λx=>Value.int .u8 (Int.ofNat x.toNat))):l.length=b.size:=by
 have:=zP.length h
 rw[List.length_map]at this;rw[<- this]; rfl
section
variable{C:OR->Prop}
theorem xU(v:CV)(k:Key->Nat->OR)(e:Nat)(he:C (.err e))(hk:∀b o,v=.ptr b o->C (k b o)):C (zFa v k e):=by cases v <;> first |exact hk _ _ rfl |exact he
theorem zAw(v:CV)(k:IntKind->Int->OR)(e:Nat)(he:C (.err e))(h0:∀n,v=.nat n->C (k .i64 (.ofNat n)))(hk:∀j n,v=.int j n->C (k j n)) :
 C (zUE v k e):=by
 cases v <;> first |exact h0 _ rfl |exact hk _ _ rfl |exact he
theorem zRw(v:CV)(k:Nat->OR)(j:IntKind->Int->OR)(e:Nat)(he:C (.err e))(h0:∀n,v=.nat n->C (k n))(hk:∀i n,v=.int i n->C (j i n)) :
 C (zYn v k j e):=by
 cases v <;> first |exact h0 _ rfl |exact hk _ _ rfl |exact he
theorem zOc(v:CV)(k:Nat->OR)(e:Nat)(he:C (.err e))(h0:∀n,v=.nat n->C (k n))(hk:∀i n,v=.int i (.ofNat n)->C (k n)):C (ue v k e):=by
 refine zRw v k _ e he h0 λi n hv=>?_;cases n with
 |ofNat m=>exact hk i m hv|negSucc m=>exact he
theorem yP(v:CV)(k:List Nat->OR)(e:Nat)(he:C (.err e))(hk:∀s,v=.str s->C (k s)):C (zAQ v k e):=by cases v <;> first |exact hk _ rfl |exact he
theorem uD(v:CV)(k:Bool->OR)(e:Nat)(he:C (.err e))(hk:∀b,v=.bool b->C (k b)):C (zNK v k e):=by cases v <;> first |exact hk _ rfl |exact he
theorem yY(v:CV)(z:OR)(k:Key->Nat->Nat->Nat->Nat->Bool->OR)(e:Nat)(he:C (.err e))(hz:v=.nilsl->C z)
 (hk:∀b o l c s x,v=.sl b o l c s x->C (k b o l c s x)):C (zAV v z k e):=by
 cases v <;> first |exact hz rfl |exact hk _ _ _ _ _ _ rfl |exact he
theorem qy(v:CV)(k:Key->Nat->SE->SE->OR)(z:OR)(hz:C z)(hk:∀b s e n,v=.win b s e n->C (k b s e n)):C (zNr v k z):=by cases v <;> first |exact hk _ _ _ _ rfl |exact hz
theorem qK(v:CV)(k:List CV->OR)(z:OR)(hz:C z)(hk:∀l,v=.sst l->C (k l)):C (zIB v k z):=by cases v <;> first |exact hk _ rfl |exact hz
theorem xT(v:CV)(z:OR)(k:Key->OR)(e:Nat)(he:C (.err e))(hz:v=.nilmap->C z)(hk:∀b,v=.map b->C (k b)):C (zE3 v z k e):=by cases v <;> first |exact hz rfl |exact hk _ rfl |exact he
theorem zAF(v:CV)(k:List CV->OR)(e:Nat)(he:C (.err e))(hk:∀cs,v=.agg cs->C (k cs)):C (zUw v k e):=by cases v <;> first |exact hk _ rfl |exact he
theorem zHw(v:CV)(k:List CV->OR)(e:Nat)(he:C (.err e))(hk:∀cs,v=.tup cs->C (k cs)):C (zWM v k e):=by cases v <;> first |exact hk _ rfl |exact he
theorem vg(v:CV)(k:Fn->List CV->List CV->OR)(e:Nat)(he:C (.err e))(hk:∀f a c,v=.func f a c->C (k f a c)):C (zOe v k e):=by cases v <;> first |exact hk _ _ _ rfl |exact he
theorem qF(v:CV)(k:TypeId->CV->OR)(z:OR)(e:Nat)(he:C (.err e))(hz:v=.niliface->C z)(hk:∀t x,v=.iface t x->C (k t x)):C (zDl v k z e):=by cases v <;> first |exact hz rfl |exact hk _ _ rfl |exact he
theorem zJD(v:CV)(k:IntKind->Int->OR)(u:IntKind->OR)(s:List Nat->OR)(e:Nat)(he:C (.err e))(h0:∀n,v=.nat n->C (k .i64 (.ofNat n)))
 (hk:∀j n,v=.int j n->C (k j n)) (hu:∀j,v=.anyi j->C (u j)) (hs:∀l,v=.str l->C (s l)):C (zYi v k u s e):=by
 cases v <;> first |exact h0 _ rfl |exact hk _ _ rfl |exact hu _ rfl |exact hs _ rfl |exact he
theorem ko(v:CV)(k:IntKind->Int->OR)(u:IntKind->OR)(e:Nat)(he:C (.err e))(h0:∀n,v=.nat n->C (k .i64 (.ofNat n)))
 (hk:∀j n,v=.int j n->C (k j n)) (hu:∀j,v=.anyi j->C (u j)):C (zUL v k u e):=by
 cases v <;> first |exact h0 _ rfl |exact hk _ _ rfl |exact hu _ rfl |exact he
theorem zBF(v:CV)(k:Key->Nat->OR)(z:OR)(hz:C z)(hk:∀b o,v=.ptr b o->C (k b o)):C (zXC v k z):=by cases v <;> first |exact hk _ _ rfl |exact hz
theorem yh(o:Option CObj)(k:List CV->OR)(e:Nat)(he:C (.err e))(hk:∀vs,o=some (.cells vs)->C (k vs)):C (onCells o k e):=by
 cases o with
 |none=>exact he|some o=>cases o <;> first |exact hk _ rfl |exact he
theorem xR(o:Option CObj)(k:List CV->OR)(e:Nat)(he:C (.err e))(hk:∀vs,(o=some (.cells vs)\/o=some (.ro vs)\/∃u,o=some (.full u vs))->C (k vs)):C (u7 o k e):=by
 cases o with
 |none=>exact he|some o=>cases o <;> first |exact hk _ (.inl rfl) |exact hk _ (.inr (.inl rfl)) |exact hk _ (.inr (.inr ⟨_,rfl⟩)) |exact he
theorem v8(o:Option CObj)(k:List (CV × CV)->OR)(z:OR)(hz:C z)(hk:∀l,o=some (.mapz l)->C (k l)):C (zLe o k z):=by
 unfold zLe;split
 . exact hk _ rfl
 . exact hz
theorem vh(o:Option CObj)(k:Bool->List CV->OR)(z:OR)(hz:C z)(hk:∀u vs,o=some (.full u vs)->C (k u vs)):C (zKY o k z):=by
 unfold zKY;split
 . exact hk _ _ rfl
 . exact hz
theorem ye(o:Option CObj)(k:List CE->Nat->OR)(e:Nat)(he:C (.err e))(hk:∀es c,o=some (.map es c)->C (k es c)):C (uH o k e):=by
 cases o with
 |none=>exact he|some o=>cases o <;> first |exact hk _ _ rfl |exact he
theorem jQ(v:Option CV)(e:Nat)(he:C (.err e))(hk:∀x,v=some x->C (.val x)):C (zFy v e):=by
 cases v with
 |none=>exact he|some x=>exact hk x rfl
theorem zAe(v:Option CV)(e:Nat)(he:C (.err e))(hk:∀x,v=some x->C (.read x)):C (zSd v e):=by
 cases v with
 |none=>exact he|some x=>exact hk x rfl
theorem vC(v:Option (List CV))(e:Nat)(he:C (.err e))(hk:∀x,v=some x->C (.val (.agg x))):C (zXF v e):=by
 cases v with
 |none=>exact he|some x=>exact hk x rfl
theorem zF6(v:Option (List CV))(e:Nat)(he:C (.err e))(hk:∀x,v=some x->C (.read (.agg x))):C (zWJ v e):=by
 cases v with
 |none=>exact he|some x=>exact hk x rfl
theorem zJk(v:Option (List Nat))(e:Nat)(he:C (.err e))(hk:∀x,v=some x->C (.val (.str x))):C (zYh v e):=by
 cases v with
 |none=>exact he|some x=>exact hk x rfl
theorem yb(v:Option (List CV))(k:List CV->OR)(e:Nat)(he:C (.err e))(hk:∀x,v=some x->C (k x)):C (onL v k e):=by
 cases v with
 |none=>exact he|some x=>exact hk x rfl
theorem zAa(v:Option Nat)(k:Nat->OR)(e:Nat)(he:C (.err e))(hk:∀x,v=some x->C (k x)):C (onN v k e):=by
 cases v with
 |none=>exact he|some x=>exact hk x rfl
theorem zJ(b:Bool)(k:OR)(e:Nat)(he:C (.err e))(hk:b=true->C k):C (yv b k e):=by
 cases b with
 |false=>exact he|true=>exact hk rfl
theorem zw(n:Nat)(k:Nat->OR):vP n k=k n:=by cases n <;> rfl
theorem jx(b:Bool)(t f:OR):ifB b t f=if b=true then t else f:=by cases b <;> rfl
end
section
variable{P:Program}
theorem jS{t:TypeId}{b:Bool}(h:qd P t=some b)(w:World):(isAgg t).run P w=.ok b w:=by
 unfold qd at h;cases hd:P.underlying t with
 |none=>rw[hd]at h; cases h|some d=>rw[hd]at h;unfold isAgg;rw[Sem.run_bind,run_underlying hd];cases d <;> simp_all
theorem yl{t:TypeId}{s:Nat}(h:qR P t=some s)(w:World):(sizeOf t).run P w=.ok s w:=by
 unfold qR at h;cases hi:P.info? t with
 |none=>rw[hi]at h; cases h|some i=>rw[hi]at h;injection h with h;simp[sizeOf,typeInfo,hi,h]
theorem jb{t:TypeId}{i:TypeInfo}(h:P.info? t=some i)(w:World):(typeInfo t).run P w=.ok i w:=by simp[typeInfo,h]
theorem zCA{Y:Psi}{f:Value->Option CV}(hf:∀v c,f v=some c->zG Y c v):∀(l:List Value) {cs:List CV},xH f l=some cs->zP Y cs l
 | [],cs,h=>by injection h with h; subst h; exact zM.2 rfl
 |v::l,cs,h=>by
  unfold xH at h;cases hv:f v with
  |none=>rw[hv]at h; cases h|some c=>
   rw[hv]at h;cases hl:xH f l with
   |none=>simp[hl]at h|some r=>simp[hl]at h;subst h;exact zW.2 ⟨hf v c hv,zCA hf l hl⟩
theorem kc{Y:Psi}:∀(d:Nat) {v:Value} {c:CV},zAS d v=some c->zG Y c v
 | 0,_,_,h=>by cases h|d+1,v,c,h=>by
  unfold zAS at h;cases v with
  |bool b=>injection h with h; subst h; exact zL.2 rfl
  |int k n=>
   injection h with h;split at h <;> subst h
   . exact zT.2 rfl
   . exact zf.2 rfl
  |string s=>injection h with h; subst h; exact zg.2 ⟨s,rfl,rfl⟩
  |pointer a=>cases a with
   |none=>injection h with h; subst h; exact xv.2 rfl
   |some a=>cases h
  |slice a n m=>cases a with
   |none=>
    cases n with
    |zero=>cases m with
     |zero=>injection h with h; subst h; exact yD.2 rfl
     |succ m=>cases h
    |succ n=>cases h
   |some a=>cases h
  |map r=>cases r with
   |none=>injection h with h; subst h; exact yg.2 rfl
   |some r=>cases h
  |nilFunc=>injection h with h; subst h; exact xY.2 rfl
  |func fn a b=>
   simp only at h;split at h
   . rename_i hab;injection h with h; subst h;exact xW.2 ⟨a,b,rfl,zM.2 (by simpa using hab.1),zM.2 (by simpa using hab.2)⟩
   . cases h
  |nilIface=>injection h with h; subst h; exact yu.2 rfl
  |iface t v=>
   simp only at h;cases hv:zAS d v with
   |none=>rw[hv]at h; cases h|some c'=>rw[hv]at h; injection h with h; subst h;exact yr.2 ⟨v,rfl,kc d hv⟩
  |agg cs=>
   simp only at h;cases hv:xH (zAS d) cs.toList with
   |none=>rw[hv]at h; cases h|some c'=>rw[hv]at h; injection h with h; subst h;exact yx.2 ⟨cs,rfl,zCA (λ_ _=>kc d) _ hv⟩
  |tuple cs=>
   simp only at h;cases hv:xH (zAS d) cs.toList with
   |none=>rw[hv]at h; cases h|some c'=>rw[hv]at h; injection h with h; subst h;exact yU.2 ⟨cs,rfl,zCA (λ_ _=>kc d) _ hv⟩
  |float k b=>cases h|complex k a b=>cases h|chan r=>cases h
theorem zCw{t:TypeId}{z:CV}(h:vJ P t=some z):∃v,(∀w,(zeroValue t).run P w=.ok v w)/\∀Y,zG Y z v:=by
 unfold vJ at h;cases hi:P.info? t with
 |none=>rw[hi]at h; cases h|some i=>
  rw[hi]at h;simp only[Option.bind_some]at h;cases hz:i.zero with
  |none=>rw[hz]at h; cases h|some v=>rw[hz]at h;exact⟨v,λw=>by simp[zeroValue,typeInfo,hi,hz],λY=>kc 20 h⟩
theorem ux{Y:Psi}{c:CV}{v:Value}{cs:List CV}(h:zG Y c v)(hc:cellsOf c=some cs):zP Y cs v.cells.toList:=by
 have one:∀{c:CV} {v:Value},zG Y c v->v.cells=#[v]->zP Y [c] v.cells.toList:=by intro c v h e; rw[e]; exact zW.2 ⟨h,zM.2 rfl⟩
 cases c <;> simp only[cellsOf,Option.some.injEq,reduceCtorEq]at hc
 case agg=>rw[yx]at h; obtain⟨a,rfl,h⟩:=h; subst hc; exact h
 all_goals
  subst hc;refine one h ?_
  have:=zHn h rfl
  cases v <;> first |rfl |cases this
theorem zO5{t:TypeId}{z:List CV}(h:ji P t=some z):∃v,(∀w,(zeroValue t).run P w=.ok v w)/\∀Y,zP Y z v.cells.toList:=by
 unfold ji at h;cases hz:vJ P t with
 |none=>rw[hz]at h; cases h|some c=>rw[hz]at h;obtain⟨v,h1,h2⟩:=zCw hz;exact⟨v,h1,λY=>ux (h2 Y) h⟩
end
section
variable(P:Program)(Y:Psi)(h:zC)(n:Key)(U:Operand->Value)(o:Op)(ty:TypeId)
def zG0(w:World)(B:Nat):Nat:=match w.heap[B]? with
 |some (.cells arr _ _)=>arr.size|_=>0
def kz (w w':World) (x:Value):Prop:=∃nx,(execOp U { dst:=none,op:=o,type:=ty,pos := "",after:=#[],guard:=none }).run P w=.ok nx w'/\(nx=.value x\/(nx=.skip/\x=undef))
def zD(w:World):OR->Prop
 |.val v=>∃x,kz P U o ty w w x/\zG Y v x|.read v=>jC Y (zC.fam h) w->∃x,kz P U o ty w w x/\zG Y v x|.alloc ob v=>∃w' x sz,kz P U o ty w w' x/\New w w'/\(∀Y',Y.le Y'->Y' n=some ⟨w.heap.size,0,sz,λn=>n⟩->zG Y' v x/\xQ Y' w' ⟨w.heap.size,0,sz,λn=>n⟩ ob)/\sz=zG0 w' w.heap.size|.eff v h' n'=>Rel Y (zC.fam h) w->(∀k,n.ix<=k.ix->k.ix<n'.ix->Y k=none)->n'.room ->
  ∃w' x Y',kz P U o ty w w' x/\yF Y (zC.fam h) n w Y' (zC.fam h') n' w'/\zG Y' v x
 |.call f args=>jC Y (zC.fam h) w->∃args',(execOp U { dst:=none,op:=o,type:=ty,pos := "",after:=#[],guard:=none }).run P w=(callFunc f args').run P w/\zP Y args args'.toList|.dfr f args=>∃d fv cap args',(execOp U { dst:=none,op:=o,type:=ty,pos := "",after:=#[],guard:=none }).run P w=.ok (.defer d) w/\d.target=.fn fv cap /\
  (∀w,(invoke d.target d.args).run P w=(callFunc f args').run P w)/\zP Y args args'.toList
 |.recov=>zEZ o=true/\(execOp U { dst:=none,op:=o,type:=ty,pos := "",after:=#[],guard:=none }).run P w=.ok .recover w|.err _=>True|.fork a b=>Rel Y (zC.fam h) w->zD w a\/zD w b
end
end Go.Ev
