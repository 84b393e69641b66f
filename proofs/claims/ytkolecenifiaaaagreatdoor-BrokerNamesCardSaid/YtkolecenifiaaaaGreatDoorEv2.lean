/- A verified evaluator for the model's code: EvC, EvOpt, EvD, EvE, EvF. -/
import Derived.Test.YtkolecenifiaaaaGreatDoorEv1
import Derived.Laws.Sem
import Derived.Laws.Cells
import Derived.Laws.CopyRow
import Derived.Laws.Entries
import Derived.ChangeKeysEq
import Derived.Laws.Slices
import Derived.Laws.StructEq
import Derived.Laws.Append
set_option linter.unusedSectionVars false
set_option linter.unusedVariables false
set_option linter.unusedSimpArgs false
namespace Go.Ev
variable [Sym]
theorem LV.get_nil (d:Dg):LV.nil.get d=CV.any:=by cases d <;> rfl
theorem LV.get_upd_same (f:CV→CV) (d:Dg) (t:LV):(LV.upd f d t).get d=f (t.get d):=by cases d <;> cases t <;> rfl
theorem LV.get_upd_other (f:CV→CV) (d e:Dg) (t:LV) (h:e≠d):(LV.upd f d t).get e=t.get e:=by
 cases d <;> cases e <;> first | exact absurd rfl h | (cases t <;> rfl)
theorem L1.get_nil (d:Dg):L1.nil.get d=LV.nil:=by cases d <;> rfl
theorem L1.get_upd_same (f:LV→LV) (d:Dg) (t:L1):(L1.upd f d t).get d=f (t.get d):=by cases d <;> cases t <;> rfl
theorem L1.get_upd_other (f:LV→LV) (d e:Dg) (t:L1) (h:e≠d):(L1.upd f d t).get e=t.get e:=by
 cases d <;> cases e <;> first | exact absurd rfl h | (cases t <;> rfl)
theorem HV.get_nil (d:Dg):HV.nil.get d=none:=by cases d <;> rfl
theorem HV.get_upd_same (f:Option CObj→Option CObj) (d:Dg) (t:HV):(HV.upd f d t).get d=f (t.get d):=by cases d <;> cases t <;> rfl
theorem HV.get_upd_other (f:Option CObj→Option CObj) (d e:Dg) (t:HV) (h:e≠d):(HV.upd f d t).get e=t.get e:=by
 cases d <;> cases e <;> first | exact absurd rfl h | (cases t <;> rfl)
theorem H1.get_nil (d:Dg):H1.nil.get d=HV.nil:=by cases d <;> rfl
theorem H1.get_upd_same (f:HV→HV) (d:Dg) (t:H1):(H1.upd f d t).get d=f (t.get d):=by cases d <;> cases t <;> rfl
theorem H1.get_upd_other (f:HV→HV) (d e:Dg) (t:H1) (h:e≠d):(H1.upd f d t).get e=t.get e:=by
 cases d <;> cases e <;> first | exact absurd rfl h | (cases t <;> rfl)
theorem H2.get_nil (d:Dg):H2.nil.get d=H1.nil:=by cases d <;> rfl
theorem H2.get_upd_same (f:H1→H1) (d:Dg) (t:H2):(H2.upd f d t).get d=f (t.get d):=by cases d <;> cases t <;> rfl
theorem H2.get_upd_other (f:H1→H1) (d e:Dg) (t:H2) (h:e≠d):(H2.upd f d t).get e=t.get e:=by
 cases d <;> cases e <;> first | exact absurd rfl h | (cases t <;> rfl)
theorem H3.get_nil (d:Dg):H3.nil.get d=H2.nil:=by cases d <;> rfl
theorem H3.get_upd_same (f:H2→H2) (d:Dg) (t:H3):(H3.upd f d t).get d=f (t.get d):=by cases d <;> cases t <;> rfl
theorem H3.get_upd_other (f:H2→H2) (d e:Dg) (t:H3) (h:e≠d):(H3.upd f d t).get e=t.get e:=by
 cases d <;> cases e <;> first | exact absurd rfl h | (cases t <;> rfl)
theorem zFu (o:Option CObj) (k:Key) (h:zC):zn k (yu o k h)=o:=by
 cases k; simp only [zn,yu,H3.get_upd_same,H2.get_upd_same,H1.get_upd_same,HV.get_upd_same]
theorem zEh (o:Option CObj) (k j:Key) (h:zC) (hne:j≠k):zn j (yu o k h)=zn j h:=by
 obtain ⟨a,b,c,d⟩:=k
 obtain ⟨a',b',c',d'⟩:=j
 simp only [zn,yu]
 by_cases h1:a'=a
 · subst h1
   rw [H3.get_upd_same]
   by_cases h2:b'=b
   · subst h2
     rw [H2.get_upd_same]
     by_cases h3:c'=c
     · subst h3
       rw [H1.get_upd_same]
       by_cases h4:d'=d
       · subst h4; exact absurd rfl hne
       · rw [HV.get_upd_other _ _ _ _ h4]
     · rw [H1.get_upd_other _ _ _ _ h3]
   · rw [H2.get_upd_other _ _ _ _ h2]
 · rw [H3.get_upd_other _ _ _ _ h1]
theorem zC3 (o:Option CObj) (k j:Key) (h:zC):zn j (yu o k h)=if j=k then o else zn j h:=by
 split
 · subst_vars; exact zFu ..
 · exact zEh _ _ _ _ ‹_›
theorem zEU (p:Loc):qZ p Tm.nil=.any:=by
 cases p <;> simp only [qZ,Tm.nil,LV.get_nil,L1.get_nil]
theorem j5 (v:CV) (p:Loc) (t:Tm):qZ p (ko v p t)=v:=by
 cases p <;> cases t <;> simp only [qZ,ko,LV.get_upd_same,L1.get_upd_same]
theorem xf (v:CV) (p q:Loc) (t:Tm) (hne:q≠p):qZ q (ko v p t)=qZ q t:=by
 cases t
 cases p with
 | s d=>cases q with
  | s d'=>
   have:d'≠d:=fun e=>hne (by rw [e])
   simp only [qZ,ko,LV.get_upd_other _ _ _ _ this]
  | w c' d'=>rfl
 | w c d=>cases q with
  | s d'=>rfl
  | w c' d'=>
   simp only [qZ,ko]
   by_cases h1:c'=c
   · subst h1
     rw [L1.get_upd_same]
     have:d'≠d:=fun e=>hne (by rw [e])
     rw [LV.get_upd_other _ _ _ _ this]
   · rw [L1.get_upd_other _ _ _ _ h1]
theorem zDh {a b:Nat} (h:b<a):Nat.ble a b=false:=by
 cases e:Nat.ble a b with
 | false=>rfl
 | true=>have:=Nat.le_of_ble_eq_true e; omega
theorem zL {a b:Nat} (h:Nat.ble a b=true):a≤b:=Nat.le_of_ble_eq_true h
theorem wb {a b:Nat} (h:a≠b):Nat.beq a b=false:=by
 cases e:Nat.beq a b with
 | false=>rfl
 | true=>exact absurd (Nat.eq_of_beq_eq_true e) h
theorem yD {a b:Nat} (h:Nat.beq a b=true):a=b:=Nat.eq_of_beq_eq_true h
theorem qe (a:Nat):Nat.beq a a=true:=by simp
theorem Dg.ix_lt (d:Dg):d.ix<16:=by cases d <;> decide
theorem Dg.ix_inj {a b:Dg} (h:a.ix=b.ix):a=b:=by
 cases a <;> cases b <;> first | rfl | (exfalso; revert h; decide)
theorem Dg.succ_some {d e:Dg} (h:d.succ=some e):e.ix=d.ix+1:=by
 cases d <;> simp only [Dg.succ,Option.some.injEq,reduceCtorEq] at h <;> subst h <;> rfl
theorem Dg.succ_none {d:Dg} (h:d.succ=none):d.ix=15:=by
 cases d <;> simp only [Dg.succ,reduceCtorEq] at h <;> rfl
theorem Dg.ix_ofN {n:Nat} (h:n<16):(Dg.ofN n).ix=n:=by
 match n,h with
 | 0,_ | 1,_ | 2,_ | 3,_ | 4,_ | 5,_ | 6,_ | 7,_ | 8,_ | 9,_ | 10,_ | 11,_ | 12,_ | 13,_ | 14,_ | 15,_=>rfl
 | n+16,h=>omega
theorem Key.ix_le (k:Key):k.ix≤65535:=by
 obtain ⟨a,b,c,d⟩:=k
 have:=a.ix_lt; have:=b.ix_lt; have:=c.ix_lt; have:=d.ix_lt
 simp only [Key.ix]; omega
theorem Key.ix_inj {j k:Key} (h:j.ix=k.ix):j=k:=by
 obtain ⟨a,b,c,d⟩:=j
 obtain ⟨a',b',c',d'⟩:=k
 have:=a.ix_lt; have:=b.ix_lt; have:=c.ix_lt; have:=d.ix_lt
 have:=a'.ix_lt; have:=b'.ix_lt; have:=c'.ix_lt; have:=d'.ix_lt
 simp only [Key.ix] at h
 have h4:d.ix=d'.ix:=by omega
 have h3:c.ix=c'.ix:=by omega
 have h2:b.ix=b'.ix:=by omega
 have h1:a.ix=a'.ix:=by omega
 rw [Dg.ix_inj h1,Dg.ix_inj h2,Dg.ix_inj h3,Dg.ix_inj h4]
theorem Key.ix_succ {k:Key} (h:k.ix<65535):k.succ.ix=k.ix+1:=by
 obtain ⟨a,b,c,d⟩:=k
 simp only [Key.ix] at h ⊢
 simp only [Key.succ]
 have hz:Dg.d0.ix=0:=rfl
 cases hd:d.succ with
 | some d'=>have:=Dg.succ_some hd; simp only []; omega
 | none=>
  have:=Dg.succ_none hd
  cases hc:c.succ with
  | some c'=>have:=Dg.succ_some hc; simp only []; omega
  | none=>
   have:=Dg.succ_none hc
   cases hb:b.succ with
   | some b'=>have:=Dg.succ_some hb; simp only []; omega
   | none=>
    have:=Dg.succ_none hb
    cases ha:a.succ with
    | some a'=>have:=Dg.succ_some ha; simp only []; omega
    | none=>have:=Dg.succ_none ha; omega
theorem Key.ix_succ_top {k:Key} (h:k.ix=65535):k.succ.ix=65535:=by
 obtain ⟨a,b,c,d⟩:=k
 have:=a.ix_lt; have:=b.ix_lt; have:=c.ix_lt; have:=d.ix_lt
 simp only [Key.ix] at h
 have ha:a=.d15:=Dg.ix_inj (by show a.ix=15; omega)
 have hb:b=.d15:=Dg.ix_inj (by show b.ix=15; omega)
 have hc:c=.d15:=Dg.ix_inj (by show c.ix=15; omega)
 have hd:d=.d15:=Dg.ix_inj (by show d.ix=15; omega)
 subst_vars; rfl
theorem Key.ix_le_succ (k:Key):k.ix≤k.succ.ix:=by
 have:=k.ix_le
 by_cases h:k.ix=65535
 · rw [Key.ix_succ_top h]; omega
 · rw [Key.ix_succ (by omega)]; omega
def Key.room (k:Key):Prop:=k.ix<65535
theorem Key.room_of_succ {k:Key} (h:k.succ.room):k.room:=by
 have:=k.ix_le
 unfold Key.room at *
 by_cases h':k.ix=65535
 · rw [Key.ix_succ_top h'] at h; omega
 · omega
theorem Key.ix_ofNat {n:Nat} (h:n≤65535):(Key.ofNat n).ix=n:=by
 simp only [Key.ofNat,Key.ix,Dg.ix_ofN (Nat.mod_lt _ (by omega:16 > 0))]
 omega
theorem Loc.ofNat_inj {a b:Nat} (ha:a≤271) (hb:b≤271) (h:Loc.ofNat a=Loc.ofNat b):a=b:=by
 unfold Loc.ofNat at h
 by_cases h1:a≤15 <;> by_cases h2:b≤15
 · rw [Nat.ble_eq_true_of_le h1,Nat.ble_eq_true_of_le h2] at h
   injection h with h
   have:=congrArg Dg.ix h
   rw [Dg.ix_ofN (by omega),Dg.ix_ofN (by omega)] at this
   exact this
 · rw [Nat.ble_eq_true_of_le h1,(zDh (by omega):Nat.ble b 15=false)] at h
   cases h
 · rw [Nat.ble_eq_true_of_le h2,(zDh (by omega):Nat.ble a 15=false)] at h
   cases h
 · rw [(zDh (by omega):Nat.ble a 15=false),(zDh (by omega):Nat.ble b 15=false)] at h
   injection h with h1 h2
   have e1:=congrArg Dg.ix h1
   have e2:=congrArg Dg.ix h2
   rw [Dg.ix_ofN (by omega),Dg.ix_ofN (by omega)] at e1 e2
   omega
theorem yg {α:Type} (l:List α) (k:Nat):nth l k=l[k]?:=by
 induction l generalizing k with
 | nil=>rfl
 | cons x xs ih=>cases k with
  | zero=>rfl
  | succ k=>simp [nth,ih]
theorem qV (l:List CV) (k:Nat):zAj l k=l[k]?:=by
 induction l generalizing k with
 | nil=>rfl
 | cons x xs ih=>cases k with
  | zero=>rfl
  | succ k=>simpa [zAj] using ih k
theorem zS8 (l:List Nat) (k:Nat):zUK l k=l[k]?:=by
 induction l generalizing k with
 | nil=>rfl
 | cons x xs ih=>cases k with
  | zero=>rfl
  | succ k=>simpa [zUK] using ih k
theorem zQM (l:List CV) (k:Nat):zNj l k=l.drop k:=by
 induction l generalizing k with
 | nil=>simp [zNj]
 | cons x xs ih=>cases k with
  | zero=>rfl
  | succ k=>simpa [zNj] using ih k
theorem zRv (l:List Nat) (k:Nat):zNU l k=l.drop k:=by
 induction l generalizing k with
 | nil=>simp [zNU]
 | cons x xs ih=>cases k with
  | zero=>rfl
  | succ k=>simpa [zNU] using ih k
theorem zJU (l:List CV) (k:Nat):zKD l k=if k≤l.length then some (l.take k) else none:=by
 induction l generalizing k with
 | nil=>cases k with
  | zero=>rfl
  | succ k=>rfl
 | cons x xs ih=>cases k with
  | zero=>rfl
  | succ k=>
   have:zKD (x::xs) (k+1)=zHY x (zKD xs k):=rfl
   rw [this,ih]
   by_cases h:k≤xs.length
   · rw [if_pos h,if_pos (by simpa using h)]; rfl
   · rw [if_neg h,if_neg (by simpa using h)]; rfl
theorem zJP (l:List Nat) (k:Nat):zKk l k=if k≤l.length then some (l.take k) else none:=by
 induction l generalizing k with
 | nil=>cases k with
  | zero=>rfl
  | succ k=>rfl
 | cons x xs ih=>cases k with
  | zero=>rfl
  | succ k=>
   have:zKk (x::xs) (k+1)=zNB x (zKk xs k):=rfl
   rw [this,ih]
   by_cases h:k≤xs.length
   · rw [if_pos h,if_pos (by simpa using h)]; rfl
   · rw [if_neg h,if_neg (by simpa using h)]; rfl
theorem zDf {l r:List CV} {off n:Nat} (h:zAa l off n=some r):(n=0∨off+n≤l.length)∧r=(l.drop off).take n:=by
 unfold zAa at h
 rw [zJU,zQM] at h
 split at h
 · rename_i hle
   rw [List.length_drop] at hle
   exact ⟨by omega,(Option.some.inj h).symm⟩
 · cases h
theorem qJ {l r:List CV} {off n:Nat} (h:zAa l off n=some r):r.length=n∧∀ i,i<n→r[i]? = l[off+i]?:=by
 obtain ⟨hle,rfl⟩:=zDf h
 refine ⟨by simp; omega,fun i hi=>?_⟩
 rw [List.getElem?_take_of_lt hi,List.getElem?_drop]
theorem zOW {l r:List Nat} {off n:Nat} (h:zU1 l off n=some r):(n=0∨off+n≤l.length)∧r=(l.drop off).take n:=by
 unfold zU1 at h
 rw [zJP,zRv] at h
 split at h
 · rename_i hle
   rw [List.length_drop] at hle
   exact ⟨by omega,(Option.some.inj h).symm⟩
 · cases h
theorem zFv {xs l r:List CV} {s:Nat} (h:zD9 xs s l=some r):xs.length=s∧s≤l.length∧r=xs++l.drop s:=by
 induction xs generalizing s l r with
 | nil=>cases s with
  | zero=>exact ⟨rfl,Nat.zero_le _,(Option.some.inj h).symm⟩
  | succ s=>cases h
 | cons x xs ih=>cases s with
  | zero=>cases h
  | succ s=>cases l with
   | nil=>cases h
   | cons y l=>
    have e:zD9 (x::xs) (s+1) (y::l)=zHY x (zD9 xs s l):=rfl
    rw [e] at h
    cases hr:zD9 xs s l with
    | none=>rw [hr] at h; cases h
    | some r'=>
     rw [hr] at h
     obtain ⟨h1,h2,h3⟩:=ih hr
     injection h with h
     exact ⟨by simp [h1],by simpa using h2,by rw [← h,h3]; simp⟩
theorem zK7 {xs l r:List CV} {s k:Nat} (h:jY xs s l k=some r):xs.length=s∧k+s≤l.length∧r=l.take k++xs++l.drop (k+s):=by
 induction l generalizing k r with
 | nil=>cases k with
  | zero=>
   obtain ⟨h1,h2,h3⟩:=zFv (show zD9 xs s []=some r from h)
   exact ⟨h1,by simpa using h2,by simpa using h3⟩
  | succ k=>cases h
 | cons y l ih=>cases k with
  | zero=>
   obtain ⟨h1,h2,h3⟩:=zFv (show zD9 xs s (y::l)=some r from h)
   exact ⟨h1,by simpa using h2,by simpa using h3⟩
  | succ k=>
   have e:jY xs s (y::l) (k+1)=zHY y (jY xs s l k):=rfl
   rw [e] at h
   cases hr:jY xs s l k with
   | none=>rw [hr] at h; cases h
   | some r'=>
    rw [hr] at h
    obtain ⟨h1,h2,h3⟩:=ih hr
    injection h with h
    refine ⟨h1,by simp; omega,?_⟩
    rw [← h,h3]
    have:k+1+s=(k+s)+1:=by omega
    simp [this]
theorem ua {xs l r:List CV} {s k:Nat} (h:jY xs s l k=some r):xs.length=s∧k+s≤l.length∧r.length=l.length ∧
 (∀ i,i<s→r[k+i]? = xs[i]?)∧(∀ i,i<k∨k+s≤i→r[i]? = l[i]?):=by
 obtain ⟨h1,h2,rfl⟩:=zK7 h
 have hk:(l.take k).length=k:=by simp; omega
 refine ⟨h1,h2,by simp; omega,fun i hi=>?_,fun i hi=>?_⟩
 · rw [List.append_assoc,List.getElem?_append_right (by omega),hk,Nat.add_sub_cancel_left,List.getElem?_append_left (by omega)]
 · rcases hi with hi | hi
   · rw [List.append_assoc,List.getElem?_append_left (by omega),List.getElem?_take_of_lt hi]
   · rw [List.getElem?_append_right (by simp; omega),List.getElem?_drop]
     congr 1; simp; omega
theorem w5 (l:List Nat):zBM l=l.length:=by
 induction l with
 | nil=>rfl
 | cons x xs ih=>simp only [List.length_cons,← ih]; rfl
theorem zAU (l:List CE):zMi l=l.length:=by
 induction l with
 | nil=>rfl
 | cons x xs ih=>simp only [List.length_cons,← ih]; rfl
theorem zS6 (a b:List Nat):zVp a b=a++b:=by
 induction a with
 | nil=>rfl
 | cons x xs ih=>simp only [List.cons_append,← ih]; rfl
theorem vP (a b:List CV):zC9 a b=a++b:=by
 induction a with
 | nil=>rfl
 | cons x xs ih=>simp only [List.cons_append,← ih]; rfl
theorem zDL (x:List CV) (n:Nat):(k8 x n).length=n*x.length:=by
 induction n with
 | zero=>simp [k8]
 | succ n ih=>rw [k8,List.length_append,ih,Nat.succ_mul]; omega
theorem zQ4 {x:List CV} (n:Nat) {i:Nat} (h:i<n*x.length):(k8 x n)[i]? = x[i % x.length]?:=by
 induction n generalizing i with
 | zero=>simp at h
 | succ n ih=>
  rw [k8]
  by_cases hi:i<x.length
  · rw [List.getElem?_append_left hi,Nat.mod_eq_of_lt hi]
  · rw [List.getElem?_append_right (by omega),ih (by rw [Nat.succ_mul] at h; omega)]
    congr 1
    rw [Nat.mod_eq_sub_mod (by omega:i ≥ x.length)]
theorem jB (a b:List Nat):qC a b=decide (a=b):=by
 induction a generalizing b with
 | nil=>cases b <;> simp [qC]
 | cons x xs ih=>cases b with
  | nil=>simp [qC]
  | cons y ys=>
   have e:qC (x::xs) (y::ys)=(match Nat.beq x y with | false=>false | true=>qC xs ys):=by
    cases h:Nat.beq x y <;> simp [qC,h]
   rw [e,ih]
   by_cases h:x=y
   · subst h; simp
   · rw [wb h]; simp [h]
theorem za (a b:Int):zj a b=decide (a=b):=by
 cases a with
 | ofNat a=>cases b with
  | ofNat b=>
   show Nat.beq a b=_
   by_cases h:a=b
   · subst h; simp
   · rw [wb h]; simp; omega
  | negSucc b=>show false=_; simp
 | negSucc a=>cases b with
  | ofNat b=>show false=_; simp
  | negSucc b=>
   show Nat.beq a b=_
   by_cases h:a=b
   · subst h; simp
   · rw [wb h]; simp [h]
theorem qQ (a b:Int):wg a b=decide (a<b):=by
 cases a with
 | ofNat a=>cases b with
  | ofNat b=>
   show Nat.ble (a+1) b=_
   by_cases h:a<b
   · rw [Nat.ble_eq_true_of_le h]; simp [h]
   · rw [(zDh (by omega):Nat.ble (a+1) b=false)]; simp; omega
  | negSucc b=>show false=_; simp; omega
 | negSucc a=>cases b with
  | ofNat b=>show true=_; simp; omega
  | negSucc b=>
   show Nat.ble (b+1) a=_
   by_cases h:b<a
   · rw [Nat.ble_eq_true_of_le h]; simp; omega
   · rw [(zDh (by omega):Nat.ble (b+1) a=false)]; simp; omega
theorem yo (j k:IntKind):kEq j k=decide (j=k):=by cases j <;> cases k <;> rfl
theorem vF (b:Bool):u9 b = !b:=by cases b <;> rfl
end Go.Ev
namespace Go.Ev
def zJu:List zT→Nat→zT
 | [],_=>.k .any
 | x::_,0=>x
 | _::l,n+1=>zJu l n
def wC (s:List zT) (x:zT):zT:=match x with
 | .e i=>zJu s i
 | .l p=>.l p
 | .k v=>.k v
def wm (g:zT→zT):Option zT→Option zT
 | none=>none
 | some x=>some (g x)
def zGx (g:zT→zT):List zT→List zT
 | []=>[]
 | x::l=>g x::zGx g l
def zO6 (g:zT→zT):List zIA→List zIA
 | []=>[]
 | p::l=>⟨p.off,p.size,g p.arg⟩::zO6 g l
def zEJ (g:zT→zT):COp→COp
 | .mv x=>.mv (g x)
 | .pick c a b=>.pick (g c) (g a) (g b)
 | .alloc cs=>.alloc cs
 | .box x=>.box (g x)
 | .build z ps=>.build z (zO6 g ps)
 | .bslice z l e ps=>.bslice z l e (zO6 g ps)
 | .load1 x=>.load1 (g x)
 | .loadN s x=>.loadN s (g x)
 | .store s a x=>.store s (g a) (g x)
 | .nilck x=>.nilck (g x)
 | .arith op x y=>.arith op (g x) (g y)
 | .eq n k c x y=>.eq n k c (g x) (g y)
 | .un op x=>.un op (g x)
 | .cvInt k x=>.cvInt k (g x)
 | .cvStr x=>.cvStr (g x)
 | .cvSB x=>.cvSB (g x)
 | .cvMark x=>.cvMark (g x)
 | .cvBS x=>.cvBS (g x)
 | .iface t x=>.iface t (g x)
 | .mkfn f a b=>.mkfn f (zGx g a) (zGx g b)
 | .mkmap=>.mkmap
 | .mkslice z e b l c=>.mkslice z e b (g l) (g c)
 | .slArr l e x a b c=>.slArr l e (g x) (wm g a) (wm g b) (wm g c)
 | .slSl e x a b c=>.slSl e (g x) (wm g a) (wm g b) (wm g c)
 | .slStr x a b=>.slStr (g x) (wm g a) (wm g b)
 | .addOff k x=>.addOff k (g x)
 | .part a o s x=>.part a o s (g x)
 | .ixArr l e x i=>.ixArr l e (g x) (g i)
 | .ixSl e x i=>.ixSl e (g x) (g i)
 | .ixAgg l e a x i=>.ixAgg l e a (g x) (g i)
 | .ixStr x i=>.ixStr (g x) (g i)
 | .lookup kk z ok x k=>.lookup kk z ok (g x) (g k)
 | .mapupd kk m k v=>.mapupd kk (g m) (g k) (g v)
 | .rangeStr x=>.rangeStr (g x)
 | .rangeMap x=>.rangeMap (g x)
 | .next s x=>.next s (g x)
 | .entry x=>.entry (g x)
 | .tassert t z ok x=>.tassert t z ok (g x)
 | .tiface t z ok x=>.tiface t z ok (g x)
 | .extract i x=>.extract i (g x)
 | .call f a=>.call f (zGx g a)
 | .ext e a=>.ext e (zGx g a)
 | .callv f a=>.callv (g f) (zGx g a)
 | .invoke r n a=>.invoke (g r) n (zGx g a)
 | .append e b s x=>.append e b (g s) (g x)
 | .appz z e s x=>.appz z e (g s) (g x)
 | .copy e d x=>.copy e (g d) (g x)
 | .lenStr x=>.lenStr (g x)
 | .lenSl x=>.lenSl (g x)
 | .lenMap x=>.lenMap (g x)
 | .capSl x=>.capSl (g x)
 | .delete kk m k=>.delete kk (g m) (g k)
 | .clearMap x=>.clearMap (g x)
 | .clearSl z e x=>.clearSl z e (g x)
 | .minmax mx x r=>.minmax mx (g x) (zGx g r)
 | .defer f a=>.defer (g f) (zGx g a)
 | .recov=>.recov
 | .bad c=>.bad c
noncomputable section
section
variable [Sym] {P:Program} {g:zT→zT} {es es':List CV} {tm:Tm}
theorem zNe (hg:∀ x,aV es' tm (g x)=aV es tm x):∀ l,aVs es' tm (zGx g l)=aVs es tm l
 | []=>rfl
 | x::l=>by
  show aV es' tm (g x)::aVs es' tm (zGx g l)=aV es tm x::aVs es tm l
  rw [hg,zNe hg l]
theorem zIc (hg:∀ x,aV es' tm (g x)=aV es tm x):∀ ps cells,zAF es' tm (zO6 g ps) cells=zAF es tm ps cells
 | [],_=>rfl
 | p::l,cells=>by
  show Option.rec (motive:=fun _=>Option (List CV)) none (zAF es' tm (zO6 g l)) (zCL p.size p.off cells (cellsOf (aV es' tm (g p.arg))))=Option.rec (motive:=fun _=>Option (List CV)) none (zAF es tm l) (zCL p.size p.off cells (cellsOf (aV es tm p.arg)))
  rw [hg,show zAF es' tm (zO6 g l)=zAF es tm l from funext (zIc hg l)]
theorem zMV (hg:∀ x,aV es' tm (g x)=aV es tm x) (x:Option zT) (y d:Nat) (k:Nat→OR) (e:Nat):zBD es' tm (wm g x) y d k e=zBD es tm x y d k e:=by
 cases x with
 | none=>rfl
 | some x=>
  show vp (aV es' tm (g x)) (fun i=>yl (Nat.ble i y) (k i) e) e=vp (aV es tm x) (fun i=>yl (Nat.ble i y) (k i) e) e
  rw [hg]
theorem zK3 (hg:∀ x,aV es' tm (g x)=aV es tm x) (l c:Nat) (x y z:Option zT) (k:Nat→Nat→Nat→OR) (e:Nat):jD es' tm l c (wm g x) (wm g y) (wm g z) k e=jD es tm l c x y z k e:=by
 unfold jD
 simp only [zMV hg]
theorem zKM (hg:∀ x,aV es' tm (g x)=aV es tm x) (h:zC) (b:Key) (o c s:Nat) (ex:Bool) (x y z:Option zT) (k:OR):zA1 es' tm h b o c s ex (wm g x) (wm g y) (wm g z) k=zA1 es tm h b o c s ex x y z k:=by
 cases ex <;> cases x <;> cases y <;> cases z <;> first | rfl | (simp only [wm,zA1,hg])
theorem zPG (hg:∀ x,aV es' tm (g x)=aV es tm x) (b:Key) (z:Nat) (e m:SE) (s:Nat) (x y w:Option zT):zG0 es' tm b z e m s (wm g x) (wm g y) (wm g w)=zG0 es tm b z e m s x y w:=by
 cases x <;> cases y <;> cases w <;> first | rfl | (simp only [wm,zG0,hg])
theorem zMA (x:Option zT):(wm g x).isSome=x.isSome:=by cases x <;> rfl
theorem zFG (hg:∀ x,aV es' tm (g x)=aV es tm x) (op:COp) (h:zC) (n:Key):yU P (zEJ g op) es' tm h n=yU P op es tm h n:=by
 have h1:=zNe (g:=g) hg
 have h2:=zIc (g:=g) hg
 have h3:=zK3 (g:=g) hg
 have h4:=zKM (g:=g) hg
 have h6:=zPG (g:=g) hg
 have h5:∀ (l c:Nat) (x y:Option zT) (k:Nat→Nat→Nat→OR) (e:Nat),jD es' tm l c (wm g x) (wm g y) none k e=jD es tm l c x y none k e:=fun l c x y k e=>h3 l c x y none k e
 cases op <;> first
  | rfl
  | (simp only [zEJ,yU,xMv,zUu,zQJ,zVG,zP8,zNx,zR3,zRJ,zRl,zQo,zRC,xEq,xUn,zQb,zRT,zUs,zNA,zUz,zQk,zUD,zSK,zKs,zRm,zUo,zSa,zOx,zUp,zRD,zUy,zQi,zSr,zND,zNn,zGT,zIi,zUB,zQK,
      zKL,zN7,zLu,zUF,zUl,zSn,zNR,zA3,zOn,zHB,zNE,zSw,zOC,zP9,zNb,zHZ,zKZ,zNN,zQL,zQj,zVU,hg,h1,h2,h3,h4,h5,h6,zMA])
end
end
def zNr (p d:Loc):Bool:=decide (p=d)
def noW (p:Loc):List ql→Bool
 | []=>true
 | i::r=>(match i with
  | .i _=>true
  | .o _ d=>!zNr p d
  | .g _ _ _ none=>true
  | .g _ _ _ (some d)=>!zNr p d)&&noW p r
def zIq (op:COp):Option zT:=match op with
 | .mv x=>some x
 | _=>none
def zMt (i:ql):Option Loc:=match i with
 | .o op d=>(match zIq op with
  | some (.e 0)=>some d
  | _=>none)
 | _=>none
def inl (y:zT) (r:List ql):Bool:=match y with
 | .l p=>noW p r
 | _=>true
def upA (x:zT):zT:=match x with
 | .e i=>.e (i+1)
 | .l p=>.l p
 | .k v=>.k v
def shA (s:List zT):List zT:=.e 0::s.map upA
def j8:List ql→Option COp→List zT→List ql
 | [],none,_=>[]
 | [],some q,_=>[.i q]
 | i::r,q,s=>match q,zMt i with
  | some q,some d=>.o q d::j8 r none (.e 0::s)
  | q,_=>(match q with
   | some q=>[.i q]
   | none=>[])++(match i with
   | .i op=>(match zIq op with
    | some x=>(match inl (wC s x) r with
     | true=>j8 r none (wC s x::s)
     | false=>j8 r (some (.mv (wC s x))) (shA s))
    | none=>j8 r (some (zEJ (wC s) op)) (shA s))
   | .o op d=>.o (zEJ (wC s) op) d::j8 r none (shA s)
   | .g x w op d=>.g (wC s x) w (zEJ (wC s) op) d::j8 r none (shA s))
def uQ:CCode→CCode
 | .region ops=>.region (j8 ops none [])
 | .seq a b=>.seq (uQ a) (uQ b)
 | .cond x a b=>.cond x (uQ a) (uQ b)
 | .block i b=>.block i (uQ b)
 | .loop b=>.loop (uQ b)
 | .scope b=>.scope (uQ b)
 | .skip=>.skip
 | .dregion l=>.dregion l
 | .exit i=>.exit i
 | .ret=>.ret
 | .bad c=>.bad c
def zNC:CFn→CFn
 | .mk b r=>.mk (uQ b) r
 | .mkD o b r=>.mkD o (uQ b) r
 | .ext e=>.ext e
 | .bad c=>.bad c
def zEg (i:ql) (r:List ql) (s:List zT):List ql:=match i with
 | .i op=>(match zIq op with
  | some x=>(match inl (wC s x) r with
   | true=>j8 r none (wC s x::s)
   | false=>j8 r (some (.mv (wC s x))) (shA s))
  | none=>j8 r (some (zEJ (wC s) op)) (shA s))
 | .o op d=>.o (zEJ (wC s) op) d::j8 r none (shA s)
 | .g x w op d=>.g (wC s x) w (zEJ (wC s) op) d::j8 r none (shA s)
theorem zPV (i:ql) (r:List ql) (s:List zT):j8 (i::r) none s=zEg i r s:=by
 cases i <;> rfl
theorem zPY (i:ql) (r:List ql) (q:COp) (s:List zT):j8 (i::r) (some q) s=match zMt i with
 | some d=>.o q d::j8 r none (.e 0::s)
 | none=>.i q::zEg i r s:=by
 show (match some q,zMt i with
  | some q,some d=>ql.o q d::j8 r none (.e 0::s)
  | q,_=>(match q with
   | some q=>[ql.i q]
   | none=>[])++zEg i r s)=_
 cases zMt i <;> rfl
theorem zO1 {op:COp} {r:List ql} {s:List zT} (h:zIq op=none):zEg (.i op) r s=j8 r (some (zEJ (wC s) op)) (shA s):=by
 unfold zEg
 simp only [h]
theorem zPg {x:zT} {r:List ql} {s:List zT} (h:inl (wC s x) r=true):zEg (.i (.mv x)) r s=j8 r none (wC s x::s):=by
 unfold zEg
 simp only [zIq,h]
theorem zMw {x:zT} {r:List ql} {s:List zT} (h:inl (wC s x) r=false):zEg (.i (.mv x)) r s=j8 r (some (.mv (wC s x))) (shA s):=by
 unfold zEg
 simp only [zIq,h]
theorem zH2 {op:COp} {x:zT} (h:zIq op=some x):op=.mv x:=by
 unfold zIq at h
 split at h
 · injection h with h; rw [h]
 · cases h
theorem zPf {i:ql} {d:Loc} (h:zMt i=some d):i=.o (.mv (.e 0)) d:=by
 unfold zMt at h
 split at h
 · rename_i op d'
   split at h
   · rename_i e
     injection h with h
     rw [zH2 e,h]
   · cases h
 · cases h
def zV2 (i:ql):Option Loc:=match i with
 | .i _=>none
 | .o _ d=>some d
 | .g _ _ _ d=>d
theorem zAi {p:Loc} {i:ql} {r:List ql} (h:noW p (i::r)=true):noW p r=true∧∀ d,zV2 i=some d→d≠p:=by
 unfold noW at h
 rw [Bool.and_eq_true] at h
 refine ⟨h.2,fun d hd e=>?_⟩
 subst e
 have h1:=h.1
 cases i with
 | i _=>cases hd
 | o _ d'=>
  injection hd with hd
  subst hd
  simp [zNr] at h1
 | g _ _ _ d'=>
  have hd:d'=some d:=hd
  subst hd
  simp [zNr] at h1
noncomputable section
section
variable [Sym] {P:Program} {call:ym}
theorem qc {k k':KE} {d d':Option Loc} {es es':List CV} {tm:Tm} {ds:xe}
 (H:∀ v ds h n,yN d v tm (fun tm=>k (v::es) tm ds h n)=yN d' v tm (fun tm=>k' (v::es') tm ds h n)) :
 ∀ (r:OR) (h:zC) (n:Key),after r call k d es tm ds h n=after r call k' d' es' tm ds h n
 | .val v,h,n=>H v ds h n
 | .read v,h,n=>H v ds h n
 | .alloc o v,h,n=>H v ds (yu (some o) n h) n.succ
 | .eff v h' n',_,_=>H v ds h' n'
 | .call f args,h,n=>by
  have:∀ r:R,R.rec (motive:=fun _=>R) (fun _ _ _ _ _=>.err 300) (fun v h n=>yN d v tm fun tm=>k (v::es) tm ds h n) (fun c=>.err c) (fun _ _ a b=>.fork a b) r =
   R.rec (motive:=fun _=>R) (fun _ _ _ _ _=>.err 300) (fun v h n=>yN d' v tm fun tm=>k' (v::es') tm ds h n) (fun c=>.err c) (fun _ _ a b=>.fork a b) r:=by
   intro r
   induction r with
   | ok=>rfl
   | ret v h n=>exact H v ds h n
   | err=>rfl
   | fork a b iha ihb=>show R.fork _ _=R.fork _ _; rw [iha,ihb]
  exact this (call false f args h n)
 | .dfr f args,h,n=>H .undef ((f,args)::ds) h n
 | .recov,h,n=>H .niliface ds h n
 | .err c,_,_=>rfl
 | .fork a b,h,n=>by
  show R.fork (after a call k d es tm ds h n) (after b call k d es tm ds h n)=R.fork (after a call k' d' es' tm ds h n) (after b call k' d' es' tm ds h n)
  rw [qc H a,qc H b]
def ve (s:List zT) (es es':List CV) (tm:Tm):Prop:=∀ x,aV es' tm (wC s x)=aV es tm x
theorem zKe {s:List zT} {es es':List CV} {tm:Tm} {y:zT} {v:CV} (h:ve s es es' tm) (hy:aV es' tm y=v):ve (y::s) (v::es) es' tm:=by
 intro x
 cases x with
 | e i=>cases i with
  | zero=>exact hy
  | succ i=>exact h (.e i)
 | l p=>rfl
 | k v=>rfl
theorem zWd {es:List CV} {tm:Tm} {v:CV} (x:zT):aV (v::es) tm (upA x)=aV es tm x:=by cases x <;> rfl
theorem zKE {v:CV} {es:List CV} {tm:Tm}:∀ (s:List zT) (i:Nat),aV (v::es) tm (zJu (s.map upA) i)=aV es tm (zJu s i)
 | [],_=>rfl
 | x::_,0=>zWd x
 | _::s,i+1=>zKE s i
theorem zIX {s:List zT} {es es':List CV} {tm:Tm} (h:ve s es es' tm) (v:CV):ve (shA s) (v::es) (v::es') tm:=by
 intro x
 cases x with
 | e i=>cases i with
  | zero=>rfl
  | succ i=>
   show aV (v::es') tm (zJu (s.map upA) i)=aV es tm (.e i)
   rw [zKE]
   exact h (.e i)
 | l p=>rfl
 | k v=>rfl
def OkW (s:List zT) (ops:List ql):Prop:=∀ p,zT.l p∈s→noW p ops=true
theorem zKv:∀ {s:List zT} {i:Nat} {p:Loc},zJu s i=.l p→zT.l p∈s
 | [],_,_,h=>by cases h
 | x::_,0,_,h=>by
  have h:x=_:=h
  rw [h]; simp
 | _::s,i+1,_,h=>List.mem_cons_of_mem _ (zKv (s:=s) h)
theorem zOm {s:List zT} {es es':List CV} {tm:Tm} {d:Loc} {v:CV} (h:ve s es es' tm) (hs:∀ p,zT.l p∈s→d≠p):ve s es es' (ko v d tm):=by
 intro x
 cases x with
 | e i=>
  have h0:aV es' tm (zJu s i)=aV es tm (.e i):=h (.e i)
  show aV es' (ko v d tm) (zJu s i)=aV es tm (.e i)
  rw [← h0]
  cases hc:zJu s i with
  | e j=>rfl
  | l p=>
   show qZ p (ko v d tm)=qZ p tm
   exact xf v d p tm (fun e=>hs p (zKv hc) e.symm)
  | k w=>rfl
 | l p=>rfl
 | k v=>rfl
theorem zOe {s:List zT} {p:Loc} (h:zT.l p∈shA s):zT.l p∈s:=by
 unfold shA at h
 rcases List.mem_cons.1 h with h | h
 · cases h
 · obtain ⟨x,hx,e⟩:=List.mem_map.1 h
   cases x with
   | e i=>cases e
   | l q=>injection e with e; rw [← e]; exact hx
   | k v=>cases e
theorem zGy {s:List zT} {i:ql} {r:List ql} (h:OkW s (i::r)):OkW (shA s) r:=fun p hp=>(zAi (h p (zOe hp))).1
theorem zNH:∀ (ops:List ql),
 (∀ (s:List zT) (es es':List CV) (tm:Tm) (ds:xe) (h:zC) (n:Key),ve s es es' tm→OkW s ops→yw P call (j8 ops none s) es' tm ds h n=yw P call ops es tm ds h n) ∧
 (∀ (q:COp) (s:List zT) (es es':List CV) (tm:Tm) (ds:xe) (h:zC) (n:Key),(∀ v,ve s (v::es) (v::es') tm)→OkW s ops→yw P call (j8 ops (some q) s) es' tm ds h n=after (yU P q es' tm h n) call (yw P call ops) none es tm ds h n)
 | []=>⟨fun s es es' tm ds h n hi ho=>rfl,fun q s es es' tm ds h n hi ho=>by
  show after (yU P q es' tm h n) call (yw P call []) none es' tm ds h n=after (yU P q es' tm h n) call (yw P call []) none es tm ds h n
  exact qc (k:=yw P call []) (k':=yw P call []) (d:=none) (d':=none) (es:=es') (es':=es) (fun v ds h n=>rfl) _ _ _⟩
 | i::r=>by
  obtain ⟨ih1,ih2⟩:=zNH r
  have body:∀ (s:List zT) (es es':List CV) (tm:Tm) (ds:xe) (h:zC) (n:Key),ve s es es' tm→OkW s (i::r)→yw P call (zEg i r s) es' tm ds h n=yw P call (i::r) es tm ds h n:=by
   intro s es es' tm ds h n hi ho
   have hput:∀ d,zV2 i=some d→∀ v,ve (shA s) (v::es) (v::es') (ko v d tm):=fun d hd v=>zOm (zIX hi v) fun p hp=>(zAi (ho p (zOe hp))).2 d hd
   cases i with
   | i op=>
    cases hm:zIq op with
    | none=>
     rw [zO1 hm]
     refine (ih2 _ _ es es' tm ds h n (zIX hi) (zGy ho)).trans ?_
     rw [zFG hi]
     rfl
    | some x=>
     obtain rfl:=zH2 hm
     cases hl:inl (wC s x) r with
     | true=>
      rw [zPg hl]
      refine (ih1 _ (aV es tm x::es) es' tm ds h n (zKe hi (hi x)) fun p hp=>?_).trans rfl
      rcases List.mem_cons.1 hp with hp | hp
      · rw [← hp] at hl
        exact hl
      · exact (zAi (ho p hp)).1
     | false=>
      rw [zMw hl]
      refine (ih2 _ _ es es' tm ds h n (zIX hi) (zGy ho)).trans ?_
      show yw P call r (aV es' tm (wC s x)::es) tm ds h n=yw P call r (aV es tm x::es) tm ds h n
      rw [hi x]
   | o op d=>
    show after (yU P (zEJ (wC s) op) es' tm h n) call (yw P call (j8 r none (shA s))) (some d) es' tm ds h n=after (yU P op es tm h n) call (yw P call r) (some d) es tm ds h n
    rw [zFG hi]
    refine qc (k:=yw P call (j8 r none (shA s))) (k':=yw P call r) (d:=some d) (d':=some d) (es:=es') (es':=es) (fun v ds h n=>?_) _ _ _
    exact ih1 _ _ _ _ _ _ _ (hput d rfl v) (zGy ho)
   | g x w op d=>
    show iG P call (wC s x) w (zEJ (wC s) op) d (yw P call (j8 r none (shA s))) es' tm ds h n=iG P call x w op d (yw P call r) es tm ds h n
    have H:∀ v ds h n,yN d v tm (fun tm=>yw P call (j8 r none (shA s)) (v::es') tm ds h n)=yN d v tm (fun tm=>yw P call r (v::es) tm ds h n):=by
     intro v ds h n
     cases d with
     | none=>exact ih1 _ _ _ _ _ _ _ (zIX hi v) (zGy ho)
     | some d=>exact ih1 _ _ _ _ _ _ _ (hput d rfl v) (zGy ho)
    unfold iG
    rw [hi x,zFG hi]
    cases j0 w (aV es tm x) with
    | true=>exact qc H _ _ _
    | false=>cases wE (aV es tm x) with
     | true=>exact H .undef ds h n
     | false=>rfl
  refine ⟨fun s es es' tm ds h n hi ho=>?_,fun q s es es' tm ds h n hi ho=>?_⟩
  · rw [zPV]
    exact body s es es' tm ds h n hi ho
  · rw [zPY]
    cases hf:zMt i with
    | some d=>
     obtain rfl:=zPf hf
     show after (yU P q es' tm h n) call (yw P call (j8 r none (.e 0::s))) (some d) es' tm ds h n=_
     refine qc (k:=yw P call (j8 r none (.e 0::s))) (k':=yw P call (.o (.mv (.e 0)) d::r)) (d:=some d) (d':=none) (es:=es') (es':=es) (fun v ds h n=>?_) _ _ _
     refine (ih1 _ (v::v::es) (v::es') (ko v d tm) ds h n (zKe (zOm (hi v) fun p hp=>(zAi (ho p hp)).2 d rfl) rfl) fun p hp=>?_).trans rfl
     rcases List.mem_cons.1 hp with hp | hp
     · cases hp
     · exact (zAi (ho p hp)).1
    | none=>
     show after (yU P q es' tm h n) call (yw P call (zEg i r s)) none es' tm ds h n=_
     refine qc (k:=yw P call (zEg i r s)) (k':=yw P call (i::r)) (d:=none) (d':=none) (es:=es') (es':=es) (fun v ds h n=>?_) _ _ _
     exact body s (v::es) (v::es') tm ds h n (hi v) ho
theorem zO9 (ops:List ql):yw P call (j8 ops none []) []=yw P call ops []:=by
 funext tm ds h n
 exact (zNH ops).1 [] [] [] tm ds h n (fun x=>by cases x <;> rfl) (fun p hp=>by cases hp)
theorem zFQ (c:CCode):zp P call (uQ c)=zp P call c:=by
 induction c with
 | region ops=>exact zO9 ops
 | seq a b iha ihb=>
  show (fun tm ds h n=>qK (zp P call (uQ b)) (zp P call (uQ a) tm ds h n))=_
  rw [iha,ihb]; rfl
 | cond x a b iha ihb=>
  show (fun tm ds h n=>zGR (zp P call (uQ a)) (zp P call (uQ b)) (aV [] tm x) tm ds h n)=_
  rw [iha,ihb]; rfl
 | block i b ih=>
  show (fun tm ds h n=>uq i (zp P call (uQ b) tm ds h n))=_
  rw [ih]; rfl
 | loop b ih=>
  show zBf zAc (zp P call (uQ b))=_
  rw [ih]; rfl
 | scope b ih=>
  show zp P call (uQ b)=_
  rw [ih]; rfl
 | _=>rfl
theorem zIj (d:Bool) (fn:CFn) (args:List CV) (h:zC) (n:Key):zBb P d call (zNC fn) args h n=zBb P d call fn args h n:=by
 cases fn with
 | mk b r=>
  show y6 d call r (zp P call (uQ b) (qg args 0 .nil) [] h n)=_
  rw [zFQ]; rfl
 | mkD o b r=>
  cases d with
  | true=>
   show y6 true call r (qK (zp P call (uQ b)) (yw P call o [] (qg args 0 .nil) [] h n))=_
   rw [zFQ]; rfl
  | false=>rfl
 | ext e=>rfl
 | bad c=>rfl
end
end
end Go.Ev
namespace Go.Ev
variable [Sym]
structure Pl where
 blk:Nat
 off:Nat
 sz:Nat
 ck:Nat→Nat
abbrev Psi:=Key→Option Pl
mutual
def zH (ψ:Psi):CV→Value→Prop
 | .bool b,v=>v=.bool b
 | .nat n,v=>v=.int .i64 (Int.ofNat n)
 | .int k n,v=>v=.int k n
 | .anyi k,v=>∃ n,v=.int k n
 | .str s,v=>∃ b,v=.string b∧zo b=s
 | .nilptr,v=>v=.pointer none
 | .ptr b o,v=>∃ p,ψ b=some p∧v=.pointer (some ⟨p.blk,p.off+o,none⟩)
 | .nilsl,v=>v=.slice none 0 0
 | .sl b o len cap esz ex,v=>∃ p x cap',ψ b=some p∧v=.slice (some ⟨p.blk,x,none⟩) len cap'∧cap≤cap'∧len≤cap'∧(ex=true→cap'=cap) ∧
  ((x=p.off+o∧(ex=false→x+cap'*esz=p.sz))∨cap'=0)
 | .nilmap,v=>v=.map none
 | .map b,v=>∃ p,ψ b=some p∧v=.map (some p.blk)
 | .func fn a c,v=>∃ a' c',v=.func fn a' c'∧zS ψ a a'.toList∧zS ψ c c'.toList
 | .nilfunc,v=>v=.nilFunc
 | .iface t x,v=>∃ y,v=.iface t y∧zH ψ x y
 | .niliface,v=>v=.nilIface
 | .agg cs,v=>∃ a,v=.agg a∧zS ψ cs a.toList
 | .tup cs,v=>∃ a,v=.tuple a∧zS ψ cs a.toList
 | .sym i,v=>v=Sym.val i
 | .win b esz e n,v=>Sym.arg b=some v∧∃ base:Option Addr,∃ len cap:Nat,∃ i:Int,v=.slice base len cap∧Sym.val n=.int .i64 len∧Sym.val e=.int .i64 i ∧
  (0≤i→i<len→∃ p x,ψ b=some p∧base=some ⟨p.blk,x,none⟩∧p.off=x+i.toNat*esz∧p.sz=x+cap*esz∧len≤cap)
 | .sst l,v=>∃ b:ByteArray,v=.string b∧zS ψ l (b.data.toList.map fun x=>Value.int .u8 (Int.ofNat x.toNat))
 | .big n,v=>∃ m:Nat,v=.int .i64 (Int.ofNat m)∧n≤m
 | .few i t,v=>∃ (m:Nat) (b:ByteArray),Sym.val ⟨.i64,0,[(i,1)]⟩=.int .i64 m∧v=.string b∧t[m]? = some (zo b)
 | .elt b off i m,v=>∃ (p:Pl) (k:Nat),ψ b=some p∧Sym.val ⟨.i64,0,[(i,1)]⟩=.int .i64 k∧k≤m∧v=.pointer (some ⟨p.blk,p.off+(off+k),none⟩)
 | .any,_=>True
def zS (ψ:Psi):List CV→List Value→Prop
 | [],l=>l=[]
 | c::cs,l=>∃ v r,l=v::r∧zH ψ c v∧zS ψ cs r
end
def Psi.le (ψ ψ':Psi):Prop:=∀ k p,ψ k=some p→ψ' k=some p
theorem Psi.le_refl (ψ:Psi):ψ.le ψ:=fun _ _ h=>h
theorem Psi.le_trans {a b c:Psi} (h:a.le b) (h':b.le c):a.le c:=fun k p e=>h' k p (h k p e)
mutual
theorem zH.mono {ψ ψ':Psi} (hle:ψ.le ψ'):∀ (c:CV) {v:Value},zH ψ c v→zH ψ' c v
 | .bool _,_,h=>h
 | .nat _,_,h=>h
 | .int _ _,_,h=>h
 | .anyi _,_,h=>h
 | .str _,_,h=>h
 | .nilptr,_,h=>h
 | .ptr _ _,_,h=>by
  unfold zH at h ⊢
  obtain ⟨p,hp,e⟩:=h
  exact ⟨p,hle _ _ hp,e⟩
 | .nilsl,_,h=>h
 | .sl ..,_,h=>by
  unfold zH at h ⊢
  obtain ⟨p,x,c,hp,r⟩:=h
  exact ⟨p,x,c,hle _ _ hp,r⟩
 | .nilmap,_,h=>h
 | .map _,_,h=>by
  unfold zH at h ⊢
  obtain ⟨p,hp,e⟩:=h
  exact ⟨p,hle _ _ hp,e⟩
 | .func _ a c,_,h=>by
  unfold zH at h ⊢
  obtain ⟨a',c',e,h1,h2⟩:=h
  exact ⟨a',c',e,zS.mono hle a h1,zS.mono hle c h2⟩
 | .nilfunc,_,h=>h
 | .iface _ x,_,h=>by
  unfold zH at h ⊢
  obtain ⟨y,e,h1⟩:=h
  exact ⟨y,e,zH.mono hle x h1⟩
 | .niliface,_,h=>h
 | .agg cs,_,h=>by
  unfold zH at h ⊢
  obtain ⟨a,e,h1⟩:=h
  exact ⟨a,e,zS.mono hle cs h1⟩
 | .tup cs,_,h=>by
  unfold zH at h ⊢
  obtain ⟨a,e,h1⟩:=h
  exact ⟨a,e,zS.mono hle cs h1⟩
 | .sym _,_,h=>h
 | .win ..,_,h=>by
  unfold zH at h ⊢
  obtain ⟨h0,base,len,cap,i,h1,h2,h3,h4⟩:=h
  refine ⟨h0,base,len,cap,i,h1,h2,h3,fun q1 q2=>?_⟩
  obtain ⟨p,x,hp,r⟩:=h4 q1 q2
  exact ⟨p,x,hle _ _ hp,r⟩
 | .sst l,_,h=>by
  unfold zH at h ⊢
  obtain ⟨b,e,h1⟩:=h
  exact ⟨b,e,zS.mono hle l h1⟩
 | .big _,_,h=>h
 | .few _ _,_,h=>h
 | .elt ..,_,h=>by
  unfold zH at h ⊢
  obtain ⟨p,k,hp,r⟩:=h
  exact ⟨p,k,hle _ _ hp,r⟩
 | .any,_,_=>by unfold zH; trivial
theorem zS.mono {ψ ψ':Psi} (hle:ψ.le ψ'):∀ (cs:List CV) {l:List Value},zS ψ cs l→zS ψ' cs l
 | [],_,h=>h
 | c::cs,_,h=>by
  unfold zS at h ⊢
  obtain ⟨v,r,e,h1,h2⟩:=h
  exact ⟨v,r,e,zH.mono hle c h1,zS.mono hle cs h2⟩
end
section
variable {ψ:Psi}
theorem zM {l:List Value}:zS ψ [] l ↔ l=[]:=by unfold zS; rfl
theorem zd {c:CV} {cs:List CV} {l:List Value}:zS ψ (c::cs) l ↔ ∃ v r,l=v::r∧zH ψ c v∧zS ψ cs r:=by
 rw [zS]
theorem zW {c:CV} {cs:List CV} {v:Value} {r:List Value}:zS ψ (c::cs) (v::r) ↔ zH ψ c v∧zS ψ cs r:=by
 rw [zd]
 constructor
 · rintro ⟨v',r',e,h1,h2⟩; cases e; exact ⟨h1,h2⟩
 · rintro ⟨h1,h2⟩; exact ⟨v,r,rfl,h1,h2⟩
theorem zS.length {cs:List CV} {l:List Value} (h:zS ψ cs l):l.length=cs.length:=by
 induction cs generalizing l with
 | nil=>rw [zM] at h; subst h; rfl
 | cons c cs ih=>
  rw [zd] at h
  obtain ⟨v,r,rfl,_,h2⟩:=h
  simp [ih h2]
theorem qN {cs:List CV} {l:List Value}:zS ψ cs l ↔ l.length=cs.length∧∀ (i:Nat) (c:CV) (v:Value),cs[i]? = some c→l[i]? = some v→zH ψ c v:=by
 induction cs generalizing l with
 | nil=>rw [zM]; cases l <;> simp
 | cons c cs ih=>
  cases l with
  | nil=>rw [zd]; simp
  | cons v r=>
   rw [zW,ih]
   constructor
   · rintro ⟨h1,h2,h3⟩
     refine ⟨by simp [h2],fun i d u hd hu=>?_⟩
     cases i with
     | zero=>simp at hd hu; subst hd; subst hu; exact h1
     | succ i=>exact h3 i d u (by simpa using hd) (by simpa using hu)
   · rintro ⟨h1,h2⟩
     refine ⟨h2 0 c v rfl rfl,by simpa using h1,fun i d u hd hu=>h2 (i+1) d u (by simpa using hd) (by simpa using hu)⟩
theorem zS.get {cs:List CV} {l:List Value} (h:zS ψ cs l) {i:Nat} {c:CV} (hc:cs[i]? = some c):∃ v,l[i]? = some v∧zH ψ c v:=by
 obtain ⟨h1,h2⟩:=qN.1 h
 have hi:i<cs.length:=by
  rcases Nat.lt_or_ge i cs.length with h | h
  · exact h
  · rw [List.getElem?_eq_none h] at hc; cases hc
 have:l[i]? = some (l[i]'(by omega)):=List.getElem?_eq_getElem _
 exact ⟨_,this,h2 i c _ hc this⟩
theorem zS.append {a b:List CV} {l m:List Value} (h:zS ψ a l) (h':zS ψ b m):zS ψ (a++b) (l++m):=by
 induction a generalizing l with
 | nil=>rw [zM] at h; subst h; exact h'
 | cons c a ih=>
  rw [zd] at h
  obtain ⟨v,r,rfl,h1,h2⟩:=h
  exact zW.2 ⟨h1,ih h2⟩
theorem zS.take {cs:List CV} {l:List Value} (h:zS ψ cs l) (n:Nat):zS ψ (cs.take n) (l.take n):=by
 obtain ⟨h1,h2⟩:=qN.1 h
 refine qN.2 ⟨by simp [h1],fun i c v hc hv=>?_⟩
 rw [List.getElem?_take] at hc hv
 split at hc
 · rename_i hi; rw [if_pos hi] at hv; exact h2 i c v hc hv
 · cases hc
theorem zS.drop {cs:List CV} {l:List Value} (h:zS ψ cs l) (n:Nat):zS ψ (cs.drop n) (l.drop n):=by
 obtain ⟨h1,h2⟩:=qN.1 h
 refine qN.2 ⟨by simp [h1],fun i c v hc hv=>?_⟩
 rw [List.getElem?_drop] at hc hv
 exact h2 _ c v hc hv
theorem zJ {b:Bool} {v:Value}:zH ψ (.bool b) v ↔ v=.bool b:=by rw [zH]
theorem zX {n:Nat} {v:Value}:zH ψ (.nat n) v ↔ v=.int .i64 (Int.ofNat n):=by rw [zH]
theorem zg {k:IntKind} {n:Int} {v:Value}:zH ψ (.int k n) v ↔ v=.int k n:=by rw [zH]
theorem yk {k:IntKind} {v:Value}:zH ψ (.anyi k) v ↔ ∃ n,v=.int k n:=by rw [zH]
theorem ze {s:List Nat} {v:Value}:zH ψ (.str s) v ↔ ∃ b,v=.string b∧zo b=s:=by rw [zH]
theorem xW {v:Value}:zH ψ .nilptr v ↔ v=.pointer none:=by rw [zH]
theorem zu {b:Key} {o:Nat} {v:Value}:zH ψ (.ptr b o) v ↔ ∃ p,ψ b=some p∧v=.pointer (some ⟨p.blk,p.off+o,none⟩):=by rw [zH]
theorem zw {v:Value}:zH ψ .nilsl v ↔ v=.slice none 0 0:=by rw [zH]
theorem yF {b:Key} {o len cap esz:Nat} {ex:Bool} {v:Value}:zH ψ (.sl b o len cap esz ex) v ↔ ∃ p x cap',ψ b=some p∧v=.slice (some ⟨p.blk,x,none⟩) len cap'∧cap≤cap'∧len≤cap' ∧
 (ex=true→cap'=cap)∧((x=p.off+o∧(ex=false→x+cap'*esz=p.sz))∨cap'=0):=by rw [zH]
theorem yS {v:Value}:zH ψ .nilmap v ↔ v=.map none:=by rw [zH]
theorem yq {b:Key} {v:Value}:zH ψ (.map b) v ↔ ∃ p,ψ b=some p∧v=.map (some p.blk):=by rw [zH]
theorem xH {fn:Fn} {a c:List CV} {v:Value}:zH ψ (.func fn a c) v ↔ ∃ a' c',v=.func fn a' c'∧zS ψ a a'.toList∧zS ψ c c'.toList:=by rw [zH]
theorem xK {v:Value}:zH ψ .nilfunc v ↔ v=.nilFunc:=by rw [zH]
theorem yf {t:TypeId} {x:CV} {v:Value}:zH ψ (.iface t x) v ↔ ∃ y,v=.iface t y∧zH ψ x y:=by rw [zH]
theorem yj {v:Value}:zH ψ .niliface v ↔ v=.nilIface:=by rw [zH]
theorem yn {cs:List CV} {v:Value}:zH ψ (.agg cs) v ↔ ∃ a,v=.agg a∧zS ψ cs a.toList:=by rw [zH]
theorem yW {cs:List CV} {v:Value}:zH ψ (.tup cs) v ↔ ∃ a,v=.tuple a∧zS ψ cs a.toList:=by rw [zH]
theorem zq {i:SE} {v:Value}:zH ψ (.sym i) v ↔ v=Sym.val i:=by rw [zH]
theorem qA {b:Key} {esz:Nat} {e n:SE} {v:Value}:zH ψ (.win b esz e n) v ↔ Sym.arg b=some v∧∃ base:Option Addr,∃ len cap:Nat,∃ i:Int,v=.slice base len cap∧Sym.val n=.int .i64 len∧Sym.val e=.int .i64 i∧(0≤i→i<len→∃ p x,ψ b=some p∧base=some ⟨p.blk,x,none⟩∧p.off=x+i.toNat*esz∧p.sz=x+cap*esz∧len≤cap):=by rw [zH]
theorem zy {l:List CV} {v:Value}:zH ψ (.sst l) v ↔ ∃ b:ByteArray,v=.string b∧zS ψ l (b.data.toList.map fun x=>Value.int .u8 (Int.ofNat x.toNat)):=by rw [zH]
theorem k9 {n:Nat} {v:Value}:zH ψ (.big n) v ↔ ∃ m:Nat,v=.int .i64 (Int.ofNat m)∧n≤m:=by rw [zH]
theorem jp {i:Nat} {t:List (List Nat)} {v:Value}:zH ψ (.few i t) v ↔ ∃ (m:Nat) (b:ByteArray),Sym.val ⟨.i64,0,[(i,1)]⟩=.int .i64 m∧v=.string b∧t[m]? = some (zo b):=by rw [zH]
theorem zAB {b:Key} {off i m:Nat} {v:Value}:zH ψ (.elt b off i m) v ↔ ∃ (p:Pl) (k:Nat),ψ b=some p∧Sym.val ⟨.i64,0,[(i,1)]⟩=.int .i64 k∧k≤m∧v=.pointer (some ⟨p.blk,p.off+(off+k),none⟩):=by rw [zH]
theorem x7 {v:Value}:zH ψ .any v:=by rw [zH]; trivial
theorem qF:zH ψ .undef undef:=yW.2 ⟨#[],rfl,zM.2 rfl⟩
end
def zBj (ψ:Psi) (ck:Nat→Nat) (c:CE) (e:MapEntry):Prop:=zH ψ c.key e.key∧zH ψ c.val e.val∧e.born=ck c.born
def yM (ψ:Psi) (ck:Nat→Nat):List CE→List MapEntry→Prop
 | [],l=>l=[]
 | c::cs,l=>∃ e r,l=e::r∧zBj ψ ck c e∧yM ψ ck cs r
structure wL (ck:Nat→Nat) (clock:Nat):Prop where
 one:∀ a b,ck a=ck b→a=b
 cmp:∀ k x,x<clock+k ↔ ck x<ck (clock+k)
 run:∀ k,ck (clock+k)=ck clock+k
def zBW (ck:Nat→Nat) (y:Nat):Prop:=∀ x,x<y ↔ ck x<ck y
theorem wL.id (clock:Nat):wL (fun n=>n) clock:=⟨fun _ _ h=>h,fun _ _=>Iff.rfl,fun _=>rfl⟩
theorem wL.succ {ck:Nat→Nat} {clock:Nat} (h:wL ck clock):wL ck (clock+1):=
 ⟨h.one,fun k x=>by rw [show clock+1+k=clock+(1+k) from by omega]; exact h.cmp (1+k) x,fun k=>by rw [show clock+1+k=clock+(1+k) from by omega,h.run,h.run 1]; omega⟩
theorem wL.here {ck:Nat→Nat} {clock:Nat} (h:wL ck clock):zBW ck clock:=fun x=>h.cmp 0 x
theorem wL.step {ck:Nat→Nat} {clock:Nat} (h:wL ck clock):ck (clock+1)=ck clock+1:=h.run 1
theorem wL.inj {ck:Nat→Nat} {clock:Nat} (h:wL ck clock) {a b:Nat}:ck a=ck b ↔ a=b:=⟨h.one a b,fun e=>by rw [e]⟩
def xJ (ψ:Psi) (ck:Nat→Nat) (es:List CE) (l:List MapEntry):Prop:=∃ l',l'.Perm l∧yM ψ ck es l'
theorem xJ.nil {ψ:Psi} {ck:Nat→Nat}:xJ ψ ck [] []:=⟨[],List.Perm.refl _,rfl⟩
def vL (ψ:Psi):List (CV × CV)→List MapEntry→Prop
 | [],l=>l=[]
 | q::r,l=>(zH ψ q.2 (.string .empty)∧vL ψ r l)∨∃ e m,l=e::m∧zH ψ q.1 e.key∧zH ψ q.2 e.val∧vL ψ r m
def zLG (ψ:Psi) (es:List (CV × CV)) (l:List MapEntry):Prop:=∃ l',l'.Perm l∧vL ψ es l'
def yc (ψ:Psi) (w:World) (p:Pl) (vs:List CV):Prop:=
 ∃ arr elem fz,w.heap[p.blk]? = some (.cells arr elem fz)∧arr.size=p.sz∧p.off+vs.length≤p.sz∧(fz.1=fz.2∨p.sz≤fz.1) ∧
  ∀ i c,vs[i]? = some c→∃ x,arr[p.off+i]? = some x∧zH ψ c x
def zAq (ψ:Psi) (w:World) (p:Pl) (vs:List CV):Prop:=
 ∃ arr elem fz,w.heap[p.blk]? = some (.cells arr elem fz)∧p.off+vs.length≤arr.size ∧
  ∀ i c,vs[i]? = some c→∃ x,arr[p.off+i]? = some x∧zH ψ c x
def jW (ψ:Psi) (w:World) (p:Pl) (u:Bool) (vs:List CV):Prop:=
 ∃ arr elem fz,w.heap[p.blk]? = some (.cells arr elem fz)∧arr.size=p.sz∧p.off+vs.length=p.sz∧(fz.1=fz.2∨u=false∧p.sz≤fz.1) ∧
  ∀ i c,vs[i]? = some c→∃ x,arr[p.off+i]? = some x∧zH ψ c x
theorem jW.toCells {ψ:Psi} {w:World} {p:Pl} {u:Bool} {vs:List CV} (h:jW ψ w p u vs):yc ψ w p vs:=
 let ⟨a,e,f,h1,h2,h3,h4,h5⟩:=h
 ⟨a,e,f,h1,h2,Nat.le_of_eq h3,h4.elim .inl (fun h=>.inr h.2),h5⟩
theorem yc.toRo {ψ:Psi} {w:World} {p:Pl} {vs:List CV} (h:yc ψ w p vs):zAq ψ w p vs:=
 let ⟨a,e,f,h1,h2,h3,_,h5⟩:=h
 ⟨a,e,f,h1,h2.symm ▸ h3,h5⟩
def zVY (w:World) (p:Pl):Prop:=∃ arr elem fz,w.heap[p.blk]? = some (.cells arr elem fz)∧arr.size=p.sz / 64∧p.off+2*(p.sz % 64)≤arr.size∧(fz.1=fz.2∨arr.size≤fz.1) ∧
 ∀ i,i<p.sz % 64→arr[p.off+2*i]? = some (.int .i64 1)∧∃ n,arr[p.off+(2*i+1)]? = some (.int .i64 n)
def xM (ψ:Psi) (w:World) (p:Pl):CObj→Prop
 | .cells vs=>yc ψ w p vs
 | .ro vs=>zAq ψ w p vs
 | .map es clock=>∃ arr,w.heap[p.blk]? = some (.map arr (p.ck clock))∧xJ ψ p.ck es arr.toList∧wL p.ck clock
 | .striter s pos=>∃ b,w.heap[p.blk]? = some (.stringIter b pos)∧zS ψ s (b.data.toList.map fun x=>Value.int .u8 (Int.ofNat x.toNat))∧p.off=0
 | .full u vs=>jW ψ w p u vs
 | .mapz es=>∃ arr clock,w.heap[p.blk]? = some (.map arr clock)∧zLG ψ es arr.toList
 | .seen b=>∃ arr elem fz,w.heap[p.blk]? = some (.cells arr elem fz)∧arr.size=p.sz∧p.off+1≤p.sz∧(fz.1=fz.2∨p.sz≤fz.1)∧∃ q len cap,arr[p.off]? = some (.slice (some ⟨q.blk,q.off,none⟩) len cap)∧ψ b=some q∧1≤len∧len≤32∧len≤cap∧q.sz=len+64*(q.off+cap*2)
 | .hid=>zVY w p
 | .bag ks=>∃ arr elem fz vs,w.heap[p.blk]? = some (.cells arr elem fz)∧zS ψ ks vs∧((arr.toList.drop p.off).take ks.length).Perm vs
 | .mapiter m since seen stepped=>∃ m' ck,w.heap[p.blk]? = some (.mapIter m' (ck since) (seen.map ck).toArray (ck stepped))∧p.off=0 ∧
  (match m with
   | none=>m'=none
   | some k=>∃ q,ψ k=some q∧m'=some q.blk∧ck=q.ck∧zBW ck since∧zBW ck stepped)
abbrev Fam:=Key→Option CObj
noncomputable def zC.fam (h:zC):Fam:=fun k=>zn k h
def CObj.isRo:CObj→Bool
 | .ro _=>true
 | _=>false
def qk (ψ:Psi) (g:Fam) (w:World):Prop:=∀ k o p,g k=some o→ψ k=some p→xM ψ w p o
structure Rel (ψ:Psi) (g:Fam) (w:World):Prop where
 on:qk ψ g w
 tot:∀ k o,g k=some o→∃ p,ψ k=some p
 inj:∀ k₁ k₂ o₁ o₂ p₁ p₂,g k₁=some o₁→g k₂=some o₂→ψ k₁=some p₁→ψ k₂=some p₂→(o₁.isRo=false∨o₂.isRo=false)→p₁.blk=p₂.blk→k₁=k₂
structure yH (ψ:Psi) (g:Fam) (n:Key) (w:World) (ψ':Psi) (g':Fam) (n':Key) (w':World):Prop where
 ext:ψ.le ψ'
 out:∀ k,(k.ix<n.ix∨n'.ix≤k.ix)→ψ' k=ψ k
 rel:Rel ψ' g' w'
 frame:∀ B,B<w.heap.size→(∀ k o p,g k=some o→o.isRo=false→ψ k=some p→p.blk≠B)→w'.heap[B]? = w.heap[B]?
 img:∀ k o p,g' k=some o→o.isRo=false→ψ' k=some p→(∃ k₀ o₀ p₀,g k₀=some o₀∧o₀.isRo=false∧ψ k₀=some p₀∧p₀.blk=p.blk)∨w.heap.size≤p.blk
 size:w.heap.size≤w'.heap.size
 tape:w'.tape=w.tape
 os:w'.os=w.os
 output:w'.output=w.output
 mono:n.ix≤n'.ix
 imgA:∀ k o p,g' k=some o→ψ' k=some p→(∃ k₀ o₀ p₀,g k₀=some o₀∧ψ k₀=some p₀∧p₀.blk=p.blk)∨w.heap.size≤p.blk
theorem yH.refl {ψ:Psi} {g:Fam} {n:Key} {w:World} (h:Rel ψ g w):yH ψ g n w ψ g n w:=
 ⟨Psi.le_refl _,fun _ _=>rfl,h,fun _ _ _=>rfl,fun k o p h1 h2 h3=>.inl ⟨k,o,p,h1,h2,h3,rfl⟩,Nat.le_refl _,rfl,rfl,rfl,Nat.le_refl _,fun k o p h1 h3=>.inl ⟨k,o,p,h1,h3,rfl⟩⟩
theorem yH.trans {ψ ψ₁ ψ₂:Psi} {g g₁ g₂:Fam} {n n₁ n₂:Key} {w w₁ w₂:World} (h:yH ψ g n w ψ₁ g₁ n₁ w₁) (h':yH ψ₁ g₁ n₁ w₁ ψ₂ g₂ n₂ w₂) :
 yH ψ g n w ψ₂ g₂ n₂ w₂:=by
 have hm:=h.mono
 have hm':=h'.mono
 refine ⟨Psi.le_trans h.ext h'.ext,fun k hk=>?_,h'.rel,fun B hB hfree=>?_,fun k o p h1 h2 h3=>?_,Nat.le_trans h.size h'.size,
  h'.tape.trans h.tape,h'.os.trans h.os,h'.output.trans h.output,Nat.le_trans hm hm',fun k o p h1 h3=>?_⟩
 · rw [h'.out k (by omega),h.out k (by omega)]
 · rw [h'.frame B (Nat.lt_of_lt_of_le hB h.size),h.frame B hB hfree]
   intro k o p hk hro hp e
   rcases h.img k o p hk hro hp with ⟨k₀,o₀,p₀,a,b,c,d⟩ | hge
   · exact hfree k₀ o₀ p₀ a b c (d.trans e)
   · omega
 · rcases h'.img k o p h1 h2 h3 with ⟨k₀,o₀,p₀,a,b,c,d⟩ | hge
   · rcases h.img k₀ o₀ p₀ a b c with ⟨k₁,o₁,p₁,a',b',c',d'⟩ | hge
     · exact .inl ⟨k₁,o₁,p₁,a',b',c',d'.trans d⟩
     · exact .inr (by omega)
   · exact .inr (Nat.le_trans h.size hge)
 · rcases h'.imgA k o p h1 h3 with ⟨k₀,o₀,p₀,a,c,d⟩ | hge
   · rcases h.imgA k₀ o₀ p₀ a c with ⟨k₁,o₁,p₁,a',c',d'⟩ | hge
     · exact .inl ⟨k₁,o₁,p₁,a',c',d'.trans d⟩
     · exact .inr (by omega)
   · exact .inr (Nat.le_trans h.size hge)
end Go.Ev
namespace Go.Ev
variable [Sym]
theorem xM.congr {ψ:Psi} {w w':World} {p:Pl} {o:CObj} (h:w'.heap[p.blk]? = w.heap[p.blk]?) (ho:xM ψ w p o):xM ψ w' p o:=by
 cases o with
 | cells vs=>obtain ⟨arr,e,fz,h1,r⟩:=ho; exact ⟨arr,e,fz,h.trans h1,r⟩
 | ro vs=>obtain ⟨arr,e,fz,h1,r⟩:=ho; exact ⟨arr,e,fz,h.trans h1,r⟩
 | map es c=>obtain ⟨arr,h1,r⟩:=ho; exact ⟨arr,h.trans h1,r⟩
 | striter s q=>obtain ⟨b,h1,r⟩:=ho; exact ⟨b,h.trans h1,r⟩
 | full u vs=>obtain ⟨arr,e,fz,h1,r⟩:=ho; exact ⟨arr,e,fz,h.trans h1,r⟩
 | mapz es=>obtain ⟨arr,c,h1,r⟩:=ho; exact ⟨arr,c,h.trans h1,r⟩
 | seen b=>obtain ⟨arr,e,fz,h1,r⟩:=ho; exact ⟨arr,e,fz,h.trans h1,r⟩
 | hid=>obtain ⟨arr,e,fz,h1,r⟩:=ho; exact ⟨arr,e,fz,h.trans h1,r⟩
 | bag ks=>obtain ⟨arr,e,fz,vs,h1,r⟩:=ho; exact ⟨arr,e,fz,vs,h.trans h1,r⟩
 | mapiter m a b c=>obtain ⟨m',ck,h1,r⟩:=ho; exact ⟨m',ck,h.trans h1,r⟩
theorem yM.mono {ψ ψ':Psi} (hle:ψ.le ψ') {ck:Nat→Nat}:∀ {es:List CE} {l:List MapEntry},yM ψ ck es l→yM ψ' ck es l
 | [],_,h=>h
 | c::es,_,h=>by
  obtain ⟨e,r,rfl,⟨h1,h2,h3⟩,h4⟩:=h
  exact ⟨e,r,rfl,⟨h1.mono hle,h2.mono hle,h3⟩,yM.mono hle h4⟩
theorem xJ.mono {ψ ψ':Psi} (hle:ψ.le ψ') {ck:Nat→Nat} {es:List CE} {l:List MapEntry} (h:xJ ψ ck es l):xJ ψ' ck es l:=
 let ⟨l',hp,hc⟩:=h
 ⟨l',hp,hc.mono hle⟩
theorem vL.mono {ψ ψ':Psi} (hle:ψ.le ψ'):∀ {es:List (CV × CV)} {l:List MapEntry},vL ψ es l→vL ψ' es l
 | [],_,h=>h
 | _::_,_,.inl ⟨h1,h2⟩=>.inl ⟨h1.mono hle,vL.mono hle h2⟩
 | _::_,_,.inr ⟨e,m,h0,h1,h2,h3⟩=>.inr ⟨e,m,h0,h1.mono hle,h2.mono hle,vL.mono hle h3⟩
theorem zLG.mono {ψ ψ':Psi} (hle:ψ.le ψ') {es:List (CV × CV)} {l:List MapEntry} (h:zLG ψ es l):zLG ψ' es l:=
 let ⟨l',hp,hc⟩:=h
 ⟨l',hp,hc.mono hle⟩
theorem xM.mono {ψ ψ':Psi} (hle:ψ.le ψ') {w:World} {p:Pl} {o:CObj} (ho:xM ψ w p o):xM ψ' w p o:=by
 cases o with
 | cells vs=>
  obtain ⟨arr,e,fz,h1,h2,h3,h4,h5⟩:=ho
  exact ⟨arr,e,fz,h1,h2,h3,h4,fun i c hc=>let ⟨x,a,b⟩:=h5 i c hc; ⟨x,a,b.mono hle⟩⟩
 | ro vs=>
  obtain ⟨arr,e,fz,h1,h3,h5⟩:=ho
  exact ⟨arr,e,fz,h1,h3,fun i c hc=>let ⟨x,a,b⟩:=h5 i c hc; ⟨x,a,b.mono hle⟩⟩
 | map es c=>obtain ⟨arr,h1,r,h2⟩:=ho; exact ⟨arr,h1,r.mono hle,h2⟩
 | mapz es=>obtain ⟨arr,c,h1,r⟩:=ho; exact ⟨arr,c,h1,r.mono hle⟩
 | seen b=>obtain ⟨arr,e,fz,h1,h2,h3,h4,q,l,c,h5,h6,h7⟩:=ho; exact ⟨arr,e,fz,h1,h2,h3,h4,q,l,c,h5,hle _ _ h6,h7⟩
 | hid=>exact ho
 | bag ks=>obtain ⟨arr,e,fz,vs,h1,h2,h3⟩:=ho; exact ⟨arr,e,fz,vs,h1,h2.mono hle,h3⟩
 | striter s q=>obtain ⟨b,h1,h2,h3⟩:=ho; exact ⟨b,h1,h2.mono hle,h3⟩
 | full u vs=>
  obtain ⟨arr,e,fz,h1,h2,h3,h4,h5⟩:=ho
  exact ⟨arr,e,fz,h1,h2,h3,h4,fun i c hc=>let ⟨x,a,b⟩:=h5 i c hc; ⟨x,a,b.mono hle⟩⟩
 | mapiter m a b c=>
  obtain ⟨m',ck,h1,h2,r⟩:=ho
  refine ⟨m',ck,h1,h2,?_⟩
  cases m with
  | none=>exact r
  | some k=>obtain ⟨q,h3,h4⟩:=r; exact ⟨q,hle _ _ h3,h4⟩
theorem xM.lt {ψ:Psi} {w:World} {p:Pl} {o:CObj} (ho:xM ψ w p o):p.blk<w.heap.size:=by
 have key:∀ {o:Obj},w.heap[p.blk]? = some o→p.blk<w.heap.size:=by
  intro o h
  rcases Nat.lt_or_ge p.blk w.heap.size with h' | h'
  · exact h'
  · rw [Array.getElem?_eq_none h'] at h; cases h
 cases o with
 | cells vs=>obtain ⟨arr,e,fz,h1,_⟩:=ho; exact key h1
 | ro vs=>obtain ⟨arr,e,fz,h1,_⟩:=ho; exact key h1
 | map es c=>obtain ⟨arr,h1,_⟩:=ho; exact key h1
 | striter s q=>obtain ⟨b,h1,_⟩:=ho; exact key h1
 | full u vs=>obtain ⟨arr,e,fz,h1,_⟩:=ho; exact key h1
 | mapz es=>obtain ⟨arr,c,h1,_⟩:=ho; exact key h1
 | seen b=>obtain ⟨arr,e,fz,h1,_⟩:=ho; exact key h1
 | hid=>obtain ⟨arr,e,fz,h1,_⟩:=ho; exact key h1
 | bag ks=>obtain ⟨arr,e,fz,vs,h1,_⟩:=ho; exact key h1
 | mapiter m a b c=>obtain ⟨m',ck,h1,_⟩:=ho; exact key h1
def Fam.upd (g:Fam) (k:Key) (o:Option CObj):Fam:=fun j=>if j=k then o else g j
theorem z6 (o:Option CObj) (k:Key) (h:zC):zC.fam (yu o k h)=Fam.upd (zC.fam h) k o:=by
 funext j; exact zC3 o k j h
theorem Fam.upd_same (g:Fam) (k:Key) (o:Option CObj):g.upd k o k=o:=by simp [Fam.upd]
theorem Fam.upd_other (g:Fam) {k j:Key} (o:Option CObj) (h:j≠k):g.upd k o j=g j:=by simp [Fam.upd,h]
theorem Rel.sub {ψ:Psi} {g g':Fam} {w:World} (h:Rel ψ g w) (hs:∀ k o,g' k=some o→g k=some o):Rel ψ g' w:=
 ⟨fun k o p a b=>h.on k o p (hs k o a) b,fun k o a=>h.tot k o (hs k o a),fun k₁ k₂ o₁ o₂ p₁ p₂ a b=>h.inj k₁ k₂ o₁ o₂ p₁ p₂ (hs _ _ a) (hs _ _ b)⟩
end Go.Ev
namespace Go
def World.upB (w:World) (B:Nat) (o:Obj):World:={ w with heap:=w.heap.setIfInBounds B o }
end Go
namespace Go.Ev
variable [Sym]
theorem xZ {w:World} {B:Nat} (o:Obj) (h:B<w.heap.size):(w.upB B o).heap[B]? = some o:=by
 simp [World.upB,h]
theorem vl {w:World} {B C:Nat} (o:Obj) (h:C≠B):(w.upB B o).heap[C]? = w.heap[C]?:=by
 simp only [World.upB,Array.getElem?_setIfInBounds]
 rw [if_neg (fun e=>h e.symm)]
theorem zFt (w:World) (B:Nat) (o:Obj):(w.upB B o).heap.size=w.heap.size:=by simp [World.upB]
theorem qo {ψ:Psi} {g:Fam} {n k:Key} {w:World} {p:Pl} {o o':CObj} {ob:Obj} (h:Rel ψ g w) (hk:g k=some o) (hro:o.isRo=false)
 (hp:ψ k=some p) (ho':xM ψ (w.upB p.blk ob) p o'):yH ψ g n w ψ (g.upd k (some o')) n (w.upB p.blk ob):=by
 have hlt:=(h.on k o p hk hp).lt
 refine ⟨Psi.le_refl _,fun _ _=>rfl,⟨?_,?_,?_⟩,?_,?_,by rw [zFt]; exact Nat.le_refl _,rfl,rfl,rfl,Nat.le_refl _,?_⟩
 · intro j q pj hq hpj
   by_cases hj:j=k
   · subst hj
     rw [Fam.upd_same] at hq
     rw [hp] at hpj
     injection hq with hq; injection hpj with hpj
     subst hq; subst hpj; exact ho'
   · rw [Fam.upd_other _ _ hj] at hq
     refine xM.congr (vl _ fun e=>hj ?_) (h.on j q pj hq hpj)
     exact h.inj j k q o pj p hq hk hpj hp (.inr hro) e
 · intro j q hq
   by_cases hj:j=k
   · subst hj; exact ⟨p,hp⟩
   · rw [Fam.upd_other _ _ hj] at hq; exact h.tot j q hq
 · intro k₁ k₂ o₁ o₂ p₁ p₂ h1 h2 h3 h4 hr e
   have e1:∃ q,g k₁=some q∧(o₁.isRo=false→q.isRo=false):=by
    by_cases hj:k₁=k
    · subst hj; exact ⟨o,hk,fun _=>hro⟩
    · rw [Fam.upd_other _ _ hj] at h1; exact ⟨_,h1,fun h=>h⟩
   have e2:∃ q,g k₂=some q∧(o₂.isRo=false→q.isRo=false):=by
    by_cases hj:k₂=k
    · subst hj; exact ⟨o,hk,fun _=>hro⟩
    · rw [Fam.upd_other _ _ hj] at h2; exact ⟨_,h2,fun h=>h⟩
   obtain ⟨q1,e1,r1⟩:=e1; obtain ⟨q2,e2,r2⟩:=e2
   exact h.inj k₁ k₂ q1 q2 p₁ p₂ e1 e2 h3 h4 (hr.imp r1 r2) e
 · intro B _ hfree
   exact vl _ fun e=>hfree k o p hk hro hp e.symm
 · intro j q pj hq hroj hpj
   by_cases hj:j=k
   · subst hj
     rw [hp] at hpj; injection hpj with hpj; subst hpj
     exact .inl ⟨j,o,p,hk,hro,hp,rfl⟩
   · rw [Fam.upd_other _ _ hj] at hq
     exact .inl ⟨j,q,pj,hq,hroj,hpj,rfl⟩
 · intro j q pj hq hpj
   by_cases hj:j=k
   · subst hj
     rw [hp] at hpj; injection hpj with hpj; subst hpj
     exact .inl ⟨j,o,p,hk,hp,rfl⟩
   · rw [Fam.upd_other _ _ hj] at hq
     exact .inl ⟨j,q,pj,hq,hpj,rfl⟩
structure New (w w':World):Prop where
 size:w'.heap.size=w.heap.size+1
 old:∀ B,B<w.heap.size→w'.heap[B]? = w.heap[B]?
 tape:w'.tape=w.tape
 os:w'.os=w.os
 output:w'.output=w.output
def Psi.upd (ψ:Psi) (k:Key) (p:Pl):Psi:=fun j=>if j=k then some p else ψ j
theorem Psi.upd_same (ψ:Psi) (k:Key) (p:Pl):ψ.upd k p k=some p:=by simp [Psi.upd]
theorem Psi.upd_other (ψ:Psi) {k j:Key} (p:Pl) (h:j≠k):ψ.upd k p j=ψ j:=by simp [Psi.upd,h]
theorem Psi.le_upd {ψ:Psi} {k:Key} (p:Pl) (h:ψ k=none):ψ.le (ψ.upd k p):=by
 intro j q hj
 by_cases e:j=k
 · subst e; rw [h] at hj; cases hj
 · rw [Psi.upd_other _ _ e]; exact hj
theorem wc {ψ:Psi} {g:Fam} {n:Key} {w w':World} {sz:Nat} {ck:Nat→Nat} {o:CObj} (h:Rel ψ g w) (hn:n.room) (hnone:ψ n=none) (hw:New w w')
 (ho:xM (ψ.upd n ⟨w.heap.size,0,sz,ck⟩) w' ⟨w.heap.size,0,sz,ck⟩ o) :
 yH ψ g n w (ψ.upd n ⟨w.heap.size,0,sz,ck⟩) (g.upd n (some o)) n.succ w':=by
 have hix:=Key.ix_succ hn
 have hle:=Psi.le_upd (ψ:=ψ) (k:=n) ⟨w.heap.size,0,sz,ck⟩ hnone
 have hgn:∀ j q,g j=some q→j≠n:=by
  intro j q hj e
  subst e
  obtain ⟨p,hp⟩:=h.tot j q hj
  rw [hnone] at hp; cases hp
 refine ⟨hle,fun k hk=>?_,⟨?_,?_,?_⟩,fun B hB _=>hw.old B hB,?_,by rw [hw.size]; omega,hw.tape,hw.os,hw.output,by omega,?_⟩
 · exact Psi.upd_other _ _ (fun e=>by subst e; omega)
 · intro j q pj hq hpj
   by_cases hj:j=n
   · subst hj
     rw [Fam.upd_same] at hq; rw [Psi.upd_same] at hpj
     injection hq with hq; injection hpj with hpj
     subst hq; subst hpj; exact ho
   · rw [Fam.upd_other _ _ hj] at hq; rw [Psi.upd_other _ _ hj] at hpj
     have:=h.on j q pj hq hpj
     exact xM.congr (hw.old _ this.lt) (this.mono hle)
 · intro j q hq
   by_cases hj:j=n
   · subst hj; exact ⟨_,Psi.upd_same _ _ _⟩
   · rw [Fam.upd_other _ _ hj] at hq
     obtain ⟨p,hp⟩:=h.tot j q hq
     exact ⟨p,hle _ _ hp⟩
 · intro k₁ k₂ o₁ o₂ p₁ p₂ h1 h2 h3 h4 hr e
   by_cases j1:k₁=n <;> by_cases j2:k₂=n
   · rw [j1,j2]
   · exfalso
     subst j1
     rw [Psi.upd_same] at h3; injection h3 with h3; subst h3
     rw [Fam.upd_other _ _ j2] at h2; rw [Psi.upd_other _ _ j2] at h4
     have:=(h.on _ _ _ h2 h4).lt
     simp only at e; omega
   · exfalso
     subst j2
     rw [Psi.upd_same] at h4; injection h4 with h4; subst h4
     rw [Fam.upd_other _ _ j1] at h1; rw [Psi.upd_other _ _ j1] at h3
     have:=(h.on _ _ _ h1 h3).lt
     simp only at e; omega
   · rw [Fam.upd_other _ _ j1] at h1; rw [Psi.upd_other _ _ j1] at h3
     rw [Fam.upd_other _ _ j2] at h2; rw [Psi.upd_other _ _ j2] at h4
     exact h.inj _ _ _ _ _ _ h1 h2 h3 h4 hr e
 · intro j q pj hq hro hpj
   by_cases hj:j=n
   · subst hj
     rw [Psi.upd_same] at hpj; injection hpj with hpj; subst hpj
     exact .inr (Nat.le_refl _)
   · rw [Fam.upd_other _ _ hj] at hq; rw [Psi.upd_other _ _ hj] at hpj
     exact .inl ⟨j,q,pj,hq,hro,hpj,rfl⟩
 · intro j q pj hq hpj
   by_cases hj:j=n
   · subst hj
     rw [Psi.upd_same] at hpj; injection hpj with hpj; subst hpj
     exact .inr (Nat.le_refl _)
   · rw [Fam.upd_other _ _ hj] at hq; rw [Psi.upd_other _ _ hj] at hpj
     exact .inl ⟨j,q,pj,hq,hpj,rfl⟩
theorem zSd {ψ:Psi} {g:Fam} {n:Key} {w:World} (h:Rel ψ g w) (b:Key):yH ψ g n w ψ (g.upd b none) n w:=by
 have hs:∀ k o,g.upd b none k=some o→g k=some o:=by
  intro k o hk
  by_cases e:k=b
  · subst e; rw [Fam.upd_same] at hk; cases hk
  · rwa [Fam.upd_other _ _ e] at hk
 exact ⟨Psi.le_refl _,fun _ _=>rfl,h.sub hs,fun _ _ _=>rfl,fun k o p h1 h2 h3=>.inl ⟨k,o,p,hs k o h1,h2,h3,rfl⟩,Nat.le_refl _,rfl,rfl,rfl,Nat.le_refl _,fun k o p h1 h3=>.inl ⟨k,o,p,hs k o h1,h3,rfl⟩⟩
theorem zHF {ψ:Psi} {g:Fam} {n b:Key} {w:World} {p p':Pl} {o o':CObj} {ob:Obj} (h:Rel ψ g w) (hn:n.room) (hnone:ψ n=none) (hb:g b=some o)
 (hro:o.isRo=false) (hp:ψ b=some p) (hpp:p'.blk=p.blk) (ho':xM (ψ.upd n p') (w.upB p.blk ob) p' o') :
 yH ψ g n w (ψ.upd n p') ((g.upd b none).upd n (some o')) n.succ (w.upB p.blk ob):=by
 have hix:=Key.ix_succ hn
 have hle:=Psi.le_upd (ψ:=ψ) (k:=n) p' hnone
 have hlt:=(h.on b o p hb hp).lt
 have hgn:∀ j q,g j=some q→j≠n:=by
  intro j q hj e
  subst e
  obtain ⟨p,hp⟩:=h.tot j q hj
  rw [hnone] at hp; cases hp
 have hold:∀ j q,j≠n→((g.upd b none).upd n (some o')) j=some q→j≠b∧g j=some q:=by
  intro j q hj hq
  rw [Fam.upd_other _ _ hj] at hq
  by_cases e:j=b
  · subst e; rw [Fam.upd_same] at hq; cases hq
  · rw [Fam.upd_other _ _ e] at hq; exact ⟨e,hq⟩
 refine ⟨hle,fun k hk=>?_,⟨?_,?_,?_⟩,?_,?_,by rw [zFt]; exact Nat.le_refl _,rfl,rfl,rfl,by omega,?_⟩
 · exact Psi.upd_other _ _ (fun e=>by subst e; omega)
 · intro j q pj hq hpj
   by_cases hj:j=n
   · subst hj
     rw [Fam.upd_same] at hq; rw [Psi.upd_same] at hpj
     injection hq with hq; injection hpj with hpj
     subst hq; subst hpj; exact ho'
   · obtain ⟨hjb,hq⟩:=hold j q hj hq
     rw [Psi.upd_other _ _ hj] at hpj
     refine xM.congr (vl _ fun e=>hjb (h.inj j b q o pj p hq hb hpj hp (.inr hro) e)) ((h.on j q pj hq hpj).mono hle)
 · intro j q hq
   by_cases hj:j=n
   · subst hj; exact ⟨_,Psi.upd_same _ _ _⟩
   · obtain ⟨_,hq⟩:=hold j q hj hq
     obtain ⟨p,hp⟩:=h.tot j q hq
     exact ⟨p,hle _ _ hp⟩
 · intro k₁ k₂ o₁ o₂ p₁ p₂ h1 h2 h3 h4 hr e
   by_cases j1:k₁=n <;> by_cases j2:k₂=n
   · rw [j1,j2]
   · exfalso
     subst j1
     rw [Psi.upd_same] at h3; injection h3 with h3; subst h3
     obtain ⟨hjb,h2⟩:=hold _ _ j2 h2
     rw [Psi.upd_other _ _ j2] at h4
     exact hjb (h.inj _ b _ o _ p h2 hb h4 hp (.inr hro) (e.symm.trans hpp))
   · exfalso
     subst j2
     rw [Psi.upd_same] at h4; injection h4 with h4; subst h4
     obtain ⟨hjb,h1⟩:=hold _ _ j1 h1
     rw [Psi.upd_other _ _ j1] at h3
     exact hjb (h.inj _ b _ o _ p h1 hb h3 hp (.inr hro) (e.trans hpp))
   · obtain ⟨_,h1⟩:=hold _ _ j1 h1
     obtain ⟨_,h2⟩:=hold _ _ j2 h2
     rw [Psi.upd_other _ _ j1] at h3; rw [Psi.upd_other _ _ j2] at h4
     exact h.inj _ _ _ _ _ _ h1 h2 h3 h4 hr e
 · intro B _ hfree
   exact vl _ fun e=>hfree b o p hb hro hp e.symm
 · intro j q pj hq hroj hpj
   by_cases hj:j=n
   · subst hj
     rw [Psi.upd_same] at hpj; injection hpj with hpj; subst hpj
     exact .inl ⟨b,o,p,hb,hro,hp,hpp.symm⟩
   · obtain ⟨_,hq⟩:=hold j q hj hq
     rw [Psi.upd_other _ _ hj] at hpj
     exact .inl ⟨j,q,pj,hq,hroj,hpj,rfl⟩
 · intro j q pj hq hpj
   by_cases hj:j=n
   · subst hj
     rw [Psi.upd_same] at hpj; injection hpj with hpj; subst hpj
     exact .inl ⟨b,o,p,hb,hp,hpp.symm⟩
   · obtain ⟨_,hq⟩:=hold j q hj hq
     rw [Psi.upd_other _ _ hj] at hpj
     exact .inl ⟨j,q,pj,hq,hpj,rfl⟩
theorem xN (b o n:Nat):(⟨b,o,none⟩:Addr).add n=⟨b,o+n,none⟩:=by unfold Addr.add; split <;> simp_all
section
variable {ψ:Psi} {w:World} {P:Program}
theorem zAq.cell {p:Pl} {vs:List CV} (h:zAq ψ w p vs) {i:Nat} {c:CV} (hc:vs[i]? = some c) :
 ∃ x,w.cell? ⟨p.blk,p.off+i,none⟩=some x∧zH ψ c x:=by
 obtain ⟨arr,e,fz,h1,h3,h5⟩:=h
 obtain ⟨x,hx,hr⟩:=h5 i c hc
 exact ⟨x,by simp [World.cell?,h1,hx],hr⟩
theorem zAJ {p:Pl} {vs:List CV} (h:zAq ψ w p vs) {i:Nat} {c:CV} (hc:vs[i]? = some c) :
 ∃ x,(load ⟨p.blk,p.off+i,none⟩).run P w=.ok x w∧zH ψ c x:=by
 obtain ⟨x,hx,hr⟩:=h.cell hc
 exact ⟨x,by rw [run_load,hx],hr⟩
theorem xk {p:Pl} {vs l:List CV} (h:zAq ψ w p vs) {off s:Nat} (hl:zAa vs off s=some l) :
 ∃ xs:List Value,(loadCells ⟨p.blk,p.off+off,none⟩ s).run P w=.ok xs.toArray w∧zS ψ l xs:=by
 obtain ⟨hlen,hget⟩:=qJ hl
 have key:∀ j,j<s→∃ x,w.cell? ((⟨p.blk,p.off+off,none⟩:Addr).add j)=some x∧∀ c,l[j]? = some c→zH ψ c x:=by
  intro j hj
  have hc:l[j]? = some (l[j]'(by omega)):=List.getElem?_eq_getElem _
  have hv:=(hget j hj).symm.trans hc
  obtain ⟨x,hx,hr⟩:=h.cell hv
  rw [xN]
  refine ⟨x,by rw [Nat.add_assoc]; exact hx,fun c hc'=>?_⟩
  rw [hc] at hc'; injection hc' with hc'; subst hc'; exact hr
 have cells:∀ m,m≤s→∃ xs:List Value,xs.length=m∧∀ j,j<m→∃ x,xs[j]? = some x∧w.cell? ((⟨p.blk,p.off+off,none⟩:Addr).add j)=some x ∧
  ∀ c,l[j]? = some c→zH ψ c x:=by
  intro m
  induction m with
  | zero=>exact fun _=>⟨[],rfl,fun j hj=>by omega⟩
  | succ m ih=>
   intro hm
   obtain ⟨xs,hxl,hxs⟩:=ih (by omega)
   obtain ⟨x,hx,hr⟩:=key m (by omega)
   refine ⟨xs++[x],by simp [hxl],fun j hj=>?_⟩
   by_cases e:j=m
   · subst e; exact ⟨x,by rw [List.getElem?_append_right (by omega)]; simp [hxl],hx,hr⟩
   · obtain ⟨y,hy,r⟩:=hxs j (by omega)
     exact ⟨y,by rw [List.getElem?_append_left (by omega)]; exact hy,r⟩
 obtain ⟨xs,hxl,hxs⟩:=cells s (Nat.le_refl _)
 refine ⟨xs,?_,qN.2 ⟨by omega,fun i c v hc hv=>?_⟩⟩
 · have:=run_loadCells_list (P:=P) w ⟨p.blk,p.off+off,none⟩ xs (fun j v hv=>by
    have hj:j<s:=by
     rcases Nat.lt_or_ge j xs.length with h | h
     · omega
     · rw [List.getElem?_eq_none h] at hv; cases hv
    obtain ⟨x,hx,hc,_⟩:=hxs j hj
    rw [hx] at hv; injection hv with hv; subst hv; exact hc)
   rwa [hxl] at this
 · have hj:i<s:=by
    rcases Nat.lt_or_ge i l.length with h | h
    · omega
    · rw [List.getElem?_eq_none h] at hc; cases hc
   obtain ⟨x,hx,_,hr⟩:=hxs i hj
   rw [hx] at hv; injection hv with hv; subst hv
   exact hr c hc
theorem wj (B o:Nat) (t:TypeId) (fz:Nat × Nat):∀ (vs:List Value) (i:Nat) (cur:Array Value) (w:World),w.heap[B]? = some (.cells cur t fz) →
 (fz.1=fz.2∨cur.size≤fz.1)→o+i+vs.length≤cur.size→(∀ v∈vs,v.oneCell'=true) →
 (storeCells ⟨B,o,none⟩ vs i).run P w=.ok () (w.upB B (.cells (cur.toList.take (o+i)++vs++cur.toList.drop (o+i+vs.length)).toArray t fz))
 | [],i,cur,w,hg,_,_,_=>by
  simp only [storeCells,List.append_nil,List.length_nil,Nat.add_zero,List.take_append_drop,Array.toArray_toList,Sem.run_pure]
  congr 1
  unfold World.upB
  have hB:B<w.heap.size:=by
   rcases Nat.lt_or_ge B w.heap.size with h | h
   · exact h
   · rw [Array.getElem?_eq_none h] at hg; cases hg
  have:w.heap.setIfInBounds B (.cells cur t fz)=w.heap:=by
   apply Array.ext_getElem?
   intro j
   rw [Array.getElem?_setIfInBounds]
   split
   · rename_i e; subst e; simp [hB] at hg ⊢; exact hg.symm
   · rfl
  rw [this]
 | v::rest,i,cur,w,hg,hfz,hl,h1=>by
  have hi:o+i<cur.size:=by simp at hl; omega
  have hB:B<w.heap.size:=by
   rcases Nat.lt_or_ge B w.heap.size with h | h
   · exact h
   · rw [Array.getElem?_eq_none h] at hg; cases hg
  have hcell:w.cell? ⟨B,o+i,none⟩=some cur[o+i]:=by simp [World.cell?,hg,hi]
  have hfro:w.frozen? ⟨B,o+i,none⟩=false:=by
   simp only [World.frozen?,hg]
   rcases hfz with h | h
   · simp; omega
   · simp; omega
  have hset:w.setCell ⟨B,o+i,none⟩ v=w.upB B (.cells (cur.setIfInBounds (o+i) v) t fz):=by
   unfold World.setCell World.upB
   congr 1
   apply Array.ext_getElem?
   intro j
   rw [Array.getElem?_modify,Array.getElem?_setIfInBounds]
   split
   · rename_i e; subst e; rw [hg]; simp
   · rfl
  have hst:(store ((⟨B,o,none⟩:Addr).add i) v).run P w=.ok () (w.upB B (.cells (cur.setIfInBounds (o+i) v) t fz)):=by
   rw [xN,run_store P w _ v _ (h1 v (by simp)),hcell]
   simp [hfro,hset]
  have ih:=wj B o t fz rest (i+1) (cur.setIfInBounds (o+i) v) (w.upB B (.cells (cur.setIfInBounds (o+i) v) t fz)) (xZ _ hB)
   (by simpa using hfz) (by simp at hl ⊢; omega) (fun x hx=>h1 x (by simp [hx]))
  simp only [storeCells,Sem.run_bind,hst,Result.andThen_ok,ih]
  have e:=list_seg_step cur.toList (o+i) v rest (by simp at hl ⊢; omega)
  have e':(List.take (o+(i+1)) (cur.setIfInBounds (o+i) v).toList++rest++List.drop (o+(i+1)+rest.length) (cur.setIfInBounds (o+i) v).toList) =
   (List.take (o+i) cur.toList++v::rest++List.drop (o+i+(v::rest).length) cur.toList):=by
   simpa [Array.toList_setIfInBounds,Nat.add_assoc] using e
  rw [e']
  congr 1
  unfold World.upB
  congr 1
  simp [Array.setIfInBounds_setIfInBounds]
theorem zF0 {c:CV} {v:Value} (h:zH ψ c v) (hc:c.single=true):v.oneCell'=true:=by
 cases c <;> simp only [CV.single,Bool.false_eq_true] at hc
 case bool=>rw [zJ] at h; subst h; rfl
 case nat=>rw [zX] at h; subst h; rfl
 case int=>rw [zg] at h; subst h; rfl
 case anyi=>rw [yk] at h; obtain ⟨n,rfl⟩:=h; rfl
 case str=>rw [ze] at h; obtain ⟨b,rfl,_⟩:=h; rfl
 case big=>rw [k9] at h; obtain ⟨n,rfl,_⟩:=h; rfl
 case nilptr=>rw [xW] at h; subst h; rfl
 case ptr=>rw [zu] at h; obtain ⟨p,_,rfl⟩:=h; rfl
 case nilsl=>rw [zw] at h; subst h; rfl
 case sl=>rw [yF] at h; obtain ⟨p,x,c,_,rfl,_⟩:=h; rfl
 case nilmap=>rw [yS] at h; subst h; rfl
 case map=>rw [yq] at h; obtain ⟨p,_,rfl⟩:=h; rfl
 case func=>rw [xH] at h; obtain ⟨a,b,rfl,_⟩:=h; rfl
 case nilfunc=>rw [xK] at h; subst h; rfl
 case iface=>rw [yf] at h; obtain ⟨y,rfl,_⟩:=h; rfl
 case niliface=>rw [yj] at h; subst h; rfl
 case sst=>rw [zy] at h; obtain ⟨b,rfl,_⟩:=h; rfl
 case few=>rw [jp] at h; obtain ⟨_,b,_,rfl,_⟩:=h; rfl
 case elt=>rw [zAB] at h; obtain ⟨_,_,_,_,_,rfl⟩:=h; rfl
 case win=>rw [qA] at h; obtain ⟨_,base,l,c,i,rfl,_⟩:=h; rfl
 case sym i=>
  rw [zq] at h; subst h
  rcases Sym.one i with ⟨k,n,e⟩ | ⟨s,e⟩ <;> rw [e] <;> rfl
theorem vZ (l:List CV):xQ l=true ↔ ∀ c∈l,c.single=true:=by
 induction l with
 | nil=>simp [xQ]
 | cons c l ih=>
  have:xQ (c::l)=(match c.single with | false=>false | true=>xQ l):=by
   cases h:c.single <;> simp [xQ,h]
  rw [this]
  cases h:c.single <;> simp [h,ih]
theorem zD4 {cs:List CV} {l:List Value} (h:zS ψ cs l) (hs:xQ cs=true):∀ v∈l,v.oneCell'=true:=by
 induction cs generalizing l with
 | nil=>rw [zM] at h; subst h; simp
 | cons c cs ih=>
  rw [zd] at h
  obtain ⟨v,r,rfl,h1,h2⟩:=h
  have hall:=(vZ _).1 hs
  intro x hx
  rcases List.mem_cons.1 hx with rfl | hx
  · exact zF0 h1 (hall c (by simp))
  · exact ih h2 ((vZ _).2 fun d hd=>hall d (by simp [hd])) x hx
theorem ka {g:Fam} {k:Key} {p:Pl} {vs cs l:List CV} {xs:List Value} {off s:Nat} (n:Key) (hrel:Rel ψ g w) (hk:g k=some (.cells vs)) (hp:ψ k=some p)
 (hl:jY cs s vs off=some l) (hx:zS ψ cs xs) (hs:xQ cs=true) :
 ∃ w',(storeCells ⟨p.blk,p.off+off,none⟩ xs).run P w=.ok () w'∧yH ψ g n w ψ (g.upd k (some (.cells l))) n w':=by
 obtain ⟨arr,t,fz,h1,h2,h3,h4,h5⟩:=hrel.on k _ p hk hp
 obtain ⟨hcs,hle,hll,hin,hout⟩:=ua hl
 have hxl:=hx.length
 have hlt:p.blk<w.heap.size:=xM.lt (o:=.cells vs) ⟨arr,t,fz,h1,h2,h3,h4,h5⟩
 refine ⟨_,wj p.blk (p.off+off) t fz xs 0 arr w h1 (by rw [h2]; exact h4) (by omega) (zD4 hx hs),?_⟩
 refine qo hrel hk rfl hp ⟨_,t,fz,xZ _ hlt,by simp; omega,by omega,h4,fun i c hc=>?_⟩
 simp only [Nat.add_zero,List.getElem?_toArray]
 have htake:(arr.toList.take (p.off+off)).length=p.off+off:=by simp; omega
 by_cases hi:off≤i∧i<off+s
 · have:=hin (i - off) (by omega)
   rw [show off+(i - off)=i from by omega,hc] at this
   obtain ⟨x,hx1,hx2⟩:=hx.get this.symm
   refine ⟨x,?_,hx2⟩
   rw [List.append_assoc,List.getElem?_append_right (by omega),htake,List.getElem?_append_left (by omega)]
   rw [show p.off+i - (p.off+off)=i - off from by omega]; exact hx1
 · have:=hout i (by omega)
   rw [hc] at this
   obtain ⟨x,hx1,hx2⟩:=h5 i c this.symm
   refine ⟨x,?_,hx2⟩
   by_cases hlo:i<off
   · rw [List.append_assoc,List.getElem?_append_left (by omega),List.getElem?_take_of_lt (by omega)]
     simpa using hx1
   · rw [List.getElem?_append_right (by simp; omega),List.getElem?_drop]
     have:p.off+off+xs.length+(p.off+i - (List.take (p.off+off) arr.toList++xs).length)=p.off+i:=by simp; omega
     rw [this]; simpa using hx1
end
end Go.Ev
namespace Go.Ev
variable [Sym]
theorem jv (l:List CV):wz l=l.length:=by
 induction l with
 | nil=>rfl
 | cons x l ih=>exact congrArg Nat.succ ih
theorem wH:∀ {l:List CV} {r:List Nat},jt l=some r→l=r.map (fun b=>CV.int .u8 (.ofNat b))∧∀ b∈r,b≤255
 | [],r,hr=>by injection hr with hr; subst hr; exact ⟨rfl,by simp⟩
 | c::l,r,hr=>by
  have hr':Option.rec (motive:=fun _=>Option (List Nat)→Option (List Nat)) (fun _=>none) (fun b r=>zNB b r) (vJ c) (jt l)=some r:=hr
  cases h1:vJ c with
  | none=>rw [h1] at hr'; cases hr'
  | some b=>cases h2:jt l with
   | none=>rw [h1,h2] at hr'; cases hr'
   | some q=>
    rw [h1,h2] at hr'
    injection hr' with hr'; subst hr'
    obtain ⟨rfl,h3⟩:=wH h2
    unfold vJ at h1
    split at h1
    · split at h1
      · rename_i hle
        injection h1 with h1; subst h1
        exact ⟨rfl,by simp; exact ⟨zL hle,h3⟩⟩
      · cases h1
    · cases h1
theorem zF8 {ψ:Psi}:∀ {r:List Nat} {m:List UInt8},zS ψ (r.map fun b=>CV.int .u8 (.ofNat b)) (m.map fun x=>Value.int .u8 (Int.ofNat x.toNat))→m.map (fun x=>x.toNat)=r
 | [],[],_=>rfl
 | [],_::_,h=>by simp [zM] at h
 | _::_,[],h=>by
  have:=zS.length h
  simp at this
 | x::r,y::m,h=>by
  rw [List.map_cons,List.map_cons] at h
  obtain ⟨h1,h2⟩:=zW.1 h
  have h1:=zg.1 h1
  injection h1 with _ h1
  have h1:y.toNat=x:=by injection h1
  rw [List.map_cons,zF8 h2,h1]
theorem zNh {ψ:Psi} {l:List CV} {b:ByteArray} (h:zS ψ l (b.data.toList.map fun x=>Value.int .u8 (Int.ofNat x.toNat))):zH ψ (zOZ l) (.string b):=by
 unfold zOZ
 split
 · rename_i r hr
   obtain ⟨rfl,_⟩:=wH hr
   exact ze.2 ⟨b,rfl,zF8 h⟩
 · exact zy.2 ⟨b,rfl,h⟩
theorem zEB {ψ:Psi} {l:List CV} {b:ByteArray} (h:zS ψ l (b.data.toList.map fun x=>Value.int .u8 (Int.ofNat x.toNat))):l.length=b.size:=by
 have:=zS.length h
 rw [List.length_map] at this
 rw [← this]; rfl
section
variable {C:OR→Prop}
theorem xE (v:CV) (k:Key→Nat→OR) (e:Nat) (he:C (.err e)) (hk:∀ b o,v=.ptr b o→C (k b o)):C (zDR v k e):=by
 cases v <;> first | exact hk _ _ rfl | exact he
theorem uY (v:CV) (k:IntKind→Int→OR) (e:Nat) (he:C (.err e)) (h0:∀ n,v=.nat n→C (k .i64 (.ofNat n))) (hk:∀ j n,v=.int j n→C (k j n)) :
 C (zSt v k e):=by
 cases v <;> first | exact h0 _ rfl | exact hk _ _ rfl | exact he
theorem zPx (v:CV) (k:Nat→OR) (j:IntKind→Int→OR) (e:Nat) (he:C (.err e)) (h0:∀ n,v=.nat n→C (k n)) (hk:∀ i n,v=.int i n→C (j i n)) :
 C (zVW v k j e):=by
 cases v <;> first | exact h0 _ rfl | exact hk _ _ rfl | exact he
theorem zMc (v:CV) (k:Nat→OR) (e:Nat) (he:C (.err e)) (h0:∀ n,v=.nat n→C (k n)) (hk:∀ i n,v=.int i (.ofNat n)→C (k n)):C (vp v k e):=by
 refine zPx v k _ e he h0 fun i n hv=>?_
 cases n with
 | ofNat m=>exact hk i m hv
 | negSucc m=>exact he
theorem yO (v:CV) (k:List Nat→OR) (e:Nat) (he:C (.err e)) (hk:∀ s,v=.str s→C (k s)):C (ux v k e):=by
 cases v <;> first | exact hk _ rfl | exact he
theorem vR (v:CV) (k:Bool→OR) (e:Nat) (he:C (.err e)) (hk:∀ b,v=.bool b→C (k b)):C (zLD v k e):=by
 cases v <;> first | exact hk _ rfl | exact he
theorem yV (v:CV) (z:OR) (k:Key→Nat→Nat→Nat→Nat→Bool→OR) (e:Nat) (he:C (.err e)) (hz:v=.nilsl→C z)
 (hk:∀ b o l c s x,v=.sl b o l c s x→C (k b o l c s x)):C (u7 v z k e):=by
 cases v <;> first | exact hz rfl | exact hk _ _ _ _ _ _ rfl | exact he
theorem qf (v:CV) (k:Key→Nat→SE→SE→OR) (z:OR) (hz:C z) (hk:∀ b s e n,v=.win b s e n→C (k b s e n)):C (zLk v k z):=by
 cases v <;> first | exact hk _ _ _ _ rfl | exact hz
theorem xv (v:CV) (k:List CV→OR) (z:OR) (hz:C z) (hk:∀ l,v=.sst l→C (k l)):C (zG4 v k z):=by
 cases v <;> first | exact hk _ rfl | exact hz
theorem xC (v:CV) (z:OR) (k:Key→OR) (e:Nat) (he:C (.err e)) (hz:v=.nilmap→C z) (hk:∀ b,v=.map b→C (k b)):C (zDJ v z k e):=by
 cases v <;> first | exact hz rfl | exact hk _ rfl | exact he
theorem uj (v:CV) (k:List CV→OR) (e:Nat) (he:C (.err e)) (hk:∀ cs,v=.agg cs→C (k cs)):C (zSl v k e):=by
 cases v <;> first | exact hk _ rfl | exact he
theorem zF9 (v:CV) (k:List CV→OR) (e:Nat) (he:C (.err e)) (hk:∀ cs,v=.tup cs→C (k cs)):C (zUn v k e):=by
 cases v <;> first | exact hk _ rfl | exact he
theorem w4 (v:CV) (k:Fn→List CV→List CV→OR) (e:Nat) (he:C (.err e)) (hk:∀ f a c,v=.func f a c→C (k f a c)):C (zMe v k e):=by
 cases v <;> first | exact hk _ _ _ rfl | exact he
theorem xo (v:CV) (k:TypeId→CV→OR) (z:OR) (e:Nat) (he:C (.err e)) (hz:v=.niliface→C z) (hk:∀ t x,v=.iface t x→C (k t x)):C (zCl v k z e):=by
 cases v <;> first | exact hz rfl | exact hk _ _ rfl | exact he
theorem zH0 (v:CV) (k:IntKind→Int→OR) (u:IntKind→OR) (s:List Nat→OR) (e:Nat) (he:C (.err e)) (h0:∀ n,v=.nat n→C (k .i64 (.ofNat n)))
 (hk:∀ j n,v=.int j n→C (k j n)) (hu:∀ j,v=.anyi j→C (u j)) (hs:∀ l,v=.str l→C (s l)):C (zVQ v k u s e):=by
 cases v <;> first | exact h0 _ rfl | exact hk _ _ rfl | exact hu _ rfl | exact hs _ rfl | exact he
theorem kK (v:CV) (k:IntKind→Int→OR) (u:IntKind→OR) (e:Nat) (he:C (.err e)) (h0:∀ n,v=.nat n→C (k .i64 (.ofNat n)))
 (hk:∀ j n,v=.int j n→C (k j n)) (hu:∀ j,v=.anyi j→C (u j)):C (zSz v k u e):=by
 cases v <;> first | exact h0 _ rfl | exact hk _ _ rfl | exact hu _ rfl | exact he
theorem zAL (v:CV) (k:Key→Nat→OR) (z:OR) (hz:C z) (hk:∀ b o,v=.ptr b o→C (k b o)):C (zU8 v k z):=by
 cases v <;> first | exact hk _ _ rfl | exact hz
theorem yb (o:Option CObj) (k:List CV→OR) (e:Nat) (he:C (.err e)) (hk:∀ vs,o=some (.cells vs)→C (k vs)):C (kf o k e):=by
 cases o with
 | none=>exact he
 | some o=>cases o <;> first | exact hk _ rfl | exact he
theorem xB (o:Option CObj) (k:List CV→OR) (e:Nat) (he:C (.err e)) (hk:∀ vs,(o=some (.cells vs)∨o=some (.ro vs)∨∃ u,o=some (.full u vs))→C (k vs)):C (uD o k e):=by
 cases o with
 | none=>exact he
 | some o=>cases o <;> first | exact hk _ (.inl rfl) | exact hk _ (.inr (.inl rfl)) | exact hk _ (.inr (.inr ⟨_,rfl⟩)) | exact he
theorem vO (o:Option CObj) (k:List (CV × CV)→OR) (z:OR) (hz:C z) (hk:∀ l,o=some (.mapz l)→C (k l)):C (zJp o k z):=by
 unfold zJp
 split
 · exact hk _ rfl
 · exact hz
theorem w7 (o:Option CObj) (k:Bool→List CV→OR) (z:OR) (hz:C z) (hk:∀ u vs,o=some (.full u vs)→C (k u vs)):C (zJc o k z):=by
 unfold zJc
 split
 · exact hk _ _ rfl
 · exact hz
theorem yZ (o:Option CObj) (k:List CE→Nat→OR) (e:Nat) (he:C (.err e)) (hk:∀ es c,o=some (.map es c)→C (k es c)):C (vX o k e):=by
 cases o with
 | none=>exact he
 | some o=>cases o <;> first | exact hk _ _ rfl | exact he
theorem jA (v:Option CV) (e:Nat) (he:C (.err e)) (hk:∀ x,v=some x→C (.val x)):C (zEf v e):=by
 cases v with
 | none=>exact he
 | some x=>exact hk x rfl
theorem uI (v:Option CV) (e:Nat) (he:C (.err e)) (hk:∀ x,v=some x→C (.read x)):C (zQa v e):=by
 cases v with
 | none=>exact he
 | some x=>exact hk x rfl
theorem wX (v:Option (List CV)) (e:Nat) (he:C (.err e)) (hk:∀ x,v=some x→C (.val (.agg x))):C (zVc v e):=by
 cases v with
 | none=>exact he
 | some x=>exact hk x rfl
theorem zEM (v:Option (List CV)) (e:Nat) (he:C (.err e)) (hk:∀ x,v=some x→C (.read (.agg x))):C (zUk v e):=by
 cases v with
 | none=>exact he
 | some x=>exact hk x rfl
theorem zHH (v:Option (List Nat)) (e:Nat) (he:C (.err e)) (hk:∀ x,v=some x→C (.val (.str x))):C (zVP v e):=by
 cases v with
 | none=>exact he
 | some x=>exact hk x rfl
theorem yX (v:Option (List CV)) (k:List CV→OR) (e:Nat) (he:C (.err e)) (hk:∀ x,v=some x→C (k x)):C (onL v k e):=by
 cases v with
 | none=>exact he
 | some x=>exact hk x rfl
theorem uF (v:Option Nat) (k:Nat→OR) (e:Nat) (he:C (.err e)) (hk:∀ x,v=some x→C (k x)):C (onN v k e):=by
 cases v with
 | none=>exact he
 | some x=>exact hk x rfl
theorem zG (b:Bool) (k:OR) (e:Nat) (he:C (.err e)) (hk:b=true→C k):C (yl b k e):=by
 cases b with
 | false=>exact he
 | true=>exact hk rfl
theorem zt (n:Nat) (k:Nat→OR):wl n k=k n:=by cases n <;> rfl
theorem ja (b:Bool) (t f:OR):ifB b t f=if b=true then t else f:=by cases b <;> rfl
end
section
variable {P:Program}
theorem jC {t:TypeId} {b:Bool} (h:qG P t=some b) (w:World):(isAgg t).run P w=.ok b w:=by
 unfold qG at h
 cases hd:P.underlying t with
 | none=>rw [hd] at h; cases h
 | some d=>
  rw [hd] at h
  unfold isAgg
  rw [Sem.run_bind,run_underlying hd]
  cases d <;> simp_all
theorem ye {t:TypeId} {s:Nat} (h:x6 P t=some s) (w:World):(sizeOf t).run P w=.ok s w:=by
 unfold x6 at h
 cases hi:P.info? t with
 | none=>rw [hi] at h; cases h
 | some i=>
  rw [hi] at h
  injection h with h
  simp [sizeOf,typeInfo,hi,h]
theorem jL {t:TypeId} {i:TypeInfo} (h:P.info? t=some i) (w:World):(typeInfo t).run P w=.ok i w:=by
 simp [typeInfo,h]
theorem zBE {ψ:Psi} {f:Value→Option CV} (hf:∀ v c,f v=some c→zH ψ c v):∀ (l:List Value) {cs:List CV},xD f l=some cs→zS ψ cs l
 | [],cs,h=>by injection h with h; subst h; exact zM.2 rfl
 | v::l,cs,h=>by
  unfold xD at h
  cases hv:f v with
  | none=>rw [hv] at h; cases h
  | some c=>
   rw [hv] at h
   cases hl:xD f l with
   | none=>simp [hl] at h
   | some r=>
    simp [hl] at h
    subst h
    exact zW.2 ⟨hf v c hv,zBE hf l hl⟩
theorem kD {ψ:Psi}:∀ (d:Nat) {v:Value} {c:CV},u4 d v=some c→zH ψ c v
 | 0,_,_,h=>by cases h
 | d+1,v,c,h=>by
  unfold u4 at h
  cases v with
  | bool b=>injection h with h; subst h; exact zJ.2 rfl
  | int k n=>
   injection h with h
   split at h <;> subst h
   · exact zX.2 rfl
   · exact zg.2 rfl
  | string s=>injection h with h; subst h; exact ze.2 ⟨s,rfl,rfl⟩
  | pointer a=>cases a with
   | none=>injection h with h; subst h; exact xW.2 rfl
   | some a=>cases h
  | slice a n m=>cases a with
   | none=>
    cases n with
    | zero=>cases m with
     | zero=>injection h with h; subst h; exact zw.2 rfl
     | succ m=>cases h
    | succ n=>cases h
   | some a=>cases h
  | map r=>cases r with
   | none=>injection h with h; subst h; exact yS.2 rfl
   | some r=>cases h
  | nilFunc=>injection h with h; subst h; exact xK.2 rfl
  | func fn a b=>
   simp only at h
   split at h
   · rename_i hab
     injection h with h; subst h
     exact xH.2 ⟨a,b,rfl,zM.2 (by simpa using hab.1),zM.2 (by simpa using hab.2)⟩
   · cases h
  | nilIface=>injection h with h; subst h; exact yj.2 rfl
  | iface t v=>
   simp only at h
   cases hv:u4 d v with
   | none=>rw [hv] at h; cases h
   | some c'=>
    rw [hv] at h; injection h with h; subst h
    exact yf.2 ⟨v,rfl,kD d hv⟩
  | agg cs=>
   simp only at h
   cases hv:xD (u4 d) cs.toList with
   | none=>rw [hv] at h; cases h
   | some c'=>
    rw [hv] at h; injection h with h; subst h
    exact yn.2 ⟨cs,rfl,zBE (fun _ _=>kD d) _ hv⟩
  | tuple cs=>
   simp only at h
   cases hv:xD (u4 d) cs.toList with
   | none=>rw [hv] at h; cases h
   | some c'=>
    rw [hv] at h; injection h with h; subst h
    exact yW.2 ⟨cs,rfl,zBE (fun _ _=>kD d) _ hv⟩
  | float k b=>cases h
  | complex k a b=>cases h
  | chan r=>cases h
theorem zBA {t:TypeId} {z:CV} (h:wd P t=some z):∃ v,(∀ w,(zeroValue t).run P w=.ok v w)∧∀ ψ,zH ψ z v:=by
 unfold wd at h
 cases hi:P.info? t with
 | none=>rw [hi] at h; cases h
 | some i=>
  rw [hi] at h
  simp only [Option.bind_some] at h
  cases hz:i.zero with
  | none=>rw [hz] at h; cases h
  | some v=>
   rw [hz] at h
   exact ⟨v,fun w=>by simp [zeroValue,typeInfo,hi,hz],fun ψ=>kD 20 h⟩
theorem v6 {ψ:Psi} {c:CV} {v:Value} {cs:List CV} (h:zH ψ c v) (hc:cellsOf c=some cs):zS ψ cs v.cells.toList:=by
 have one:∀ {c:CV} {v:Value},zH ψ c v→v.cells=#[v]→zS ψ [c] v.cells.toList:=by
  intro c v h e; rw [e]; exact zW.2 ⟨h,zM.2 rfl⟩
 cases c <;> simp only [cellsOf,Option.some.injEq,reduceCtorEq] at hc
 case agg=>rw [yn] at h; obtain ⟨a,rfl,h⟩:=h; subst hc; exact h
 all_goals
  subst hc
  refine one h ?_
  have:=zF0 h rfl
  cases v <;> first | rfl | cases this
theorem zM5 {t:TypeId} {z:List CV} (h:jR P t=some z):∃ v,(∀ w,(zeroValue t).run P w=.ok v w)∧∀ ψ,zS ψ z v.cells.toList:=by
 unfold jR at h
 cases hz:wd P t with
 | none=>rw [hz] at h; cases h
 | some c=>
  rw [hz] at h
  obtain ⟨v,h1,h2⟩:=zBA hz
  exact ⟨v,h1,fun ψ=>v6 (h2 ψ) h⟩
end
section
variable (P:Program) (ψ:Psi) (h:zC) (n:Key) (ρ:Operand→Value) (o:Op) (ty:TypeId)
def zFD (w:World) (B:Nat):Nat:=match w.heap[B]? with
 | some (.cells arr _ _)=>arr.size
 | _=>0
def kS (w w':World) (x:Value):Prop:=∃ nx,(execOp ρ { dst:=none,op:=o,type:=ty,pos := "",after:=#[],guard:=none }).run P w=.ok nx w'∧(nx=.value x∨(nx=.skip∧x=undef))
def zD (w:World):OR→Prop
 | .val v=>∃ x,kS P ρ o ty w w x∧zH ψ v x
 | .read v=>qk ψ (zC.fam h) w→∃ x,kS P ρ o ty w w x∧zH ψ v x
 | .alloc ob v=>∃ w' x sz,kS P ρ o ty w w' x∧New w w'∧(∀ ψ',ψ.le ψ'→ψ' n=some ⟨w.heap.size,0,sz,fun n=>n⟩→zH ψ' v x∧xM ψ' w' ⟨w.heap.size,0,sz,fun n=>n⟩ ob)∧sz=zFD w' w.heap.size
 | .eff v h' n'=>Rel ψ (zC.fam h) w→(∀ k,n.ix≤k.ix→k.ix<n'.ix→ψ k=none)→n'.room →
  ∃ w' x ψ',kS P ρ o ty w w' x∧yH ψ (zC.fam h) n w ψ' (zC.fam h') n' w'∧zH ψ' v x
 | .call f args=>qk ψ (zC.fam h) w→∃ args',(execOp ρ { dst:=none,op:=o,type:=ty,pos := "",after:=#[],guard:=none }).run P w=(callFunc f args').run P w∧zS ψ args args'.toList
 | .dfr f args=>∃ d fv cap args',(execOp ρ { dst:=none,op:=o,type:=ty,pos := "",after:=#[],guard:=none }).run P w=.ok (.defer d) w∧d.target=.fn fv cap ∧
  (∀ w,(invoke d.target d.args).run P w=(callFunc f args').run P w)∧zS ψ args args'.toList
 | .recov=>zDG o=true∧(execOp ρ { dst:=none,op:=o,type:=ty,pos := "",after:=#[],guard:=none }).run P w=.ok .recover w
 | .err _=>True
 | .fork a b=>Rel ψ (zC.fam h) w→zD w a∨zD w b
end
end Go.Ev
