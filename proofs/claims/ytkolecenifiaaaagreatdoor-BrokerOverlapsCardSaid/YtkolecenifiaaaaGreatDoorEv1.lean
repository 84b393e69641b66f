/- A verified evaluator for the model's code: EvA, EvB. -/
import GoSem.Dispatch
import GoSem.Core.Made
set_option linter.unusedSectionVars false
set_option linter.unusedVariables false
set_option linter.unusedSimpArgs false
namespace Go.Ev
inductive Dg where
 |d0 |d1 |d2 |d3 |d4 |d5 |d6 |d7 |d8 |d9 |d10 |d11 |d12 |d13 |d14 |d15
 deriving DecidableEq,Inhabited
noncomputable def Dg.succ(d:Dg):Option Dg:=Dg.rec (motive:=λ_=>Option Dg) (some .d1) (some .d2) (some .d3) (some .d4) (some .d5) (some .d6) (some .d7) (some .d8) (some .d9) (some .d10) (some .d11) (some .d12) (some .d13) (some .d14) (some .d15) none d
noncomputable def Dg.ix(d:Dg):Nat:=Dg.rec (motive:=λ_=>Nat) 0 1 2 3 4 5 6 7 8 9 10 11 12 13 14 15 d
def Dg.ofN:Nat->Dg
 | 0=>.d0| 1=>.d1| 2=>.d2| 3=>.d3| 4=>.d4| 5=>.d5| 6=>.d6| 7=>.d7| 8=>.d8| 9=>.d9| 10=>.d10| 11=>.d11| 12=>.d12| 13=>.d13| 14=>.d14|_=>.d15
inductive Key where
 |mk (a b c d:Dg)
 deriving DecidableEq,Inhabited
def Key.zero:Key:=.mk .d0 .d0 .d0 .d0
noncomputable def Key.succ(k:Key):Key:=
 Key.rec (motive:=λ_=>Key) (λa b c d=>
  Option.rec (motive:=λ_=>Key)
   (Option.rec (motive:=λ_=>Key)
     (Option.rec (motive:=λ_=>Key)
       (Option.rec (motive:=λ_=>Key) (.mk .d15 .d15 .d15 .d15) (λa=>.mk a .d0 .d0 .d0) a.succ)
       (λb=>.mk a b .d0 .d0) b.succ)
     (λc=>.mk a b c .d0) c.succ)
   (λd=>.mk a b c d) d.succ) k
noncomputable def Key.ix:Key->Nat
 |.mk a b c d=>((a.ix*16+b.ix)*16+c.ix)*16+d.ix
def Key.ofNat(n:Nat):Key:=.mk (.ofN (n / 4096 % 16)) (.ofN (n / 256 % 16)) (.ofN (n / 16 % 16)) (.ofN (n % 16))
inductive Loc where
 |s (d:Dg)
 |w (c d:Dg)
 deriving DecidableEq,Inhabited
def Loc.ofNat(n:Nat):Loc:=match Nat.ble n 15 with
 |true=>.s (.ofN n)|false=>.w (.ofN ((n - 16) / 16)) (.ofN ((n - 16) % 16))
structure SE where
 k:IntKind
 c:Int
 l:List (Nat × Int)
inductive CV where
 |bool (b:Bool)
 |nat (n:Nat)
 |int (k:IntKind) (n:Int)
 |anyi (k:IntKind)
 |str (s:List Nat)
 |nilptr
 |ptr (b:Key) (off:Nat)
 |nilsl
 |sl (b:Key) (off len cap esz:Nat) (exact:Bool)
 |nilmap
 |map (b:Key)
 |func (fn:Fn) (first captured:List CV)
 |nilfunc
 |iface (t:TypeId) (v:CV)
 |niliface
 |agg (cs:List CV)
 |tup (vs:List CV)
 |sym (e:SE)
 |win (b:Key) (esz:Nat) (e n:SE)
 |sst (l:List CV)
 |big (n:Nat)
 |few (i:Nat) (t:List (List Nat))
 |elt (b:Key) (off i m:Nat)
 |any
 deriving Inhabited
def CV.undef:CV:=.tup []
structure CE where
 key:CV
 val:CV
 born:Nat
inductive CObj where
 |cells (vs:List CV)
 |ro (vs:List CV)
 |map (es:List CE) (clock:Nat)
 |striter (s:List CV) (pos:Nat)
 |mapiter (m:Option Key) (since:Nat) (seen:List Nat) (stepped:Nat)
 |full (u:Bool) (vs:List CV)
 |mapz (es:List (CV × CV))
 |seen (b:Key)
 |hid
 |bag (ks:List CV)
noncomputable section
inductive LV where
 |nil
 |nd (c0 c1 c2 c3 c4 c5 c6 c7 c8 c9 c10 c11 c12 c13 c14 c15:CV)
def LV.get(d:Dg)(t:LV):CV:=
 Dg.rec (motive:=λ_=>LV->CV)
  (λt=>LV.rec (motive:=λ_=>CV) CV.any (λc0 _ _ _ _ _ _ _ _ _ _ _ _ _ _ _=>c0) t)
  (λt=>LV.rec (motive:=λ_=>CV) CV.any (λ_ c1 _ _ _ _ _ _ _ _ _ _ _ _ _ _=>c1) t)
  (λt=>LV.rec (motive:=λ_=>CV) CV.any (λ_ _ c2 _ _ _ _ _ _ _ _ _ _ _ _ _=>c2) t)
  (λt=>LV.rec (motive:=λ_=>CV) CV.any (λ_ _ _ c3 _ _ _ _ _ _ _ _ _ _ _ _=>c3) t)
  (λt=>LV.rec (motive:=λ_=>CV) CV.any (λ_ _ _ _ c4 _ _ _ _ _ _ _ _ _ _ _=>c4) t)
  (λt=>LV.rec (motive:=λ_=>CV) CV.any (λ_ _ _ _ _ c5 _ _ _ _ _ _ _ _ _ _=>c5) t)
  (λt=>LV.rec (motive:=λ_=>CV) CV.any (λ_ _ _ _ _ _ c6 _ _ _ _ _ _ _ _ _=>c6) t)
  (λt=>LV.rec (motive:=λ_=>CV) CV.any (λ_ _ _ _ _ _ _ c7 _ _ _ _ _ _ _ _=>c7) t)
  (λt=>LV.rec (motive:=λ_=>CV) CV.any (λ_ _ _ _ _ _ _ _ c8 _ _ _ _ _ _ _=>c8) t)
  (λt=>LV.rec (motive:=λ_=>CV) CV.any (λ_ _ _ _ _ _ _ _ _ c9 _ _ _ _ _ _=>c9) t)
  (λt=>LV.rec (motive:=λ_=>CV) CV.any (λ_ _ _ _ _ _ _ _ _ _ c10 _ _ _ _ _=>c10) t)
  (λt=>LV.rec (motive:=λ_=>CV) CV.any (λ_ _ _ _ _ _ _ _ _ _ _ c11 _ _ _ _=>c11) t)
  (λt=>LV.rec (motive:=λ_=>CV) CV.any (λ_ _ _ _ _ _ _ _ _ _ _ _ c12 _ _ _=>c12) t)
  (λt=>LV.rec (motive:=λ_=>CV) CV.any (λ_ _ _ _ _ _ _ _ _ _ _ _ _ c13 _ _=>c13) t)
  (λt=>LV.rec (motive:=λ_=>CV) CV.any (λ_ _ _ _ _ _ _ _ _ _ _ _ _ _ c14 _=>c14) t)
  (λt=>LV.rec (motive:=λ_=>CV) CV.any (λ_ _ _ _ _ _ _ _ _ _ _ _ _ _ _ c15=>c15) t) d t
def LV.upd(f:CV->CV)(d:Dg)(t:LV):LV:=
 Dg.rec (motive:=λ_=>(CV->CV)->LV->LV)
  (λf t=>LV.rec (motive:=λ_=>LV) (.nd (f CV.any) CV.any CV.any CV.any CV.any CV.any CV.any CV.any CV.any CV.any CV.any CV.any CV.any CV.any CV.any CV.any) (λc0 c1 c2 c3 c4 c5 c6 c7 c8 c9 c10 c11 c12 c13 c14 c15=>.nd (f c0) c1 c2 c3 c4 c5 c6 c7 c8 c9 c10 c11 c12 c13 c14 c15) t)
  (λf t=>LV.rec (motive:=λ_=>LV) (.nd CV.any (f CV.any) CV.any CV.any CV.any CV.any CV.any CV.any CV.any CV.any CV.any CV.any CV.any CV.any CV.any CV.any) (λc0 c1 c2 c3 c4 c5 c6 c7 c8 c9 c10 c11 c12 c13 c14 c15=>.nd c0 (f c1) c2 c3 c4 c5 c6 c7 c8 c9 c10 c11 c12 c13 c14 c15) t)
  (λf t=>LV.rec (motive:=λ_=>LV) (.nd CV.any CV.any (f CV.any) CV.any CV.any CV.any CV.any CV.any CV.any CV.any CV.any CV.any CV.any CV.any CV.any CV.any) (λc0 c1 c2 c3 c4 c5 c6 c7 c8 c9 c10 c11 c12 c13 c14 c15=>.nd c0 c1 (f c2) c3 c4 c5 c6 c7 c8 c9 c10 c11 c12 c13 c14 c15) t)
  (λf t=>LV.rec (motive:=λ_=>LV) (.nd CV.any CV.any CV.any (f CV.any) CV.any CV.any CV.any CV.any CV.any CV.any CV.any CV.any CV.any CV.any CV.any CV.any) (λc0 c1 c2 c3 c4 c5 c6 c7 c8 c9 c10 c11 c12 c13 c14 c15=>.nd c0 c1 c2 (f c3) c4 c5 c6 c7 c8 c9 c10 c11 c12 c13 c14 c15) t)
  (λf t=>LV.rec (motive:=λ_=>LV) (.nd CV.any CV.any CV.any CV.any (f CV.any) CV.any CV.any CV.any CV.any CV.any CV.any CV.any CV.any CV.any CV.any CV.any) (λc0 c1 c2 c3 c4 c5 c6 c7 c8 c9 c10 c11 c12 c13 c14 c15=>.nd c0 c1 c2 c3 (f c4) c5 c6 c7 c8 c9 c10 c11 c12 c13 c14 c15) t)
  (λf t=>LV.rec (motive:=λ_=>LV) (.nd CV.any CV.any CV.any CV.any CV.any (f CV.any) CV.any CV.any CV.any CV.any CV.any CV.any CV.any CV.any CV.any CV.any) (λc0 c1 c2 c3 c4 c5 c6 c7 c8 c9 c10 c11 c12 c13 c14 c15=>.nd c0 c1 c2 c3 c4 (f c5) c6 c7 c8 c9 c10 c11 c12 c13 c14 c15) t)
  (λf t=>LV.rec (motive:=λ_=>LV) (.nd CV.any CV.any CV.any CV.any CV.any CV.any (f CV.any) CV.any CV.any CV.any CV.any CV.any CV.any CV.any CV.any CV.any) (λc0 c1 c2 c3 c4 c5 c6 c7 c8 c9 c10 c11 c12 c13 c14 c15=>.nd c0 c1 c2 c3 c4 c5 (f c6) c7 c8 c9 c10 c11 c12 c13 c14 c15) t)
  (λf t=>LV.rec (motive:=λ_=>LV) (.nd CV.any CV.any CV.any CV.any CV.any CV.any CV.any (f CV.any) CV.any CV.any CV.any CV.any CV.any CV.any CV.any CV.any) (λc0 c1 c2 c3 c4 c5 c6 c7 c8 c9 c10 c11 c12 c13 c14 c15=>.nd c0 c1 c2 c3 c4 c5 c6 (f c7) c8 c9 c10 c11 c12 c13 c14 c15) t)
  (λf t=>LV.rec (motive:=λ_=>LV) (.nd CV.any CV.any CV.any CV.any CV.any CV.any CV.any CV.any (f CV.any) CV.any CV.any CV.any CV.any CV.any CV.any CV.any) (λc0 c1 c2 c3 c4 c5 c6 c7 c8 c9 c10 c11 c12 c13 c14 c15=>.nd c0 c1 c2 c3 c4 c5 c6 c7 (f c8) c9 c10 c11 c12 c13 c14 c15) t)
  (λf t=>LV.rec (motive:=λ_=>LV) (.nd CV.any CV.any CV.any CV.any CV.any CV.any CV.any CV.any CV.any (f CV.any) CV.any CV.any CV.any CV.any CV.any CV.any) (λc0 c1 c2 c3 c4 c5 c6 c7 c8 c9 c10 c11 c12 c13 c14 c15=>.nd c0 c1 c2 c3 c4 c5 c6 c7 c8 (f c9) c10 c11 c12 c13 c14 c15) t)
  (λf t=>LV.rec (motive:=λ_=>LV) (.nd CV.any CV.any CV.any CV.any CV.any CV.any CV.any CV.any CV.any CV.any (f CV.any) CV.any CV.any CV.any CV.any CV.any) (λc0 c1 c2 c3 c4 c5 c6 c7 c8 c9 c10 c11 c12 c13 c14 c15=>.nd c0 c1 c2 c3 c4 c5 c6 c7 c8 c9 (f c10) c11 c12 c13 c14 c15) t)
  (λf t=>LV.rec (motive:=λ_=>LV) (.nd CV.any CV.any CV.any CV.any CV.any CV.any CV.any CV.any CV.any CV.any CV.any (f CV.any) CV.any CV.any CV.any CV.any) (λc0 c1 c2 c3 c4 c5 c6 c7 c8 c9 c10 c11 c12 c13 c14 c15=>.nd c0 c1 c2 c3 c4 c5 c6 c7 c8 c9 c10 (f c11) c12 c13 c14 c15) t)
  (λf t=>LV.rec (motive:=λ_=>LV) (.nd CV.any CV.any CV.any CV.any CV.any CV.any CV.any CV.any CV.any CV.any CV.any CV.any (f CV.any) CV.any CV.any CV.any) (λc0 c1 c2 c3 c4 c5 c6 c7 c8 c9 c10 c11 c12 c13 c14 c15=>.nd c0 c1 c2 c3 c4 c5 c6 c7 c8 c9 c10 c11 (f c12) c13 c14 c15) t)
  (λf t=>LV.rec (motive:=λ_=>LV) (.nd CV.any CV.any CV.any CV.any CV.any CV.any CV.any CV.any CV.any CV.any CV.any CV.any CV.any (f CV.any) CV.any CV.any) (λc0 c1 c2 c3 c4 c5 c6 c7 c8 c9 c10 c11 c12 c13 c14 c15=>.nd c0 c1 c2 c3 c4 c5 c6 c7 c8 c9 c10 c11 c12 (f c13) c14 c15) t)
  (λf t=>LV.rec (motive:=λ_=>LV) (.nd CV.any CV.any CV.any CV.any CV.any CV.any CV.any CV.any CV.any CV.any CV.any CV.any CV.any CV.any (f CV.any) CV.any) (λc0 c1 c2 c3 c4 c5 c6 c7 c8 c9 c10 c11 c12 c13 c14 c15=>.nd c0 c1 c2 c3 c4 c5 c6 c7 c8 c9 c10 c11 c12 c13 (f c14) c15) t)
  (λf t=>LV.rec (motive:=λ_=>LV) (.nd CV.any CV.any CV.any CV.any CV.any CV.any CV.any CV.any CV.any CV.any CV.any CV.any CV.any CV.any CV.any (f CV.any)) (λc0 c1 c2 c3 c4 c5 c6 c7 c8 c9 c10 c11 c12 c13 c14 c15=>.nd c0 c1 c2 c3 c4 c5 c6 c7 c8 c9 c10 c11 c12 c13 c14 (f c15)) t) d f t
inductive L1 where
 |nil
 |nd (c0 c1 c2 c3 c4 c5 c6 c7 c8 c9 c10 c11 c12 c13 c14 c15:LV)
def L1.get(d:Dg)(t:L1):LV:=
 Dg.rec (motive:=λ_=>L1->LV)
  (λt=>L1.rec (motive:=λ_=>LV) LV.nil (λc0 _ _ _ _ _ _ _ _ _ _ _ _ _ _ _=>c0) t)
  (λt=>L1.rec (motive:=λ_=>LV) LV.nil (λ_ c1 _ _ _ _ _ _ _ _ _ _ _ _ _ _=>c1) t)
  (λt=>L1.rec (motive:=λ_=>LV) LV.nil (λ_ _ c2 _ _ _ _ _ _ _ _ _ _ _ _ _=>c2) t)
  (λt=>L1.rec (motive:=λ_=>LV) LV.nil (λ_ _ _ c3 _ _ _ _ _ _ _ _ _ _ _ _=>c3) t)
  (λt=>L1.rec (motive:=λ_=>LV) LV.nil (λ_ _ _ _ c4 _ _ _ _ _ _ _ _ _ _ _=>c4) t)
  (λt=>L1.rec (motive:=λ_=>LV) LV.nil (λ_ _ _ _ _ c5 _ _ _ _ _ _ _ _ _ _=>c5) t)
  (λt=>L1.rec (motive:=λ_=>LV) LV.nil (λ_ _ _ _ _ _ c6 _ _ _ _ _ _ _ _ _=>c6) t)
  (λt=>L1.rec (motive:=λ_=>LV) LV.nil (λ_ _ _ _ _ _ _ c7 _ _ _ _ _ _ _ _=>c7) t)
  (λt=>L1.rec (motive:=λ_=>LV) LV.nil (λ_ _ _ _ _ _ _ _ c8 _ _ _ _ _ _ _=>c8) t)
  (λt=>L1.rec (motive:=λ_=>LV) LV.nil (λ_ _ _ _ _ _ _ _ _ c9 _ _ _ _ _ _=>c9) t)
  (λt=>L1.rec (motive:=λ_=>LV) LV.nil (λ_ _ _ _ _ _ _ _ _ _ c10 _ _ _ _ _=>c10) t)
  (λt=>L1.rec (motive:=λ_=>LV) LV.nil (λ_ _ _ _ _ _ _ _ _ _ _ c11 _ _ _ _=>c11) t)
  (λt=>L1.rec (motive:=λ_=>LV) LV.nil (λ_ _ _ _ _ _ _ _ _ _ _ _ c12 _ _ _=>c12) t)
  (λt=>L1.rec (motive:=λ_=>LV) LV.nil (λ_ _ _ _ _ _ _ _ _ _ _ _ _ c13 _ _=>c13) t)
  (λt=>L1.rec (motive:=λ_=>LV) LV.nil (λ_ _ _ _ _ _ _ _ _ _ _ _ _ _ c14 _=>c14) t)
  (λt=>L1.rec (motive:=λ_=>LV) LV.nil (λ_ _ _ _ _ _ _ _ _ _ _ _ _ _ _ c15=>c15) t) d t
def L1.upd(f:LV->LV)(d:Dg)(t:L1):L1:=
 Dg.rec (motive:=λ_=>(LV->LV)->L1->L1)
  (λf t=>L1.rec (motive:=λ_=>L1) (.nd (f LV.nil) LV.nil LV.nil LV.nil LV.nil LV.nil LV.nil LV.nil LV.nil LV.nil LV.nil LV.nil LV.nil LV.nil LV.nil LV.nil) (λc0 c1 c2 c3 c4 c5 c6 c7 c8 c9 c10 c11 c12 c13 c14 c15=>.nd (f c0) c1 c2 c3 c4 c5 c6 c7 c8 c9 c10 c11 c12 c13 c14 c15) t)
  (λf t=>L1.rec (motive:=λ_=>L1) (.nd LV.nil (f LV.nil) LV.nil LV.nil LV.nil LV.nil LV.nil LV.nil LV.nil LV.nil LV.nil LV.nil LV.nil LV.nil LV.nil LV.nil) (λc0 c1 c2 c3 c4 c5 c6 c7 c8 c9 c10 c11 c12 c13 c14 c15=>.nd c0 (f c1) c2 c3 c4 c5 c6 c7 c8 c9 c10 c11 c12 c13 c14 c15) t)
  (λf t=>L1.rec (motive:=λ_=>L1) (.nd LV.nil LV.nil (f LV.nil) LV.nil LV.nil LV.nil LV.nil LV.nil LV.nil LV.nil LV.nil LV.nil LV.nil LV.nil LV.nil LV.nil) (λc0 c1 c2 c3 c4 c5 c6 c7 c8 c9 c10 c11 c12 c13 c14 c15=>.nd c0 c1 (f c2) c3 c4 c5 c6 c7 c8 c9 c10 c11 c12 c13 c14 c15) t)
  (λf t=>L1.rec (motive:=λ_=>L1) (.nd LV.nil LV.nil LV.nil (f LV.nil) LV.nil LV.nil LV.nil LV.nil LV.nil LV.nil LV.nil LV.nil LV.nil LV.nil LV.nil LV.nil) (λc0 c1 c2 c3 c4 c5 c6 c7 c8 c9 c10 c11 c12 c13 c14 c15=>.nd c0 c1 c2 (f c3) c4 c5 c6 c7 c8 c9 c10 c11 c12 c13 c14 c15) t)
  (λf t=>L1.rec (motive:=λ_=>L1) (.nd LV.nil LV.nil LV.nil LV.nil (f LV.nil) LV.nil LV.nil LV.nil LV.nil LV.nil LV.nil LV.nil LV.nil LV.nil LV.nil LV.nil) (λc0 c1 c2 c3 c4 c5 c6 c7 c8 c9 c10 c11 c12 c13 c14 c15=>.nd c0 c1 c2 c3 (f c4) c5 c6 c7 c8 c9 c10 c11 c12 c13 c14 c15) t)
  (λf t=>L1.rec (motive:=λ_=>L1) (.nd LV.nil LV.nil LV.nil LV.nil LV.nil (f LV.nil) LV.nil LV.nil LV.nil LV.nil LV.nil LV.nil LV.nil LV.nil LV.nil LV.nil) (λc0 c1 c2 c3 c4 c5 c6 c7 c8 c9 c10 c11 c12 c13 c14 c15=>.nd c0 c1 c2 c3 c4 (f c5) c6 c7 c8 c9 c10 c11 c12 c13 c14 c15) t)
  (λf t=>L1.rec (motive:=λ_=>L1) (.nd LV.nil LV.nil LV.nil LV.nil LV.nil LV.nil (f LV.nil) LV.nil LV.nil LV.nil LV.nil LV.nil LV.nil LV.nil LV.nil LV.nil) (λc0 c1 c2 c3 c4 c5 c6 c7 c8 c9 c10 c11 c12 c13 c14 c15=>.nd c0 c1 c2 c3 c4 c5 (f c6) c7 c8 c9 c10 c11 c12 c13 c14 c15) t)
  (λf t=>L1.rec (motive:=λ_=>L1) (.nd LV.nil LV.nil LV.nil LV.nil LV.nil LV.nil LV.nil (f LV.nil) LV.nil LV.nil LV.nil LV.nil LV.nil LV.nil LV.nil LV.nil) (λc0 c1 c2 c3 c4 c5 c6 c7 c8 c9 c10 c11 c12 c13 c14 c15=>.nd c0 c1 c2 c3 c4 c5 c6 (f c7) c8 c9 c10 c11 c12 c13 c14 c15) t)
  (λf t=>L1.rec (motive:=λ_=>L1) (.nd LV.nil LV.nil LV.nil LV.nil LV.nil LV.nil LV.nil LV.nil (f LV.nil) LV.nil LV.nil LV.nil LV.nil LV.nil LV.nil LV.nil) (λc0 c1 c2 c3 c4 c5 c6 c7 c8 c9 c10 c11 c12 c13 c14 c15=>.nd c0 c1 c2 c3 c4 c5 c6 c7 (f c8) c9 c10 c11 c12 c13 c14 c15) t)
  (λf t=>L1.rec (motive:=λ_=>L1) (.nd LV.nil LV.nil LV.nil LV.nil LV.nil LV.nil LV.nil LV.nil LV.nil (f LV.nil) LV.nil LV.nil LV.nil LV.nil LV.nil LV.nil) (λc0 c1 c2 c3 c4 c5 c6 c7 c8 c9 c10 c11 c12 c13 c14 c15=>.nd c0 c1 c2 c3 c4 c5 c6 c7 c8 (f c9) c10 c11 c12 c13 c14 c15) t)
  (λf t=>L1.rec (motive:=λ_=>L1) (.nd LV.nil LV.nil LV.nil LV.nil LV.nil LV.nil LV.nil LV.nil LV.nil LV.nil (f LV.nil) LV.nil LV.nil LV.nil LV.nil LV.nil) (λc0 c1 c2 c3 c4 c5 c6 c7 c8 c9 c10 c11 c12 c13 c14 c15=>.nd c0 c1 c2 c3 c4 c5 c6 c7 c8 c9 (f c10) c11 c12 c13 c14 c15) t)
  (λf t=>L1.rec (motive:=λ_=>L1) (.nd LV.nil LV.nil LV.nil LV.nil LV.nil LV.nil LV.nil LV.nil LV.nil LV.nil LV.nil (f LV.nil) LV.nil LV.nil LV.nil LV.nil) (λc0 c1 c2 c3 c4 c5 c6 c7 c8 c9 c10 c11 c12 c13 c14 c15=>.nd c0 c1 c2 c3 c4 c5 c6 c7 c8 c9 c10 (f c11) c12 c13 c14 c15) t)
  (λf t=>L1.rec (motive:=λ_=>L1) (.nd LV.nil LV.nil LV.nil LV.nil LV.nil LV.nil LV.nil LV.nil LV.nil LV.nil LV.nil LV.nil (f LV.nil) LV.nil LV.nil LV.nil) (λc0 c1 c2 c3 c4 c5 c6 c7 c8 c9 c10 c11 c12 c13 c14 c15=>.nd c0 c1 c2 c3 c4 c5 c6 c7 c8 c9 c10 c11 (f c12) c13 c14 c15) t)
  (λf t=>L1.rec (motive:=λ_=>L1) (.nd LV.nil LV.nil LV.nil LV.nil LV.nil LV.nil LV.nil LV.nil LV.nil LV.nil LV.nil LV.nil LV.nil (f LV.nil) LV.nil LV.nil) (λc0 c1 c2 c3 c4 c5 c6 c7 c8 c9 c10 c11 c12 c13 c14 c15=>.nd c0 c1 c2 c3 c4 c5 c6 c7 c8 c9 c10 c11 c12 (f c13) c14 c15) t)
  (λf t=>L1.rec (motive:=λ_=>L1) (.nd LV.nil LV.nil LV.nil LV.nil LV.nil LV.nil LV.nil LV.nil LV.nil LV.nil LV.nil LV.nil LV.nil LV.nil (f LV.nil) LV.nil) (λc0 c1 c2 c3 c4 c5 c6 c7 c8 c9 c10 c11 c12 c13 c14 c15=>.nd c0 c1 c2 c3 c4 c5 c6 c7 c8 c9 c10 c11 c12 c13 (f c14) c15) t)
  (λf t=>L1.rec (motive:=λ_=>L1) (.nd LV.nil LV.nil LV.nil LV.nil LV.nil LV.nil LV.nil LV.nil LV.nil LV.nil LV.nil LV.nil LV.nil LV.nil LV.nil (f LV.nil)) (λc0 c1 c2 c3 c4 c5 c6 c7 c8 c9 c10 c11 c12 c13 c14 c15=>.nd c0 c1 c2 c3 c4 c5 c6 c7 c8 c9 c10 c11 c12 c13 c14 (f c15)) t) d f t
inductive HV where
 |nil
 |nd (c0 c1 c2 c3 c4 c5 c6 c7 c8 c9 c10 c11 c12 c13 c14 c15:Option CObj)
def HV.get(d:Dg)(t:HV):Option CObj:=
 Dg.rec (motive:=λ_=>HV->Option CObj)
  (λt=>HV.rec (motive:=λ_=>Option CObj) none (λc0 _ _ _ _ _ _ _ _ _ _ _ _ _ _ _=>c0) t)
  (λt=>HV.rec (motive:=λ_=>Option CObj) none (λ_ c1 _ _ _ _ _ _ _ _ _ _ _ _ _ _=>c1) t)
  (λt=>HV.rec (motive:=λ_=>Option CObj) none (λ_ _ c2 _ _ _ _ _ _ _ _ _ _ _ _ _=>c2) t)
  (λt=>HV.rec (motive:=λ_=>Option CObj) none (λ_ _ _ c3 _ _ _ _ _ _ _ _ _ _ _ _=>c3) t)
  (λt=>HV.rec (motive:=λ_=>Option CObj) none (λ_ _ _ _ c4 _ _ _ _ _ _ _ _ _ _ _=>c4) t)
  (λt=>HV.rec (motive:=λ_=>Option CObj) none (λ_ _ _ _ _ c5 _ _ _ _ _ _ _ _ _ _=>c5) t)
  (λt=>HV.rec (motive:=λ_=>Option CObj) none (λ_ _ _ _ _ _ c6 _ _ _ _ _ _ _ _ _=>c6) t)
  (λt=>HV.rec (motive:=λ_=>Option CObj) none (λ_ _ _ _ _ _ _ c7 _ _ _ _ _ _ _ _=>c7) t)
  (λt=>HV.rec (motive:=λ_=>Option CObj) none (λ_ _ _ _ _ _ _ _ c8 _ _ _ _ _ _ _=>c8) t)
  (λt=>HV.rec (motive:=λ_=>Option CObj) none (λ_ _ _ _ _ _ _ _ _ c9 _ _ _ _ _ _=>c9) t)
  (λt=>HV.rec (motive:=λ_=>Option CObj) none (λ_ _ _ _ _ _ _ _ _ _ c10 _ _ _ _ _=>c10) t)
  (λt=>HV.rec (motive:=λ_=>Option CObj) none (λ_ _ _ _ _ _ _ _ _ _ _ c11 _ _ _ _=>c11) t)
  (λt=>HV.rec (motive:=λ_=>Option CObj) none (λ_ _ _ _ _ _ _ _ _ _ _ _ c12 _ _ _=>c12) t)
  (λt=>HV.rec (motive:=λ_=>Option CObj) none (λ_ _ _ _ _ _ _ _ _ _ _ _ _ c13 _ _=>c13) t)
  (λt=>HV.rec (motive:=λ_=>Option CObj) none (λ_ _ _ _ _ _ _ _ _ _ _ _ _ _ c14 _=>c14) t)
  (λt=>HV.rec (motive:=λ_=>Option CObj) none (λ_ _ _ _ _ _ _ _ _ _ _ _ _ _ _ c15=>c15) t) d t
def HV.upd(f:Option CObj->Option CObj)(d:Dg)(t:HV):HV:=
 Dg.rec (motive:=λ_=>(Option CObj->Option CObj)->HV->HV)
  (λf t=>HV.rec (motive:=λ_=>HV) (.nd (f none) none none none none none none none none none none none none none none none) (λc0 c1 c2 c3 c4 c5 c6 c7 c8 c9 c10 c11 c12 c13 c14 c15=>.nd (f c0) c1 c2 c3 c4 c5 c6 c7 c8 c9 c10 c11 c12 c13 c14 c15) t)
  (λf t=>HV.rec (motive:=λ_=>HV) (.nd none (f none) none none none none none none none none none none none none none none) (λc0 c1 c2 c3 c4 c5 c6 c7 c8 c9 c10 c11 c12 c13 c14 c15=>.nd c0 (f c1) c2 c3 c4 c5 c6 c7 c8 c9 c10 c11 c12 c13 c14 c15) t)
  (λf t=>HV.rec (motive:=λ_=>HV) (.nd none none (f none) none none none none none none none none none none none none none) (λc0 c1 c2 c3 c4 c5 c6 c7 c8 c9 c10 c11 c12 c13 c14 c15=>.nd c0 c1 (f c2) c3 c4 c5 c6 c7 c8 c9 c10 c11 c12 c13 c14 c15) t)
  (λf t=>HV.rec (motive:=λ_=>HV) (.nd none none none (f none) none none none none none none none none none none none none) (λc0 c1 c2 c3 c4 c5 c6 c7 c8 c9 c10 c11 c12 c13 c14 c15=>.nd c0 c1 c2 (f c3) c4 c5 c6 c7 c8 c9 c10 c11 c12 c13 c14 c15) t)
  (λf t=>HV.rec (motive:=λ_=>HV) (.nd none none none none (f none) none none none none none none none none none none none) (λc0 c1 c2 c3 c4 c5 c6 c7 c8 c9 c10 c11 c12 c13 c14 c15=>.nd c0 c1 c2 c3 (f c4) c5 c6 c7 c8 c9 c10 c11 c12 c13 c14 c15) t)
  (λf t=>HV.rec (motive:=λ_=>HV) (.nd none none none none none (f none) none none none none none none none none none none) (λc0 c1 c2 c3 c4 c5 c6 c7 c8 c9 c10 c11 c12 c13 c14 c15=>.nd c0 c1 c2 c3 c4 (f c5) c6 c7 c8 c9 c10 c11 c12 c13 c14 c15) t)
  (λf t=>HV.rec (motive:=λ_=>HV) (.nd none none none none none none (f none) none none none none none none none none none) (λc0 c1 c2 c3 c4 c5 c6 c7 c8 c9 c10 c11 c12 c13 c14 c15=>.nd c0 c1 c2 c3 c4 c5 (f c6) c7 c8 c9 c10 c11 c12 c13 c14 c15) t)
  (λf t=>HV.rec (motive:=λ_=>HV) (.nd none none none none none none none (f none) none none none none none none none none) (λc0 c1 c2 c3 c4 c5 c6 c7 c8 c9 c10 c11 c12 c13 c14 c15=>.nd c0 c1 c2 c3 c4 c5 c6 (f c7) c8 c9 c10 c11 c12 c13 c14 c15) t)
  (λf t=>HV.rec (motive:=λ_=>HV) (.nd none none none none none none none none (f none) none none none none none none none) (λc0 c1 c2 c3 c4 c5 c6 c7 c8 c9 c10 c11 c12 c13 c14 c15=>.nd c0 c1 c2 c3 c4 c5 c6 c7 (f c8) c9 c10 c11 c12 c13 c14 c15) t)
  (λf t=>HV.rec (motive:=λ_=>HV) (.nd none none none none none none none none none (f none) none none none none none none) (λc0 c1 c2 c3 c4 c5 c6 c7 c8 c9 c10 c11 c12 c13 c14 c15=>.nd c0 c1 c2 c3 c4 c5 c6 c7 c8 (f c9) c10 c11 c12 c13 c14 c15) t)
  (λf t=>HV.rec (motive:=λ_=>HV) (.nd none none none none none none none none none none (f none) none none none none none) (λc0 c1 c2 c3 c4 c5 c6 c7 c8 c9 c10 c11 c12 c13 c14 c15=>.nd c0 c1 c2 c3 c4 c5 c6 c7 c8 c9 (f c10) c11 c12 c13 c14 c15) t)
  (λf t=>HV.rec (motive:=λ_=>HV) (.nd none none none none none none none none none none none (f none) none none none none) (λc0 c1 c2 c3 c4 c5 c6 c7 c8 c9 c10 c11 c12 c13 c14 c15=>.nd c0 c1 c2 c3 c4 c5 c6 c7 c8 c9 c10 (f c11) c12 c13 c14 c15) t)
  (λf t=>HV.rec (motive:=λ_=>HV) (.nd none none none none none none none none none none none none (f none) none none none) (λc0 c1 c2 c3 c4 c5 c6 c7 c8 c9 c10 c11 c12 c13 c14 c15=>.nd c0 c1 c2 c3 c4 c5 c6 c7 c8 c9 c10 c11 (f c12) c13 c14 c15) t)
  (λf t=>HV.rec (motive:=λ_=>HV) (.nd none none none none none none none none none none none none none (f none) none none) (λc0 c1 c2 c3 c4 c5 c6 c7 c8 c9 c10 c11 c12 c13 c14 c15=>.nd c0 c1 c2 c3 c4 c5 c6 c7 c8 c9 c10 c11 c12 (f c13) c14 c15) t)
  (λf t=>HV.rec (motive:=λ_=>HV) (.nd none none none none none none none none none none none none none none (f none) none) (λc0 c1 c2 c3 c4 c5 c6 c7 c8 c9 c10 c11 c12 c13 c14 c15=>.nd c0 c1 c2 c3 c4 c5 c6 c7 c8 c9 c10 c11 c12 c13 (f c14) c15) t)
  (λf t=>HV.rec (motive:=λ_=>HV) (.nd none none none none none none none none none none none none none none none (f none)) (λc0 c1 c2 c3 c4 c5 c6 c7 c8 c9 c10 c11 c12 c13 c14 c15=>.nd c0 c1 c2 c3 c4 c5 c6 c7 c8 c9 c10 c11 c12 c13 c14 (f c15)) t) d f t
inductive H1 where
 |nil
 |nd (c0 c1 c2 c3 c4 c5 c6 c7 c8 c9 c10 c11 c12 c13 c14 c15:HV)
def H1.get(d:Dg)(t:H1):HV:=
 Dg.rec (motive:=λ_=>H1->HV)
  (λt=>H1.rec (motive:=λ_=>HV) HV.nil (λc0 _ _ _ _ _ _ _ _ _ _ _ _ _ _ _=>c0) t)
  (λt=>H1.rec (motive:=λ_=>HV) HV.nil (λ_ c1 _ _ _ _ _ _ _ _ _ _ _ _ _ _=>c1) t)
  (λt=>H1.rec (motive:=λ_=>HV) HV.nil (λ_ _ c2 _ _ _ _ _ _ _ _ _ _ _ _ _=>c2) t)
  (λt=>H1.rec (motive:=λ_=>HV) HV.nil (λ_ _ _ c3 _ _ _ _ _ _ _ _ _ _ _ _=>c3) t)
  (λt=>H1.rec (motive:=λ_=>HV) HV.nil (λ_ _ _ _ c4 _ _ _ _ _ _ _ _ _ _ _=>c4) t)
  (λt=>H1.rec (motive:=λ_=>HV) HV.nil (λ_ _ _ _ _ c5 _ _ _ _ _ _ _ _ _ _=>c5) t)
  (λt=>H1.rec (motive:=λ_=>HV) HV.nil (λ_ _ _ _ _ _ c6 _ _ _ _ _ _ _ _ _=>c6) t)
  (λt=>H1.rec (motive:=λ_=>HV) HV.nil (λ_ _ _ _ _ _ _ c7 _ _ _ _ _ _ _ _=>c7) t)
  (λt=>H1.rec (motive:=λ_=>HV) HV.nil (λ_ _ _ _ _ _ _ _ c8 _ _ _ _ _ _ _=>c8) t)
  (λt=>H1.rec (motive:=λ_=>HV) HV.nil (λ_ _ _ _ _ _ _ _ _ c9 _ _ _ _ _ _=>c9) t)
  (λt=>H1.rec (motive:=λ_=>HV) HV.nil (λ_ _ _ _ _ _ _ _ _ _ c10 _ _ _ _ _=>c10) t)
  (λt=>H1.rec (motive:=λ_=>HV) HV.nil (λ_ _ _ _ _ _ _ _ _ _ _ c11 _ _ _ _=>c11) t)
  (λt=>H1.rec (motive:=λ_=>HV) HV.nil (λ_ _ _ _ _ _ _ _ _ _ _ _ c12 _ _ _=>c12) t)
  (λt=>H1.rec (motive:=λ_=>HV) HV.nil (λ_ _ _ _ _ _ _ _ _ _ _ _ _ c13 _ _=>c13) t)
  (λt=>H1.rec (motive:=λ_=>HV) HV.nil (λ_ _ _ _ _ _ _ _ _ _ _ _ _ _ c14 _=>c14) t)
  (λt=>H1.rec (motive:=λ_=>HV) HV.nil (λ_ _ _ _ _ _ _ _ _ _ _ _ _ _ _ c15=>c15) t) d t
def H1.upd(f:HV->HV)(d:Dg)(t:H1):H1:=
 Dg.rec (motive:=λ_=>(HV->HV)->H1->H1)
  (λf t=>H1.rec (motive:=λ_=>H1) (.nd (f HV.nil) HV.nil HV.nil HV.nil HV.nil HV.nil HV.nil HV.nil HV.nil HV.nil HV.nil HV.nil HV.nil HV.nil HV.nil HV.nil) (λc0 c1 c2 c3 c4 c5 c6 c7 c8 c9 c10 c11 c12 c13 c14 c15=>.nd (f c0) c1 c2 c3 c4 c5 c6 c7 c8 c9 c10 c11 c12 c13 c14 c15) t)
  (λf t=>H1.rec (motive:=λ_=>H1) (.nd HV.nil (f HV.nil) HV.nil HV.nil HV.nil HV.nil HV.nil HV.nil HV.nil HV.nil HV.nil HV.nil HV.nil HV.nil HV.nil HV.nil) (λc0 c1 c2 c3 c4 c5 c6 c7 c8 c9 c10 c11 c12 c13 c14 c15=>.nd c0 (f c1) c2 c3 c4 c5 c6 c7 c8 c9 c10 c11 c12 c13 c14 c15) t)
  (λf t=>H1.rec (motive:=λ_=>H1) (.nd HV.nil HV.nil (f HV.nil) HV.nil HV.nil HV.nil HV.nil HV.nil HV.nil HV.nil HV.nil HV.nil HV.nil HV.nil HV.nil HV.nil) (λc0 c1 c2 c3 c4 c5 c6 c7 c8 c9 c10 c11 c12 c13 c14 c15=>.nd c0 c1 (f c2) c3 c4 c5 c6 c7 c8 c9 c10 c11 c12 c13 c14 c15) t)
  (λf t=>H1.rec (motive:=λ_=>H1) (.nd HV.nil HV.nil HV.nil (f HV.nil) HV.nil HV.nil HV.nil HV.nil HV.nil HV.nil HV.nil HV.nil HV.nil HV.nil HV.nil HV.nil) (λc0 c1 c2 c3 c4 c5 c6 c7 c8 c9 c10 c11 c12 c13 c14 c15=>.nd c0 c1 c2 (f c3) c4 c5 c6 c7 c8 c9 c10 c11 c12 c13 c14 c15) t)
  (λf t=>H1.rec (motive:=λ_=>H1) (.nd HV.nil HV.nil HV.nil HV.nil (f HV.nil) HV.nil HV.nil HV.nil HV.nil HV.nil HV.nil HV.nil HV.nil HV.nil HV.nil HV.nil) (λc0 c1 c2 c3 c4 c5 c6 c7 c8 c9 c10 c11 c12 c13 c14 c15=>.nd c0 c1 c2 c3 (f c4) c5 c6 c7 c8 c9 c10 c11 c12 c13 c14 c15) t)
  (λf t=>H1.rec (motive:=λ_=>H1) (.nd HV.nil HV.nil HV.nil HV.nil HV.nil (f HV.nil) HV.nil HV.nil HV.nil HV.nil HV.nil HV.nil HV.nil HV.nil HV.nil HV.nil) (λc0 c1 c2 c3 c4 c5 c6 c7 c8 c9 c10 c11 c12 c13 c14 c15=>.nd c0 c1 c2 c3 c4 (f c5) c6 c7 c8 c9 c10 c11 c12 c13 c14 c15) t)
  (λf t=>H1.rec (motive:=λ_=>H1) (.nd HV.nil HV.nil HV.nil HV.nil HV.nil HV.nil (f HV.nil) HV.nil HV.nil HV.nil HV.nil HV.nil HV.nil HV.nil HV.nil HV.nil) (λc0 c1 c2 c3 c4 c5 c6 c7 c8 c9 c10 c11 c12 c13 c14 c15=>.nd c0 c1 c2 c3 c4 c5 (f c6) c7 c8 c9 c10 c11 c12 c13 c14 c15) t)
  (λf t=>H1.rec (motive:=λ_=>H1) (.nd HV.nil HV.nil HV.nil HV.nil HV.nil HV.nil HV.nil (f HV.nil) HV.nil HV.nil HV.nil HV.nil HV.nil HV.nil HV.nil HV.nil) (λc0 c1 c2 c3 c4 c5 c6 c7 c8 c9 c10 c11 c12 c13 c14 c15=>.nd c0 c1 c2 c3 c4 c5 c6 (f c7) c8 c9 c10 c11 c12 c13 c14 c15) t)
  (λf t=>H1.rec (motive:=λ_=>H1) (.nd HV.nil HV.nil HV.nil HV.nil HV.nil HV.nil HV.nil HV.nil (f HV.nil) HV.nil HV.nil HV.nil HV.nil HV.nil HV.nil HV.nil) (λc0 c1 c2 c3 c4 c5 c6 c7 c8 c9 c10 c11 c12 c13 c14 c15=>.nd c0 c1 c2 c3 c4 c5 c6 c7 (f c8) c9 c10 c11 c12 c13 c14 c15) t)
  (λf t=>H1.rec (motive:=λ_=>H1) (.nd HV.nil HV.nil HV.nil HV.nil HV.nil HV.nil HV.nil HV.nil HV.nil (f HV.nil) HV.nil HV.nil HV.nil HV.nil HV.nil HV.nil) (λc0 c1 c2 c3 c4 c5 c6 c7 c8 c9 c10 c11 c12 c13 c14 c15=>.nd c0 c1 c2 c3 c4 c5 c6 c7 c8 (f c9) c10 c11 c12 c13 c14 c15) t)
  (λf t=>H1.rec (motive:=λ_=>H1) (.nd HV.nil HV.nil HV.nil HV.nil HV.nil HV.nil HV.nil HV.nil HV.nil HV.nil (f HV.nil) HV.nil HV.nil HV.nil HV.nil HV.nil) (λc0 c1 c2 c3 c4 c5 c6 c7 c8 c9 c10 c11 c12 c13 c14 c15=>.nd c0 c1 c2 c3 c4 c5 c6 c7 c8 c9 (f c10) c11 c12 c13 c14 c15) t)
  (λf t=>H1.rec (motive:=λ_=>H1) (.nd HV.nil HV.nil HV.nil HV.nil HV.nil HV.nil HV.nil HV.nil HV.nil HV.nil HV.nil (f HV.nil) HV.nil HV.nil HV.nil HV.nil) (λc0 c1 c2 c3 c4 c5 c6 c7 c8 c9 c10 c11 c12 c13 c14 c15=>.nd c0 c1 c2 c3 c4 c5 c6 c7 c8 c9 c10 (f c11) c12 c13 c14 c15) t)
  (λf t=>H1.rec (motive:=λ_=>H1) (.nd HV.nil HV.nil HV.nil HV.nil HV.nil HV.nil HV.nil HV.nil HV.nil HV.nil HV.nil HV.nil (f HV.nil) HV.nil HV.nil HV.nil) (λc0 c1 c2 c3 c4 c5 c6 c7 c8 c9 c10 c11 c12 c13 c14 c15=>.nd c0 c1 c2 c3 c4 c5 c6 c7 c8 c9 c10 c11 (f c12) c13 c14 c15) t)
  (λf t=>H1.rec (motive:=λ_=>H1) (.nd HV.nil HV.nil HV.nil HV.nil HV.nil HV.nil HV.nil HV.nil HV.nil HV.nil HV.nil HV.nil HV.nil (f HV.nil) HV.nil HV.nil) (λc0 c1 c2 c3 c4 c5 c6 c7 c8 c9 c10 c11 c12 c13 c14 c15=>.nd c0 c1 c2 c3 c4 c5 c6 c7 c8 c9 c10 c11 c12 (f c13) c14 c15) t)
  (λf t=>H1.rec (motive:=λ_=>H1) (.nd HV.nil HV.nil HV.nil HV.nil HV.nil HV.nil HV.nil HV.nil HV.nil HV.nil HV.nil HV.nil HV.nil HV.nil (f HV.nil) HV.nil) (λc0 c1 c2 c3 c4 c5 c6 c7 c8 c9 c10 c11 c12 c13 c14 c15=>.nd c0 c1 c2 c3 c4 c5 c6 c7 c8 c9 c10 c11 c12 c13 (f c14) c15) t)
  (λf t=>H1.rec (motive:=λ_=>H1) (.nd HV.nil HV.nil HV.nil HV.nil HV.nil HV.nil HV.nil HV.nil HV.nil HV.nil HV.nil HV.nil HV.nil HV.nil HV.nil (f HV.nil)) (λc0 c1 c2 c3 c4 c5 c6 c7 c8 c9 c10 c11 c12 c13 c14 c15=>.nd c0 c1 c2 c3 c4 c5 c6 c7 c8 c9 c10 c11 c12 c13 c14 (f c15)) t) d f t
inductive H2 where
 |nil
 |nd (c0 c1 c2 c3 c4 c5 c6 c7 c8 c9 c10 c11 c12 c13 c14 c15:H1)
def H2.get(d:Dg)(t:H2):H1:=
 Dg.rec (motive:=λ_=>H2->H1)
  (λt=>H2.rec (motive:=λ_=>H1) H1.nil (λc0 _ _ _ _ _ _ _ _ _ _ _ _ _ _ _=>c0) t)
  (λt=>H2.rec (motive:=λ_=>H1) H1.nil (λ_ c1 _ _ _ _ _ _ _ _ _ _ _ _ _ _=>c1) t)
  (λt=>H2.rec (motive:=λ_=>H1) H1.nil (λ_ _ c2 _ _ _ _ _ _ _ _ _ _ _ _ _=>c2) t)
  (λt=>H2.rec (motive:=λ_=>H1) H1.nil (λ_ _ _ c3 _ _ _ _ _ _ _ _ _ _ _ _=>c3) t)
  (λt=>H2.rec (motive:=λ_=>H1) H1.nil (λ_ _ _ _ c4 _ _ _ _ _ _ _ _ _ _ _=>c4) t)
  (λt=>H2.rec (motive:=λ_=>H1) H1.nil (λ_ _ _ _ _ c5 _ _ _ _ _ _ _ _ _ _=>c5) t)
  (λt=>H2.rec (motive:=λ_=>H1) H1.nil (λ_ _ _ _ _ _ c6 _ _ _ _ _ _ _ _ _=>c6) t)
  (λt=>H2.rec (motive:=λ_=>H1) H1.nil (λ_ _ _ _ _ _ _ c7 _ _ _ _ _ _ _ _=>c7) t)
  (λt=>H2.rec (motive:=λ_=>H1) H1.nil (λ_ _ _ _ _ _ _ _ c8 _ _ _ _ _ _ _=>c8) t)
  (λt=>H2.rec (motive:=λ_=>H1) H1.nil (λ_ _ _ _ _ _ _ _ _ c9 _ _ _ _ _ _=>c9) t)
  (λt=>H2.rec (motive:=λ_=>H1) H1.nil (λ_ _ _ _ _ _ _ _ _ _ c10 _ _ _ _ _=>c10) t)
  (λt=>H2.rec (motive:=λ_=>H1) H1.nil (λ_ _ _ _ _ _ _ _ _ _ _ c11 _ _ _ _=>c11) t)
  (λt=>H2.rec (motive:=λ_=>H1) H1.nil (λ_ _ _ _ _ _ _ _ _ _ _ _ c12 _ _ _=>c12) t)
  (λt=>H2.rec (motive:=λ_=>H1) H1.nil (λ_ _ _ _ _ _ _ _ _ _ _ _ _ c13 _ _=>c13) t)
  (λt=>H2.rec (motive:=λ_=>H1) H1.nil (λ_ _ _ _ _ _ _ _ _ _ _ _ _ _ c14 _=>c14) t)
  (λt=>H2.rec (motive:=λ_=>H1) H1.nil (λ_ _ _ _ _ _ _ _ _ _ _ _ _ _ _ c15=>c15) t) d t
def H2.upd(f:H1->H1)(d:Dg)(t:H2):H2:=
 Dg.rec (motive:=λ_=>(H1->H1)->H2->H2)
  (λf t=>H2.rec (motive:=λ_=>H2) (.nd (f H1.nil) H1.nil H1.nil H1.nil H1.nil H1.nil H1.nil H1.nil H1.nil H1.nil H1.nil H1.nil H1.nil H1.nil H1.nil H1.nil) (λc0 c1 c2 c3 c4 c5 c6 c7 c8 c9 c10 c11 c12 c13 c14 c15=>.nd (f c0) c1 c2 c3 c4 c5 c6 c7 c8 c9 c10 c11 c12 c13 c14 c15) t)
  (λf t=>H2.rec (motive:=λ_=>H2) (.nd H1.nil (f H1.nil) H1.nil H1.nil H1.nil H1.nil H1.nil H1.nil H1.nil H1.nil H1.nil H1.nil H1.nil H1.nil H1.nil H1.nil) (λc0 c1 c2 c3 c4 c5 c6 c7 c8 c9 c10 c11 c12 c13 c14 c15=>.nd c0 (f c1) c2 c3 c4 c5 c6 c7 c8 c9 c10 c11 c12 c13 c14 c15) t)
  (λf t=>H2.rec (motive:=λ_=>H2) (.nd H1.nil H1.nil (f H1.nil) H1.nil H1.nil H1.nil H1.nil H1.nil H1.nil H1.nil H1.nil H1.nil H1.nil H1.nil H1.nil H1.nil) (λc0 c1 c2 c3 c4 c5 c6 c7 c8 c9 c10 c11 c12 c13 c14 c15=>.nd c0 c1 (f c2) c3 c4 c5 c6 c7 c8 c9 c10 c11 c12 c13 c14 c15) t)
  (λf t=>H2.rec (motive:=λ_=>H2) (.nd H1.nil H1.nil H1.nil (f H1.nil) H1.nil H1.nil H1.nil H1.nil H1.nil H1.nil H1.nil H1.nil H1.nil H1.nil H1.nil H1.nil) (λc0 c1 c2 c3 c4 c5 c6 c7 c8 c9 c10 c11 c12 c13 c14 c15=>.nd c0 c1 c2 (f c3) c4 c5 c6 c7 c8 c9 c10 c11 c12 c13 c14 c15) t)
  (λf t=>H2.rec (motive:=λ_=>H2) (.nd H1.nil H1.nil H1.nil H1.nil (f H1.nil) H1.nil H1.nil H1.nil H1.nil H1.nil H1.nil H1.nil H1.nil H1.nil H1.nil H1.nil) (λc0 c1 c2 c3 c4 c5 c6 c7 c8 c9 c10 c11 c12 c13 c14 c15=>.nd c0 c1 c2 c3 (f c4) c5 c6 c7 c8 c9 c10 c11 c12 c13 c14 c15) t)
  (λf t=>H2.rec (motive:=λ_=>H2) (.nd H1.nil H1.nil H1.nil H1.nil H1.nil (f H1.nil) H1.nil H1.nil H1.nil H1.nil H1.nil H1.nil H1.nil H1.nil H1.nil H1.nil) (λc0 c1 c2 c3 c4 c5 c6 c7 c8 c9 c10 c11 c12 c13 c14 c15=>.nd c0 c1 c2 c3 c4 (f c5) c6 c7 c8 c9 c10 c11 c12 c13 c14 c15) t)
  (λf t=>H2.rec (motive:=λ_=>H2) (.nd H1.nil H1.nil H1.nil H1.nil H1.nil H1.nil (f H1.nil) H1.nil H1.nil H1.nil H1.nil H1.nil H1.nil H1.nil H1.nil H1.nil) (λc0 c1 c2 c3 c4 c5 c6 c7 c8 c9 c10 c11 c12 c13 c14 c15=>.nd c0 c1 c2 c3 c4 c5 (f c6) c7 c8 c9 c10 c11 c12 c13 c14 c15) t)
  (λf t=>H2.rec (motive:=λ_=>H2) (.nd H1.nil H1.nil H1.nil H1.nil H1.nil H1.nil H1.nil (f H1.nil) H1.nil H1.nil H1.nil H1.nil H1.nil H1.nil H1.nil H1.nil) (λc0 c1 c2 c3 c4 c5 c6 c7 c8 c9 c10 c11 c12 c13 c14 c15=>.nd c0 c1 c2 c3 c4 c5 c6 (f c7) c8 c9 c10 c11 c12 c13 c14 c15) t)
  (λf t=>H2.rec (motive:=λ_=>H2) (.nd H1.nil H1.nil H1.nil H1.nil H1.nil H1.nil H1.nil H1.nil (f H1.nil) H1.nil H1.nil H1.nil H1.nil H1.nil H1.nil H1.nil) (λc0 c1 c2 c3 c4 c5 c6 c7 c8 c9 c10 c11 c12 c13 c14 c15=>.nd c0 c1 c2 c3 c4 c5 c6 c7 (f c8) c9 c10 c11 c12 c13 c14 c15) t)
  (λf t=>H2.rec (motive:=λ_=>H2) (.nd H1.nil H1.nil H1.nil H1.nil H1.nil H1.nil H1.nil H1.nil H1.nil (f H1.nil) H1.nil H1.nil H1.nil H1.nil H1.nil H1.nil) (λc0 c1 c2 c3 c4 c5 c6 c7 c8 c9 c10 c11 c12 c13 c14 c15=>.nd c0 c1 c2 c3 c4 c5 c6 c7 c8 (f c9) c10 c11 c12 c13 c14 c15) t)
  (λf t=>H2.rec (motive:=λ_=>H2) (.nd H1.nil H1.nil H1.nil H1.nil H1.nil H1.nil H1.nil H1.nil H1.nil H1.nil (f H1.nil) H1.nil H1.nil H1.nil H1.nil H1.nil) (λc0 c1 c2 c3 c4 c5 c6 c7 c8 c9 c10 c11 c12 c13 c14 c15=>.nd c0 c1 c2 c3 c4 c5 c6 c7 c8 c9 (f c10) c11 c12 c13 c14 c15) t)
  (λf t=>H2.rec (motive:=λ_=>H2) (.nd H1.nil H1.nil H1.nil H1.nil H1.nil H1.nil H1.nil H1.nil H1.nil H1.nil H1.nil (f H1.nil) H1.nil H1.nil H1.nil H1.nil) (λc0 c1 c2 c3 c4 c5 c6 c7 c8 c9 c10 c11 c12 c13 c14 c15=>.nd c0 c1 c2 c3 c4 c5 c6 c7 c8 c9 c10 (f c11) c12 c13 c14 c15) t)
  (λf t=>H2.rec (motive:=λ_=>H2) (.nd H1.nil H1.nil H1.nil H1.nil H1.nil H1.nil H1.nil H1.nil H1.nil H1.nil H1.nil H1.nil (f H1.nil) H1.nil H1.nil H1.nil) (λc0 c1 c2 c3 c4 c5 c6 c7 c8 c9 c10 c11 c12 c13 c14 c15=>.nd c0 c1 c2 c3 c4 c5 c6 c7 c8 c9 c10 c11 (f c12) c13 c14 c15) t)
  (λf t=>H2.rec (motive:=λ_=>H2) (.nd H1.nil H1.nil H1.nil H1.nil H1.nil H1.nil H1.nil H1.nil H1.nil H1.nil H1.nil H1.nil H1.nil (f H1.nil) H1.nil H1.nil) (λc0 c1 c2 c3 c4 c5 c6 c7 c8 c9 c10 c11 c12 c13 c14 c15=>.nd c0 c1 c2 c3 c4 c5 c6 c7 c8 c9 c10 c11 c12 (f c13) c14 c15) t)
  (λf t=>H2.rec (motive:=λ_=>H2) (.nd H1.nil H1.nil H1.nil H1.nil H1.nil H1.nil H1.nil H1.nil H1.nil H1.nil H1.nil H1.nil H1.nil H1.nil (f H1.nil) H1.nil) (λc0 c1 c2 c3 c4 c5 c6 c7 c8 c9 c10 c11 c12 c13 c14 c15=>.nd c0 c1 c2 c3 c4 c5 c6 c7 c8 c9 c10 c11 c12 c13 (f c14) c15) t)
  (λf t=>H2.rec (motive:=λ_=>H2) (.nd H1.nil H1.nil H1.nil H1.nil H1.nil H1.nil H1.nil H1.nil H1.nil H1.nil H1.nil H1.nil H1.nil H1.nil H1.nil (f H1.nil)) (λc0 c1 c2 c3 c4 c5 c6 c7 c8 c9 c10 c11 c12 c13 c14 c15=>.nd c0 c1 c2 c3 c4 c5 c6 c7 c8 c9 c10 c11 c12 c13 c14 (f c15)) t) d f t
inductive H3 where
 |nil
 |nd (c0 c1 c2 c3 c4 c5 c6 c7 c8 c9 c10 c11 c12 c13 c14 c15:H2)
def H3.get(d:Dg)(t:H3):H2:=
 Dg.rec (motive:=λ_=>H3->H2)
  (λt=>H3.rec (motive:=λ_=>H2) H2.nil (λc0 _ _ _ _ _ _ _ _ _ _ _ _ _ _ _=>c0) t)
  (λt=>H3.rec (motive:=λ_=>H2) H2.nil (λ_ c1 _ _ _ _ _ _ _ _ _ _ _ _ _ _=>c1) t)
  (λt=>H3.rec (motive:=λ_=>H2) H2.nil (λ_ _ c2 _ _ _ _ _ _ _ _ _ _ _ _ _=>c2) t)
  (λt=>H3.rec (motive:=λ_=>H2) H2.nil (λ_ _ _ c3 _ _ _ _ _ _ _ _ _ _ _ _=>c3) t)
  (λt=>H3.rec (motive:=λ_=>H2) H2.nil (λ_ _ _ _ c4 _ _ _ _ _ _ _ _ _ _ _=>c4) t)
  (λt=>H3.rec (motive:=λ_=>H2) H2.nil (λ_ _ _ _ _ c5 _ _ _ _ _ _ _ _ _ _=>c5) t)
  (λt=>H3.rec (motive:=λ_=>H2) H2.nil (λ_ _ _ _ _ _ c6 _ _ _ _ _ _ _ _ _=>c6) t)
  (λt=>H3.rec (motive:=λ_=>H2) H2.nil (λ_ _ _ _ _ _ _ c7 _ _ _ _ _ _ _ _=>c7) t)
  (λt=>H3.rec (motive:=λ_=>H2) H2.nil (λ_ _ _ _ _ _ _ _ c8 _ _ _ _ _ _ _=>c8) t)
  (λt=>H3.rec (motive:=λ_=>H2) H2.nil (λ_ _ _ _ _ _ _ _ _ c9 _ _ _ _ _ _=>c9) t)
  (λt=>H3.rec (motive:=λ_=>H2) H2.nil (λ_ _ _ _ _ _ _ _ _ _ c10 _ _ _ _ _=>c10) t)
  (λt=>H3.rec (motive:=λ_=>H2) H2.nil (λ_ _ _ _ _ _ _ _ _ _ _ c11 _ _ _ _=>c11) t)
  (λt=>H3.rec (motive:=λ_=>H2) H2.nil (λ_ _ _ _ _ _ _ _ _ _ _ _ c12 _ _ _=>c12) t)
  (λt=>H3.rec (motive:=λ_=>H2) H2.nil (λ_ _ _ _ _ _ _ _ _ _ _ _ _ c13 _ _=>c13) t)
  (λt=>H3.rec (motive:=λ_=>H2) H2.nil (λ_ _ _ _ _ _ _ _ _ _ _ _ _ _ c14 _=>c14) t)
  (λt=>H3.rec (motive:=λ_=>H2) H2.nil (λ_ _ _ _ _ _ _ _ _ _ _ _ _ _ _ c15=>c15) t) d t
def H3.upd(f:H2->H2)(d:Dg)(t:H3):H3:=
 Dg.rec (motive:=λ_=>(H2->H2)->H3->H3)
  (λf t=>H3.rec (motive:=λ_=>H3) (.nd (f H2.nil) H2.nil H2.nil H2.nil H2.nil H2.nil H2.nil H2.nil H2.nil H2.nil H2.nil H2.nil H2.nil H2.nil H2.nil H2.nil) (λc0 c1 c2 c3 c4 c5 c6 c7 c8 c9 c10 c11 c12 c13 c14 c15=>.nd (f c0) c1 c2 c3 c4 c5 c6 c7 c8 c9 c10 c11 c12 c13 c14 c15) t)
  (λf t=>H3.rec (motive:=λ_=>H3) (.nd H2.nil (f H2.nil) H2.nil H2.nil H2.nil H2.nil H2.nil H2.nil H2.nil H2.nil H2.nil H2.nil H2.nil H2.nil H2.nil H2.nil) (λc0 c1 c2 c3 c4 c5 c6 c7 c8 c9 c10 c11 c12 c13 c14 c15=>.nd c0 (f c1) c2 c3 c4 c5 c6 c7 c8 c9 c10 c11 c12 c13 c14 c15) t)
  (λf t=>H3.rec (motive:=λ_=>H3) (.nd H2.nil H2.nil (f H2.nil) H2.nil H2.nil H2.nil H2.nil H2.nil H2.nil H2.nil H2.nil H2.nil H2.nil H2.nil H2.nil H2.nil) (λc0 c1 c2 c3 c4 c5 c6 c7 c8 c9 c10 c11 c12 c13 c14 c15=>.nd c0 c1 (f c2) c3 c4 c5 c6 c7 c8 c9 c10 c11 c12 c13 c14 c15) t)
  (λf t=>H3.rec (motive:=λ_=>H3) (.nd H2.nil H2.nil H2.nil (f H2.nil) H2.nil H2.nil H2.nil H2.nil H2.nil H2.nil H2.nil H2.nil H2.nil H2.nil H2.nil H2.nil) (λc0 c1 c2 c3 c4 c5 c6 c7 c8 c9 c10 c11 c12 c13 c14 c15=>.nd c0 c1 c2 (f c3) c4 c5 c6 c7 c8 c9 c10 c11 c12 c13 c14 c15) t)
  (λf t=>H3.rec (motive:=λ_=>H3) (.nd H2.nil H2.nil H2.nil H2.nil (f H2.nil) H2.nil H2.nil H2.nil H2.nil H2.nil H2.nil H2.nil H2.nil H2.nil H2.nil H2.nil) (λc0 c1 c2 c3 c4 c5 c6 c7 c8 c9 c10 c11 c12 c13 c14 c15=>.nd c0 c1 c2 c3 (f c4) c5 c6 c7 c8 c9 c10 c11 c12 c13 c14 c15) t)
  (λf t=>H3.rec (motive:=λ_=>H3) (.nd H2.nil H2.nil H2.nil H2.nil H2.nil (f H2.nil) H2.nil H2.nil H2.nil H2.nil H2.nil H2.nil H2.nil H2.nil H2.nil H2.nil) (λc0 c1 c2 c3 c4 c5 c6 c7 c8 c9 c10 c11 c12 c13 c14 c15=>.nd c0 c1 c2 c3 c4 (f c5) c6 c7 c8 c9 c10 c11 c12 c13 c14 c15) t)
  (λf t=>H3.rec (motive:=λ_=>H3) (.nd H2.nil H2.nil H2.nil H2.nil H2.nil H2.nil (f H2.nil) H2.nil H2.nil H2.nil H2.nil H2.nil H2.nil H2.nil H2.nil H2.nil) (λc0 c1 c2 c3 c4 c5 c6 c7 c8 c9 c10 c11 c12 c13 c14 c15=>.nd c0 c1 c2 c3 c4 c5 (f c6) c7 c8 c9 c10 c11 c12 c13 c14 c15) t)
  (λf t=>H3.rec (motive:=λ_=>H3) (.nd H2.nil H2.nil H2.nil H2.nil H2.nil H2.nil H2.nil (f H2.nil) H2.nil H2.nil H2.nil H2.nil H2.nil H2.nil H2.nil H2.nil) (λc0 c1 c2 c3 c4 c5 c6 c7 c8 c9 c10 c11 c12 c13 c14 c15=>.nd c0 c1 c2 c3 c4 c5 c6 (f c7) c8 c9 c10 c11 c12 c13 c14 c15) t)
  (λf t=>H3.rec (motive:=λ_=>H3) (.nd H2.nil H2.nil H2.nil H2.nil H2.nil H2.nil H2.nil H2.nil (f H2.nil) H2.nil H2.nil H2.nil H2.nil H2.nil H2.nil H2.nil) (λc0 c1 c2 c3 c4 c5 c6 c7 c8 c9 c10 c11 c12 c13 c14 c15=>.nd c0 c1 c2 c3 c4 c5 c6 c7 (f c8) c9 c10 c11 c12 c13 c14 c15) t)
  (λf t=>H3.rec (motive:=λ_=>H3) (.nd H2.nil H2.nil H2.nil H2.nil H2.nil H2.nil H2.nil H2.nil H2.nil (f H2.nil) H2.nil H2.nil H2.nil H2.nil H2.nil H2.nil) (λc0 c1 c2 c3 c4 c5 c6 c7 c8 c9 c10 c11 c12 c13 c14 c15=>.nd c0 c1 c2 c3 c4 c5 c6 c7 c8 (f c9) c10 c11 c12 c13 c14 c15) t)
  (λf t=>H3.rec (motive:=λ_=>H3) (.nd H2.nil H2.nil H2.nil H2.nil H2.nil H2.nil H2.nil H2.nil H2.nil H2.nil (f H2.nil) H2.nil H2.nil H2.nil H2.nil H2.nil) (λc0 c1 c2 c3 c4 c5 c6 c7 c8 c9 c10 c11 c12 c13 c14 c15=>.nd c0 c1 c2 c3 c4 c5 c6 c7 c8 c9 (f c10) c11 c12 c13 c14 c15) t)
  (λf t=>H3.rec (motive:=λ_=>H3) (.nd H2.nil H2.nil H2.nil H2.nil H2.nil H2.nil H2.nil H2.nil H2.nil H2.nil H2.nil (f H2.nil) H2.nil H2.nil H2.nil H2.nil) (λc0 c1 c2 c3 c4 c5 c6 c7 c8 c9 c10 c11 c12 c13 c14 c15=>.nd c0 c1 c2 c3 c4 c5 c6 c7 c8 c9 c10 (f c11) c12 c13 c14 c15) t)
  (λf t=>H3.rec (motive:=λ_=>H3) (.nd H2.nil H2.nil H2.nil H2.nil H2.nil H2.nil H2.nil H2.nil H2.nil H2.nil H2.nil H2.nil (f H2.nil) H2.nil H2.nil H2.nil) (λc0 c1 c2 c3 c4 c5 c6 c7 c8 c9 c10 c11 c12 c13 c14 c15=>.nd c0 c1 c2 c3 c4 c5 c6 c7 c8 c9 c10 c11 (f c12) c13 c14 c15) t)
  (λf t=>H3.rec (motive:=λ_=>H3) (.nd H2.nil H2.nil H2.nil H2.nil H2.nil H2.nil H2.nil H2.nil H2.nil H2.nil H2.nil H2.nil H2.nil (f H2.nil) H2.nil H2.nil) (λc0 c1 c2 c3 c4 c5 c6 c7 c8 c9 c10 c11 c12 c13 c14 c15=>.nd c0 c1 c2 c3 c4 c5 c6 c7 c8 c9 c10 c11 c12 (f c13) c14 c15) t)
  (λf t=>H3.rec (motive:=λ_=>H3) (.nd H2.nil H2.nil H2.nil H2.nil H2.nil H2.nil H2.nil H2.nil H2.nil H2.nil H2.nil H2.nil H2.nil H2.nil (f H2.nil) H2.nil) (λc0 c1 c2 c3 c4 c5 c6 c7 c8 c9 c10 c11 c12 c13 c14 c15=>.nd c0 c1 c2 c3 c4 c5 c6 c7 c8 c9 c10 c11 c12 c13 (f c14) c15) t)
  (λf t=>H3.rec (motive:=λ_=>H3) (.nd H2.nil H2.nil H2.nil H2.nil H2.nil H2.nil H2.nil H2.nil H2.nil H2.nil H2.nil H2.nil H2.nil H2.nil H2.nil (f H2.nil)) (λc0 c1 c2 c3 c4 c5 c6 c7 c8 c9 c10 c11 c12 c13 c14 c15=>.nd c0 c1 c2 c3 c4 c5 c6 c7 c8 c9 c10 c11 c12 c13 c14 (f c15)) t) d f t
end
inductive Tm where
 |mk (s:LV) (w:L1)
def Tm.nil:Tm:=.mk .nil .nil
abbrev zC:=H3
noncomputable section
def qC(p:Loc)(t:Tm):CV:=
 Loc.rec (motive:=λ_=>Tm->CV) (λd t=>Tm.rec (motive:=λ_=>CV) (λs _=>LV.get d s) t) (λc d t=>Tm.rec (motive:=λ_=>CV) (λ_ w=>LV.get d (L1.get c w)) t) p t
def wP(v:CV)(p:Loc)(t:Tm):Tm:=
 Loc.rec (motive:=λ_=>CV->Tm->Tm) (λd v t=>Tm.rec (motive:=λ_=>Tm) (λs w=>.mk (LV.upd (λ_=>v) d s) w) t)
  (λc d v t=>Tm.rec (motive:=λ_=>Tm) (λs w=>.mk s (L1.upd (LV.upd (λ_=>v) d) c w)) t) p v t
def zb(k:Key)(h:zC):Option CObj:=Key.rec (motive:=λ_=>zC->Option CObj) (λa b c d t=>((H3.get a t |>.get b).get c).get d) k h
def yy(o:Option CObj)(k:Key)(h:zC):zC:=
 Key.rec (motive:=λ_=>Option CObj->zC->zC) (λa b c d o h=>H3.upd (H2.upd (H1.upd (HV.upd (λ_=>o) d) c) b) a h) k o h
end
def xH{α β:Type}(f:α->Option β):List α->Option (List β)
 | []=>some []|x::xs=>match f x with
  |none=>none|some y=>match xH f xs with
   |none=>none|some ys=>some (y::ys)
def zy(s:ByteArray):List Nat:=s.data.toList.map UInt8.toNat
def zAS:Nat->Value->Option CV
 | 0,_=>none|d+1,v=>match v with
  |.bool b=>some (.bool b)|.int k n=>some (match k,n with |.i64,.ofNat m=>.nat m |k,n=>.int k n)|.string s=>some (.str (zy s))|.pointer none=>some .nilptr|.slice none 0 0=>some .nilsl|.map none=>some .nilmap|.nilFunc=>some .nilfunc|.func fn a b=>if a.size=0/\b.size=0 then some (.func fn [] [])else none|.nilIface=>some .niliface|.iface t v=>(zAS d v).map (.iface t)|.agg cs=>(xH (zAS d) cs.toList).map .agg|.tuple cs=>(xH (zAS d) cs.toList).map .tup|_=>none
def CV.cells:CV->List CV
 |.agg cs=>cs|v=>[v]
def CV.single:CV->Bool
 |.agg _=>false|.tup _=>false|.any=>false|_=>true
noncomputable section
def xk(l:List CV):Bool:=List.rec (motive:=λ_=>Bool) true (λv _ ih=>Bool.rec (motive:=λ_=>Bool) false ih v.single) l
def um(l:List CV):Nat:=List.rec (motive:=λ_=>Nat) 0 (λ_ _ ih=>Nat.succ ih) l
def zDF(l:List Nat):Nat:=List.rec (motive:=λ_=>Nat) 0 (λ_ _ ih=>Nat.succ ih) l
def zRo(l:List CE):Nat:=List.rec (motive:=λ_=>Nat) 0 (λ_ _ ih=>Nat.succ ih) l
end
def nth{α:Type}:List α->Nat->Option α
 | [],_=>none|x::_,0=>some x|_::xs,k+1=>nth xs k
noncomputable section
def zA6(l:List CV)(k:Nat):Option CV:=
 List.rec (motive:=λ_=>Nat->Option CV) (λ_=>none) (λx _ ih k=>Nat.rec (motive:=λ_=>Option CV) (some x) (λk _=>ih k) k) l k
def zXb(l:List Nat)(k:Nat):Option Nat:=
 List.rec (motive:=λ_=>Nat->Option Nat) (λ_=>none) (λx _ ih k=>Nat.rec (motive:=λ_=>Option Nat) (some x) (λk _=>ih k) k) l k
def zPi(l:List CV)(k:Nat):List CV:=
 List.rec (motive:=λ_=>Nat->List CV) (λ_=>[]) (λx xs ih k=>Nat.rec (motive:=λ_=>List CV) (x::xs) (λk _=>ih k) k) l k
def zPX(l:List Nat)(k:Nat):List Nat:=
 List.rec (motive:=λ_=>Nat->List Nat) (λ_=>[]) (λx xs ih k=>Nat.rec (motive:=λ_=>List Nat) (x::xs) (λk _=>ih k) k) l k
def zJA(x:CV)(r:Option (List CV)):Option (List CV):=Option.rec (motive:=λ_=>CV->Option (List CV)) (λ_=>none) (λl x=>some (x::l)) r x
def zPE(x:Nat)(r:Option (List Nat)):Option (List Nat):=Option.rec (motive:=λ_=>Nat->Option (List Nat)) (λ_=>none) (λl x=>some (x::l)) r x
def zME(l:List CV)(k:Nat):Option (List CV):=
 List.rec (motive:=λ_=>Nat->Option (List CV)) (λk=>Nat.rec (motive:=λ_=>Option (List CV)) (some []) (λ_ _=>none) k)
  (λx _ ih k=>Nat.rec (motive:=λ_=>Option (List CV)) (some []) (λk _=>zJA x (ih k)) k) l k
def zMi(l:List Nat)(k:Nat):Option (List Nat):=
 List.rec (motive:=λ_=>Nat->Option (List Nat)) (λk=>Nat.rec (motive:=λ_=>Option (List Nat)) (some []) (λ_ _=>none) k)
  (λx _ ih k=>Nat.rec (motive:=λ_=>Option (List Nat)) (some []) (λk _=>zPE x (ih k)) k) l k
def zAY(l:List CV)(off n:Nat):Option (List CV):=zME (zPi l off) n
def zXu(l:List Nat)(off n:Nat):Option (List Nat):=zMi (zPX l off) n
def zFt(xs:List CV)(s:Nat)(l:List CV):Option (List CV):=
 List.rec (motive:=λ_=>Nat->List CV->Option (List CV)) (λs l=>Nat.rec (motive:=λ_=>Option (List CV)) (some l) (λ_ _=>none) s)
  (λx _ ih s l=>Nat.rec (motive:=λ_=>Option (List CV)) none (λs _=>List.rec (motive:=λ_=>Option (List CV)) none (λ_ l _=>zJA x (ih s l)) l) s) xs s l
def jv(xs:List CV)(s:Nat)(l:List CV)(k:Nat):Option (List CV):=
 List.rec (motive:=λ_=>Nat->List CV->Nat->Option (List CV)) (λk xs s=>Nat.rec (motive:=λ_=>Option (List CV)) (zFt xs s []) (λ_ _=>none) k)
  (λy l ih k xs s=>Nat.rec (motive:=λ_=>Option (List CV)) (zFt xs s (y::l)) (λk _=>zJA y (ih k xs s)) k) l k xs s
end
def wW(x:List CV):Nat->List CV
 | 0=>[]
 |n+1=>x++wW x n
noncomputable section
def uf{β:Type}(n:Nat)(k:Nat->β):β:=Nat.rec (motive:=λ_=>(Nat->β)->β) (λk=>k 0) (λm _ k=>k (Nat.succ m)) n k
def kM(n:Nat):CV:=Nat.rec (motive:=λ_=>CV) (.nat 0) (λm _=>.nat (Nat.succ m)) n
def j6(k:IntKind)(n:Nat):CV:=IntKind.rec (motive:=λ_=>Nat->CV) (λn=>.int .i8 (.ofNat n)) (λn=>.int .i16 (.ofNat n)) (λn=>.int .i32 (.ofNat n)) kM
 (λn=>.int .u8 (.ofNat n)) (λn=>.int .u16 (.ofNat n)) (λn=>.int .u32 (.ofNat n)) (λn=>.int .u64 (.ofNat n)) k n
def mkInt(k:IntKind)(n:Int):CV:=
 Int.rec (motive:=λ_=>IntKind->CV) (λm k=>Nat.rec (motive:=λ_=>CV) (j6 k 0) (λm _=>j6 k (Nat.succ m)) m)
  (λm k=>Nat.rec (motive:=λ_=>CV) (.int k (.negSucc 0)) (λm _=>.int k (.negSucc (Nat.succ m))) m) n k
def kNo(k:IntKind):Nat:=IntKind.rec (motive:=λ_=>Nat) 0 1 2 3 4 5 6 7 k
def kEq(j k:IntKind):Bool:=Nat.beq (kNo j) (kNo k)
def zQn(n:Int):Int:=
 Int.rec (motive:=λ_=>Int) (λm=>Bool.rec (motive:=λ_=>Int) (IntKind.i64.wrap (.ofNat m)) (.ofNat m) (Nat.ble m 9223372036854775807))
  (λm=>Bool.rec (motive:=λ_=>Int) (IntKind.i64.wrap (.negSucc m)) (.negSucc m) (Nat.ble m 9223372036854775807)) n
def zXx(n:Int):Int:=Int.rec (motive:=λ_=>Int) (λm=>.ofNat (Nat.mod m 256)) (λm=>IntKind.u8.wrap (.negSucc m)) n
def yz(k:IntKind)(n:Int):Int:=
 IntKind.rec (motive:=λ_=>Int->Int) IntKind.i8.wrap IntKind.i16.wrap IntKind.i32.wrap zQn zXx IntKind.u16.wrap IntKind.u32.wrap IntKind.u64.wrap k n
def zm(a b:Int):Bool:=
 Int.rec (motive:=λ_=>Int->Bool) (λa b=>Int.rec (motive:=λ_=>Bool) (λb=>Nat.beq a b) (λ_=>false) b)
  (λa b=>Int.rec (motive:=λ_=>Bool) (λ_=>false) (λb=>Nat.beq a b) b) a b
def vL(a b:Int):Bool:=
 Int.rec (motive:=λ_=>Int->Bool) (λa b=>Int.rec (motive:=λ_=>Bool) (λb=>Nat.ble (Nat.succ a) b) (λ_=>false) b)
  (λa b=>Int.rec (motive:=λ_=>Bool) (λ_=>true) (λb=>Nat.ble (Nat.succ b) a) b) a b
def toU(k:IntKind)(n:Int):Nat:=match n with
 |.ofNat m=>Nat.mod m (Nat.pow 2 k.bits)|.negSucc m=>Nat.sub (Nat.sub (Nat.pow 2 k.bits) 1) (Nat.mod m (Nat.pow 2 k.bits))
def zBk(b:Bool):Bool:=Bool.rec (motive:=λ_=>Bool) true false b
abbrev AOp:=IntKind->Int->Int->Option CV
def zZj:AOp:=λk a b=>some (mkInt k (yz k (Int.add a b)))
def zZp:AOp:=λk a b=>some (mkInt k (yz k (Int.sub a b)))
def zZe:AOp:=λk a b=>some (mkInt k (yz k (Int.mul a b)))
def zY5:AOp:=λk a b=>Bool.rec (motive:=λ_=>Option CV) (some (mkInt k (yz k (a.tdiv b)))) none (zm b (.ofNat 0))
def zZf:AOp:=λk a b=>Bool.rec (motive:=λ_=>Option CV) (some (mkInt k (a.tmod b))) none (zm b (.ofNat 0))
def zYY:AOp:=λk a b=>some (mkInt k (yz k (.ofNat (Nat.land (toU k a) (toU k b)))))
def aOr:AOp:=λk a b=>some (mkInt k (yz k (.ofNat (Nat.lor (toU k a) (toU k b)))))
def zXd:AOp:=λk a b=>some (mkInt k (yz k (.ofNat (Nat.xor (toU k a) (toU k b)))))
def zWv:AOp:=λk a b=>some (mkInt k (yz k (.ofNat (Nat.land (toU k a) (Nat.sub (Nat.sub (Nat.pow 2 k.bits) 1) (toU k b))))))
def zZq:AOp:=λ_ a b=>some (.bool (zm a b))
def zZt:AOp:=λ_ a b=>some (.bool (zBk (zm a b)))
def zYW:AOp:=λ_ a b=>some (.bool (vL a b))
def zYT:AOp:=λ_ a b=>some (.bool (zBk (vL b a)))
def zYM:AOp:=λ_ a b=>some (.bool (vL b a))
def zZo:AOp:=λ_ a b=>some (.bool (zBk (vL a b)))
def zYV:AOp:=λk a b=>match b with
 |.ofNat m=>some (mkInt k (yz k (Int.mul a (.ofNat (Nat.pow 2 (min m k.bits))))))|.negSucc _=>none
def zY2:AOp:=λk a b=>match b with
 |.ofNat m=>match a with
  |.ofNat a=>some (j6 k (Nat.div a (Nat.pow 2 (min m k.bits))))|.negSucc a=>some (mkInt k ((Int.negSucc a).fdiv (.ofNat (Nat.pow 2 (min m k.bits)))))
 |.negSucc _=>none
def yR(op:BinOp):AOp:=
 BinOp.rec (motive:=λ_=>AOp) zZj zZp zZe zY5 zZf zYY aOr zXd zYV zY2 zWv zZq zZt zYW zYT zYM zZo op
def xD(op:BinOp):Bool:=match op with
 |.shl=>true|.shr=>true|_=>false
abbrev NOp:=Nat->Nat->Option CV
def okN(n:Nat):Option CV:=Bool.rec (motive:=λ_=>Option CV) none (some (kM n)) (Nat.ble n 9223372036854775807)
def zZm:NOp:=λa b=>okN (Nat.add a b)
def zY8:NOp:=λa b=>Bool.rec (motive:=λ_=>Option CV) none (Bool.rec (motive:=λ_=>Option CV) none (some (kM (Nat.sub a b))) (Nat.ble a 9223372036854775807)) (Nat.ble b a)
def zZr:NOp:=λa b=>okN (Nat.mul a b)
def nNo:NOp:=λ_ _=>none
def zYU:NOp:=λa b=>Bool.rec (motive:=λ_=>Option CV) none (Bool.rec (motive:=λ_=>Option CV) none (some (kM (Nat.land a b))) (Nat.ble b 9223372036854775807)) (Nat.ble a 9223372036854775807)
def zYQ:NOp:=λa b=>some (.bool (Nat.beq a b))
def zZa:NOp:=λa b=>some (.bool (zBk (Nat.beq a b)))
def zYO:NOp:=λa b=>some (.bool (Nat.ble (Nat.succ a) b))
def zZl:NOp:=λa b=>some (.bool (Nat.ble a b))
def zYN:NOp:=λa b=>some (.bool (Nat.ble (Nat.succ b) a))
def zZg:NOp:=λa b=>some (.bool (Nat.ble b a))
def zIJ(op:BinOp):NOp:=BinOp.rec (motive:=λ_=>NOp) zZm zY8 zZr nNo nNo zYU nNo nNo nNo nNo nNo zYQ zZa zYO zZl zYN zZg op
def zBn(a b:List Nat):Bool:=
 List.rec (motive:=λ_=>List Nat->Bool) (λb=>List.rec (motive:=λ_=>Bool) false (λ_ _ _=>true) b)
  (λx _ ih b=>List.rec (motive:=λ_=>Bool) false (λy r _=>Bool.rec (motive:=λ_=>Bool) (Bool.rec (motive:=λ_=>Bool) false (ih r) (Nat.beq x y)) true (Nat.ble (Nat.succ x) y)) b) a b
def qY(a b:List Nat):Bool:=
 List.rec (motive:=λ_=>List Nat->Bool) (λb=>List.rec (motive:=λ_=>Bool) true (λ_ _ _=>false) b)
  (λx _ ih b=>List.rec (motive:=λ_=>Bool) false (λy r _=>Bool.rec (motive:=λ_=>Bool) false (ih r) (Nat.beq x y)) b) a b
def zXR(a b:List Nat):List Nat:=List.rec (motive:=λ_=>List Nat) b (λx _ ih=>x::ih) a
def zEg(a b:List CV):List CV:=List.rec (motive:=λ_=>List CV) b (λx _ ih=>x::ih) a
abbrev SOp:=List Nat->List Nat->Option CV
def zZb:SOp:=λa b=>Bool.rec (motive:=λ_=>Option CV) none (some (.str (zXR a b))) (Nat.ble (Nat.add (zDF a) (zDF b)) 1000000)
def zZx:SOp:=λa b=>some (.bool (qY a b))
def zY7:SOp:=λa b=>some (.bool (zBk (qY a b)))
def zYL:SOp:=λa b=>some (.bool (zBn a b))
def zY0:SOp:=λa b=>some (.bool (zBn a b || qY a b))
def zY4:SOp:=λa b=>some (.bool (zBk (zBn a b || qY a b)))
def zZi:SOp:=λa b=>some (.bool (zBk (zBn a b)))
def zH9:SOp:=λ_ _=>none
def zUQ(op:BinOp):SOp:=BinOp.rec (motive:=λ_=>SOp) zZb zH9 zH9 zH9 zH9 zH9 zH9 zH9 zH9 zH9 zH9 zZx zY7 zYL zY0 zY4 zZi op
end
inductive zY where
 |e (i:Nat)
 |l (p:Loc)
 |k (v:CV)
structure zKf where
 off:Nat
 size:Nat
 arg:zY
inductive EqK where
 |bool |pointer |iface |slice |map |func |int |str
 |struct (fs:List (Nat × EqK))
inductive kW where
 |int |str |bool
 |ints (n:Nat)
inductive Ext where
 |count |indexByte |index |mapsClone |overlaps |cmp
inductive COp where
 |mv (x:zY)
 |pick (c a b:zY)
 |alloc (cs:List CV)
 |box (x:zY)
 |build (zero:List CV) (ps:List zKf)
 |bslice (zero:List CV) (len esz:Nat) (ps:List zKf)
 |load1 (x:zY)
 |loadN (s:Nat) (x:zY)
 |store (s:Nat) (a x:zY)
 |nilck (x:zY)
 |arith (op:BinOp) (x y:zY)
 |eq (neg:Bool) (k:EqK) (cst:Bool) (x y:zY)
 |un (op:UnOp) (x:zY)
 |cvInt (k:IntKind) (x:zY)
 |cvStr (x:zY)
 |cvSB (x:zY)
 |cvMark (x:zY)
 |cvBS (x:zY)
 |iface (t:TypeId) (x:zY)
 |mkfn (fn:Fn) (first captured:List zY)
 |mkmap
 |mkslice (zero:List CV) (esz bytes:Nat) (l c:zY)
 |slArr (len esz:Nat) (x:zY) (lo hi mx:Option zY)
 |slSl (esz:Nat) (x:zY) (lo hi mx:Option zY)
 |slStr (x:zY) (lo hi:Option zY)
 |addOff (k:Nat) (x:zY)
 |part (agg:Bool) (off size:Nat) (x:zY)
 |ixArr (len esz:Nat) (x i:zY)
 |ixSl (esz:Nat) (x i:zY)
 |ixAgg (len esz:Nat) (agg:Bool) (x i:zY)
 |ixStr (x i:zY)
 |lookup (kk:kW) (z:CV) (ok:Bool) (x k:zY)
 |mapupd (kk:kW) (m k v:zY)
 |rangeStr (x:zY)
 |rangeMap (x:zY)
 |next (s:Bool) (x:zY)
 |entry (x:zY)
 |tassert (t:TypeId) (z:Option CV) (ok:Bool) (x:zY)
 |tiface (t:TypeId) (z:Option CV) (ok:Bool) (x:zY)
 |extract (i:Nat) (x:zY)
 |call (f:FuncId) (args:List zY)
 |ext (e:Ext) (args:List zY)
 |callv (f:zY) (args:List zY)
 |invoke (recv:zY) (name:String) (args:List zY)
 |append (esz bytes:Nat) (s x:zY)
 |appz (zero:List CV) (esz:Nat) (s x:zY)
 |copy (esz:Nat) (d x:zY)
 |lenStr (x:zY)
 |lenSl (x:zY)
 |lenMap (x:zY)
 |capSl (x:zY)
 |delete (kk:kW) (m k:zY)
 |clearMap (x:zY)
 |clearSl (zero:List CV) (esz:Nat) (x:zY)
 |minmax (mx:Bool) (x:zY) (r:List zY)
 |defer (f:zY) (args:List zY)
 |recov
 |bad (c:Nat)
inductive jD where
 |i (op:COp)
 |o (op:COp) (d:Loc)
 |g (x:zY) (w:Bool) (op:COp) (d:Option Loc)
structure zRM where
 ins:jD
 eff:Bool
 chk:Nat
inductive CCode where
 |skip
 |region (ops:List jD)
 |dregion (ops:List zRM)
 |seq (a b:CCode)
 |cond (x:zY) (a b:CCode)
 |block (id:Nat) (b:CCode)
 |loop (b:CCode)
 |exit (id:Nat)
 |ret
 |scope (b:CCode)
 |bad (c:Nat)
inductive CRes where
 |tmp (p:zY)
 |cell1 (p:zY)
 |cellN (p:zY) (s:Nat)
inductive CFn where
 |mk (body:CCode) (res:List CRes)
 |mkD (ops:List jD) (body:CCode) (res:List CRes)
 |ext (e:Ext)
 |bad (c:Nat)
section
variable(P:Program)
def und(t:TypeId):Option TypeDesc:=P.underlying t
def qR(t:TypeId):Option Nat:=(P.info? t).map (·.size)
def zAD(t:TypeId):Option Nat:=(P.info? t).map (·.bytes)
def qd(t:TypeId):Option Bool:=match P.underlying t with
 |some (.struct _)=>some true|some (.array _ _)=>some true|some _=>some false|none=>none
def vJ(t:TypeId):Option CV:=match(P.info? t).bind (·.zero)with
 |some v=>zAS 20 v|none=>none
def cellsOf(v:CV):Option (List CV):=match v with
 |.agg cs=>some cs|.tup _=>none|.any=>none|v=>some [v]
def ji(t:TypeId):Option (List CV):=(vJ P t).bind cellsOf
def jz(fs:List Field):Bool:=match fs with
 | []=>true|f::r=>(qR P f.type).isSome&&jz r
def xZ(t:Nat):List (Option Nat)->Nat->Option Nat
 | [],_=>none|d::r,i=>match d with
  |some u=>match Nat.beq u t with
   |true=>some i|false=>xZ t r (i+1)
  |none=>xZ t r (i+1)
structure Env where
 F:Nat
 N:Nat
 ds:List (Option Nat)
def z8(F t:Nat):Bool:=Nat.beq (Nat.mod (Nat.shiftRight F t) 2) 1
def zn(E:Env):Operand->Option zY
 |.tmp t=>match xZ t E.ds 0 with
  |some i=>some (.e i)|none=>match z8 E.F t&&Nat.ble t 271&&Nat.ble (Nat.succ t) E.N with
   |true=>some (.l (Loc.ofNat t))|false=>none
 |.const v=>(zAS 20 v).map .k|.global g=>match Nat.ble (Nat.succ g) P.globals.size&&Nat.ble g 4095 with
  |true=>some (.k (.ptr (Key.ofNat g) 0))|false=>none
 |.func f=>some (.k (.func (.func f) [] []))
variable(E:Env)
def xX(f:zY->COp)(x:Operand):COp:=match zn P E x with
 |some x=>f x|none=>.bad 1
def jc(f:zY->zY->COp)(x y:Operand):COp:=match zn P E x,zn P E y with
 |some x,some y=>f x y|_,_=>.bad 1
def uX(place:Nat->Option (Nat × Nat))(l:List (Nat × Operand)):Option (List zKf):=
 xH (λ(i,x)=>match place i,zn P E x with
  |some (o,s),some x=>some ⟨o,s,x⟩|_,_=>none) l
def zBp(fs:List Field)(i:Nat):Option (Nat × Nat):=match nth fs i with
 |none=>none|some f=>match qR P f.type with
  |none=>none|some s=>some (f.offset,s)
def w4:List Field->Option (List (Nat × EqK))
 | []=>some []|f::r=>if f.name == "_" then none else
  match w4 r with
  |none=>none|some l=>match und P f.type with
   |some .bool=>some ((f.offset,.bool)::l)|some (.int _)=>some ((f.offset,.int)::l)|some .string=>some ((f.offset,.str)::l)|_=>none
def zKO(t:TypeId):Option EqK:=match und P t with
 |some .bool=>some .bool|some (.pointer _)=>some .pointer|some (.interface _)=>some .iface|some (.slice _)=>some .slice|some (.map _ _)=>some .map|some (.func _ _ _)=>some .func|some (.struct fs)=>if P.eqGuardType P.depth t || P.stoodInHeld t then none else(w4 P fs.toList).map .struct|_=>none
def zHF:List Field->Nat->Bool
 | [],_=>true|f::r,i=>!(f.name == "_")&&Nat.beq f.offset i&&(match und P f.type with
  |some (.int _)=>true|_=>false)&&zHF r (i+1)
def xr(t:TypeId):Option kW:=match und P t with
 |some (.int _)=>some .int|some .string=>some .str|some .bool=>some .bool|some (.struct fs)=>if P.stoodInHeld t then none else if zHF P fs.toList 0 then some (.ints fs.size)else none|_=>none
def xi:Operand->Bool
 |.const _=>true|_=>false
def zQk(op:BinOp)(t:TypeId)(x y:Operand):COp:=match und P t with
 |some (.int _)=>jc P E (.arith op) x y|some .string=>jc P E (.arith op) x y|_=>match op,zKO P t with
  |.eql,some k=>jc P E (.eq false k (xi x || xi y)) x y|.neq,some k=>jc P E (.eq true k (xi x || xi y)) x y|_,_=>.bad 2
def zMa(s d:TypeId)(x:Operand):COp:=match und P s,und P d with
 |some (.int _),some (.int k)=>xX P E (.cvInt k) x|some .string,some .string=>xX P E .cvStr x|some .string,some (.slice e)=>match und P e with
  |some (.int .u8)=>xX P E .cvSB x|_=>.bad 3
 |some (.slice _),some (.slice e)=>match Nat.beq s d,und P e with
  |true,some (.int .u8)=>xX P E .cvMark x|_,_=>.bad 3
 |some (.slice e),some .string=>match und P e with
  |some (.int .u8)=>xX P E .cvBS x|_=>.bad 3
 |_,_=>.bad 3
def jB(l:List Operand):Option (List zY):=xH (zn P E) l
def qa(b:Builtin)(ts:List TypeId)(args:List Operand):COp:=match b,ts,args with
 |.append,t::u::_,[s,x]=>match und P t,und P u with
  |some (.slice e),some ud=>match ud with
   |.int _=>match qR P e,zAD P e,ji P e with
    |some (sz+1),some b,some z=>if Nat.ble b 100000&&Nat.beq z.length (sz+1)then jc P E (.appz z (sz+1)) s x else .bad 4|_,_,_=>.bad 4
   |_=>match qR P e,zAD P e,ji P e with
    |some (sz+1),some b,some z=>if Nat.ble b 100000&&Nat.beq z.length (sz+1)then jc P E (.append (sz+1) b) s x else .bad 4|_,_,_=>.bad 4
  |_,_=>.bad 4
 |.copy,t::_,[d,x]=>match und P t with
  |some (.slice e)=>match qR P e with
   |some s=>jc P E (.copy s) d x|none=>.bad 5
  |_=>.bad 5
 |.len,t::_,[x]=>match und P t with
  |some .string=>xX P E .lenStr x|some (.array k _)=>.mv (.k (.nat k))|some (.pointer a)=>match und P a with
   |some (.array k _)=>.mv (.k (.nat k))|_=>.bad 6
  |some (.slice _)=>xX P E .lenSl x|some (.map _ _)=>xX P E .lenMap x|_=>.bad 6
 |.cap,t::_,[x]=>match und P t with
  |some (.slice _)=>xX P E .capSl x|some (.array k _)=>.mv (.k (.nat k))|_=>.bad 7
 |.delete,t::_,[m,k]=>match und P t with
  |some (.map kt _)=>match xr P kt with
   |some kk=>jc P E (.delete kk) m k|none=>.bad 8
  |_=>.bad 8
 |.clear,t::_,[x]=>match und P t with
  |some (.map _ _)=>xX P E .clearMap x|some (.slice e)=>match ji P e,qR P e with
   |some z,some s=>xX P E (.clearSl z s) x|_,_=>.bad 9
  |_=>.bad 9
 |.min,_,x::r=>match zn P E x,jB P E r with
  |some x,some r=>.minmax false x r|_,_=>.bad 10
 |.max,_,x::r=>match zn P E x,jB P E r with
  |some x,some r=>.minmax true x r|_,_=>.bad 10
 |.recover,_,[]=>.recov|_,_,_=>.bad 11
def zZk(a b:String):String:=String.append (String.append a (String.singleton (Char.ofNat 47))) b
def zI2 (s:String):String:=zZk "internal" s
def zNq(n:String):Bool:=(Extern.allNextRows.lookup n).isNone&&(Extern.allGenericRows.lookup n).isNone&&(Extern.allTypedRows.lookup n).isNone&&(Extern.allRows.lookup n).isNone
def zCf (fn:Func):Bool:=(!(fn.name == "runtime.NumGoroutine")&&zNq fn.name)&&match fn.params.toList with
 |t::_=>match und P t with
  |some (.slice e)=>(qR P e).isSome|_=>false
 | []=>false
def zDZ(fn:Func):Option Ext:=
 if fn.origin == "" then
  if fn.name == zI2 "bytealg.CountString" then some .count
  else if fn.name == zI2 "bytealg.IndexByteString" then some .indexByte
  else if fn.name == zI2 "bytealg.abigen_runtime_cmpstring" then some .cmp
  else if fn.name == "maps.clone" then some .mapsClone
  else none
 else if fn.origin == "slices.overlaps" && zCf P fn then some .overlaps
 else none
def zHx(c:Call):COp:=match c.callee with
 |.builtin b=>qa P E b c.argTypes.toList c.args.toList|.invoke r name=>match zn P E r,jB P E c.args.toList with
  |some r,some args=>.invoke r name args|_,_=>.bad 13
 |.value f=>match jB P E c.args.toList with
  |none=>.bad 12|some args=>match f with
   |.func f=>match nth P.funcs.toList f with
    |none=>.bad (10000+f)|some fn=>if fn.body.isSome then .call f args else match zDZ P fn with
     |some e=>.ext e args|none=>.bad (10000+f)
   |f=>match zn P E f with
    |some f=>.callv f args|none=>.bad 14
def zMn(y:Option Operand):Option (Option zY):=match y with
 |none=>some none|some y=>(zn P E y).map some
def zJF(t:TypeId)(x:Operand)(lo hi mx:Option Operand):COp:=
 if mx.isSome&&hi.isNone then .bad 15 else match zn P E x,zMn P E lo,zMn P E hi,zMn P E mx with
 |some x,some lo,some hi,some mx=>match und P t with
  |some (.array k e)=>match qR P e with
   |some (s+1)=>.slArr k (s+1) x lo hi mx|_=>.bad 15
  |some (.slice e)=>match qR P e with
   |some (s+1)=>.slSl (s+1) x lo hi mx|_=>.bad 15
  |some .string=>match mx with
   |none=>.slStr x lo hi|some _=>.bad 15
  |_=>.bad 15
 |_,_,_,_=>.bad 15
def zj(o:Op):COp:=match o with
 |.move x=>xX P E .mv x|.assign x=>xX P E .mv x|.pick c a b=>match zn P E c,zn P E a,zn P E b with
  |some c,some a,some b=>.pick c a b|_,_,_=>.bad 20
 |.alloc t=>match ji P t with
  |some z=>.alloc z|none=>.bad 21
 |.box _ x=>xX P E .box x|.build t ps=>match ji P t,und P t with
  |some z,some (.struct fs)=>if jz P fs.toList then
   match uX P E (zBp P fs.toList) ps.toList with
   |some l=>.build z l|none=>.bad 22
   else .bad 22
  |some z,some (.array _ e)=>match qR P e with
   |none=>.bad 22|some s=>match uX P E (λi=>some (i*s,s)) ps.toList with
    |some l=>.build z l|none=>.bad 22
  |_,_=>.bad 22
 |.buildSlice t len ps=>match und P t with
  |some (.slice e)=>match qR P e,ji P e with
   |some (s+1),some z=>if Nat.ble (len*(s+1)) 100000&&Nat.beq z.length (s+1)then
    match uX P E (λi=>some (i*(s+1),s+1)) ps.toList with
    |some l=>.bslice (wW z len) len (s+1) l|none=>.bad 23
    else .bad 23
   |_,_=>.bad 23
  |_=>.bad 23
 |.load t a=>match qd P t,qR P t with
  |some true,some s=>xX P E (.loadN s) a|some false,some _=>xX P E .load1 a|_,_=>.bad 24
 |.store t a x=>match qR P t with
  |some s=>jc P E (.store s) a x|none=>.bad 25
 |.nilCheck x=>xX P E .nilck x|.binOp op t x y _=>zQk P E op t x y|.unOp op _ x=>xX P E (.un op) x|.convert s d x=>zMa P E s d x|.makeInterface t x=>match und P t with
  |some (.interface _)=>.bad 26|some _=>xX P E (.iface t) x|none=>.bad 26
 |.makeFunc fn a b=>match jB P E a.toList,jB P E b.toList with
  |some a,some b=>.mkfn fn a b|_,_=>.bad 27
 |.makeMap t r=>match und P t,r with
  |some (.map _ _),none=>.mkmap|some (.map _ _),some (.const (.int _ _))=>.mkmap|_,_=>.bad 28
 |.makeSlice t l c=>match und P t with
  |some (.slice e)=>match qR P e,ji P e,zAD P e with
   |some (s+1),some z,some b=>if Nat.beq z.length (s+1)then jc P E (.mkslice z (s+1) b) l c else .bad 29|_,_,_=>.bad 29
  |_=>.bad 29
 |.slice t x lo hi mx=>zJF P E t x lo hi mx|.fieldAddr t x f=>match und P t with
  |some (.struct fs)=>match nth fs.toList f with
   |some fd=>match qR P fd.type with
    |some (_+1)=>xX P E (.addOff fd.offset) x|_=>.bad 30
   |none=>.bad 30
  |_=>.bad 30
 |.field t x f=>match und P t with
  |some (.struct fs)=>match nth fs.toList f with
   |some fd=>match qd P fd.type,qR P fd.type with
    |some a,some s=>xX P E (.part a fd.offset s) x|_,_=>.bad 31
   |none=>.bad 31
  |_=>.bad 31
 |.indexAddr t x i=>match und P t with
  |some (.array len e)=>match qR P e with
   |some s=>jc P E (.ixArr len s) x i|none=>.bad 32
  |some (.slice e)=>match qR P e with
   |some s=>jc P E (.ixSl s) x i|none=>.bad 32
  |_=>.bad 32
 |.index t x i=>match und P t with
  |some (.array len e)=>match qR P e,qd P e with
   |some s,some a=>jc P E (.ixAgg len s a) x i|_,_=>.bad 33
  |some .string=>jc P E .ixStr x i|_=>.bad 33
 |.lookup t x i ok=>match und P t with
  |some (.map kt et)=>match xr P kt,vJ P et with
   |some kk,some z=>jc P E (.lookup kk z ok) x i|_,_=>.bad 34
  |_=>.bad 34
 |.mapUpdate t m k x=>match und P t with
  |some (.map kt _)=>match xr P kt,zn P E m,zn P E k,zn P E x with
   |some kk,some m,some k,some x=>.mapupd kk m k x|_,_,_,_=>.bad 35
  |_=>.bad 35
 |.insert t m k x=>match und P t with
  |some (.map kt _)=>match xr P kt,zn P E m,zn P E k,zn P E x with
   |some kk,some m,some k,some x=>.mapupd kk m k x|_,_,_,_=>.bad 35
  |_=>.bad 35
 |.range t x=>match und P t with
  |some .string=>xX P E .rangeStr x|some (.map _ _)=>xX P E .rangeMap x|_=>.bad 36
 |.next it s=>xX P E (.next s) it|.entry it=>xX P E .entry it|.typeAssert x _ t ok=>match und P t with
  |some (.interface _)=>xX P E (.tiface t (vJ P t) ok) x|some _=>xX P E (.tassert t (vJ P t) ok) x|none=>.bad 37
 |.extract t i=>xX P E (.extract i) t|.call c=>zHx P E c|.defer c=>match c.callee with
  |.value f=>match zn P E f,jB P E c.args.toList with
   |some f,some args=>.defer f args|_,_=>.bad 38
  |_=>.bad 38
 |_=>.bad 39
def xp(F N:Nat)(d:Option Nat):Option (Option Loc):=match d with
 |none=>some none|some t=>match Nat.ble (Nat.succ t) N with
  |false=>none|true=>match z8 F t with
   |false=>some none|true=>match Nat.ble t 271 with
    |true=>some (some (Loc.ofNat t))|false=>none
def zAN(F N:Nat)(all:List Oper)(ds:List (Option Nat))(o:Oper):jD:=match xp F N o.dst with
 |none=>.i (.bad 40)|some d=>match o.guard with
  |none=>match d with
   |none=>.i (zj P ⟨F,N,ds⟩ o.op)|some d=>.o (zj P ⟨F,N,ds⟩ o.op) d
  |some (j,w)=>match(nth all j).bind (·.dst)with
   |some t=>match zn P ⟨F,N,ds⟩ (.tmp t)with
    |some x=>.g x w (zj P ⟨F,N,ds⟩ o.op) d|none=>.i (.bad 41)
   |none=>.i (.bad 42)
def je(F N:Nat)(all:List Oper):List (Option Nat)->List Oper->List jD
 |_,[]=>[]
 |ds,o::r=>zAN P F N all ds o::je F N all (o.dst::ds) r
def zEZ(o:Op):Bool:=match o with
 |.call c=>match c.callee with
  |.builtin .recover=>true|_=>false
 |_=>false
def qm(o:Op):Bool:=match o with
 |.store ..=>true|.mapUpdate ..=>true|.insert ..=>true|.next ..=>true|.range ..=>true|.defer _=>true|.convert s d _=>match und P s,und P d with
  |some (.slice _),some (.slice _)=>true|_,_=>false
 |.call c=>match c.callee with
  |.builtin b=>match b with
   |.len=>false|.cap=>false|.min=>false|.max=>false|_=>true
  |_=>true
 |_=>false
def zBr(acc:List Nat):List Edge->Nat
 | []=>0|e::r=>if Region.binds .any e then Nat.lor (Nat.lor (Nat.shiftLeft 1 e.on) ((nth acc e.on).getD 0)) (zBr acc r)else zBr acc r
def ve:List Nat->List Oper->List Nat
 |acc,[]=>acc|acc,o::r=>ve (acc++[zBr acc o.after.toList]) r
def yW(m:Nat)(done:List Nat):List Nat->List Nat
 | []=>[]
 |i::r=>if z8 m i && !done.contains i then i::yW m done r else yW m done r
def zJM(anc:List Nat)(all:List Nat):List Nat->List Nat->List Nat
 | [],done=>done++yW (Nat.sub (Nat.shiftLeft 1 all.length) 1) done all|e::es,done=>zJM anc all es (done++yW ((nth anc e).getD 0) done all++(if done.contains e then []else [e]))
def zFq(m:Nat):List Nat->Nat
 | []=>0|e::es=>if z8 m e then 0 else Nat.succ (zFq m es)
def zXw(p:Oper->Bool):List Oper->Nat->List Nat
 | [],_=>[]
 |o::r,i=>if p o then i::zXw p r (i+1)else zXw p r (i+1)
def ka(F N:Nat)(ops:List Oper)(anc:List Nat):List (Option Nat)->List Nat->List Nat->List zRM
 |_,_,[]=>[]
 |ds,effs,i::r=>match nth ops i with
  |none=>[⟨.i (.bad 47),false,0⟩]
  |some o=>⟨zAN P F N ops ds o,qm P o.op,zFq ((nth anc i).getD 0) effs⟩ ::
   ka F N ops anc (o.dst::ds) (if qm P o.op then i::effs else effs) r
def zQy(ops:List Oper)(anc:List Nat):List Nat:=zJM anc (List.range ops.length) (zXw (λo=>qm P o.op) ops 0) []
def zG1(m:Nat):List Nat->List Nat->Bool
 |done,[]=>Nat.beq done.length m|done,i::r=>!done.contains i&&Nat.ble (Nat.succ i) m&&zG1 m (i::done) r
def zQw(ops:List Oper)(anc:List Nat):List Nat->List Nat->Bool
 |_,[]=>true|done,i::r=>(match nth ops i with
  |some o=>if qm P o.op then done.all λj=>z8 ((nth anc i).getD 0) j else true
  |none=>false)&&zQw ops anc (i::done) r
def zPv(anc:List Nat)(m:Nat):List Nat->List Nat->Bool
 |_,[]=>true|done,i::r=>((List.range m).all λj=>!z8 ((nth anc i).getD 0) j || done.contains j)&&zPv anc m (i::done) r
def zAs(ops:List Oper)(o:Oper):List Nat:=
 (o.op.operands.toList.filterMap λ|.tmp t=>some t |_=>none)++(match o.guard with
   |some (j,_)=>match(nth ops j).bind (·.dst)with
    |some t=>[t]
    |none=>[]
   |none=>[])
def zOD(ops:List Oper)(anc:List Nat)(m:Nat):Bool:=
 (List.range m).all λi=>(List.range m).all λj=>match nth ops i,nth ops j with
   |some x,some y=>match x.dst with
    |some t=>(Nat.beq i j || !(decide (y.dst=some t)))&&(!(zAs ops y).contains t || (!Nat.beq i j&&(z8 ((nth anc j).getD 0) i || z8 ((nth anc i).getD 0) j)))|none=>true
   |_,_=>false
def zC8:List Oper->Nat->Bool
 | [],_=>true|o::r,i=>(o.after.toList.all λe=>!Region.binds .any e || Nat.ble (Nat.succ e.on) i)&&zC8 r (i+1)
def zD9(ops:List Oper)(anc:List Nat)(order:List Nat):Bool:=
 zG1 ops.length [] order&&zQw P ops anc [] order&&zPv anc ops.length [] order&&zOD ops anc ops.length&&zC8 ops 0
def zKB(F N:Nat)(ops:List Oper):CCode:=
 let anc:=ve [] ops
 let order:=zQy P ops anc
 if zD9 P ops anc order then .dregion (ka P F N ops anc [] [] order)else .bad 48
def zS(F N:Nat):Code->CCode
 |.skip=>.skip|.label _=>.skip|.region _ ops dr=>match dr with
  |false=>.region (je P F N ops.toList [] ops.toList)|true=>zKB P F N ops.toList
 |.seq a b=>.seq (zS F N a) (zS F N b)|.cond x a b=>match zn P ⟨F,N,[]⟩ x with
  |some x=>.cond x (zS F N a) (zS F N b)|none=>.bad 43
 |.block id b=>.block id (zS F N b)|.loop b=>.loop (zS F N b)|.exit id=>.exit id|.ret=>.ret|.scope b=>.scope (zS F N b)|_=>.bad 44
def bit(t:Nat):Nat:=Nat.shiftLeft 1 t
def zCO:List Operand->Nat
 | []=>0|.tmp t::r=>Nat.lor (bit t) (zCO r)|_::r=>zCO r
def zKn(all:List Oper):List Oper->Nat
 | []=>0|o::r=>Nat.lor (zCO o.op.operands.toList) (Nat.lor (match o.guard with |some (j,_)=>zCO [.tmp ((((nth all j).bind (·.dst))).getD 4095)] |none=>0) (zKn all r))
def zKi:List Oper->Nat
 | []=>0|o::r=>match o.dst with
  |some t=>Nat.lor (bit t) (zKi r)|none=>zKi r
def zFf(c:Code)(x:Nat × Nat):Nat × Nat:=match c with
 |.region _ ops _=>let u:=zKn ops.toList ops.toList; (Nat.lor x.1 u,Nat.lor x.2 (Nat.land x.1 u))|.seq a b=>zFf b (zFf a x)|.cond y a b=>let u:=zCO [y]; zFf b (zFf a (Nat.lor x.1 u,Nat.lor x.2 (Nat.land x.1 u)))|.block _ b=>zFf b x|.loop b=>zFf b x|.scope b=>zFf b x|_=>x
def vw(once:Nat):Code->Nat
 |.region _ ops _=>Nat.land (zKi ops.toList) (Nat.xor once (Nat.land once (zKn ops.toList ops.toList)))|.seq a b=>Nat.lor (vw once a) (vw once b)|.cond _ a b=>Nat.lor (vw once a) (vw once b)|.block _ b=>vw once b|.loop b=>vw once b|.scope b=>vw once b|_=>0
def zLb:List ResultVar->Nat
 | []=>0|.tmp t::r=>Nat.lor (bit t) (zLb r)|.cell t _::r=>Nat.lor (bit t) (zLb r)
def frameBits(fn:Func)(c:Code):Nat:=
 let res:=zLb fn.results.toList
 let u:=zFf c (res,0)
 Nat.lor (Nat.lor (Nat.lor u.2 (vw u.1 c)) res) (Nat.sub (bit (Nat.add fn.params.size fn.nfree)) 1)
def xc(F N:Nat)(r:ResultVar):Option CRes:=match r with
 |.tmp t=>(zn P ⟨F,N,[]⟩ (.tmp t)).map .tmp|.cell a t=>match qd P t,qR P t,zn P ⟨F,N,[]⟩ (.tmp a)with
  |some true,some s,some x=>some (.cellN x s)|some false,some _,some x=>some (.cell1 x)|_,_,_=>none
def zHl(l:List Oper):Bool:=match l with
 | []=>true|o::r=>!zEZ o.op&&zHl r
def zt:Code->Bool
 |.region _ ops _=>zHl ops.toList|.seq a b=>zt a&&zt b|.cond _ a b=>zt a&&zt b|.block _ b=>zt b|.loop b=>zt b|.scope b=>zt b|_=>true
def zCL(F N:Nat)(fn:Func)(c:Code):CFn:=match xH (xc P F N) fn.results.toList with
 |some rs=>if zt c then .mk (zS P F N c) rs else match c with
  |.seq (.region _ ops false) r=>if zt r then .mkD (je P F N ops.toList [] ops.toList) (zS P F N r) rs else .bad 50|_=>.bad 50
 |none=>.bad 45
def compFn(f:FuncId):CFn:=match nth P.funcs.toList f with
 |none=>.bad 46|some fn=>match fn.body with
  |none=>match zDZ P fn with
   |some e=>.ext e|none=>.bad (20000+f)
  |some c=>if fn.name == "runtime.NumGoroutine" then .bad 49 else zCL P (frameBits fn c) fn.ntmps fn c
end
end Go.Ev
namespace Go.Ev
noncomputable section
inductive OR where
 |val (v:CV)
 |read (v:CV)
 |alloc (o:CObj) (v:CV)
 |eff (v:CV) (h:zC) (n:Key)
 |call (f:FuncId) (args:List CV)
 |dfr (f:FuncId) (args:List CV)
 |recov
 |err (c:Nat)
 |fork (a b:OR)
def zFy(v:Option CV)(c:Nat):OR:=Option.rec (motive:=λ_=>Nat->OR) (λc=>.err c) (λv _=>.val v) v c
def zSd(v:Option CV)(c:Nat):OR:=Option.rec (motive:=λ_=>Nat->OR) (λc=>.err c) (λv _=>.read v) v c
def zXF(v:Option (List CV))(c:Nat):OR:=Option.rec (motive:=λ_=>Nat->OR) (λc=>.err c) (λv _=>.val (.agg v)) v c
def zWJ(v:Option (List CV))(c:Nat):OR:=Option.rec (motive:=λ_=>Nat->OR) (λc=>.err c) (λv _=>.read (.agg v)) v c
def onL(v:Option (List CV))(k:List CV->OR)(c:Nat):OR:=Option.rec (motive:=λ_=>(List CV->OR)->Nat->OR) (λ_ c=>.err c) (λv k _=>k v) v k c
def onN(v:Option Nat)(k:Nat->OR)(c:Nat):OR:=Option.rec (motive:=λ_=>(Nat->OR)->Nat->OR) (λ_ c=>.err c) (λv k _=>k v) v k c
def yv(b:Bool)(k:OR)(c:Nat):OR:=Bool.rec (motive:=λ_=>OR->Nat->OR) (λ_ c=>.err c) (λk _=>k) b k c
def ifB(b:Bool)(t f:OR):OR:=Bool.rec (motive:=λ_=>OR->OR->OR) (λ_ f=>f) (λt _=>t) b t f
def vP(n:Nat)(k:Nat->OR):OR:=Nat.rec (motive:=λ_=>(Nat->OR)->OR) (λk=>k 0) (λm _ k=>k (Nat.succ m)) n k
def zFa(v:CV)(k:Key->Nat->OR)(e:Nat):OR:=
 CV.rec (motive_1:=λ_=>(Key->Nat->OR)->Nat->OR) (motive_2:=λ_=>Unit)
  (λ_ _ e=>.err e) (λ_ _ e=>.err e) (λ_ _ _ e=>.err e) (λ_ _ e=>.err e) (λ_ _ e=>.err e) (λ_ e=>.err e) (λx0 x1 k _=>k x0 x1) (λ_ e=>.err e) (λ_ _ _ _ _ _ _ e=>.err e) (λ_ e=>.err e) (λ_ _ e=>.err e) (λ_ _ _ _ _ _ e=>.err e) (λ_ e=>.err e) (λ_ _ _ _ e=>.err e) (λ_ e=>.err e) (λ_ _ _ e=>.err e) (λ_ _ _ e=>.err e) (λ_ _ e=>.err e) (λ_ _ _ _ _ e=>.err e) (λ_ _ _ e=>.err e) (λ_ _ e=>.err e) (λ_ _ _ e=>.err e) (λ_ _ _ _ _ e=>.err e) (λ_ e=>.err e) () (λ_ _ _ _=>()) v k e
def zUE(v:CV)(k:IntKind->Int->OR)(e:Nat):OR:=
 CV.rec (motive_1:=λ_=>(IntKind->Int->OR)->Nat->OR) (motive_2:=λ_=>Unit)
  (λ_ _ e=>.err e) (λx0 k _=>k .i64 (.ofNat x0)) (λx0 x1 k _=>k x0 x1) (λ_ _ e=>.err e) (λ_ _ e=>.err e) (λ_ e=>.err e) (λ_ _ _ e=>.err e) (λ_ e=>.err e) (λ_ _ _ _ _ _ _ e=>.err e) (λ_ e=>.err e) (λ_ _ e=>.err e) (λ_ _ _ _ _ _ e=>.err e) (λ_ e=>.err e) (λ_ _ _ _ e=>.err e) (λ_ e=>.err e) (λ_ _ _ e=>.err e) (λ_ _ _ e=>.err e) (λ_ _ e=>.err e) (λ_ _ _ _ _ e=>.err e) (λ_ _ _ e=>.err e) (λ_ _ e=>.err e) (λ_ _ _ e=>.err e) (λ_ _ _ _ _ e=>.err e) (λ_ e=>.err e) () (λ_ _ _ _=>()) v k e
def zYn(v:CV)(k:Nat->OR)(j:IntKind->Int->OR)(e:Nat):OR:=
 CV.rec (motive_1:=λ_=>(Nat->OR)->(IntKind->Int->OR)->Nat->OR) (motive_2:=λ_=>Unit)
  (λ_ _ _ e=>.err e) (λx0 k _ _=>k x0) (λx0 x1 _ j _=>j x0 x1) (λ_ _ _ e=>.err e) (λ_ _ _ e=>.err e) (λ_ _ e=>.err e) (λ_ _ _ _ e=>.err e) (λ_ _ e=>.err e) (λ_ _ _ _ _ _ _ _ e=>.err e) (λ_ _ e=>.err e) (λ_ _ _ e=>.err e) (λ_ _ _ _ _ _ _ e=>.err e) (λ_ _ e=>.err e) (λ_ _ _ _ _ e=>.err e) (λ_ _ e=>.err e) (λ_ _ _ _ e=>.err e) (λ_ _ _ _ e=>.err e) (λ_ _ _ e=>.err e) (λ_ _ _ _ _ _ e=>.err e) (λ_ _ _ _ e=>.err e) (λ_ _ _ e=>.err e) (λ_ _ _ _ e=>.err e) (λ_ _ _ _ _ _ e=>.err e) (λ_ _ e=>.err e) () (λ_ _ _ _=>()) v k j e
def zAQ(v:CV)(k:List Nat->OR)(e:Nat):OR:=
 CV.rec (motive_1:=λ_=>(List Nat->OR)->Nat->OR) (motive_2:=λ_=>Unit)
  (λ_ _ e=>.err e) (λ_ _ e=>.err e) (λ_ _ _ e=>.err e) (λ_ _ e=>.err e) (λx0 k _=>k x0) (λ_ e=>.err e) (λ_ _ _ e=>.err e) (λ_ e=>.err e) (λ_ _ _ _ _ _ _ e=>.err e) (λ_ e=>.err e) (λ_ _ e=>.err e) (λ_ _ _ _ _ _ e=>.err e) (λ_ e=>.err e) (λ_ _ _ _ e=>.err e) (λ_ e=>.err e) (λ_ _ _ e=>.err e) (λ_ _ _ e=>.err e) (λ_ _ e=>.err e) (λ_ _ _ _ _ e=>.err e) (λ_ _ _ e=>.err e) (λ_ _ e=>.err e) (λ_ _ _ e=>.err e) (λ_ _ _ _ _ e=>.err e) (λ_ e=>.err e) () (λ_ _ _ _=>()) v k e
def zNK(v:CV)(k:Bool->OR)(e:Nat):OR:=
 CV.rec (motive_1:=λ_=>(Bool->OR)->Nat->OR) (motive_2:=λ_=>Unit)
  (λx0 k _=>k x0) (λ_ _ e=>.err e) (λ_ _ _ e=>.err e) (λ_ _ e=>.err e) (λ_ _ e=>.err e) (λ_ e=>.err e) (λ_ _ _ e=>.err e) (λ_ e=>.err e) (λ_ _ _ _ _ _ _ e=>.err e) (λ_ e=>.err e) (λ_ _ e=>.err e) (λ_ _ _ _ _ _ e=>.err e) (λ_ e=>.err e) (λ_ _ _ _ e=>.err e) (λ_ e=>.err e) (λ_ _ _ e=>.err e) (λ_ _ _ e=>.err e) (λ_ _ e=>.err e) (λ_ _ _ _ _ e=>.err e) (λ_ _ _ e=>.err e) (λ_ _ e=>.err e) (λ_ _ _ e=>.err e) (λ_ _ _ _ _ e=>.err e) (λ_ e=>.err e) () (λ_ _ _ _=>()) v k e
def zAV(v:CV)(z:OR)(k:Key->Nat->Nat->Nat->Nat->Bool->OR)(e:Nat):OR:=
 CV.rec (motive_1:=λ_=>(OR)->(Key->Nat->Nat->Nat->Nat->Bool->OR)->Nat->OR) (motive_2:=λ_=>Unit)
  (λ_ _ _ e=>.err e) (λ_ _ _ e=>.err e) (λ_ _ _ _ e=>.err e) (λ_ _ _ e=>.err e) (λ_ _ _ e=>.err e) (λ_ _ e=>.err e) (λ_ _ _ _ e=>.err e) (λz _ _=>z) (λx0 x1 x2 x3 x4 x5 _ k _=>k x0 x1 x2 x3 x4 x5) (λ_ _ e=>.err e) (λ_ _ _ e=>.err e) (λ_ _ _ _ _ _ _ e=>.err e) (λ_ _ e=>.err e) (λ_ _ _ _ _ e=>.err e) (λ_ _ e=>.err e) (λ_ _ _ _ e=>.err e) (λ_ _ _ _ e=>.err e) (λ_ _ _ e=>.err e) (λ_ _ _ _ _ _ e=>.err e) (λ_ _ _ _ e=>.err e) (λ_ _ _ e=>.err e) (λ_ _ _ _ e=>.err e) (λ_ _ _ _ _ _ e=>.err e) (λ_ _ e=>.err e) () (λ_ _ _ _=>()) v z k e
def zE3(v:CV)(z:OR)(k:Key->OR)(e:Nat):OR:=
 CV.rec (motive_1:=λ_=>(OR)->(Key->OR)->Nat->OR) (motive_2:=λ_=>Unit)
  (λ_ _ _ e=>.err e) (λ_ _ _ e=>.err e) (λ_ _ _ _ e=>.err e) (λ_ _ _ e=>.err e) (λ_ _ _ e=>.err e) (λ_ _ e=>.err e) (λ_ _ _ _ e=>.err e) (λ_ _ e=>.err e) (λ_ _ _ _ _ _ _ _ e=>.err e) (λz _ _=>z) (λx0 _ k _=>k x0) (λ_ _ _ _ _ _ _ e=>.err e) (λ_ _ e=>.err e) (λ_ _ _ _ _ e=>.err e) (λ_ _ e=>.err e) (λ_ _ _ _ e=>.err e) (λ_ _ _ _ e=>.err e) (λ_ _ _ e=>.err e) (λ_ _ _ _ _ _ e=>.err e) (λ_ _ _ _ e=>.err e) (λ_ _ _ e=>.err e) (λ_ _ _ _ e=>.err e) (λ_ _ _ _ _ _ e=>.err e) (λ_ _ e=>.err e) () (λ_ _ _ _=>()) v z k e
def zUw(v:CV)(k:List CV->OR)(e:Nat):OR:=
 CV.rec (motive_1:=λ_=>(List CV->OR)->Nat->OR) (motive_2:=λ_=>Unit)
  (λ_ _ e=>.err e) (λ_ _ e=>.err e) (λ_ _ _ e=>.err e) (λ_ _ e=>.err e) (λ_ _ e=>.err e) (λ_ e=>.err e) (λ_ _ _ e=>.err e) (λ_ e=>.err e) (λ_ _ _ _ _ _ _ e=>.err e) (λ_ e=>.err e) (λ_ _ e=>.err e) (λ_ _ _ _ _ _ e=>.err e) (λ_ e=>.err e) (λ_ _ _ _ e=>.err e) (λ_ e=>.err e) (λx0 _ k _=>k x0) (λ_ _ _ e=>.err e) (λ_ _ e=>.err e) (λ_ _ _ _ _ e=>.err e) (λ_ _ _ e=>.err e) (λ_ _ e=>.err e) (λ_ _ _ e=>.err e) (λ_ _ _ _ _ e=>.err e) (λ_ e=>.err e) () (λ_ _ _ _=>()) v k e
def zWM(v:CV)(k:List CV->OR)(e:Nat):OR:=
 CV.rec (motive_1:=λ_=>(List CV->OR)->Nat->OR) (motive_2:=λ_=>Unit)
  (λ_ _ e=>.err e) (λ_ _ e=>.err e) (λ_ _ _ e=>.err e) (λ_ _ e=>.err e) (λ_ _ e=>.err e) (λ_ e=>.err e) (λ_ _ _ e=>.err e) (λ_ e=>.err e) (λ_ _ _ _ _ _ _ e=>.err e) (λ_ e=>.err e) (λ_ _ e=>.err e) (λ_ _ _ _ _ _ e=>.err e) (λ_ e=>.err e) (λ_ _ _ _ e=>.err e) (λ_ e=>.err e) (λ_ _ _ e=>.err e) (λx0 _ k _=>k x0) (λ_ _ e=>.err e) (λ_ _ _ _ _ e=>.err e) (λ_ _ _ e=>.err e) (λ_ _ e=>.err e) (λ_ _ _ e=>.err e) (λ_ _ _ _ _ e=>.err e) (λ_ e=>.err e) () (λ_ _ _ _=>()) v k e
def zOe(v:CV)(k:Fn->List CV->List CV->OR)(e:Nat):OR:=
 CV.rec (motive_1:=λ_=>(Fn->List CV->List CV->OR)->Nat->OR) (motive_2:=λ_=>Unit)
  (λ_ _ e=>.err e) (λ_ _ e=>.err e) (λ_ _ _ e=>.err e) (λ_ _ e=>.err e) (λ_ _ e=>.err e) (λ_ e=>.err e) (λ_ _ _ e=>.err e) (λ_ e=>.err e) (λ_ _ _ _ _ _ _ e=>.err e) (λ_ e=>.err e) (λ_ _ e=>.err e) (λx0 x1 x2 _ _ k _=>k x0 x1 x2) (λ_ e=>.err e) (λ_ _ _ _ e=>.err e) (λ_ e=>.err e) (λ_ _ _ e=>.err e) (λ_ _ _ e=>.err e) (λ_ _ e=>.err e) (λ_ _ _ _ _ e=>.err e) (λ_ _ _ e=>.err e) (λ_ _ e=>.err e) (λ_ _ _ e=>.err e) (λ_ _ _ _ _ e=>.err e) (λ_ e=>.err e) () (λ_ _ _ _=>()) v k e
def zDl(v:CV)(k:TypeId->CV->OR)(z:OR)(e:Nat):OR:=
 CV.rec (motive_1:=λ_=>(TypeId->CV->OR)->(OR)->Nat->OR) (motive_2:=λ_=>Unit)
  (λ_ _ _ e=>.err e) (λ_ _ _ e=>.err e) (λ_ _ _ _ e=>.err e) (λ_ _ _ e=>.err e) (λ_ _ _ e=>.err e) (λ_ _ e=>.err e) (λ_ _ _ _ e=>.err e) (λ_ _ e=>.err e) (λ_ _ _ _ _ _ _ _ e=>.err e) (λ_ _ e=>.err e) (λ_ _ _ e=>.err e) (λ_ _ _ _ _ _ _ e=>.err e) (λ_ _ e=>.err e) (λx0 x1 _ k _ _=>k x0 x1) (λ_ z _=>z) (λ_ _ _ _ e=>.err e) (λ_ _ _ _ e=>.err e) (λ_ _ _ e=>.err e) (λ_ _ _ _ _ _ e=>.err e) (λ_ _ _ _ e=>.err e) (λ_ _ _ e=>.err e) (λ_ _ _ _ e=>.err e) (λ_ _ _ _ _ _ e=>.err e) (λ_ _ e=>.err e) () (λ_ _ _ _=>()) v k z e
def zYi(v:CV)(k:IntKind->Int->OR)(u:IntKind->OR)(s:List Nat->OR)(e:Nat):OR:=
 CV.rec (motive_1:=λ_=>(IntKind->Int->OR)->(IntKind->OR)->(List Nat->OR)->Nat->OR) (motive_2:=λ_=>Unit)
  (λ_ _ _ _ e=>.err e) (λx0 k _ _ _=>k .i64 (.ofNat x0)) (λx0 x1 k _ _ _=>k x0 x1) (λx0 _ u _ _=>u x0) (λx0 _ _ s _=>s x0) (λ_ _ _ e=>.err e) (λ_ _ _ _ _ e=>.err e) (λ_ _ _ e=>.err e) (λ_ _ _ _ _ _ _ _ _ e=>.err e) (λ_ _ _ e=>.err e) (λ_ _ _ _ e=>.err e) (λ_ _ _ _ _ _ _ _ e=>.err e) (λ_ _ _ e=>.err e) (λ_ _ _ _ _ _ e=>.err e) (λ_ _ _ e=>.err e) (λ_ _ _ _ _ e=>.err e) (λ_ _ _ _ _ e=>.err e) (λ_ _ _ _ e=>.err e) (λ_ _ _ _ _ _ _ e=>.err e) (λ_ _ _ _ _ e=>.err e) (λ_ _ _ _ e=>.err e) (λ_ _ _ _ _ e=>.err e) (λ_ _ _ _ _ _ _ e=>.err e) (λ_ _ _ e=>.err e) () (λ_ _ _ _=>()) v k u s e
def zUL(v:CV)(k:IntKind->Int->OR)(u:IntKind->OR)(e:Nat):OR:=
 CV.rec (motive_1:=λ_=>(IntKind->Int->OR)->(IntKind->OR)->Nat->OR) (motive_2:=λ_=>Unit)
  (λ_ _ _ e=>.err e) (λx0 k _ _=>k .i64 (.ofNat x0)) (λx0 x1 k _ _=>k x0 x1) (λx0 _ u _=>u x0) (λ_ _ _ e=>.err e) (λ_ _ e=>.err e) (λ_ _ _ _ e=>.err e) (λ_ _ e=>.err e) (λ_ _ _ _ _ _ _ _ e=>.err e) (λ_ _ e=>.err e) (λ_ _ _ e=>.err e) (λ_ _ _ _ _ _ _ e=>.err e) (λ_ _ e=>.err e) (λ_ _ _ _ _ e=>.err e) (λ_ _ e=>.err e) (λ_ _ _ _ e=>.err e) (λ_ _ _ _ e=>.err e) (λ_ _ _ e=>.err e) (λ_ _ _ _ _ _ e=>.err e) (λ_ _ _ _ e=>.err e) (λ_ _ _ e=>.err e) (λ_ _ _ _ e=>.err e) (λ_ _ _ _ _ _ e=>.err e) (λ_ _ e=>.err e) () (λ_ _ _ _=>()) v k u e
def zXC(v:CV)(k:Key->Nat->OR)(z:OR):OR:=
 CV.rec (motive_1:=λ_=>(Key->Nat->OR)->OR->OR) (motive_2:=λ_=>Unit)
  (λ_ _ z=>z) (λ_ _ z=>z) (λ_ _ _ z=>z) (λ_ _ z=>z) (λ_ _ z=>z) (λ_ z=>z) (λx0 x1 k _=>k x0 x1) (λ_ z=>z) (λ_ _ _ _ _ _ _ z=>z) (λ_ z=>z) (λ_ _ z=>z) (λ_ _ _ _ _ _ z=>z) (λ_ z=>z) (λ_ _ _ _ z=>z) (λ_ z=>z) (λ_ _ _ z=>z) (λ_ _ _ z=>z) (λ_ _ z=>z) (λ_ _ _ _ _ z=>z) (λ_ _ _ z=>z) (λ_ _ z=>z) (λ_ _ _ z=>z) (λ_ _ _ _ _ z=>z) (λ_ z=>z) () (λ_ _ _ _=>()) v k z
def zNr(v:CV)(k:Key->Nat->SE->SE->OR)(z:OR):OR:=
 CV.rec (motive_1:=λ_=>(Key->Nat->SE->SE->OR)->OR->OR) (motive_2:=λ_=>Unit)
  (λ_ _ z=>z) (λ_ _ z=>z) (λ_ _ _ z=>z) (λ_ _ z=>z) (λ_ _ z=>z) (λ_ z=>z) (λ_ _ _ z=>z) (λ_ z=>z) (λ_ _ _ _ _ _ _ z=>z) (λ_ z=>z) (λ_ _ z=>z) (λ_ _ _ _ _ _ z=>z) (λ_ z=>z) (λ_ _ _ _ z=>z) (λ_ z=>z) (λ_ _ _ z=>z) (λ_ _ _ z=>z) (λ_ _ z=>z) (λx0 x1 x2 x3 k _=>k x0 x1 x2 x3) (λ_ _ _ z=>z) (λ_ _ z=>z) (λ_ _ _ z=>z) (λ_ _ _ _ _ z=>z) (λ_ z=>z) () (λ_ _ _ _=>()) v k z
def zIB(v:CV)(k:List CV->OR)(z:OR):OR:=
 CV.rec (motive_1:=λ_=>(List CV->OR)->OR->OR) (motive_2:=λ_=>Unit)
  (λ_ _ z=>z) (λ_ _ z=>z) (λ_ _ _ z=>z) (λ_ _ z=>z) (λ_ _ z=>z) (λ_ z=>z) (λ_ _ _ z=>z) (λ_ z=>z) (λ_ _ _ _ _ _ _ z=>z) (λ_ z=>z) (λ_ _ z=>z) (λ_ _ _ _ _ _ z=>z) (λ_ z=>z) (λ_ _ _ _ z=>z) (λ_ z=>z) (λ_ _ _ z=>z) (λ_ _ _ z=>z) (λ_ _ z=>z) (λ_ _ _ _ _ z=>z) (λx0 _ k _=>k x0) (λ_ _ z=>z) (λ_ _ _ z=>z) (λ_ _ _ _ _ z=>z) (λ_ z=>z) () (λ_ _ _ _=>()) v k z
def zR5(v:CV)(k:Nat->OR)(z:OR):OR:=
 CV.rec (motive_1:=λ_=>(Nat->OR)->OR->OR) (motive_2:=λ_=>Unit)
  (λ_ _ z=>z) (λx0 k _=>k x0) (λ_ _ _ z=>z) (λ_ _ z=>z) (λ_ _ z=>z) (λ_ z=>z) (λ_ _ _ z=>z) (λ_ z=>z) (λ_ _ _ _ _ _ _ z=>z) (λ_ z=>z) (λ_ _ z=>z) (λ_ _ _ _ _ _ z=>z) (λ_ z=>z) (λ_ _ _ _ z=>z) (λ_ z=>z) (λ_ _ _ z=>z) (λ_ _ _ z=>z) (λ_ _ z=>z) (λ_ _ _ _ _ z=>z) (λ_ _ _ z=>z) (λ_ _ z=>z) (λ_ _ _ z=>z) (λ_ _ _ _ _ z=>z) (λ_ z=>z) () (λ_ _ _ _=>()) v k z
def ue(v:CV)(k:Nat->OR)(e:Nat):OR:=
 zYn v k (λ_ n=>Int.rec (motive:=λ_=>(Nat->OR)->Nat->OR) (λm k _=>k m) (λ_ _ e=>.err e) n k e) e
def onCells(o:Option CObj)(k:List CV->OR)(e:Nat):OR:=
 Option.rec (motive:=λ_=>(List CV->OR)->Nat->OR) (λ_ e=>.err e)
  (λo=>CObj.rec (motive:=λ_=>(List CV->OR)->Nat->OR) (λvs k _=>k vs) (λ_ _ e=>.err e) (λ_ _ _ e=>.err e) (λ_ _ _ e=>.err e) (λ_ _ _ _ _ e=>.err e) (λ_ _ _ e=>.err e) (λ_ _ e=>.err e) (λ_ _ e=>.err e) (λ_ e=>.err e) (λ_ _ e=>.err e) o) o k e
def u7(o:Option CObj)(k:List CV->OR)(e:Nat):OR:=
 Option.rec (motive:=λ_=>(List CV->OR)->Nat->OR) (λ_ e=>.err e)
  (λo=>CObj.rec (motive:=λ_=>(List CV->OR)->Nat->OR) (λvs k _=>k vs) (λvs k _=>k vs) (λ_ _ _ e=>.err e) (λ_ _ _ e=>.err e) (λ_ _ _ _ _ e=>.err e) (λ_ vs k _=>k vs) (λ_ _ e=>.err e) (λ_ _ e=>.err e) (λ_ e=>.err e) (λ_ _ e=>.err e) o) o k e
def uH(o:Option CObj)(k:List CE->Nat->OR)(e:Nat):OR:=
 Option.rec (motive:=λ_=>(List CE->Nat->OR)->Nat->OR) (λ_ e=>.err e)
  (λo=>CObj.rec (motive:=λ_=>(List CE->Nat->OR)->Nat->OR) (λ_ _ e=>.err e) (λ_ _ e=>.err e) (λes c k _=>k es c) (λ_ _ _ e=>.err e) (λ_ _ _ _ _ e=>.err e) (λ_ _ _ e=>.err e) (λ_ _ e=>.err e) (λ_ _ e=>.err e) (λ_ e=>.err e) (λ_ _ e=>.err e) o) o k e
def zKY(o:Option CObj)(k:Bool->List CV->OR)(z:OR):OR:=match o with
 |some (.full u vs)=>k u vs|_=>z
def zLe(o:Option CObj)(k:List (CV × CV)->OR)(z:OR):OR:=match o with
 |some (.mapz es)=>k es|_=>z
def zUl(l:List CV)(k:Nat):CV:=List.rec (motive:=λ_=>Nat->CV) (λ_=>.any) (λx _ ih k=>Nat.rec (motive:=λ_=>CV) x (λk _=>ih k) k) l k
def aE(i:Nat):List CV->Tm->CV:=λes _=>zUl es i
def aL(p:Loc):List CV->Tm->CV:=λ_ tm=>qC p tm
def aK(v:CV):List CV->Tm->CV:=λ_ _=>v
def aV(es:List CV)(tm:Tm)(x:zY):CV:=zY.rec (motive:=λ_=>List CV->Tm->CV) aE aL aK x es tm
def aVs(es:List CV)(tm:Tm)(l:List zY):List CV:=List.rec (motive:=λ_=>List CV) [] (λx _ ih=>aV es tm x::ih) l
abbrev X:=List CV->Tm->zC->Key->OR
def xMv(x:zY):X:=λes tm _ _=>.val (aV es tm x)
def zWU(c a b:zY):X:=λes tm _ _=>zNK (aV es tm c) (λt=>ifB t (.val (aV es tm a)) (.val (aV es tm b))) 100
def zSP(cs:List CV):X:=λ_ _ _ n=>.alloc (.cells cs) (.ptr n 0)
def zX7(x:zY):X:=λes tm _ n=>onL (cellsOf (aV es tm x)) (λcs=>.alloc (.cells cs) (.ptr n 0)) 101
def zDR(s off:Nat)(cells:List CV)(v:Option (List CV)):Option (List CV):=
 Option.rec (motive:=λ_=>Nat->List CV->Nat->Option (List CV)) (λ_ _ _=>none) (λxs s cells off=>jv xs s cells off) v s cells off
def zBx(es:List CV)(tm:Tm)(ps:List zKf)(cells:List CV):Option (List CV):=
 List.rec (motive:=λ_=>List CV->Option (List CV)) (λcells=>some cells)
  (λp _ ih cells=>Option.rec (motive:=λ_=>Option (List CV)) none ih (zDR p.size p.off cells (cellsOf (aV es tm p.arg)))) ps cells
def zSb(zero:List CV)(ps:List zKf):X:=λes tm _ _=>zXF (zBx es tm ps zero) 102
def ifO(b:Bool)(t f:CObj):CObj:=Bool.rec (motive:=λ_=>CObj->CObj->CObj) (λ_ f=>f) (λt _=>t) b t f
def zPA(zero:List CV)(len esz:Nat)(ps:List zKf):X:=λes tm _ n=>onL (zBx es tm ps zero) (λcs=>.alloc (ifO (Nat.beq len 1&&Nat.beq esz 6) (.full true cs) (.cells cs)) (.sl n 0 len len esz true)) 103
def zPK:List CV->Option (List (List Nat))
 | []=>some []|.str s::r=>match zPK r with
  |some t=>some (s::t)|none=>none
 |_::_=>none
def zYt(vs:List CV)(off i m:Nat):Option CV:=match zAY vs off (Nat.succ m)with
 |some l=>match zPK l with
  |some t=>some (.few i t)|none=>none
 |none=>none
def zW8(v:CV)(h:zC):OR:=match v with
 |.elt b off i m=>u7 (zb b h) (λvs=>zSd (zYt vs off i m) 104) 105|_=>.err 106
def zT9(x:zY):X:=λes tm h _=>zXC (aV es tm x) (λb off=>u7 (zb b h) (λvs=>zSd (zA6 vs off) 104) 105) (zW8 (aV es tm x) h)
def zTO(s:Nat)(x:zY):X:=λes tm h _=>zFa (aV es tm x) (λb off=>u7 (zb b h) (λvs=>zWJ (zAY vs off s) 107) 108) 109
def zTr(s:Nat)(a x:zY):X:=λes tm h n=>zFa (aV es tm a) (λb off=>onCells (zb b h) (λvs=>onL (cellsOf (aV es tm x)) (λcs=>yv (xk cs) (onL (jv cs s vs off) (λl=>.eff .undef (yy (some (.cells l)) b h) n) 110) 111) 112) 113) 114
def zHg(v:CV):OR:=match v with
 |.nilptr=>.err 115|.niliface=>.err 115|.nilfunc=>.err 115|.func (.method _) _ _=>.err 116|.any=>.err 116|v=>.val v
def zSt(x:zY):X:=λes tm _ _=>zXC (aV es tm x) (λb o=>.val (.ptr b o)) (zHg (aV es tm x))
class Sym where
 val:SE->Value
 one:∀e,(∃k n,val e=.int k n)\/∃s,val e=.string s
 bin:BinOp->CV->CV->Option (List CV)
 cv:IntKind->CV->Option (List CV)
 arg:Key->Option Value
 kb:List (Int × Int):=[]
 inn:CV->List CV->Bool:=λ_ _=>false
 mx:CV->CV->Option CV:=λ_ _=>none
 srt:List CV->Option (List CV):=λ_=>none
variable[Sym]
def forkL(c:CV)(l:List CV):OR:=List.rec (motive:=λ_=>CV->OR) (λc=>.val c) (λd _ ih c=>.fork (.val c) (ih d)) l c
def zV8(o:Option (List CV))(e:Nat):OR:=match o with
 |none=>.err e|some l=>match l with
  | []=>.err e|c::cs=>forkL c cs
def zSD(v:CV):Bool:=match v with
 |.sym _=>true|.sst _=>true|.few _ _=>true|_=>false
def wT:OR:=.fork (.val (.bool true)) (.val (.bool false))
def zOP(k:IntKind)(m:Nat):OR:=Nat.rec (motive:=λ_=>OR) (.val (j6 k 0)) (λi ih=>.fork ih (.val (j6 k (Nat.succ i)))) m
def zN1(k:IntKind)(m:Nat):OR:=Nat.rec (motive:=λ_=>OR) (.val (j6 k 0)) (λi ih=>.fork ih (.fork (.val (j6 k (Nat.succ i))) (.val (.int k (.negSucc i))))) m
def jd(op:BinOp)(j k:IntKind):OR:=yv (kEq j k) (match op with
 |.add=>.val (.anyi k)|.sub=>.val (.anyi k)|.mul=>.val (.anyi k)|.and=>.val (.anyi k)|.or=>.val (.anyi k)|.xor=>.val (.anyi k)|.andNot=>.val (.anyi k)|.eql=>wT|.neq=>wT|.lss=>wT|.leq=>wT|.gtr=>wT|.geq=>wT|_=>.err 117) 118
def zHN(op:BinOp)(k:IntKind)(b:Int):OR:=match op with
 |.and=>match b with
  |.ofNat m=>yv (Nat.ble m 127) (zOP k m) 117|.negSucc _=>.val (.anyi k)
 |.rem=>match b with
  |.ofNat m=>match m with
   | 0=>.err 117|m+1=>yv (Nat.ble m 127) (match k.signed with
    |true=>zN1 k m|false=>.val (.anyi k)) 117
  |.negSucc _=>.err 117
 |.quo=>match b with
  |.ofNat m=>match m with
   | 0=>.err 117|_+1=>.val (.anyi k)
  |.negSucc _=>.val (.anyi k)
 |.shl=>match b with
  |.ofNat _=>.val (.anyi k)|.negSucc _=>.err 117
 |.shr=>match b with
  |.ofNat _=>.val (.anyi k)|.negSucc _=>.err 117
 |op=>jd op k k
def zN2(op:BinOp)(x y:CV):OR:=zYi x
 (λk a=>zUL y (λj b=>yv (kEq k j || xD op) (zFy (yR op k a b) 117) 118) (λj=>jd op j k) 119)
 (λk=>zUL y (λj b=>yv (kEq k j || xD op) (zHN op k b) 118) (λj=>jd op j k) 119)
 (λa=>zAQ y (λb=>zFy (zUQ op a b) 120) 121) 122
def zTT(op:BinOp)(a m:Nat):OR:=match op with
 |.gtr=>ifB (Nat.ble a m) (.val (.bool false)) wT|.leq=>ifB (Nat.ble a m) (.val (.bool true)) wT|.lss=>ifB (Nat.ble (Nat.succ a) m) (.val (.bool true)) wT|.geq=>ifB (Nat.ble (Nat.succ a) m) (.val (.bool false)) wT|_=>.err 119
def wA(op:BinOp)(x y:CV):OR:=match x,y with
 |.nat a,.big m=>zTT op a m|x,y=>match zSD x || zSD y with
  |true=>zV8 (Sym.bin op x y) 117|false=>zN2 op x y
def zOM(op:BinOp)(a b:Nat)(x y:CV):OR:=Option.rec (motive:=λ_=>BinOp->CV->CV->OR) (λop x y=>wA op x y) (λv _ _ _=>.val v) (zIJ op a b) op x y
def zTH(op:BinOp)(x y:zY):X:=λes tm _ _=>zR5 (aV es tm x) (λa=>zR5 (aV es tm y) (λb=>zOM op a b (aV es tm x) (aV es tm y)) (wA op (aV es tm x) (aV es tm y))) (wA op (aV es tm x) (aV es tm y))
def zAT(x y:CV):Option Bool:=match Sym.cv .i64 x,Sym.bin .leq x y,Sym.bin .geq x y with
 |some _,some [.bool a],some [.bool b]=>some (a&&b)|_,_,_=>none
def zAH:EqK->CV->CV->Option Bool
 |.bool,.bool a,.bool b=>some (a == b)|.int,.nat a,.nat b=>some (Nat.beq a b)|.int,.int k a,.int j b=>match kEq k j with
  |true=>some (zm a b)|false=>none
 |.int,.nat _,.int .i64 (.negSucc _)=>some false|.int,.int .i64 (.negSucc _),.nat _=>some false|.str,.str a,.str b=>some (qY a b)|.int,.sym e,y=>zAT (.sym e) y|.int,.nat a,.sym e=>zAT (.nat a) (.sym e)|.int,.int k a,.sym e=>zAT (.int k a) (.sym e)|_,_,_=>none
def eqFields(xs ys:List CV):List (Nat × EqK)->Option Bool
 | []=>some true|(o,k)::r=>match zA6 xs o,zA6 ys o with
  |some x,some y=>match zAH k x y with
   |some true=>eqFields xs ys r|some false=>some false|none=>none
  |_,_=>none
def eqC(k:EqK)(cst:Bool)(x y:CV):Option Bool:=match k with
 |.bool=>zAH .bool x y|.int=>none|.str=>none|.pointer=>match x,y with
  |.nilptr,.nilptr=>some true|.nilptr,.ptr _ _=>some false|.ptr _ _,.nilptr=>some false|_,_=>none
 |.iface=>match x,y with
  |.niliface,.niliface=>if cst then some true else none|.niliface,.iface _ _=>some false|.iface _ _,.niliface=>some false|_,_=>none
 |.slice=>match x,y with
  |.nilsl,.nilsl=>some true|.nilsl,.sl ..=>some false|.sl ..,.nilsl=>some false|_,_=>none
 |.map=>match x,y with
  |.nilmap,.nilmap=>some true|.nilmap,.map _=>some false|.map _,.nilmap=>some false|_,_=>none
 |.func=>match x,y with
  |.nilfunc,.nilfunc=>some true|.nilfunc,.func ..=>some false|.func ..,.nilfunc=>some false|_,_=>none
 |.struct fs=>match x,y with
  |.agg xs,.agg ys=>eqFields xs ys fs|_,_=>none
def zPZ(v:CV):Option IntKind:=match v with
 |.nat _=>some .i64|.int k _=>some k|.anyi k=>some k|_=>none
def zBA(xs ys:List CV):List (Nat × EqK)->Bool
 | []=>true|(o,k)::r=>(match k with
  |.int=>true|_=>false)&&(match zA6 xs o,zA6 ys o with
  |some x,some y=>match zPZ x,zPZ y with
   |some a,some b=>kEq a b|_,_=>false
  |_,_=>false)&&zBA xs ys r
def zJh(k:EqK)(x y:CV):Bool:=match k,x,y with
 |.struct fs,.agg xs,.agg ys=>zBA xs ys fs|_,_,_=>false
def xEq(neg:Bool)(k:EqK)(cst:Bool)(x y:zY):X:=λes tm _ _=>match eqC k cst (aV es tm x) (aV es tm y)with
 |some b=>.val (.bool (xor neg b))|none=>match zJh k (aV es tm x) (aV es tm y)with
  |true=>wT|false=>.err 123
def xUn(op:UnOp)(x:zY):X:=λes tm _ _=>match op with
 |.neg=>zUE (aV es tm x) (λk n=>.val (mkInt k (yz k (Int.sub (.ofNat 0) n)))) 124|.xor=>zUE (aV es tm x) (λk n=>zFy (zXd k (if k.signed then -1 else k.max) n) 125) 126|.not=>zNK (aV es tm x) (λb=>.val (.bool (zBk b))) 127|.plus=>.err 128
def zHP(k:IntKind)(v:CV):OR:=match zSD v with
 |true=>zV8 (Sym.cv k v) 129|false=>zUL v (λ_ a=>.val (mkInt k (yz k a))) (λ_=>.val (.anyi k)) 129
def zSe(k:IntKind)(x:zY):X:=λes tm _ _=>zHP k (aV es tm x)
def zTX(x:zY):X:=λes tm _ _=>zAQ (aV es tm x) (λs=>.val (.str s)) 130
def qT(s:List Nat):List CV:=List.rec (motive:=λ_=>List CV) [] (λb _ ih=>.int .u8 (.ofNat b)::ih) s
def vx(v:CV):Option Nat:=match v with
 |.int .u8 (.ofNat b)=>match Nat.ble b 255 with
  |true=>some b|false=>none
 |_=>none
def kI(l:List CV):Option (List Nat):=
 List.rec (motive:=λ_=>Option (List Nat)) (some []) (λv _ ih=>Option.rec (motive:=λ_=>Option (List Nat)->Option (List Nat)) (λ_=>none) (λb r=>zPE b r) (vx v) ih) l
def zQV(l:List CV):CV:=match kI l with
 |some r=>.str r|none=>.sst l
def zWS(x:zY):X:=λes tm _ n=>zIB (aV es tm x) (λl=>vP (um l) λk=>.alloc (.cells l) (.sl n 0 k k 1 false)) <| zAQ (aV es tm x) (λl=>vP (zDF l) λk=>.alloc (.cells (qT l)) (.sl n 0 k k 1 false)) 131
def zPD(x:zY):X:=λes tm h n=>zAV (aV es tm x) (.err 132) (λb off len cap esz ex=>onCells (zb b h) (λ_=>.eff (.sl b off len cap esz ex) h n) 133) 134
def zYh(v:Option (List Nat))(c:Nat):OR:=Option.rec (motive:=λ_=>Nat->OR) (λc=>.err c) (λv _=>.val (.str v)) v c
def zK2(v:CV):Bool:=match v with
 |.int k (.ofNat b)=>kEq k .u8&&Nat.ble b 255|.sym e=>kEq e.k .u8&&(match Sym.bin .leq (.sym e) (.int .u8 (.ofNat 255)),Sym.bin .geq (.sym e) (.int .u8 (.ofNat 0))with
  |some [.bool true],some [.bool true]=>true|_,_=>false)
 |_=>false
def zDN:List CV->Bool
 | []=>true|v::r=>zK2 v&&zDN r
def zNW(cs:List CV):OR:=match kI cs with
 |some r=>.read (.str r)|none=>match zDN cs with
  |true=>.read (.sst cs)|false=>.err 135
def zVV(m:SE):Bool:=match Sym.bin .leq (.sym m) (.nat 0)with
 |some [.bool true]=>true|_=>false
def zWZ(x:zY):X:=λes tm h _=>zNr (aV es tm x) (λ_ _ _ m=>yv (zVV m) (.val (.str [])) 138) <| zAV (aV es tm x) (.val (.str [])) (λb off len _ _ _=>u7 (zb b h) (λvs=>onL (zAY vs off len) zNW 136) 137) 138
def zSo(t:TypeId)(x:zY):X:=λes tm _ _=>.val (.iface t (aV es tm x))
def zW3(fn:Fn)(a b:List zY):X:=λes tm _ _=>.val (.func fn (aVs es tm a) (aVs es tm b))
def zUW:X:=λ_ _ _ n=>.alloc (.map [] 0) (.map n)
def zMr(zero:List CV)(esz bytes:Nat)(l c:zY):X:=λes tm _ n=>ue (aV es tm l) (λl=>ue (aV es tm c) (λc=>
 yv (Nat.ble l c&&Nat.ble (Nat.mul c esz) 100000&&Nat.ble (Nat.mul bytes c) 1000000)
  (vP l λl=>vP c λc=>.alloc (.cells (wW zero c)) (.sl n 0 l c esz true)) 139) 140) 141
def zCy(es:List CV)(tm:Tm)(x:Option zY)(y d:Nat)(k:Nat->OR)(e:Nat):OR:=
 Option.rec (motive:=λ_=>Nat->(Nat->OR)->OR) (λd k=>k d) (λx _ k=>ue (aV es tm x) (λi=>yv (Nat.ble i y) (k i) e) e) x d k
def jT(es:List CV)(tm:Tm)(len cap:Nat)(lo hi mx:Option zY)(k:Nat->Nat->Nat->OR)(e:Nat):OR:=
 zCy es tm mx cap cap (λm=>zCy es tm hi m len (λh=>zCy es tm lo h 0 (λl=>k l h m) e) e) e
def zP3(b:Key)(off esz:Nat)(ex:Bool):Nat->Nat->Nat->OR:=λl h m=>yv (Nat.ble h m&&Nat.ble l h) (vP (Nat.add off (Nat.mul l esz)) λo=>vP (Nat.sub h l) λhl=>vP (Nat.sub m l) λml=>.val (.sl b o hl ml esz ex)) 142
def zTs(len esz:Nat)(x:zY)(lo hi mx:Option zY):X:=λes tm _ _=>zFa (aV es tm x) (λb off=>jT es tm len len lo hi mx (zP3 b off esz true) 143) 144
def zBS(es:List CV)(tm:Tm)(h:zC)(b:Key)(off cap esz:Nat)(ex:Bool)(lo hi mx:Option zY)(k0:OR):OR:=match ex,lo,mx,hi with
 |false,none,none,some y=>match aV es tm y with
  |.nat m=>match Nat.ble m cap,cap with
   |false,_+1=>onCells (zb b h) (λvs=>yv (Nat.ble (Nat.add off (Nat.mul m esz)) (um vs)) (vP m λm=>.read (.sl b off m m esz false)) 146) 146|_,_=>k0
  |_=>k0
 |_,_,_,_=>k0
def zIw(es:List CV)(tm:Tm)(b:Key)(z:Nat)(e n:SE)(esz:Nat)(lo hi mx:Option zY):OR:=match lo,mx,hi with
 |none,none,some y=>match aV es tm y with
  |.nat m=>match Nat.beq z esz&&Nat.ble 1 m,Sym.bin .leq (.nat m) (.sym n),Sym.bin .leq (.nat 0) (.sym e),Sym.bin .leq (.sym e) (.nat 0)with
   |true,some [.bool true],some [.bool true],some [.bool true]=>vP m λm=>.val (.sl b 0 m m esz false)
   |_,_,_,_=>.err 325
  |_=>.err 325
 |_,_,_=>.err 325
def zWN(esz:Nat)(x:zY)(lo hi mx:Option zY):X:=λes tm h _=>zNr (aV es tm x) (λb z e n=>zIw es tm b z e n esz lo hi mx) <| zAV (aV es tm x)
 (jT es tm 0 0 lo hi mx (λ_ _ _=>.val .nilsl) 145)
 (λb off len cap s ex=>yv (Nat.beq s esz) (zBS es tm h b off cap esz ex lo hi mx (jT es tm len cap lo hi mx (zP3 b off esz (ex || mx.isSome)) 146)) 147) 148
def zUh(x:zY)(lo hi:Option zY):X:=λes tm _ _=>zIB (aV es tm x) (λs=>
 vP (um s) λn=>jT es tm n n lo hi none (λl h _=>yv (Nat.ble l h) (onL (zAY s l (Nat.sub h l)) (λr=>.val (zQV r)) 149) 149) 150) <| zAQ (aV es tm x) (λs=>
 vP (zDF s) λn=>jT es tm n n lo hi none (λl h _=>yv (Nat.ble l h) (zYh (zXu s l (Nat.sub h l)) 149) 149) 150) 151
def zQv(k:Nat)(x:zY):X:=λes tm _ _=>zFa (aV es tm x) (λb off=>vP (Nat.add off k) λo=>.val (.ptr b o)) 152
def zUO(agg:Bool)(s:Nat)(cs:List CV)(off:Nat)(e:Nat):OR:=Bool.rec (motive:=λ_=>OR) (zFy (zA6 cs off) e) (zXF (zAY cs off s) e) agg
def zWO(agg:Bool)(off s:Nat)(x:zY):X:=λes tm _ _=>zUw (aV es tm x) (λcs=>zUO agg s cs off 153) 154
def zTI(len esz:Nat)(x i:zY):X:=λes tm _ _=>zFa (aV es tm x) (λb off=>ue (aV es tm i) (λi=>yv (Nat.ble (Nat.succ i) len) (vP (Nat.add off (Nat.mul i esz)) λo=>.val (.ptr b o)) 155) 156) 157
def j9:List (Nat × Int)->List (Nat × Int)->Bool
 | [],[]=>true|(i,a)::l,(j,b)::m=>Nat.beq i j&&zm a b&&j9 l m|_,_=>false
def zMK(a b:SE):Bool:=kEq a.k b.k&&zm a.c b.c&&j9 a.l b.l
def zN0(b:Key)(s:Nat)(e n:SE)(esz:Nat)(i:CV):OR:=match i with
 |.nat k=>match Nat.beq s esz,Sym.bin .lss (.nat k) (.sym n),Sym.bin .leq (.nat 0) (.sym e),Sym.bin .leq (.sym e) (.nat 0)with
  |true,some [.bool true],some [.bool true],some [.bool true]=>vP (Nat.mul k esz) λo=>.val (.ptr b o)
  |_,_,_,_=>.err 320
 |_=>.err 322
def zSK(b:Key)(s:Nat)(e n:SE)(esz:Nat)(i:CV):OR:=match i with
 |.sym j=>match zMK j e&&Nat.beq s esz with
  |true=>match Sym.bin .leq (.nat 0) (.sym e),Sym.bin .lss (.sym e) (.sym n)with
   |some [.bool true],some [.bool true]=>.val (.ptr b 0)|_,_=>.err 320
  |false=>.err 321
 |i=>zN0 b s e n esz i
def zL6(i:CV):CV:=match i with
 |.sym j=>match Sym.bin .andNot (.sym j) (.nat 0)with
  |some [.nat k]=>match zAT (.sym j) (.nat k)with
   |some true=>.nat k|_=>.sym j
  |_=>.sym j
 |i=>i
def zXt(v:CV):CV:=match v with
 |.few i t=>match zL6 (.sym ⟨.i64,0,[(i,1)]⟩)with
  |.nat k=>match nth t k with
   |some s=>.str s|none=>v
  |_=>v
 |v=>v
def zUG(esz:Nat)(b:Key)(off len:Nat)(v:CV)(z:OR):OR:=match v with
 |.sym e=>match e.l with
  | [(i,a)]=>match kEq e.k .i64&&zm e.c 0&&zm a 1&&Nat.beq esz 1,Sym.bin .geq (.sym e) (.nat 0),Sym.bin .leq (.sym e) (.nat (Nat.sub len 1)),len with
   |true,some [.bool true],some [.bool true],m+1=>.val (.elt b off i m)|_,_,_,_=>z
  |_=>z
 |_=>z
def zWY(esz:Nat)(x i:zY):X:=λes tm _ _=>zNr (aV es tm x) (λb s e n=>zSK b s e n esz (aV es tm i)) <| zAV (aV es tm x) (.err 158) (λb off len _ _ _=>zUG esz b off len (zL6 (aV es tm i)) <| ue (zL6 (aV es tm i)) (λi=>yv (Nat.ble (Nat.succ i) len) (vP (Nat.add off (Nat.mul i esz)) λo=>.val (.ptr b o)) 159) 160) 161
def zSm(len esz:Nat)(agg:Bool)(x i:zY):X:=λes tm _ _=>zUw (aV es tm x) (λcs=>ue (aV es tm i) (λi=>yv (Nat.ble (Nat.succ i) len) (zUO agg esz cs (Nat.mul i esz) 162) 163) 164) 165
def zUC(x i:zY):X:=λes tm _ _=>zIB (aV es tm x) (λs=>ue (aV es tm i) (λi=>zFy (zA6 s i) 166) 167) <| zAQ (aV es tm x) (λs=>ue (aV es tm i) (λi=>onN (zXb s i) (λb=>.val (.int .u8 (.ofNat b))) 166) 167) 168
def zDI:List CV->Bool
 | []=>true|.nat _::r=>zDI r|.int _ _::r=>zDI r|_=>false
def zEp:List CV->List CV->Nat->Option Bool
 | [],[],0=>some true|x::a,y::b,n+1=>match zAH .int x y with
  |some true=>zEp a b n|some false=>some false|none=>none
 |_,_,_=>none
def zB2:kW->CV->Bool
 |.ints n,.agg cs=>Nat.beq (um cs) n&&zDI cs|.int,.nat _=>true|.int,.int _ _=>true|.str,.str _=>true|.bool,.bool _=>true|.int,.sym e=>(Sym.cv .i64 (.sym e)).isSome|.str,.sst _=>true|_,_=>false
def zHL(x y:CV):Option Bool:=match Sym.bin .eql x y with
 |some [.bool r]=>some r|_=>none
def kJ:kW->CV->CV->Option Bool
 |.ints n,.agg a,.agg b=>zEp a b n|.int,.nat a,.nat b=>some (Nat.beq a b)|.int,.int j a,.int k b=>match kEq j k with
  |true=>some (zm a b)|false=>none
 |.str,.str a,.str b=>some (qY a b)|.bool,.bool a,.bool b=>some (a == b)|.int,.sym e,y=>zAT (.sym e) y|.int,.nat a,.sym e=>zAT (.nat a) (.sym e)|.int,.int k a,.sym e=>zAT (.int k a) (.sym e)|.str,.sst a,.sst b=>zHL (.sst a) (.sst b)|.str,.sst a,.str b=>zHL (.sst a) (.str b)|.str,.str a,.sst b=>zHL (.str a) (.sst b)|_,_,_=>none
def uZ(kk:kW)(k:CV):List CE->Option (Option CV)
 | []=>some none|e::es=>match kJ kk k e.key with
  |some true=>match uZ kk k es with
   |some none=>some (some e.val)|_=>none
  |some false=>uZ kk k es|none=>none
def zMC(kk:kW)(k v:CV):List CE->Option (List CE)
 | []=>none|e::es=>match kJ kk k e.key with
  |some true=>some (⟨k,v,e.born⟩::es)|some false=>match zMC kk k v es with
   |none=>none|some r=>some (e::r)
  |none=>none
def zMA(kk:kW)(k:CV):List CE->Option (List CE)
 | []=>none|e::es=>match kJ kk k e.key with
  |some true=>some es|some false=>match zMA kk k es with
   |none=>none|some r=>some (e::r)
  |none=>none
def okV(ok:Bool)(v:CV):CV:=match ok with
 |true=>.tup [v,.bool true]|false=>v
def zJ0:CV->Bool
 |.str _=>true|.sst _=>true|_=>false
def zA2:List CE->Bool
 | []=>true|e::es=>zJ0 e.key&&zA2 es
def zUt(kk:kW)(ok:Bool)(k:CV)(es:List CE):OR:=match kk,ok with
 |.str,true=>yv (zJ0 k&&zA2 es&&Sym.inn k (es.map CE.key)) (.read (.tup [.any,.bool true])) 169|_,_=>.err 169
def zDB(kk:kW)(z:CV)(ok:Bool)(k:CV)(es:List CE):OR:=yv (zB2 kk k) (match uZ kk k es with
 |some (some v)=>.read (okV ok v)|some none=>.read (match ok with |true=>.tup [z,.bool false] |false=>z)|none=>zUt kk ok k es) 170
def noZ(kk:kW)(k:CV):List (CV × CV)->Bool
 | []=>true|q::r=>match kJ kk k q.1 with
  |some false=>noZ kk k r|_=>false
def zI7(kk:kW)(k:CV):List (CV × CV)->Option CV
 | []=>none|q::r=>match kJ kk k q.1 with
  |some true=>match noZ kk k r with
   |true=>some q.2|false=>none
  |some false=>zI7 kk k r|none=>none
def zFB(kk:kW)(k v:CV):List (CV × CV)->List (CV × CV)
 | []=>[]
 |q::r=>match kJ kk k q.1 with
  |some true=>(k,v)::r|_=>q::zFB kk k v r
def zM7:CV->Bool
 |.str []=>true|_=>false
def zWf(kk:kW)(z:CV)(ok:Bool)(k:CV)(es:List (CV × CV)):OR:=yv (!ok&&zM7 z&&zB2 kk k) (match zI7 kk k es with
 |some v=>.read (zXt v)|none=>.err 234) 235
def zPG(kk:kW)(z:CV)(ok:Bool)(x k:zY):X:=λes tm h _=>zE3 (aV es tm x) (zDB kk z ok (aV es tm k) [])
 (λb=>zLe (zb b h) (λl=>zWf kk z ok (aV es tm k) l) <| uH (zb b h) (λl _=>zDB kk z ok (aV es tm k) l) 171) 172
def zPo(kk:kW)(m k v:zY):X:=λes tm h n=>zE3 (aV es tm m) (.err 173) (λb=>zLe (zb b h) (λl=>yv (zB2 kk (aV es tm k)) (match zI7 kk (aV es tm k) l with
 |some _=>.eff .undef (yy (some (.mapz (zFB kk (aV es tm k) (aV es tm v) l))) b h) n|none=>.err 236) 237) <| uH (zb b h) (λl clock=>
 yv (zB2 kk (aV es tm k)) (match uZ kk (aV es tm k) l with
  |some (some _)=>match zMC kk (aV es tm k) (aV es tm v) l with
   |some l'=>.eff .undef (yy (some (.map l' clock)) b h) n|none=>.err 174
  |some none=>vP (Nat.succ clock) λc=>.eff .undef (yy (some (.map (l++[⟨aV es tm k,aV es tm v,clock⟩]) c)) b h) n
  |none=>.err 175) 176) 177) 178
def zIq(x:zY):X:=λes tm _ n=>zIB (aV es tm x) (λs=>.alloc (.striter s 0) (.ptr n 0)) <| zAQ (aV es tm x) (λs=>.alloc (.striter (qT s) 0) (.ptr n 0)) 179
def zJU(x:zY):X:=λes tm h n=>zE3 (aV es tm x) (.alloc (.mapiter none 0 [] 0) (.ptr n 0)) (λb=>uH (zb b h) (λ_ clock=>.eff (.ptr n 0) (yy (some (.mapiter (some b) clock [] clock)) n h) n.succ) 180) 181
def zOn(x:Nat)(l:List Nat):Bool:=List.rec (motive:=λ_=>Bool) false (λy _ ih=>Bool.rec (motive:=λ_=>Bool) ih true (Nat.beq x y)) l
def zJX(seen:List Nat):List CE->List CE
 | []=>[]
 |e::es=>match zOn e.born seen with
  |true=>zJX seen es|false=>e::zJX seen es
def zDW(last:Nat):List CE->Bool
 | []=>true|e::es=>Nat.ble last e.born&&zDW last es
def zSs(l:List Nat):Bool:=match l with
 | []=>true|_=>false
def zOK(l:List CE):Bool:=match l with
 | []=>true|_=>false
def zHO(since:Nat):List CE->Bool
 | []=>true|e::es=>Nat.ble (Nat.succ e.born) since&&zHO since es
def zFF(f:CE->OR):CE->List CE->OR
 |e,[]=>f e|e,e'::l=>.fork (f e) (zFF f e' l)
def zSx(v:CV):Option CV:=match v with
 |.int k (.ofNat b)=>match kEq k .u8&&Nat.ble b 127 with
  |true=>some (.int .i32 (.ofNat b))|false=>none
 |.sym e=>match kEq e.k .u8,Sym.bin .leq (.sym e) (.int .u8 (.ofNat 127)),Sym.bin .geq (.sym e) (.int .u8 (.ofNat 0)),Sym.cv .i32 (.sym e)with
  |true,some [.bool true],some [.bool true],some [c]=>some c|_,_,_,_=>none
 |_=>none
def zKp(b:Key)(h:zC)(n:Key)(s:List CV)(pos:Nat):OR:=match zA6 s pos with
 |none=>.eff (.tup [.bool false]) h n|some c=>match zSx c with
  |some r=>vP (Nat.succ pos) λp=>.eff (.tup [.bool true,.nat pos,r]) (yy (some (.striter s p)) b h) n
  |none=>.err 182
def zUZ(b:Key)(h:zC)(n:Key)(m:Key)(since:Nat)(seen:List Nat)(last:Nat):OR:=uH (zb m h) (λes clock=>
 match !zSs seen && !zOK es&&zDW last es with
 |true=>.err 183|false=>match zJX seen es with
  | []=>.eff (.tup [.bool false]) h n|e::l=>yv (zHO since (e::l)) (zFF (λe=>.eff (.tup [.bool true,e.key,e.val]) (yy (some (.mapiter (some m) since (seen++[e.born]) clock)) b h) n) e l) 184) 186
def zUT(s:Bool)(b:Key)(h:zC)(n:Key)(o:Option CObj):OR:=match o,s with
 |some (.striter s pos),true=>zKp b h n s pos|some (.mapiter none _ _ _),false=>.eff (.tup [.bool false]) h n|some (.mapiter (some m) since seen last),false=>zUZ b h n m since seen last|_,_=>.err 187
def zW1(s:Bool)(x:zY):X:=λes tm h n=>zFa (aV es tm x) (λb off=>yv (Nat.beq off 0) (zUT s b h n (zb b h)) 188) 189
def zPx:List Nat->Option Nat
 | []=>none| [x]=>some x|_::y::r=>zPx (y::r)
def zLo(b:Nat):List CE->Bool
 | []=>true|e::es=>match Nat.beq e.born b with
  |true=>false|false=>zLo b es
def zL5(b:Nat):List CE->Option CE
 | []=>none|e::es=>match Nat.beq e.born b with
  |true=>match zLo b es with
   |true=>some e|false=>none
  |false=>zL5 b es
def zNL(h:zC)(o:Option CObj):OR:=match o with
 |some (.mapiter (some m) _ seen stepped)=>match zPx seen with
  |some st=>uH (zb m h) (λes clock=>match Nat.beq clock stepped,zL5 st es with
   |true,some e=>.read (.tup [e.key,e.val])|_,_=>.err 190) 191
  |none=>.err 192
 |_=>.err 193
def zSQ(x:zY):X:=λes tm h _=>zFa (aV es tm x) (λb off=>yv (Nat.beq off 0) (zNL h (zb b h)) 194) 195
def noV(ok:Bool)(z:Option CV):OR:=match ok,z with
 |true,some z=>.val (.tup [z,.bool false])|_,_=>.err 196
def zMN(t:TypeId)(z:Option CV)(ok:Bool)(x:zY):X:=λes tm _ _=>zDl (aV es tm x)
 (λd v=>ifB (Nat.beq d t) (.val (okV ok v)) (noV ok z)) (noV ok z) 197
def zUr(P:Program)(t d:TypeId):Option Bool:=match und P t,P.info? d with
 |some (.interface want),some i=>some (Instr.missingMethod want i.methods).isNone|_,_=>none
def zP9(P:Program)(t:TypeId)(z:Option CV)(ok:Bool)(x:zY):X:=λes tm _ _=>zDl (aV es tm x)
 (λd v=>match zUr P t d with
   |some true=>.val (okV ok (.iface d v))|some false=>noV ok z|none=>.err 198) (noV ok z) 199
def zNB(i:Nat)(x:zY):X:=λes tm _ _=>zWM (aV es tm x) (λvs=>zFy (zA6 vs i) 200) 201
inductive zAj where
 |val (v:CV)
 |var (b:Key) (off:Nat)
def zBQ(h:zC)(b:Key):Option (List CV):=match zb b h with
 |some (.cells vs)=>some vs|some (.ro vs)=>some vs|_=>none
def zQJ(agg:Bool)(s:Nat)(cs:List CV)(off:Nat):Option CV:=match agg with
 |true=>(zAY cs off s).map .agg|false=>zA6 cs off
section
variable(P:Program)
def zQK(h:zC)(t:TypeId)(b:Key)(off:Nat):Option CV:=match qd P t,qR P t,zBQ h b with
 |some a,some s,some vs=>zQJ a s vs off|_,_,_=>none
def zAj.get(h:zC)(t:TypeId):zAj->Option CV
 |.val v=>some v|.var b off=>zQK P h t b off
def zK5(s:FieldStep):Option Field:=match und P s.struct with
 |some (.struct fs)=>match nth fs.toList s.index with
  |some f=>match qR P f.type with
   |some (_+1)=>some f|_=>none
  |none=>none
 |_=>none
def vu(h:zC):List FieldStep->TypeId->zAj->Option (TypeId × zAj)
 | [],t,x=>some (t,x)|s::rest,t,x=>match zK5 P s with
  |none=>none|some f=>match s.deref with
   |true=>match x.get P h t with
    |some (.ptr b off)=>vu h rest f.type (.var b (Nat.add off f.offset))|_=>none
   |false=>match x with
    |.var b off=>vu h rest f.type (.var b (Nat.add off f.offset))|.val (.agg cs)=>match qd P f.type,qR P f.type with
     |some a,some s=>match zQJ a s cs f.offset with
      |some v=>vu h rest f.type (.val v)|none=>none
     |_,_=>none
    |.val _=>none
def zBN(h:zC)(xt:TypeId)(x:zAj)(pr:Bool):Option CV:=match und P xt,pr,x with
 |some (.pointer _),true,x=>x.get P h xt|some (.pointer e),false,x=>match x.get P h xt with
  |some (.ptr b off)=>zQK P h e b off|_=>none
 |some _,true,.var b off=>some (.ptr b off)|some _,true,.val _=>none|some _,false,x=>x.get P h xt|none,_,_=>none
def zAp(name:String):List Method->Option Method
 | []=>none|m::r=>if m.name == name then some m else zAp name r
def zKr(t:TypeId)(name:String):Option Method:=(P.info? t).bind λi=>zAp name i.methods.toList
def zFS(h:zC):Nat->TypeId->CV->String->Option (FuncId × CV)
 | 0,_,_,_=>none|d+1,t,v,name=>match zKr P t name with
  |none=>none|some m=>match vu P h m.path.toList t (.val v)with
   |none=>none|some (xt,x)=>match m.func with
    |none=>match x.get P h xt with
     |some (.iface t' v')=>zFS h d t' v' name|_=>none
    |some (f,pr)=>match zBN P h xt x pr with
     |some r=>some (f,r)|none=>none
def zI6(h:zC)(recv:CV)(name:String)(args:List CV):OR:=zDl recv
 (λt v=>match zFS P h 8 t v name with
   |some (f,r)=>.call f (r::args)|none=>.err 202) (.err 203) 204
def zTv(h:zC)(f:CV)(args:List CV):OR:=zOe f (λfn first captured=>match fn with
 |.func g=>.call g (zEg first (zEg args captured))|.method name=>match zEg first args with
  |recv::rest=>zI6 P h recv name rest| []=>.err 205
 |.methodOf t name=>match zEg first args with
  |recv::rest=>match und P t with
   |some (.interface _)=>zI6 P h recv name rest|some _=>zI6 P h (.iface t recv) name rest|none=>.err 206
  | []=>.err 207
 |.via t path g pr=>match zEg first args with
  |recv::rest=>match vu P h path.toList t (.val recv)with
   |some (xt,x)=>match zBN P h xt x pr with
    |some r=>.call g (r::rest)|none=>.err 208
   |none=>.err 209
  | []=>.err 210
 |_=>.err 211) 212
end
def zLm(c:Nat)(l:List Nat):Nat:=List.rec (motive:=λ_=>Nat) 0 (λx _ ih=>Bool.rec (motive:=λ_=>Nat) ih (Nat.succ ih) (Nat.beq x c)) l
def zEB(c:Nat):List Nat->Nat->Option Nat
 | [],_=>none|x::r,i=>match Nat.beq x c with
  |true=>some i|false=>zEB c r (Nat.succ i)
def zDs(e:Ext)(args:List CV)(h:zC)(n:Key):OR:=match e,args with
 |.count,[a,b]=>zAQ a (λs=>onN (vx b) (λc=>.val (kM (zLm c s))) 213) 214|.indexByte,[a,b]=>zAQ a (λs=>onN (vx b) (λc=>match zEB c s 0 with
  |some i=>.val (kM i)|none=>.val (.int .i64 (.negSucc 0))) 215) 216
 |.cmp,[a,b]=>zAQ a (λs=>zAQ b (λt=>ifB (qY s t) (.val (.nat 0)) (ifB (zBn s t) (.val (.int .i64 (.negSucc 0))) (.val (.nat 1)))) 223) 224|.overlaps,[a,b]=>zAV a (.err 225) (λk _ l _ _ _=>zAV b (.err 226) (λj _ m _ _ _=>yv (!decide (j=k)) (zKY (zb k h) (λu _=>yv u (onCells (zb j h) (λvs=>yv (Nat.ble 1 (um vs)) (.eff (.bool false) h n) 227) 228) 233) (.err 229)) 230) 231) 232|.mapsClone,[a]=>zDl a (λt v=>zE3 v (.err 217) (λb=>uH (zb b h) (λes clock=>.eff (.iface t (.map n)) (yy (some (.map es clock)) n h) n.succ) 218) 219) (.err 220) 221|_,_=>.err 222
def zW5(f:FuncId)(args:List zY):X:=λes tm _ _=>.call f (aVs es tm args)
def zWK(e:Ext)(args:List zY):X:=λes tm h n=>zDs e (aVs es tm args) h n
def zUz(P:Program)(f:zY)(args:List zY):X:=λes tm h _=>zTv P h (aV es tm f) (aVs es tm args)
def zPU(P:Program)(r:zY)(name:String)(args:List zY):X:=λes tm h _=>zI6 P h (aV es tm r) name (aVs es tm args)
def zFC(h:zC)(s:Nat)(x:CV)(k:Nat->List CV->OR)(n:Nat->Nat)(e:Nat):OR:=match x with
 |.str l=>yv (Nat.beq s 1) (onL ((zMi l (n (zDF l))).map qT) (λcs=>k (n (zDF l)) cs) e) e|.sst l=>yv (Nat.beq s 1) (onL (zME l (n (um l))) (λcs=>k (n (um l)) cs) e) e|.win _ _ _ m=>yv (zVV m) (k (n 0) []) e|x=>zAV x (k 0 []) (λb off len _ _ _=>u7 (zb b h) (λvs=>onL (zAY vs off (Nat.mul (n len) s)) (λcs=>k (n len) cs) e) e) e
def zIA(esz k:Nat)(xs:List CV)(sv:CV)(h:zC)(n:Key):OR:=zAV sv
 (match k with
  | 0=>.eff .nilsl h n|k+1=>yv (Nat.ble k 99999) (vP k λk=>.eff (.sl n 0 (Nat.succ k) (Nat.succ k) esz false) (yy (some (.cells xs)) n h) n.succ) 223)
 (λb off len cap s ex=>yv (Nat.beq s esz) (zKY (zb b h) (λ_ vs=>vP (Nat.add len k) λneed=>
   yv ((match ex with |true=>Nat.ble (Nat.succ cap) need |false=>Nat.ble 1 need&&Nat.ble (Nat.succ (um vs)) (Nat.add off (Nat.mul need esz)))&&Nat.ble need 100000) (onL (zAY vs off (Nat.mul len esz)) (λold=>.eff (.sl n 0 need need esz false) (yy (some (.cells (zEg old xs))) n h) n.succ) 225) 226) <| onCells (zb b h) (λvs=>vP (Nat.add len k) λneed=>
   ifB (Nat.ble need cap)
    (onL (jv xs (Nat.mul k esz) vs (Nat.add off (Nat.mul len esz))) (λl=>.eff (.sl b off need cap esz ex) (yy (some (.cells l)) b h) n) 224)
    (yv (Nat.ble need 100000) (onL (zAY vs off (Nat.mul len esz)) (λold=>.eff (.sl n 0 need need esz false) (yy (some (.cells (zEg old xs))) n (Bool.rec (motive:=λ_=>zC) (yy none b h) h ex)) n.succ) 225) 226)) 227) 228) 229
def zBU(esz _bytes:Nat)(s x:zY):X:=λes tm h n=>zFC h esz (aV es tm x) (λk xs=>yv (xk xs) (zIA esz k xs (aV es tm s) h n) 230)
 (λk=>k) 231
def zQm(zero:List CV)(esz:Nat)(s x:zY):X:=λes tm h n=>ue (aV es tm x) (λk=>yv (Nat.ble k 1000) (vP k λk=>yv (xk (wW zero k)) (zIA esz k (wW zero k) (aV es tm s) h n) 234) 234) 234
def zUn(x:CV)(k:Nat->OR)(e:Nat):OR:=match x with
 |.str l=>k (zDF l)|x=>zAV x (k 0) (λ_ _ len _ _ _=>k len) e
def zJe(esz:Nat)(d x:zY):X:=λes tm h n=>zUn (aV es tm d) (λdl=>zFC h esz (aV es tm x) (λk xs=>zAV (aV es tm d)
 (.eff (.nat 0) h n)
 (λb off _ _ _ _=>onCells (zb b h) (λvs=>yv (xk xs) (onL (jv xs (Nat.mul k esz) vs off) (λl=>.eff (kM k) (yy (some (.cells l)) b h) n) 232) 233) 234) 235)
 (λxl=>Nat.min xl dl) 236) 237
def zPH(x:zY):X:=λes tm _ _=>zIB (aV es tm x) (λl=>.val (kM (um l))) <| zAQ (aV es tm x) (λs=>.val (kM (zDF s))) 238
def zUI(x:zY):X:=λes tm _ _=>zNr (aV es tm x) (λ_ _ _ n=>.val (.sym n)) <| zAV (aV es tm x) (.val (.nat 0)) (λ_ _ len _ _ _=>.val (.nat len)) 239
def zQA(x:zY):X:=λes tm h _=>zE3 (aV es tm x) (.val (.nat 0)) (λb=>uH (zb b h) (λl _=>.read (kM (zRo l))) 240) 241
def zSv(vs:List CV)(k:Nat):List CV:=zEg vs (wW [.any] (Nat.sub k (um vs)))
def zUu(b:Key)(off len cap esz:Nat)(h:zC)(n:Key):OR:=ifB (Nat.ble (Nat.succ len) cap) (.val (.big cap))
 (onCells (zb b h) (λvs=>yv (Nat.ble 1 cap) (.fork (.eff (.nat cap) (yy (some (.full false (zSv vs (Nat.add off (Nat.mul cap esz))))) b h) n)
   (.eff (.big (Nat.succ cap)) (yy (some (.cells (zSv vs (Nat.add off (Nat.mul (Nat.succ cap) esz))))) b h) n)) 242) 242)
def zSc(x:zY):X:=λes tm h n=>zAV (aV es tm x) (.val (.nat 0)) (λb off len cap esz ex=>ifB ex (.val (.nat cap)) (zUu b off len cap esz h n)) 243
def zPb(kk:kW)(m k:zY):X:=λes tm h n=>yv (zB2 kk (aV es tm k)) (zE3 (aV es tm m) (.eff (.tup []) h n) (λb=>uH (zb b h) (λl clock=>
 match uZ kk (aV es tm k) l with
 |some (some _)=>match zMA kk (aV es tm k) l with
  |some l'=>.eff (.tup []) (yy (some (.map l' clock)) b h) n|none=>.err 244
 |some none=>.eff (.tup []) h n|none=>.err 245) 246) 247) 248
def zJB(x:zY):X:=λes tm h n=>zE3 (aV es tm x) (.eff (.tup []) h n) (λb=>uH (zb b h) (λ_ clock=>.eff (.tup []) (yy (some (.map [] clock)) b h) n) 249) 250
def zM4(zero:List CV)(esz:Nat)(x:zY):X:=λes tm h n=>zAV (aV es tm x) (.eff (.tup []) h n) (λb off len _ _ _=>onCells (zb b h) (λvs=>yv (xk zero) (onL (jv (wW zero len) (Nat.mul len esz) vs off) (λl=>.eff (.tup []) (yy (some (.cells l)) b h) n) 251) 252) 253) 254
def intOf:CV->Option (IntKind × Int)
 |.nat n=>some (.i64,.ofNat n)|.int k n=>some (k,n)|_=>none
def zVe(mx:Bool)(k:IntKind):Int->List CV->Option CV
 |a,[]=>some (mkInt k a)|a,v::r=>match intOf v with
  |some (j,b)=>match kEq k j with
   |true=>zVe mx k (match mx with
    |true=>(match vL a b with |true=>b |false=>a)
    |false=>(match vL b a with |true=>b |false=>a)) r
   |false=>none
  |none=>none
def zLN(mx:Bool):CV->List CV->Option CV
 |x,[]=>some x|x,v::r=>match Sym.cv .i64 x,Sym.bin .lss (Bool.rec (motive:=λ_=>CV) v x mx) (Bool.rec (motive:=λ_=>CV) x v mx)with
  |some _,some [.bool b]=>zLN mx (Bool.rec (motive:=λ_=>CV) x v b) r|some _,_=>match Sym.bin .leq (Bool.rec (motive:=λ_=>CV) v x mx) (Bool.rec (motive:=λ_=>CV) x v mx)with
   |some [.bool true]=>zLN mx v r|_=>match mx,Sym.mx x v with
    |true,some c=>zLN mx c r|_,_=>none
  |none,_=>none
def zX8(mx:Bool)(x:CV)(r:List CV):Option CV:=match intOf x with
 |some (k,a)=>match zVe mx k a r with
  |some v=>some v|none=>zLN mx x r
 |none=>zLN mx x r
def zPQ(mx:Bool)(x:zY)(r:List zY):X:=λes tm _ _=>zFy (zX8 mx (aV es tm x) (aVs es tm r)) 255
def zSR(f:zY)(args:List zY):X:=λes tm _ _=>zOe (aV es tm f) (λfn first captured=>match fn with
 |.func g=>.dfr g (zEg first (zEg (aVs es tm args) captured))|_=>.err 256) 257
def zSn:X:=λ_ _ _ _=>.recov
def zYm(c:Nat):X:=λ_ _ _ _=>.err (Nat.add 1000 c)
def yX(P:Program)(op:COp):X:=
 COp.rec (motive:=λ_=>X) xMv zWU zSP zX7 zSb zPA zT9 zTO zTr zSt zTH xEq xUn zSe zTX zWS zPD zWZ
  zSo zW3 zUW zMr zTs zWN zUh zQv zWO zTI zWY zSm zUC zPG zPo zIq zJU zW1 zSQ
  zMN (zP9 P) zNB zW5 zWK (zUz P) (zPU P) zBU zQm zJe zPH zUI zQA zSc zPb zJB zM4 zPQ
  zSR zSn zYm op
inductive CX where
 |normal
 |exit (id:Nat)
 |ret
abbrev xz:=List (FuncId × List CV)
inductive R where
 |ok (e:CX) (tm:Tm) (ds:xz) (h:zC) (n:Key)
 |ret (v:CV) (h:zC) (n:Key)
 |err (c:Nat)
 |fork (a b:R)
abbrev yw:=Bool->FuncId->List CV->zC->Key->R
abbrev K:=Tm->xz->zC->Key->R
abbrev KE:=List CV->K
def yN(d:Option Loc)(v:CV)(tm:Tm)(k:Tm->R):R:=Option.rec (motive:=λ_=>CV->Tm->(Tm->R)->R) (λ_ tm k=>k tm) (λp v tm k=>k (wP v p tm)) d v tm k
abbrev zBu:=yw->KE->Option Loc->List CV->K
def zX9(v:CV):zBu:=λ_ k d es tm ds h n=>yN d v tm λtm=>k (v::es) tm ds h n
def zXK(o:CObj)(v:CV):zBu:=λ_ k d es tm ds h n=>yN d v tm λtm=>k (v::es) tm ds (yy (some o) n h) n.succ
def zZw(v:CV)(h:zC)(n:Key):zBu:=λ_ k d es tm ds _ _=>yN d v tm λtm=>k (v::es) tm ds h n
def zYD(f:FuncId)(args:List CV):zBu:=λcall k d es tm ds h n=>R.rec (motive:=λ_=>R) (λ_ _ _ _ _=>.err 300) (λv h n=>yN d v tm λtm=>k (v::es) tm ds h n) (λc=>.err c) (λ_ _ a b=>.fork a b) (call false f args h n)
def zYX(f:FuncId)(args:List CV):zBu:=λ_ k d es tm ds h n=>yN d .undef tm λtm=>k (.undef::es) tm ((f,args)::ds) h n
def zXY:zBu:=λ_ k d es tm ds h n=>yN d .niliface tm λtm=>k (.niliface::es) tm ds h n
def zZs(c:Nat):zBu:=λ_ _ _ _ _ _ _ _=>.err c
def zYc(_ _:OR)(a b:zBu):zBu:=λcall k d es tm ds h n=>.fork (a call k d es tm ds h n) (b call k d es tm ds h n)
def after(r:OR):zBu:=OR.rec (motive:=λ_=>zBu) zX9 zX9 zXK zZw zYD zYX zXY zZs zYc r
def kS(w:Bool)(v:CV):Bool:=match v with
 |.bool b=>match b,w with
  |true,true=>true|false,false=>true|_,_=>false
 |_=>false
def we(v:CV):Bool:=match v with
 |.any=>false|_=>true
def iI(P:Program)(call:yw)(op:COp)(k:KE):KE:=λes tm ds h n=>after (yX P op es tm h n) call k none es tm ds h n
def iO(P:Program)(call:yw)(op:COp)(d:Loc)(k:KE):KE:=λes tm ds h n=>after (yX P op es tm h n) call k (some d) es tm ds h n
def iG(P:Program)(call:yw)(x:zY)(w:Bool)(op:COp)(d:Option Loc)(k:KE):KE:=λes tm ds h n=>
 Bool.rec (motive:=λ_=>R)
  (Bool.rec (motive:=λ_=>R) (.err 299) (yN d .undef tm λtm=>k (.undef::es) tm ds h n) (we (aV es tm x)))
  (after (yX P op es tm h n) call k d es tm ds h n) (kS w (aV es tm x))
def zXT(P:Program)(call:yw)(i:jD):KE->KE:=jD.rec (motive:=λ_=>KE->KE) (iI P call) (iO P call) (iG P call) i
def xE(P:Program)(call:yw)(l:List jD):KE:=
 List.rec (motive:=λ_=>KE) (λ_ tm ds h n=>.ok .normal tm ds h n) (λi _ ih=>zXT P call i ih) l
mutual
def CV.beq:CV->CV->Bool
 |.bool a,.bool b=>a == b|.nat a,.nat b=>Nat.beq a b|.int k a,.int j b=>kEq k j&&zm a b|.sym a,.sym b=>kEq a.k b.k&&zm a.c b.c&&j9 a.l b.l|.str a,.str b=>qY a b|.nilptr,.nilptr=>true|.ptr a b,.ptr c d=>decide (a=c)&&Nat.beq b d|.nilsl,.nilsl=>true|.sl a b c d e f,.sl a' b' c' d' e' f'=>decide (a=a')&&Nat.beq b b'&&Nat.beq c c'&&Nat.beq d d'&&Nat.beq e e'&&f == f'|.nilmap,.nilmap=>true|.map a,.map b=>decide (a=b)|.func f a b,.func g c d=>decide (f=g)&&CV.beqs a c&&CV.beqs b d|.nilfunc,.nilfunc=>true|.iface t v,.iface u w=>Nat.beq t u&&CV.beq v w|.niliface,.niliface=>true|.agg a,.agg b=>CV.beqs a b|.tup a,.tup b=>CV.beqs a b|.sst a,.sst b=>CV.beqs a b|_,_=>false
def CV.beqs:List CV->List CV->Bool
 | [],[]=>true|a::as,b::bs=>CV.beq a b&&CV.beqs as bs|_,_=>false
end
abbrev KD:=List CV->List zC->K
def ja(P:Program)(op:COp)(es:List CV)(tm:Tm)(n:Key)(v:CV):Nat->List zC->Bool
 | 0,_=>true|_+1,[]=>true|c+1,h::hs=>match yX P op es tm h n with
  |.read w=>CV.beq v w&&ja P op es tm n v c hs|_=>false
def zOB(call:yw)(d:Option Loc)(k:KD)(r:OR):KD:=λes hs tm ds h n=>match r with
 |.val v=>yN d v tm λtm=>k (v::es) (h::hs) tm ds h n
 |.read v=>yN d v tm λtm=>k (v::es) (h::hs) tm ds h n
 |.alloc o v=>yN d v tm λtm=>k (v::es) (h::hs) tm ds (yy (some o) n h) n.succ
 |.eff v h' n'=>yN d v tm λtm=>k (v::es) (h::hs) tm ds h' n'
 |.call f args=>R.rec (motive:=λ_=>R) (λ_ _ _ _ _=>.err 300) (λv h' n'=>yN d v tm λtm=>k (v::es) (h::hs) tm ds h' n') (λc=>.err c)
  (λ_ _ a b=>.fork a b) (call false f args h n)
 |.err c=>.err c|_=>.err 312
def dNo(P:Program)(op:COp)(d:Option Loc)(chk:Nat)(k:KD)(r:OR):KD:=λes hs tm ds h n=>match r with
 |.val v=>yN d v tm λtm=>k (v::es) hs tm ds h n
 |.read v=>match ja P op es tm n v chk hs with
  |true=>yN d v tm λtm=>k (v::es) hs tm ds h n
  |false=>.err 311
 |.alloc o v=>yN d v tm λtm=>k (v::es) hs tm ds (yy (some o) n h) n.succ
 |.err c=>.err c|_=>.err 313
def dOp(P:Program)(call:yw)(op:COp)(d:Option Loc)(e:Bool)(chk:Nat)(k:KD):KD:=λes hs tm ds h n=>match e with
 |true=>zOB call d k (yX P op es tm h n) es hs tm ds h n|false=>dNo P op d chk k (yX P op es tm h n) es hs tm ds h n
def zGf(d:Option Loc)(e:Bool)(k:KD):KD:=λes hs tm ds h n=>yN d .undef tm λtm=>k (.undef::es) (match e with |true=>h::hs |false=>hs) tm ds h n
def evD(P:Program)(call:yw):List zRM->KD
 | [],_,_,tm,ds,h,n=>.ok .normal tm ds h n|i::r,es,hs,tm,ds,h,n=>match i.ins with
  |.i op=>dOp P call op none i.eff i.chk (evD P call r) es hs tm ds h n|.o op d=>dOp P call op (some d) i.eff i.chk (evD P call r) es hs tm ds h n|.g x w op d=>match kS w (aV es tm x)with
   |true=>dOp P call op d i.eff i.chk (evD P call r) es hs tm ds h n|false=>match we (aV es tm x)with
    |true=>zGf d i.eff (evD P call r) es hs tm ds h n|false=>.err 299
def qi(k:K)(r:R):R:=R.rec (motive:=λ_=>R) (λe tm ds h n=>CX.rec (motive:=λ_=>R) (k tm ds h n) (λid=>.ok (.exit id) tm ds h n) (.ok .ret tm ds h n) e)
 (λ_ _ _=>.err 301) (λc=>.err c) (λ_ _ a b=>.fork a b) r
def zAM(id:Nat)(r:R):R:=R.rec (motive:=λ_=>R) (λe tm ds h n=>CX.rec (motive:=λ_=>R) (.ok .normal tm ds h n)
 (λi=>Bool.rec (motive:=λ_=>R) (.ok (.exit i) tm ds h n) (.ok .normal tm ds h n) (Nat.beq i id)) (.ok .ret tm ds h n) e)
 (λ_ _ _=>.err 301) (λc=>.err c) (λ_ _ a b=>.fork a b) r
def zIo(a b:K)(v:CV):K:=match v with
 |.bool true=>a|.bool false=>b|_=>λ_ _ _ _=>.err 302
def zB8(fuel:Nat)(b:K):K:=Nat.rec (motive:=λ_=>K) (λ_ _ _ _=>.err 303) (λ_ ih tm ds h n=>qi ih (b tm ds h n)) fuel
def zA0:Nat:=100000
def zq(P:Program)(call:yw)(c:CCode):K:=
 CCode.rec (motive:=λ_=>K)
  (λtm ds h n=>.ok .normal tm ds h n)
  (λops=>xE P call ops [])
  (λops=>evD P call ops [] [])
  (λ_ _ a b tm ds h n=>qi b (a tm ds h n))
  (λx _ _ a b tm ds h n=>zIo a b (aV [] tm x) tm ds h n)
  (λid _ b tm ds h n=>zAM id (b tm ds h n))
  (λ_ b=>zB8 zA0 b)
  (λid tm ds h n=>.ok (.exit id) tm ds h n)
  (λtm ds h n=>.ok .ret tm ds h n)
  (λ_ b=>b)
  (λc _ _ _ _=>.err (Nat.add 2000 c)) c
def zSX(h:zC)(tm:Tm)(r:CRes):Option CV:=match r with
 |.tmp x=>some (aV [] tm x)|.cell1 x=>match aV [] tm x with
  |.ptr b off=>match zBQ h b with
   |some cs=>zA6 cs off|none=>none
  |_=>none
 |.cellN x s=>match aV [] tm x with
  |.ptr b off=>match zBQ h b with
   |some cs=>(zAY cs off s).map .agg|none=>none
  |_=>none
def zDM(h:zC)(tm:Tm):List CRes->Option (List CV)
 | []=>some []|r::rs=>match zSX h tm r with
  |none=>none|some v=>match zDM h tm rs with
   |none=>none|some vs=>some (v::vs)
def zDQ(h:zC)(tm:Tm)(rs:List CRes):Option CV:=match zDM h tm rs with
 |some [v]=>some v|some vs=>some (.tup vs)|none=>none
def qz:List CV->Nat->Tm->Tm
 | [],_,t=>t|v::vs,i,t=>match Nat.ble i 271 with
  |true=>qz vs (Nat.succ i) (wP v (Loc.ofNat i) t)|false=>t
def vm(call:yw)(k:zC->Key->R):xz->zC->Key->R
 | [],h,n=>k h n|(f,args)::r,h,n=>R.rec (motive:=λ_=>R) (λ_ _ _ _ _=>.err 300) (λ_ h n=>vm call k r h n) (λc=>.err c) (λ_ _ a b=>.fork a b) (call true f args h n)
def zEq(rs:List CRes)(tm:Tm)(h:zC)(n:Key):R:=match zDQ h tm rs with
 |some v=>.ret v h n|none=>.err 305
def kU(d:Bool)(call:yw)(rs:List CRes)(tm:Tm)(ds:xz)(h:zC)(n:Key):R:=match ds with
 | []=>zEq rs tm h n|f::ds=>match d with
  |false=>vm call (λh n=>zEq rs tm h n) (f::ds) h n|true=>.err 306
def xJ(d:Bool)(call:yw)(rs:List CRes)(r:R):R:=R.rec (motive:=λ_=>R)
 (λe tm ds h n=>CX.rec (motive:=λ_=>R) (kU d call rs tm ds h n) (λ_=>.err 307) (kU d call rs tm ds h n) e) (λ_ _ _=>.err 308) (λc=>.err c) (λ_ _ a b=>.fork a b) r
abbrev NatF:=Sym->Bool->List CV->zC->Key->R
abbrev Nats:=FuncId->Option NatF
def zTZ(r:OR)(h:zC)(n:Key):R:=match r with
 |.val v=>.ret v h n|.eff v h n=>.ret v h n|.err c=>.err c|_=>.err 309
def zB4(P:Program)(d:Bool)(call:yw)(fn:CFn)(args:List CV)(h:zC)(n:Key):R:=
 CFn.rec (motive:=λ_=>R) (λbody res=>xJ d call res (zq P call body (qz args 0 .nil) [] h n))
  (λops body res=>match d with
    |true=>xJ true call res (qi (zq P call body) (xE P call ops [] (qz args 0 .nil) [] h n))|false=>.err 311)
  (λe=>match d with
    |true=>.err 313|false=>zTZ (zDs e args h n) h n) (λc=>.err (Nat.add 3000 c)) fn
def ev(P:Program)(code:FuncId->CFn)(nat:Nats)(fuel:Nat):yw:=
 Nat.rec (motive:=λ_=>yw) (λ_ _ _ _ _=>.err 310)
  (λ_ ih d f args h n=>Option.rec (motive:=λ_=>R) (zB4 P d ih (code f) args h n) (λg=>g ‹Sym› d args h n) (nat f)) fuel
end
end Go.Ev
