/- A verified evaluator for the model's code: EvA, EvB. -/
import GoSem.Dispatch
import GoSem.Core.Made
set_option linter.unusedSectionVars false
set_option linter.unusedVariables false
set_option linter.unusedSimpArgs false
namespace Go.Ev
inductive Dg where
 | d0 | d1 | d2 | d3 | d4 | d5 | d6 | d7 | d8 | d9 | d10 | d11 | d12 | d13 | d14 | d15
 deriving DecidableEq,Inhabited
noncomputable def Dg.succ (d:Dg):Option Dg:=Dg.rec (motive:=fun _=>Option Dg) (some .d1) (some .d2) (some .d3) (some .d4) (some .d5) (some .d6) (some .d7) (some .d8) (some .d9) (some .d10) (some .d11) (some .d12) (some .d13) (some .d14) (some .d15) none d
noncomputable def Dg.ix (d:Dg):Nat:=Dg.rec (motive:=fun _=>Nat) 0 1 2 3 4 5 6 7 8 9 10 11 12 13 14 15 d
def Dg.ofN:Nat→Dg
 | 0=>.d0
 | 1=>.d1
 | 2=>.d2
 | 3=>.d3
 | 4=>.d4
 | 5=>.d5
 | 6=>.d6
 | 7=>.d7
 | 8=>.d8
 | 9=>.d9
 | 10=>.d10
 | 11=>.d11
 | 12=>.d12
 | 13=>.d13
 | 14=>.d14
 | _=>.d15
inductive Key where
 | mk (a b c d:Dg)
 deriving DecidableEq,Inhabited
def Key.zero:Key:=.mk .d0 .d0 .d0 .d0
noncomputable def Key.succ (k:Key):Key:=
 Key.rec (motive:=fun _=>Key) (fun a b c d=>
  Option.rec (motive:=fun _=>Key)
   (Option.rec (motive:=fun _=>Key)
     (Option.rec (motive:=fun _=>Key)
       (Option.rec (motive:=fun _=>Key) (.mk .d15 .d15 .d15 .d15) (fun a=>.mk a .d0 .d0 .d0) a.succ)
       (fun b=>.mk a b .d0 .d0) b.succ)
     (fun c=>.mk a b c .d0) c.succ)
   (fun d=>.mk a b c d) d.succ) k
noncomputable def Key.ix:Key→Nat
 | .mk a b c d=>((a.ix*16+b.ix)*16+c.ix)*16+d.ix
def Key.ofNat (n:Nat):Key:=.mk (.ofN (n / 4096 % 16)) (.ofN (n / 256 % 16)) (.ofN (n / 16 % 16)) (.ofN (n % 16))
inductive Loc where
 | s (d:Dg)
 | w (c d:Dg)
 deriving DecidableEq,Inhabited
def Loc.ofNat (n:Nat):Loc:=match Nat.ble n 15 with
 | true=>.s (.ofN n)
 | false=>.w (.ofN ((n - 16) / 16)) (.ofN ((n - 16) % 16))
structure SE where
 k:IntKind
 c:Int
 l:List (Nat × Int)
inductive CV where
 | bool (b:Bool)
 | nat (n:Nat)
 | int (k:IntKind) (n:Int)
 | anyi (k:IntKind)
 | str (s:List Nat)
 | nilptr
 | ptr (b:Key) (off:Nat)
 | nilsl
 | sl (b:Key) (off len cap esz:Nat) (exact:Bool)
 | nilmap
 | map (b:Key)
 | func (fn:Fn) (first captured:List CV)
 | nilfunc
 | iface (t:TypeId) (v:CV)
 | niliface
 | agg (cs:List CV)
 | tup (vs:List CV)
 | sym (e:SE)
 | win (b:Key) (esz:Nat) (e n:SE)
 | sst (l:List CV)
 | big (n:Nat)
 | few (i:Nat) (t:List (List Nat))
 | elt (b:Key) (off i m:Nat)
 | any
 deriving Inhabited
def CV.undef:CV:=.tup []
structure CE where
 key:CV
 val:CV
 born:Nat
inductive CObj where
 | cells (vs:List CV)
 | ro (vs:List CV)
 | map (es:List CE) (clock:Nat)
 | striter (s:List CV) (pos:Nat)
 | mapiter (m:Option Key) (since:Nat) (seen:List Nat) (stepped:Nat)
 | full (u:Bool) (vs:List CV)
 | mapz (es:List (CV × CV))
 | seen (b:Key)
 | hid
noncomputable section
inductive LV where
 | nil
 | nd (c0 c1 c2 c3 c4 c5 c6 c7 c8 c9 c10 c11 c12 c13 c14 c15:CV)
def LV.get (d:Dg) (t:LV):CV:=
 Dg.rec (motive:=fun _=>LV→CV)
  (fun t=>LV.rec (motive:=fun _=>CV) CV.any (fun c0 _ _ _ _ _ _ _ _ _ _ _ _ _ _ _=>c0) t)
  (fun t=>LV.rec (motive:=fun _=>CV) CV.any (fun _ c1 _ _ _ _ _ _ _ _ _ _ _ _ _ _=>c1) t)
  (fun t=>LV.rec (motive:=fun _=>CV) CV.any (fun _ _ c2 _ _ _ _ _ _ _ _ _ _ _ _ _=>c2) t)
  (fun t=>LV.rec (motive:=fun _=>CV) CV.any (fun _ _ _ c3 _ _ _ _ _ _ _ _ _ _ _ _=>c3) t)
  (fun t=>LV.rec (motive:=fun _=>CV) CV.any (fun _ _ _ _ c4 _ _ _ _ _ _ _ _ _ _ _=>c4) t)
  (fun t=>LV.rec (motive:=fun _=>CV) CV.any (fun _ _ _ _ _ c5 _ _ _ _ _ _ _ _ _ _=>c5) t)
  (fun t=>LV.rec (motive:=fun _=>CV) CV.any (fun _ _ _ _ _ _ c6 _ _ _ _ _ _ _ _ _=>c6) t)
  (fun t=>LV.rec (motive:=fun _=>CV) CV.any (fun _ _ _ _ _ _ _ c7 _ _ _ _ _ _ _ _=>c7) t)
  (fun t=>LV.rec (motive:=fun _=>CV) CV.any (fun _ _ _ _ _ _ _ _ c8 _ _ _ _ _ _ _=>c8) t)
  (fun t=>LV.rec (motive:=fun _=>CV) CV.any (fun _ _ _ _ _ _ _ _ _ c9 _ _ _ _ _ _=>c9) t)
  (fun t=>LV.rec (motive:=fun _=>CV) CV.any (fun _ _ _ _ _ _ _ _ _ _ c10 _ _ _ _ _=>c10) t)
  (fun t=>LV.rec (motive:=fun _=>CV) CV.any (fun _ _ _ _ _ _ _ _ _ _ _ c11 _ _ _ _=>c11) t)
  (fun t=>LV.rec (motive:=fun _=>CV) CV.any (fun _ _ _ _ _ _ _ _ _ _ _ _ c12 _ _ _=>c12) t)
  (fun t=>LV.rec (motive:=fun _=>CV) CV.any (fun _ _ _ _ _ _ _ _ _ _ _ _ _ c13 _ _=>c13) t)
  (fun t=>LV.rec (motive:=fun _=>CV) CV.any (fun _ _ _ _ _ _ _ _ _ _ _ _ _ _ c14 _=>c14) t)
  (fun t=>LV.rec (motive:=fun _=>CV) CV.any (fun _ _ _ _ _ _ _ _ _ _ _ _ _ _ _ c15=>c15) t) d t
def LV.upd (f:CV→CV) (d:Dg) (t:LV):LV:=
 Dg.rec (motive:=fun _=>(CV→CV)→LV→LV)
  (fun f t=>LV.rec (motive:=fun _=>LV) (.nd (f CV.any) CV.any CV.any CV.any CV.any CV.any CV.any CV.any CV.any CV.any CV.any CV.any CV.any CV.any CV.any CV.any) (fun c0 c1 c2 c3 c4 c5 c6 c7 c8 c9 c10 c11 c12 c13 c14 c15=>.nd (f c0) c1 c2 c3 c4 c5 c6 c7 c8 c9 c10 c11 c12 c13 c14 c15) t)
  (fun f t=>LV.rec (motive:=fun _=>LV) (.nd CV.any (f CV.any) CV.any CV.any CV.any CV.any CV.any CV.any CV.any CV.any CV.any CV.any CV.any CV.any CV.any CV.any) (fun c0 c1 c2 c3 c4 c5 c6 c7 c8 c9 c10 c11 c12 c13 c14 c15=>.nd c0 (f c1) c2 c3 c4 c5 c6 c7 c8 c9 c10 c11 c12 c13 c14 c15) t)
  (fun f t=>LV.rec (motive:=fun _=>LV) (.nd CV.any CV.any (f CV.any) CV.any CV.any CV.any CV.any CV.any CV.any CV.any CV.any CV.any CV.any CV.any CV.any CV.any) (fun c0 c1 c2 c3 c4 c5 c6 c7 c8 c9 c10 c11 c12 c13 c14 c15=>.nd c0 c1 (f c2) c3 c4 c5 c6 c7 c8 c9 c10 c11 c12 c13 c14 c15) t)
  (fun f t=>LV.rec (motive:=fun _=>LV) (.nd CV.any CV.any CV.any (f CV.any) CV.any CV.any CV.any CV.any CV.any CV.any CV.any CV.any CV.any CV.any CV.any CV.any) (fun c0 c1 c2 c3 c4 c5 c6 c7 c8 c9 c10 c11 c12 c13 c14 c15=>.nd c0 c1 c2 (f c3) c4 c5 c6 c7 c8 c9 c10 c11 c12 c13 c14 c15) t)
  (fun f t=>LV.rec (motive:=fun _=>LV) (.nd CV.any CV.any CV.any CV.any (f CV.any) CV.any CV.any CV.any CV.any CV.any CV.any CV.any CV.any CV.any CV.any CV.any) (fun c0 c1 c2 c3 c4 c5 c6 c7 c8 c9 c10 c11 c12 c13 c14 c15=>.nd c0 c1 c2 c3 (f c4) c5 c6 c7 c8 c9 c10 c11 c12 c13 c14 c15) t)
  (fun f t=>LV.rec (motive:=fun _=>LV) (.nd CV.any CV.any CV.any CV.any CV.any (f CV.any) CV.any CV.any CV.any CV.any CV.any CV.any CV.any CV.any CV.any CV.any) (fun c0 c1 c2 c3 c4 c5 c6 c7 c8 c9 c10 c11 c12 c13 c14 c15=>.nd c0 c1 c2 c3 c4 (f c5) c6 c7 c8 c9 c10 c11 c12 c13 c14 c15) t)
  (fun f t=>LV.rec (motive:=fun _=>LV) (.nd CV.any CV.any CV.any CV.any CV.any CV.any (f CV.any) CV.any CV.any CV.any CV.any CV.any CV.any CV.any CV.any CV.any) (fun c0 c1 c2 c3 c4 c5 c6 c7 c8 c9 c10 c11 c12 c13 c14 c15=>.nd c0 c1 c2 c3 c4 c5 (f c6) c7 c8 c9 c10 c11 c12 c13 c14 c15) t)
  (fun f t=>LV.rec (motive:=fun _=>LV) (.nd CV.any CV.any CV.any CV.any CV.any CV.any CV.any (f CV.any) CV.any CV.any CV.any CV.any CV.any CV.any CV.any CV.any) (fun c0 c1 c2 c3 c4 c5 c6 c7 c8 c9 c10 c11 c12 c13 c14 c15=>.nd c0 c1 c2 c3 c4 c5 c6 (f c7) c8 c9 c10 c11 c12 c13 c14 c15) t)
  (fun f t=>LV.rec (motive:=fun _=>LV) (.nd CV.any CV.any CV.any CV.any CV.any CV.any CV.any CV.any (f CV.any) CV.any CV.any CV.any CV.any CV.any CV.any CV.any) (fun c0 c1 c2 c3 c4 c5 c6 c7 c8 c9 c10 c11 c12 c13 c14 c15=>.nd c0 c1 c2 c3 c4 c5 c6 c7 (f c8) c9 c10 c11 c12 c13 c14 c15) t)
  (fun f t=>LV.rec (motive:=fun _=>LV) (.nd CV.any CV.any CV.any CV.any CV.any CV.any CV.any CV.any CV.any (f CV.any) CV.any CV.any CV.any CV.any CV.any CV.any) (fun c0 c1 c2 c3 c4 c5 c6 c7 c8 c9 c10 c11 c12 c13 c14 c15=>.nd c0 c1 c2 c3 c4 c5 c6 c7 c8 (f c9) c10 c11 c12 c13 c14 c15) t)
  (fun f t=>LV.rec (motive:=fun _=>LV) (.nd CV.any CV.any CV.any CV.any CV.any CV.any CV.any CV.any CV.any CV.any (f CV.any) CV.any CV.any CV.any CV.any CV.any) (fun c0 c1 c2 c3 c4 c5 c6 c7 c8 c9 c10 c11 c12 c13 c14 c15=>.nd c0 c1 c2 c3 c4 c5 c6 c7 c8 c9 (f c10) c11 c12 c13 c14 c15) t)
  (fun f t=>LV.rec (motive:=fun _=>LV) (.nd CV.any CV.any CV.any CV.any CV.any CV.any CV.any CV.any CV.any CV.any CV.any (f CV.any) CV.any CV.any CV.any CV.any) (fun c0 c1 c2 c3 c4 c5 c6 c7 c8 c9 c10 c11 c12 c13 c14 c15=>.nd c0 c1 c2 c3 c4 c5 c6 c7 c8 c9 c10 (f c11) c12 c13 c14 c15) t)
  (fun f t=>LV.rec (motive:=fun _=>LV) (.nd CV.any CV.any CV.any CV.any CV.any CV.any CV.any CV.any CV.any CV.any CV.any CV.any (f CV.any) CV.any CV.any CV.any) (fun c0 c1 c2 c3 c4 c5 c6 c7 c8 c9 c10 c11 c12 c13 c14 c15=>.nd c0 c1 c2 c3 c4 c5 c6 c7 c8 c9 c10 c11 (f c12) c13 c14 c15) t)
  (fun f t=>LV.rec (motive:=fun _=>LV) (.nd CV.any CV.any CV.any CV.any CV.any CV.any CV.any CV.any CV.any CV.any CV.any CV.any CV.any (f CV.any) CV.any CV.any) (fun c0 c1 c2 c3 c4 c5 c6 c7 c8 c9 c10 c11 c12 c13 c14 c15=>.nd c0 c1 c2 c3 c4 c5 c6 c7 c8 c9 c10 c11 c12 (f c13) c14 c15) t)
  (fun f t=>LV.rec (motive:=fun _=>LV) (.nd CV.any CV.any CV.any CV.any CV.any CV.any CV.any CV.any CV.any CV.any CV.any CV.any CV.any CV.any (f CV.any) CV.any) (fun c0 c1 c2 c3 c4 c5 c6 c7 c8 c9 c10 c11 c12 c13 c14 c15=>.nd c0 c1 c2 c3 c4 c5 c6 c7 c8 c9 c10 c11 c12 c13 (f c14) c15) t)
  (fun f t=>LV.rec (motive:=fun _=>LV) (.nd CV.any CV.any CV.any CV.any CV.any CV.any CV.any CV.any CV.any CV.any CV.any CV.any CV.any CV.any CV.any (f CV.any)) (fun c0 c1 c2 c3 c4 c5 c6 c7 c8 c9 c10 c11 c12 c13 c14 c15=>.nd c0 c1 c2 c3 c4 c5 c6 c7 c8 c9 c10 c11 c12 c13 c14 (f c15)) t) d f t
inductive L1 where
 | nil
 | nd (c0 c1 c2 c3 c4 c5 c6 c7 c8 c9 c10 c11 c12 c13 c14 c15:LV)
def L1.get (d:Dg) (t:L1):LV:=
 Dg.rec (motive:=fun _=>L1→LV)
  (fun t=>L1.rec (motive:=fun _=>LV) LV.nil (fun c0 _ _ _ _ _ _ _ _ _ _ _ _ _ _ _=>c0) t)
  (fun t=>L1.rec (motive:=fun _=>LV) LV.nil (fun _ c1 _ _ _ _ _ _ _ _ _ _ _ _ _ _=>c1) t)
  (fun t=>L1.rec (motive:=fun _=>LV) LV.nil (fun _ _ c2 _ _ _ _ _ _ _ _ _ _ _ _ _=>c2) t)
  (fun t=>L1.rec (motive:=fun _=>LV) LV.nil (fun _ _ _ c3 _ _ _ _ _ _ _ _ _ _ _ _=>c3) t)
  (fun t=>L1.rec (motive:=fun _=>LV) LV.nil (fun _ _ _ _ c4 _ _ _ _ _ _ _ _ _ _ _=>c4) t)
  (fun t=>L1.rec (motive:=fun _=>LV) LV.nil (fun _ _ _ _ _ c5 _ _ _ _ _ _ _ _ _ _=>c5) t)
  (fun t=>L1.rec (motive:=fun _=>LV) LV.nil (fun _ _ _ _ _ _ c6 _ _ _ _ _ _ _ _ _=>c6) t)
  (fun t=>L1.rec (motive:=fun _=>LV) LV.nil (fun _ _ _ _ _ _ _ c7 _ _ _ _ _ _ _ _=>c7) t)
  (fun t=>L1.rec (motive:=fun _=>LV) LV.nil (fun _ _ _ _ _ _ _ _ c8 _ _ _ _ _ _ _=>c8) t)
  (fun t=>L1.rec (motive:=fun _=>LV) LV.nil (fun _ _ _ _ _ _ _ _ _ c9 _ _ _ _ _ _=>c9) t)
  (fun t=>L1.rec (motive:=fun _=>LV) LV.nil (fun _ _ _ _ _ _ _ _ _ _ c10 _ _ _ _ _=>c10) t)
  (fun t=>L1.rec (motive:=fun _=>LV) LV.nil (fun _ _ _ _ _ _ _ _ _ _ _ c11 _ _ _ _=>c11) t)
  (fun t=>L1.rec (motive:=fun _=>LV) LV.nil (fun _ _ _ _ _ _ _ _ _ _ _ _ c12 _ _ _=>c12) t)
  (fun t=>L1.rec (motive:=fun _=>LV) LV.nil (fun _ _ _ _ _ _ _ _ _ _ _ _ _ c13 _ _=>c13) t)
  (fun t=>L1.rec (motive:=fun _=>LV) LV.nil (fun _ _ _ _ _ _ _ _ _ _ _ _ _ _ c14 _=>c14) t)
  (fun t=>L1.rec (motive:=fun _=>LV) LV.nil (fun _ _ _ _ _ _ _ _ _ _ _ _ _ _ _ c15=>c15) t) d t
def L1.upd (f:LV→LV) (d:Dg) (t:L1):L1:=
 Dg.rec (motive:=fun _=>(LV→LV)→L1→L1)
  (fun f t=>L1.rec (motive:=fun _=>L1) (.nd (f LV.nil) LV.nil LV.nil LV.nil LV.nil LV.nil LV.nil LV.nil LV.nil LV.nil LV.nil LV.nil LV.nil LV.nil LV.nil LV.nil) (fun c0 c1 c2 c3 c4 c5 c6 c7 c8 c9 c10 c11 c12 c13 c14 c15=>.nd (f c0) c1 c2 c3 c4 c5 c6 c7 c8 c9 c10 c11 c12 c13 c14 c15) t)
  (fun f t=>L1.rec (motive:=fun _=>L1) (.nd LV.nil (f LV.nil) LV.nil LV.nil LV.nil LV.nil LV.nil LV.nil LV.nil LV.nil LV.nil LV.nil LV.nil LV.nil LV.nil LV.nil) (fun c0 c1 c2 c3 c4 c5 c6 c7 c8 c9 c10 c11 c12 c13 c14 c15=>.nd c0 (f c1) c2 c3 c4 c5 c6 c7 c8 c9 c10 c11 c12 c13 c14 c15) t)
  (fun f t=>L1.rec (motive:=fun _=>L1) (.nd LV.nil LV.nil (f LV.nil) LV.nil LV.nil LV.nil LV.nil LV.nil LV.nil LV.nil LV.nil LV.nil LV.nil LV.nil LV.nil LV.nil) (fun c0 c1 c2 c3 c4 c5 c6 c7 c8 c9 c10 c11 c12 c13 c14 c15=>.nd c0 c1 (f c2) c3 c4 c5 c6 c7 c8 c9 c10 c11 c12 c13 c14 c15) t)
  (fun f t=>L1.rec (motive:=fun _=>L1) (.nd LV.nil LV.nil LV.nil (f LV.nil) LV.nil LV.nil LV.nil LV.nil LV.nil LV.nil LV.nil LV.nil LV.nil LV.nil LV.nil LV.nil) (fun c0 c1 c2 c3 c4 c5 c6 c7 c8 c9 c10 c11 c12 c13 c14 c15=>.nd c0 c1 c2 (f c3) c4 c5 c6 c7 c8 c9 c10 c11 c12 c13 c14 c15) t)
  (fun f t=>L1.rec (motive:=fun _=>L1) (.nd LV.nil LV.nil LV.nil LV.nil (f LV.nil) LV.nil LV.nil LV.nil LV.nil LV.nil LV.nil LV.nil LV.nil LV.nil LV.nil LV.nil) (fun c0 c1 c2 c3 c4 c5 c6 c7 c8 c9 c10 c11 c12 c13 c14 c15=>.nd c0 c1 c2 c3 (f c4) c5 c6 c7 c8 c9 c10 c11 c12 c13 c14 c15) t)
  (fun f t=>L1.rec (motive:=fun _=>L1) (.nd LV.nil LV.nil LV.nil LV.nil LV.nil (f LV.nil) LV.nil LV.nil LV.nil LV.nil LV.nil LV.nil LV.nil LV.nil LV.nil LV.nil) (fun c0 c1 c2 c3 c4 c5 c6 c7 c8 c9 c10 c11 c12 c13 c14 c15=>.nd c0 c1 c2 c3 c4 (f c5) c6 c7 c8 c9 c10 c11 c12 c13 c14 c15) t)
  (fun f t=>L1.rec (motive:=fun _=>L1) (.nd LV.nil LV.nil LV.nil LV.nil LV.nil LV.nil (f LV.nil) LV.nil LV.nil LV.nil LV.nil LV.nil LV.nil LV.nil LV.nil LV.nil) (fun c0 c1 c2 c3 c4 c5 c6 c7 c8 c9 c10 c11 c12 c13 c14 c15=>.nd c0 c1 c2 c3 c4 c5 (f c6) c7 c8 c9 c10 c11 c12 c13 c14 c15) t)
  (fun f t=>L1.rec (motive:=fun _=>L1) (.nd LV.nil LV.nil LV.nil LV.nil LV.nil LV.nil LV.nil (f LV.nil) LV.nil LV.nil LV.nil LV.nil LV.nil LV.nil LV.nil LV.nil) (fun c0 c1 c2 c3 c4 c5 c6 c7 c8 c9 c10 c11 c12 c13 c14 c15=>.nd c0 c1 c2 c3 c4 c5 c6 (f c7) c8 c9 c10 c11 c12 c13 c14 c15) t)
  (fun f t=>L1.rec (motive:=fun _=>L1) (.nd LV.nil LV.nil LV.nil LV.nil LV.nil LV.nil LV.nil LV.nil (f LV.nil) LV.nil LV.nil LV.nil LV.nil LV.nil LV.nil LV.nil) (fun c0 c1 c2 c3 c4 c5 c6 c7 c8 c9 c10 c11 c12 c13 c14 c15=>.nd c0 c1 c2 c3 c4 c5 c6 c7 (f c8) c9 c10 c11 c12 c13 c14 c15) t)
  (fun f t=>L1.rec (motive:=fun _=>L1) (.nd LV.nil LV.nil LV.nil LV.nil LV.nil LV.nil LV.nil LV.nil LV.nil (f LV.nil) LV.nil LV.nil LV.nil LV.nil LV.nil LV.nil) (fun c0 c1 c2 c3 c4 c5 c6 c7 c8 c9 c10 c11 c12 c13 c14 c15=>.nd c0 c1 c2 c3 c4 c5 c6 c7 c8 (f c9) c10 c11 c12 c13 c14 c15) t)
  (fun f t=>L1.rec (motive:=fun _=>L1) (.nd LV.nil LV.nil LV.nil LV.nil LV.nil LV.nil LV.nil LV.nil LV.nil LV.nil (f LV.nil) LV.nil LV.nil LV.nil LV.nil LV.nil) (fun c0 c1 c2 c3 c4 c5 c6 c7 c8 c9 c10 c11 c12 c13 c14 c15=>.nd c0 c1 c2 c3 c4 c5 c6 c7 c8 c9 (f c10) c11 c12 c13 c14 c15) t)
  (fun f t=>L1.rec (motive:=fun _=>L1) (.nd LV.nil LV.nil LV.nil LV.nil LV.nil LV.nil LV.nil LV.nil LV.nil LV.nil LV.nil (f LV.nil) LV.nil LV.nil LV.nil LV.nil) (fun c0 c1 c2 c3 c4 c5 c6 c7 c8 c9 c10 c11 c12 c13 c14 c15=>.nd c0 c1 c2 c3 c4 c5 c6 c7 c8 c9 c10 (f c11) c12 c13 c14 c15) t)
  (fun f t=>L1.rec (motive:=fun _=>L1) (.nd LV.nil LV.nil LV.nil LV.nil LV.nil LV.nil LV.nil LV.nil LV.nil LV.nil LV.nil LV.nil (f LV.nil) LV.nil LV.nil LV.nil) (fun c0 c1 c2 c3 c4 c5 c6 c7 c8 c9 c10 c11 c12 c13 c14 c15=>.nd c0 c1 c2 c3 c4 c5 c6 c7 c8 c9 c10 c11 (f c12) c13 c14 c15) t)
  (fun f t=>L1.rec (motive:=fun _=>L1) (.nd LV.nil LV.nil LV.nil LV.nil LV.nil LV.nil LV.nil LV.nil LV.nil LV.nil LV.nil LV.nil LV.nil (f LV.nil) LV.nil LV.nil) (fun c0 c1 c2 c3 c4 c5 c6 c7 c8 c9 c10 c11 c12 c13 c14 c15=>.nd c0 c1 c2 c3 c4 c5 c6 c7 c8 c9 c10 c11 c12 (f c13) c14 c15) t)
  (fun f t=>L1.rec (motive:=fun _=>L1) (.nd LV.nil LV.nil LV.nil LV.nil LV.nil LV.nil LV.nil LV.nil LV.nil LV.nil LV.nil LV.nil LV.nil LV.nil (f LV.nil) LV.nil) (fun c0 c1 c2 c3 c4 c5 c6 c7 c8 c9 c10 c11 c12 c13 c14 c15=>.nd c0 c1 c2 c3 c4 c5 c6 c7 c8 c9 c10 c11 c12 c13 (f c14) c15) t)
  (fun f t=>L1.rec (motive:=fun _=>L1) (.nd LV.nil LV.nil LV.nil LV.nil LV.nil LV.nil LV.nil LV.nil LV.nil LV.nil LV.nil LV.nil LV.nil LV.nil LV.nil (f LV.nil)) (fun c0 c1 c2 c3 c4 c5 c6 c7 c8 c9 c10 c11 c12 c13 c14 c15=>.nd c0 c1 c2 c3 c4 c5 c6 c7 c8 c9 c10 c11 c12 c13 c14 (f c15)) t) d f t
inductive HV where
 | nil
 | nd (c0 c1 c2 c3 c4 c5 c6 c7 c8 c9 c10 c11 c12 c13 c14 c15:Option CObj)
def HV.get (d:Dg) (t:HV):Option CObj:=
 Dg.rec (motive:=fun _=>HV→Option CObj)
  (fun t=>HV.rec (motive:=fun _=>Option CObj) none (fun c0 _ _ _ _ _ _ _ _ _ _ _ _ _ _ _=>c0) t)
  (fun t=>HV.rec (motive:=fun _=>Option CObj) none (fun _ c1 _ _ _ _ _ _ _ _ _ _ _ _ _ _=>c1) t)
  (fun t=>HV.rec (motive:=fun _=>Option CObj) none (fun _ _ c2 _ _ _ _ _ _ _ _ _ _ _ _ _=>c2) t)
  (fun t=>HV.rec (motive:=fun _=>Option CObj) none (fun _ _ _ c3 _ _ _ _ _ _ _ _ _ _ _ _=>c3) t)
  (fun t=>HV.rec (motive:=fun _=>Option CObj) none (fun _ _ _ _ c4 _ _ _ _ _ _ _ _ _ _ _=>c4) t)
  (fun t=>HV.rec (motive:=fun _=>Option CObj) none (fun _ _ _ _ _ c5 _ _ _ _ _ _ _ _ _ _=>c5) t)
  (fun t=>HV.rec (motive:=fun _=>Option CObj) none (fun _ _ _ _ _ _ c6 _ _ _ _ _ _ _ _ _=>c6) t)
  (fun t=>HV.rec (motive:=fun _=>Option CObj) none (fun _ _ _ _ _ _ _ c7 _ _ _ _ _ _ _ _=>c7) t)
  (fun t=>HV.rec (motive:=fun _=>Option CObj) none (fun _ _ _ _ _ _ _ _ c8 _ _ _ _ _ _ _=>c8) t)
  (fun t=>HV.rec (motive:=fun _=>Option CObj) none (fun _ _ _ _ _ _ _ _ _ c9 _ _ _ _ _ _=>c9) t)
  (fun t=>HV.rec (motive:=fun _=>Option CObj) none (fun _ _ _ _ _ _ _ _ _ _ c10 _ _ _ _ _=>c10) t)
  (fun t=>HV.rec (motive:=fun _=>Option CObj) none (fun _ _ _ _ _ _ _ _ _ _ _ c11 _ _ _ _=>c11) t)
  (fun t=>HV.rec (motive:=fun _=>Option CObj) none (fun _ _ _ _ _ _ _ _ _ _ _ _ c12 _ _ _=>c12) t)
  (fun t=>HV.rec (motive:=fun _=>Option CObj) none (fun _ _ _ _ _ _ _ _ _ _ _ _ _ c13 _ _=>c13) t)
  (fun t=>HV.rec (motive:=fun _=>Option CObj) none (fun _ _ _ _ _ _ _ _ _ _ _ _ _ _ c14 _=>c14) t)
  (fun t=>HV.rec (motive:=fun _=>Option CObj) none (fun _ _ _ _ _ _ _ _ _ _ _ _ _ _ _ c15=>c15) t) d t
def HV.upd (f:Option CObj→Option CObj) (d:Dg) (t:HV):HV:=
 Dg.rec (motive:=fun _=>(Option CObj→Option CObj)→HV→HV)
  (fun f t=>HV.rec (motive:=fun _=>HV) (.nd (f none) none none none none none none none none none none none none none none none) (fun c0 c1 c2 c3 c4 c5 c6 c7 c8 c9 c10 c11 c12 c13 c14 c15=>.nd (f c0) c1 c2 c3 c4 c5 c6 c7 c8 c9 c10 c11 c12 c13 c14 c15) t)
  (fun f t=>HV.rec (motive:=fun _=>HV) (.nd none (f none) none none none none none none none none none none none none none none) (fun c0 c1 c2 c3 c4 c5 c6 c7 c8 c9 c10 c11 c12 c13 c14 c15=>.nd c0 (f c1) c2 c3 c4 c5 c6 c7 c8 c9 c10 c11 c12 c13 c14 c15) t)
  (fun f t=>HV.rec (motive:=fun _=>HV) (.nd none none (f none) none none none none none none none none none none none none none) (fun c0 c1 c2 c3 c4 c5 c6 c7 c8 c9 c10 c11 c12 c13 c14 c15=>.nd c0 c1 (f c2) c3 c4 c5 c6 c7 c8 c9 c10 c11 c12 c13 c14 c15) t)
  (fun f t=>HV.rec (motive:=fun _=>HV) (.nd none none none (f none) none none none none none none none none none none none none) (fun c0 c1 c2 c3 c4 c5 c6 c7 c8 c9 c10 c11 c12 c13 c14 c15=>.nd c0 c1 c2 (f c3) c4 c5 c6 c7 c8 c9 c10 c11 c12 c13 c14 c15) t)
  (fun f t=>HV.rec (motive:=fun _=>HV) (.nd none none none none (f none) none none none none none none none none none none none) (fun c0 c1 c2 c3 c4 c5 c6 c7 c8 c9 c10 c11 c12 c13 c14 c15=>.nd c0 c1 c2 c3 (f c4) c5 c6 c7 c8 c9 c10 c11 c12 c13 c14 c15) t)
  (fun f t=>HV.rec (motive:=fun _=>HV) (.nd none none none none none (f none) none none none none none none none none none none) (fun c0 c1 c2 c3 c4 c5 c6 c7 c8 c9 c10 c11 c12 c13 c14 c15=>.nd c0 c1 c2 c3 c4 (f c5) c6 c7 c8 c9 c10 c11 c12 c13 c14 c15) t)
  (fun f t=>HV.rec (motive:=fun _=>HV) (.nd none none none none none none (f none) none none none none none none none none none) (fun c0 c1 c2 c3 c4 c5 c6 c7 c8 c9 c10 c11 c12 c13 c14 c15=>.nd c0 c1 c2 c3 c4 c5 (f c6) c7 c8 c9 c10 c11 c12 c13 c14 c15) t)
  (fun f t=>HV.rec (motive:=fun _=>HV) (.nd none none none none none none none (f none) none none none none none none none none) (fun c0 c1 c2 c3 c4 c5 c6 c7 c8 c9 c10 c11 c12 c13 c14 c15=>.nd c0 c1 c2 c3 c4 c5 c6 (f c7) c8 c9 c10 c11 c12 c13 c14 c15) t)
  (fun f t=>HV.rec (motive:=fun _=>HV) (.nd none none none none none none none none (f none) none none none none none none none) (fun c0 c1 c2 c3 c4 c5 c6 c7 c8 c9 c10 c11 c12 c13 c14 c15=>.nd c0 c1 c2 c3 c4 c5 c6 c7 (f c8) c9 c10 c11 c12 c13 c14 c15) t)
  (fun f t=>HV.rec (motive:=fun _=>HV) (.nd none none none none none none none none none (f none) none none none none none none) (fun c0 c1 c2 c3 c4 c5 c6 c7 c8 c9 c10 c11 c12 c13 c14 c15=>.nd c0 c1 c2 c3 c4 c5 c6 c7 c8 (f c9) c10 c11 c12 c13 c14 c15) t)
  (fun f t=>HV.rec (motive:=fun _=>HV) (.nd none none none none none none none none none none (f none) none none none none none) (fun c0 c1 c2 c3 c4 c5 c6 c7 c8 c9 c10 c11 c12 c13 c14 c15=>.nd c0 c1 c2 c3 c4 c5 c6 c7 c8 c9 (f c10) c11 c12 c13 c14 c15) t)
  (fun f t=>HV.rec (motive:=fun _=>HV) (.nd none none none none none none none none none none none (f none) none none none none) (fun c0 c1 c2 c3 c4 c5 c6 c7 c8 c9 c10 c11 c12 c13 c14 c15=>.nd c0 c1 c2 c3 c4 c5 c6 c7 c8 c9 c10 (f c11) c12 c13 c14 c15) t)
  (fun f t=>HV.rec (motive:=fun _=>HV) (.nd none none none none none none none none none none none none (f none) none none none) (fun c0 c1 c2 c3 c4 c5 c6 c7 c8 c9 c10 c11 c12 c13 c14 c15=>.nd c0 c1 c2 c3 c4 c5 c6 c7 c8 c9 c10 c11 (f c12) c13 c14 c15) t)
  (fun f t=>HV.rec (motive:=fun _=>HV) (.nd none none none none none none none none none none none none none (f none) none none) (fun c0 c1 c2 c3 c4 c5 c6 c7 c8 c9 c10 c11 c12 c13 c14 c15=>.nd c0 c1 c2 c3 c4 c5 c6 c7 c8 c9 c10 c11 c12 (f c13) c14 c15) t)
  (fun f t=>HV.rec (motive:=fun _=>HV) (.nd none none none none none none none none none none none none none none (f none) none) (fun c0 c1 c2 c3 c4 c5 c6 c7 c8 c9 c10 c11 c12 c13 c14 c15=>.nd c0 c1 c2 c3 c4 c5 c6 c7 c8 c9 c10 c11 c12 c13 (f c14) c15) t)
  (fun f t=>HV.rec (motive:=fun _=>HV) (.nd none none none none none none none none none none none none none none none (f none)) (fun c0 c1 c2 c3 c4 c5 c6 c7 c8 c9 c10 c11 c12 c13 c14 c15=>.nd c0 c1 c2 c3 c4 c5 c6 c7 c8 c9 c10 c11 c12 c13 c14 (f c15)) t) d f t
inductive H1 where
 | nil
 | nd (c0 c1 c2 c3 c4 c5 c6 c7 c8 c9 c10 c11 c12 c13 c14 c15:HV)
def H1.get (d:Dg) (t:H1):HV:=
 Dg.rec (motive:=fun _=>H1→HV)
  (fun t=>H1.rec (motive:=fun _=>HV) HV.nil (fun c0 _ _ _ _ _ _ _ _ _ _ _ _ _ _ _=>c0) t)
  (fun t=>H1.rec (motive:=fun _=>HV) HV.nil (fun _ c1 _ _ _ _ _ _ _ _ _ _ _ _ _ _=>c1) t)
  (fun t=>H1.rec (motive:=fun _=>HV) HV.nil (fun _ _ c2 _ _ _ _ _ _ _ _ _ _ _ _ _=>c2) t)
  (fun t=>H1.rec (motive:=fun _=>HV) HV.nil (fun _ _ _ c3 _ _ _ _ _ _ _ _ _ _ _ _=>c3) t)
  (fun t=>H1.rec (motive:=fun _=>HV) HV.nil (fun _ _ _ _ c4 _ _ _ _ _ _ _ _ _ _ _=>c4) t)
  (fun t=>H1.rec (motive:=fun _=>HV) HV.nil (fun _ _ _ _ _ c5 _ _ _ _ _ _ _ _ _ _=>c5) t)
  (fun t=>H1.rec (motive:=fun _=>HV) HV.nil (fun _ _ _ _ _ _ c6 _ _ _ _ _ _ _ _ _=>c6) t)
  (fun t=>H1.rec (motive:=fun _=>HV) HV.nil (fun _ _ _ _ _ _ _ c7 _ _ _ _ _ _ _ _=>c7) t)
  (fun t=>H1.rec (motive:=fun _=>HV) HV.nil (fun _ _ _ _ _ _ _ _ c8 _ _ _ _ _ _ _=>c8) t)
  (fun t=>H1.rec (motive:=fun _=>HV) HV.nil (fun _ _ _ _ _ _ _ _ _ c9 _ _ _ _ _ _=>c9) t)
  (fun t=>H1.rec (motive:=fun _=>HV) HV.nil (fun _ _ _ _ _ _ _ _ _ _ c10 _ _ _ _ _=>c10) t)
  (fun t=>H1.rec (motive:=fun _=>HV) HV.nil (fun _ _ _ _ _ _ _ _ _ _ _ c11 _ _ _ _=>c11) t)
  (fun t=>H1.rec (motive:=fun _=>HV) HV.nil (fun _ _ _ _ _ _ _ _ _ _ _ _ c12 _ _ _=>c12) t)
  (fun t=>H1.rec (motive:=fun _=>HV) HV.nil (fun _ _ _ _ _ _ _ _ _ _ _ _ _ c13 _ _=>c13) t)
  (fun t=>H1.rec (motive:=fun _=>HV) HV.nil (fun _ _ _ _ _ _ _ _ _ _ _ _ _ _ c14 _=>c14) t)
  (fun t=>H1.rec (motive:=fun _=>HV) HV.nil (fun _ _ _ _ _ _ _ _ _ _ _ _ _ _ _ c15=>c15) t) d t
def H1.upd (f:HV→HV) (d:Dg) (t:H1):H1:=
 Dg.rec (motive:=fun _=>(HV→HV)→H1→H1)
  (fun f t=>H1.rec (motive:=fun _=>H1) (.nd (f HV.nil) HV.nil HV.nil HV.nil HV.nil HV.nil HV.nil HV.nil HV.nil HV.nil HV.nil HV.nil HV.nil HV.nil HV.nil HV.nil) (fun c0 c1 c2 c3 c4 c5 c6 c7 c8 c9 c10 c11 c12 c13 c14 c15=>.nd (f c0) c1 c2 c3 c4 c5 c6 c7 c8 c9 c10 c11 c12 c13 c14 c15) t)
  (fun f t=>H1.rec (motive:=fun _=>H1) (.nd HV.nil (f HV.nil) HV.nil HV.nil HV.nil HV.nil HV.nil HV.nil HV.nil HV.nil HV.nil HV.nil HV.nil HV.nil HV.nil HV.nil) (fun c0 c1 c2 c3 c4 c5 c6 c7 c8 c9 c10 c11 c12 c13 c14 c15=>.nd c0 (f c1) c2 c3 c4 c5 c6 c7 c8 c9 c10 c11 c12 c13 c14 c15) t)
  (fun f t=>H1.rec (motive:=fun _=>H1) (.nd HV.nil HV.nil (f HV.nil) HV.nil HV.nil HV.nil HV.nil HV.nil HV.nil HV.nil HV.nil HV.nil HV.nil HV.nil HV.nil HV.nil) (fun c0 c1 c2 c3 c4 c5 c6 c7 c8 c9 c10 c11 c12 c13 c14 c15=>.nd c0 c1 (f c2) c3 c4 c5 c6 c7 c8 c9 c10 c11 c12 c13 c14 c15) t)
  (fun f t=>H1.rec (motive:=fun _=>H1) (.nd HV.nil HV.nil HV.nil (f HV.nil) HV.nil HV.nil HV.nil HV.nil HV.nil HV.nil HV.nil HV.nil HV.nil HV.nil HV.nil HV.nil) (fun c0 c1 c2 c3 c4 c5 c6 c7 c8 c9 c10 c11 c12 c13 c14 c15=>.nd c0 c1 c2 (f c3) c4 c5 c6 c7 c8 c9 c10 c11 c12 c13 c14 c15) t)
  (fun f t=>H1.rec (motive:=fun _=>H1) (.nd HV.nil HV.nil HV.nil HV.nil (f HV.nil) HV.nil HV.nil HV.nil HV.nil HV.nil HV.nil HV.nil HV.nil HV.nil HV.nil HV.nil) (fun c0 c1 c2 c3 c4 c5 c6 c7 c8 c9 c10 c11 c12 c13 c14 c15=>.nd c0 c1 c2 c3 (f c4) c5 c6 c7 c8 c9 c10 c11 c12 c13 c14 c15) t)
  (fun f t=>H1.rec (motive:=fun _=>H1) (.nd HV.nil HV.nil HV.nil HV.nil HV.nil (f HV.nil) HV.nil HV.nil HV.nil HV.nil HV.nil HV.nil HV.nil HV.nil HV.nil HV.nil) (fun c0 c1 c2 c3 c4 c5 c6 c7 c8 c9 c10 c11 c12 c13 c14 c15=>.nd c0 c1 c2 c3 c4 (f c5) c6 c7 c8 c9 c10 c11 c12 c13 c14 c15) t)
  (fun f t=>H1.rec (motive:=fun _=>H1) (.nd HV.nil HV.nil HV.nil HV.nil HV.nil HV.nil (f HV.nil) HV.nil HV.nil HV.nil HV.nil HV.nil HV.nil HV.nil HV.nil HV.nil) (fun c0 c1 c2 c3 c4 c5 c6 c7 c8 c9 c10 c11 c12 c13 c14 c15=>.nd c0 c1 c2 c3 c4 c5 (f c6) c7 c8 c9 c10 c11 c12 c13 c14 c15) t)
  (fun f t=>H1.rec (motive:=fun _=>H1) (.nd HV.nil HV.nil HV.nil HV.nil HV.nil HV.nil HV.nil (f HV.nil) HV.nil HV.nil HV.nil HV.nil HV.nil HV.nil HV.nil HV.nil) (fun c0 c1 c2 c3 c4 c5 c6 c7 c8 c9 c10 c11 c12 c13 c14 c15=>.nd c0 c1 c2 c3 c4 c5 c6 (f c7) c8 c9 c10 c11 c12 c13 c14 c15) t)
  (fun f t=>H1.rec (motive:=fun _=>H1) (.nd HV.nil HV.nil HV.nil HV.nil HV.nil HV.nil HV.nil HV.nil (f HV.nil) HV.nil HV.nil HV.nil HV.nil HV.nil HV.nil HV.nil) (fun c0 c1 c2 c3 c4 c5 c6 c7 c8 c9 c10 c11 c12 c13 c14 c15=>.nd c0 c1 c2 c3 c4 c5 c6 c7 (f c8) c9 c10 c11 c12 c13 c14 c15) t)
  (fun f t=>H1.rec (motive:=fun _=>H1) (.nd HV.nil HV.nil HV.nil HV.nil HV.nil HV.nil HV.nil HV.nil HV.nil (f HV.nil) HV.nil HV.nil HV.nil HV.nil HV.nil HV.nil) (fun c0 c1 c2 c3 c4 c5 c6 c7 c8 c9 c10 c11 c12 c13 c14 c15=>.nd c0 c1 c2 c3 c4 c5 c6 c7 c8 (f c9) c10 c11 c12 c13 c14 c15) t)
  (fun f t=>H1.rec (motive:=fun _=>H1) (.nd HV.nil HV.nil HV.nil HV.nil HV.nil HV.nil HV.nil HV.nil HV.nil HV.nil (f HV.nil) HV.nil HV.nil HV.nil HV.nil HV.nil) (fun c0 c1 c2 c3 c4 c5 c6 c7 c8 c9 c10 c11 c12 c13 c14 c15=>.nd c0 c1 c2 c3 c4 c5 c6 c7 c8 c9 (f c10) c11 c12 c13 c14 c15) t)
  (fun f t=>H1.rec (motive:=fun _=>H1) (.nd HV.nil HV.nil HV.nil HV.nil HV.nil HV.nil HV.nil HV.nil HV.nil HV.nil HV.nil (f HV.nil) HV.nil HV.nil HV.nil HV.nil) (fun c0 c1 c2 c3 c4 c5 c6 c7 c8 c9 c10 c11 c12 c13 c14 c15=>.nd c0 c1 c2 c3 c4 c5 c6 c7 c8 c9 c10 (f c11) c12 c13 c14 c15) t)
  (fun f t=>H1.rec (motive:=fun _=>H1) (.nd HV.nil HV.nil HV.nil HV.nil HV.nil HV.nil HV.nil HV.nil HV.nil HV.nil HV.nil HV.nil (f HV.nil) HV.nil HV.nil HV.nil) (fun c0 c1 c2 c3 c4 c5 c6 c7 c8 c9 c10 c11 c12 c13 c14 c15=>.nd c0 c1 c2 c3 c4 c5 c6 c7 c8 c9 c10 c11 (f c12) c13 c14 c15) t)
  (fun f t=>H1.rec (motive:=fun _=>H1) (.nd HV.nil HV.nil HV.nil HV.nil HV.nil HV.nil HV.nil HV.nil HV.nil HV.nil HV.nil HV.nil HV.nil (f HV.nil) HV.nil HV.nil) (fun c0 c1 c2 c3 c4 c5 c6 c7 c8 c9 c10 c11 c12 c13 c14 c15=>.nd c0 c1 c2 c3 c4 c5 c6 c7 c8 c9 c10 c11 c12 (f c13) c14 c15) t)
  (fun f t=>H1.rec (motive:=fun _=>H1) (.nd HV.nil HV.nil HV.nil HV.nil HV.nil HV.nil HV.nil HV.nil HV.nil HV.nil HV.nil HV.nil HV.nil HV.nil (f HV.nil) HV.nil) (fun c0 c1 c2 c3 c4 c5 c6 c7 c8 c9 c10 c11 c12 c13 c14 c15=>.nd c0 c1 c2 c3 c4 c5 c6 c7 c8 c9 c10 c11 c12 c13 (f c14) c15) t)
  (fun f t=>H1.rec (motive:=fun _=>H1) (.nd HV.nil HV.nil HV.nil HV.nil HV.nil HV.nil HV.nil HV.nil HV.nil HV.nil HV.nil HV.nil HV.nil HV.nil HV.nil (f HV.nil)) (fun c0 c1 c2 c3 c4 c5 c6 c7 c8 c9 c10 c11 c12 c13 c14 c15=>.nd c0 c1 c2 c3 c4 c5 c6 c7 c8 c9 c10 c11 c12 c13 c14 (f c15)) t) d f t
inductive H2 where
 | nil
 | nd (c0 c1 c2 c3 c4 c5 c6 c7 c8 c9 c10 c11 c12 c13 c14 c15:H1)
def H2.get (d:Dg) (t:H2):H1:=
 Dg.rec (motive:=fun _=>H2→H1)
  (fun t=>H2.rec (motive:=fun _=>H1) H1.nil (fun c0 _ _ _ _ _ _ _ _ _ _ _ _ _ _ _=>c0) t)
  (fun t=>H2.rec (motive:=fun _=>H1) H1.nil (fun _ c1 _ _ _ _ _ _ _ _ _ _ _ _ _ _=>c1) t)
  (fun t=>H2.rec (motive:=fun _=>H1) H1.nil (fun _ _ c2 _ _ _ _ _ _ _ _ _ _ _ _ _=>c2) t)
  (fun t=>H2.rec (motive:=fun _=>H1) H1.nil (fun _ _ _ c3 _ _ _ _ _ _ _ _ _ _ _ _=>c3) t)
  (fun t=>H2.rec (motive:=fun _=>H1) H1.nil (fun _ _ _ _ c4 _ _ _ _ _ _ _ _ _ _ _=>c4) t)
  (fun t=>H2.rec (motive:=fun _=>H1) H1.nil (fun _ _ _ _ _ c5 _ _ _ _ _ _ _ _ _ _=>c5) t)
  (fun t=>H2.rec (motive:=fun _=>H1) H1.nil (fun _ _ _ _ _ _ c6 _ _ _ _ _ _ _ _ _=>c6) t)
  (fun t=>H2.rec (motive:=fun _=>H1) H1.nil (fun _ _ _ _ _ _ _ c7 _ _ _ _ _ _ _ _=>c7) t)
  (fun t=>H2.rec (motive:=fun _=>H1) H1.nil (fun _ _ _ _ _ _ _ _ c8 _ _ _ _ _ _ _=>c8) t)
  (fun t=>H2.rec (motive:=fun _=>H1) H1.nil (fun _ _ _ _ _ _ _ _ _ c9 _ _ _ _ _ _=>c9) t)
  (fun t=>H2.rec (motive:=fun _=>H1) H1.nil (fun _ _ _ _ _ _ _ _ _ _ c10 _ _ _ _ _=>c10) t)
  (fun t=>H2.rec (motive:=fun _=>H1) H1.nil (fun _ _ _ _ _ _ _ _ _ _ _ c11 _ _ _ _=>c11) t)
  (fun t=>H2.rec (motive:=fun _=>H1) H1.nil (fun _ _ _ _ _ _ _ _ _ _ _ _ c12 _ _ _=>c12) t)
  (fun t=>H2.rec (motive:=fun _=>H1) H1.nil (fun _ _ _ _ _ _ _ _ _ _ _ _ _ c13 _ _=>c13) t)
  (fun t=>H2.rec (motive:=fun _=>H1) H1.nil (fun _ _ _ _ _ _ _ _ _ _ _ _ _ _ c14 _=>c14) t)
  (fun t=>H2.rec (motive:=fun _=>H1) H1.nil (fun _ _ _ _ _ _ _ _ _ _ _ _ _ _ _ c15=>c15) t) d t
def H2.upd (f:H1→H1) (d:Dg) (t:H2):H2:=
 Dg.rec (motive:=fun _=>(H1→H1)→H2→H2)
  (fun f t=>H2.rec (motive:=fun _=>H2) (.nd (f H1.nil) H1.nil H1.nil H1.nil H1.nil H1.nil H1.nil H1.nil H1.nil H1.nil H1.nil H1.nil H1.nil H1.nil H1.nil H1.nil) (fun c0 c1 c2 c3 c4 c5 c6 c7 c8 c9 c10 c11 c12 c13 c14 c15=>.nd (f c0) c1 c2 c3 c4 c5 c6 c7 c8 c9 c10 c11 c12 c13 c14 c15) t)
  (fun f t=>H2.rec (motive:=fun _=>H2) (.nd H1.nil (f H1.nil) H1.nil H1.nil H1.nil H1.nil H1.nil H1.nil H1.nil H1.nil H1.nil H1.nil H1.nil H1.nil H1.nil H1.nil) (fun c0 c1 c2 c3 c4 c5 c6 c7 c8 c9 c10 c11 c12 c13 c14 c15=>.nd c0 (f c1) c2 c3 c4 c5 c6 c7 c8 c9 c10 c11 c12 c13 c14 c15) t)
  (fun f t=>H2.rec (motive:=fun _=>H2) (.nd H1.nil H1.nil (f H1.nil) H1.nil H1.nil H1.nil H1.nil H1.nil H1.nil H1.nil H1.nil H1.nil H1.nil H1.nil H1.nil H1.nil) (fun c0 c1 c2 c3 c4 c5 c6 c7 c8 c9 c10 c11 c12 c13 c14 c15=>.nd c0 c1 (f c2) c3 c4 c5 c6 c7 c8 c9 c10 c11 c12 c13 c14 c15) t)
  (fun f t=>H2.rec (motive:=fun _=>H2) (.nd H1.nil H1.nil H1.nil (f H1.nil) H1.nil H1.nil H1.nil H1.nil H1.nil H1.nil H1.nil H1.nil H1.nil H1.nil H1.nil H1.nil) (fun c0 c1 c2 c3 c4 c5 c6 c7 c8 c9 c10 c11 c12 c13 c14 c15=>.nd c0 c1 c2 (f c3) c4 c5 c6 c7 c8 c9 c10 c11 c12 c13 c14 c15) t)
  (fun f t=>H2.rec (motive:=fun _=>H2) (.nd H1.nil H1.nil H1.nil H1.nil (f H1.nil) H1.nil H1.nil H1.nil H1.nil H1.nil H1.nil H1.nil H1.nil H1.nil H1.nil H1.nil) (fun c0 c1 c2 c3 c4 c5 c6 c7 c8 c9 c10 c11 c12 c13 c14 c15=>.nd c0 c1 c2 c3 (f c4) c5 c6 c7 c8 c9 c10 c11 c12 c13 c14 c15) t)
  (fun f t=>H2.rec (motive:=fun _=>H2) (.nd H1.nil H1.nil H1.nil H1.nil H1.nil (f H1.nil) H1.nil H1.nil H1.nil H1.nil H1.nil H1.nil H1.nil H1.nil H1.nil H1.nil) (fun c0 c1 c2 c3 c4 c5 c6 c7 c8 c9 c10 c11 c12 c13 c14 c15=>.nd c0 c1 c2 c3 c4 (f c5) c6 c7 c8 c9 c10 c11 c12 c13 c14 c15) t)
  (fun f t=>H2.rec (motive:=fun _=>H2) (.nd H1.nil H1.nil H1.nil H1.nil H1.nil H1.nil (f H1.nil) H1.nil H1.nil H1.nil H1.nil H1.nil H1.nil H1.nil H1.nil H1.nil) (fun c0 c1 c2 c3 c4 c5 c6 c7 c8 c9 c10 c11 c12 c13 c14 c15=>.nd c0 c1 c2 c3 c4 c5 (f c6) c7 c8 c9 c10 c11 c12 c13 c14 c15) t)
  (fun f t=>H2.rec (motive:=fun _=>H2) (.nd H1.nil H1.nil H1.nil H1.nil H1.nil H1.nil H1.nil (f H1.nil) H1.nil H1.nil H1.nil H1.nil H1.nil H1.nil H1.nil H1.nil) (fun c0 c1 c2 c3 c4 c5 c6 c7 c8 c9 c10 c11 c12 c13 c14 c15=>.nd c0 c1 c2 c3 c4 c5 c6 (f c7) c8 c9 c10 c11 c12 c13 c14 c15) t)
  (fun f t=>H2.rec (motive:=fun _=>H2) (.nd H1.nil H1.nil H1.nil H1.nil H1.nil H1.nil H1.nil H1.nil (f H1.nil) H1.nil H1.nil H1.nil H1.nil H1.nil H1.nil H1.nil) (fun c0 c1 c2 c3 c4 c5 c6 c7 c8 c9 c10 c11 c12 c13 c14 c15=>.nd c0 c1 c2 c3 c4 c5 c6 c7 (f c8) c9 c10 c11 c12 c13 c14 c15) t)
  (fun f t=>H2.rec (motive:=fun _=>H2) (.nd H1.nil H1.nil H1.nil H1.nil H1.nil H1.nil H1.nil H1.nil H1.nil (f H1.nil) H1.nil H1.nil H1.nil H1.nil H1.nil H1.nil) (fun c0 c1 c2 c3 c4 c5 c6 c7 c8 c9 c10 c11 c12 c13 c14 c15=>.nd c0 c1 c2 c3 c4 c5 c6 c7 c8 (f c9) c10 c11 c12 c13 c14 c15) t)
  (fun f t=>H2.rec (motive:=fun _=>H2) (.nd H1.nil H1.nil H1.nil H1.nil H1.nil H1.nil H1.nil H1.nil H1.nil H1.nil (f H1.nil) H1.nil H1.nil H1.nil H1.nil H1.nil) (fun c0 c1 c2 c3 c4 c5 c6 c7 c8 c9 c10 c11 c12 c13 c14 c15=>.nd c0 c1 c2 c3 c4 c5 c6 c7 c8 c9 (f c10) c11 c12 c13 c14 c15) t)
  (fun f t=>H2.rec (motive:=fun _=>H2) (.nd H1.nil H1.nil H1.nil H1.nil H1.nil H1.nil H1.nil H1.nil H1.nil H1.nil H1.nil (f H1.nil) H1.nil H1.nil H1.nil H1.nil) (fun c0 c1 c2 c3 c4 c5 c6 c7 c8 c9 c10 c11 c12 c13 c14 c15=>.nd c0 c1 c2 c3 c4 c5 c6 c7 c8 c9 c10 (f c11) c12 c13 c14 c15) t)
  (fun f t=>H2.rec (motive:=fun _=>H2) (.nd H1.nil H1.nil H1.nil H1.nil H1.nil H1.nil H1.nil H1.nil H1.nil H1.nil H1.nil H1.nil (f H1.nil) H1.nil H1.nil H1.nil) (fun c0 c1 c2 c3 c4 c5 c6 c7 c8 c9 c10 c11 c12 c13 c14 c15=>.nd c0 c1 c2 c3 c4 c5 c6 c7 c8 c9 c10 c11 (f c12) c13 c14 c15) t)
  (fun f t=>H2.rec (motive:=fun _=>H2) (.nd H1.nil H1.nil H1.nil H1.nil H1.nil H1.nil H1.nil H1.nil H1.nil H1.nil H1.nil H1.nil H1.nil (f H1.nil) H1.nil H1.nil) (fun c0 c1 c2 c3 c4 c5 c6 c7 c8 c9 c10 c11 c12 c13 c14 c15=>.nd c0 c1 c2 c3 c4 c5 c6 c7 c8 c9 c10 c11 c12 (f c13) c14 c15) t)
  (fun f t=>H2.rec (motive:=fun _=>H2) (.nd H1.nil H1.nil H1.nil H1.nil H1.nil H1.nil H1.nil H1.nil H1.nil H1.nil H1.nil H1.nil H1.nil H1.nil (f H1.nil) H1.nil) (fun c0 c1 c2 c3 c4 c5 c6 c7 c8 c9 c10 c11 c12 c13 c14 c15=>.nd c0 c1 c2 c3 c4 c5 c6 c7 c8 c9 c10 c11 c12 c13 (f c14) c15) t)
  (fun f t=>H2.rec (motive:=fun _=>H2) (.nd H1.nil H1.nil H1.nil H1.nil H1.nil H1.nil H1.nil H1.nil H1.nil H1.nil H1.nil H1.nil H1.nil H1.nil H1.nil (f H1.nil)) (fun c0 c1 c2 c3 c4 c5 c6 c7 c8 c9 c10 c11 c12 c13 c14 c15=>.nd c0 c1 c2 c3 c4 c5 c6 c7 c8 c9 c10 c11 c12 c13 c14 (f c15)) t) d f t
inductive H3 where
 | nil
 | nd (c0 c1 c2 c3 c4 c5 c6 c7 c8 c9 c10 c11 c12 c13 c14 c15:H2)
def H3.get (d:Dg) (t:H3):H2:=
 Dg.rec (motive:=fun _=>H3→H2)
  (fun t=>H3.rec (motive:=fun _=>H2) H2.nil (fun c0 _ _ _ _ _ _ _ _ _ _ _ _ _ _ _=>c0) t)
  (fun t=>H3.rec (motive:=fun _=>H2) H2.nil (fun _ c1 _ _ _ _ _ _ _ _ _ _ _ _ _ _=>c1) t)
  (fun t=>H3.rec (motive:=fun _=>H2) H2.nil (fun _ _ c2 _ _ _ _ _ _ _ _ _ _ _ _ _=>c2) t)
  (fun t=>H3.rec (motive:=fun _=>H2) H2.nil (fun _ _ _ c3 _ _ _ _ _ _ _ _ _ _ _ _=>c3) t)
  (fun t=>H3.rec (motive:=fun _=>H2) H2.nil (fun _ _ _ _ c4 _ _ _ _ _ _ _ _ _ _ _=>c4) t)
  (fun t=>H3.rec (motive:=fun _=>H2) H2.nil (fun _ _ _ _ _ c5 _ _ _ _ _ _ _ _ _ _=>c5) t)
  (fun t=>H3.rec (motive:=fun _=>H2) H2.nil (fun _ _ _ _ _ _ c6 _ _ _ _ _ _ _ _ _=>c6) t)
  (fun t=>H3.rec (motive:=fun _=>H2) H2.nil (fun _ _ _ _ _ _ _ c7 _ _ _ _ _ _ _ _=>c7) t)
  (fun t=>H3.rec (motive:=fun _=>H2) H2.nil (fun _ _ _ _ _ _ _ _ c8 _ _ _ _ _ _ _=>c8) t)
  (fun t=>H3.rec (motive:=fun _=>H2) H2.nil (fun _ _ _ _ _ _ _ _ _ c9 _ _ _ _ _ _=>c9) t)
  (fun t=>H3.rec (motive:=fun _=>H2) H2.nil (fun _ _ _ _ _ _ _ _ _ _ c10 _ _ _ _ _=>c10) t)
  (fun t=>H3.rec (motive:=fun _=>H2) H2.nil (fun _ _ _ _ _ _ _ _ _ _ _ c11 _ _ _ _=>c11) t)
  (fun t=>H3.rec (motive:=fun _=>H2) H2.nil (fun _ _ _ _ _ _ _ _ _ _ _ _ c12 _ _ _=>c12) t)
  (fun t=>H3.rec (motive:=fun _=>H2) H2.nil (fun _ _ _ _ _ _ _ _ _ _ _ _ _ c13 _ _=>c13) t)
  (fun t=>H3.rec (motive:=fun _=>H2) H2.nil (fun _ _ _ _ _ _ _ _ _ _ _ _ _ _ c14 _=>c14) t)
  (fun t=>H3.rec (motive:=fun _=>H2) H2.nil (fun _ _ _ _ _ _ _ _ _ _ _ _ _ _ _ c15=>c15) t) d t
def H3.upd (f:H2→H2) (d:Dg) (t:H3):H3:=
 Dg.rec (motive:=fun _=>(H2→H2)→H3→H3)
  (fun f t=>H3.rec (motive:=fun _=>H3) (.nd (f H2.nil) H2.nil H2.nil H2.nil H2.nil H2.nil H2.nil H2.nil H2.nil H2.nil H2.nil H2.nil H2.nil H2.nil H2.nil H2.nil) (fun c0 c1 c2 c3 c4 c5 c6 c7 c8 c9 c10 c11 c12 c13 c14 c15=>.nd (f c0) c1 c2 c3 c4 c5 c6 c7 c8 c9 c10 c11 c12 c13 c14 c15) t)
  (fun f t=>H3.rec (motive:=fun _=>H3) (.nd H2.nil (f H2.nil) H2.nil H2.nil H2.nil H2.nil H2.nil H2.nil H2.nil H2.nil H2.nil H2.nil H2.nil H2.nil H2.nil H2.nil) (fun c0 c1 c2 c3 c4 c5 c6 c7 c8 c9 c10 c11 c12 c13 c14 c15=>.nd c0 (f c1) c2 c3 c4 c5 c6 c7 c8 c9 c10 c11 c12 c13 c14 c15) t)
  (fun f t=>H3.rec (motive:=fun _=>H3) (.nd H2.nil H2.nil (f H2.nil) H2.nil H2.nil H2.nil H2.nil H2.nil H2.nil H2.nil H2.nil H2.nil H2.nil H2.nil H2.nil H2.nil) (fun c0 c1 c2 c3 c4 c5 c6 c7 c8 c9 c10 c11 c12 c13 c14 c15=>.nd c0 c1 (f c2) c3 c4 c5 c6 c7 c8 c9 c10 c11 c12 c13 c14 c15) t)
  (fun f t=>H3.rec (motive:=fun _=>H3) (.nd H2.nil H2.nil H2.nil (f H2.nil) H2.nil H2.nil H2.nil H2.nil H2.nil H2.nil H2.nil H2.nil H2.nil H2.nil H2.nil H2.nil) (fun c0 c1 c2 c3 c4 c5 c6 c7 c8 c9 c10 c11 c12 c13 c14 c15=>.nd c0 c1 c2 (f c3) c4 c5 c6 c7 c8 c9 c10 c11 c12 c13 c14 c15) t)
  (fun f t=>H3.rec (motive:=fun _=>H3) (.nd H2.nil H2.nil H2.nil H2.nil (f H2.nil) H2.nil H2.nil H2.nil H2.nil H2.nil H2.nil H2.nil H2.nil H2.nil H2.nil H2.nil) (fun c0 c1 c2 c3 c4 c5 c6 c7 c8 c9 c10 c11 c12 c13 c14 c15=>.nd c0 c1 c2 c3 (f c4) c5 c6 c7 c8 c9 c10 c11 c12 c13 c14 c15) t)
  (fun f t=>H3.rec (motive:=fun _=>H3) (.nd H2.nil H2.nil H2.nil H2.nil H2.nil (f H2.nil) H2.nil H2.nil H2.nil H2.nil H2.nil H2.nil H2.nil H2.nil H2.nil H2.nil) (fun c0 c1 c2 c3 c4 c5 c6 c7 c8 c9 c10 c11 c12 c13 c14 c15=>.nd c0 c1 c2 c3 c4 (f c5) c6 c7 c8 c9 c10 c11 c12 c13 c14 c15) t)
  (fun f t=>H3.rec (motive:=fun _=>H3) (.nd H2.nil H2.nil H2.nil H2.nil H2.nil H2.nil (f H2.nil) H2.nil H2.nil H2.nil H2.nil H2.nil H2.nil H2.nil H2.nil H2.nil) (fun c0 c1 c2 c3 c4 c5 c6 c7 c8 c9 c10 c11 c12 c13 c14 c15=>.nd c0 c1 c2 c3 c4 c5 (f c6) c7 c8 c9 c10 c11 c12 c13 c14 c15) t)
  (fun f t=>H3.rec (motive:=fun _=>H3) (.nd H2.nil H2.nil H2.nil H2.nil H2.nil H2.nil H2.nil (f H2.nil) H2.nil H2.nil H2.nil H2.nil H2.nil H2.nil H2.nil H2.nil) (fun c0 c1 c2 c3 c4 c5 c6 c7 c8 c9 c10 c11 c12 c13 c14 c15=>.nd c0 c1 c2 c3 c4 c5 c6 (f c7) c8 c9 c10 c11 c12 c13 c14 c15) t)
  (fun f t=>H3.rec (motive:=fun _=>H3) (.nd H2.nil H2.nil H2.nil H2.nil H2.nil H2.nil H2.nil H2.nil (f H2.nil) H2.nil H2.nil H2.nil H2.nil H2.nil H2.nil H2.nil) (fun c0 c1 c2 c3 c4 c5 c6 c7 c8 c9 c10 c11 c12 c13 c14 c15=>.nd c0 c1 c2 c3 c4 c5 c6 c7 (f c8) c9 c10 c11 c12 c13 c14 c15) t)
  (fun f t=>H3.rec (motive:=fun _=>H3) (.nd H2.nil H2.nil H2.nil H2.nil H2.nil H2.nil H2.nil H2.nil H2.nil (f H2.nil) H2.nil H2.nil H2.nil H2.nil H2.nil H2.nil) (fun c0 c1 c2 c3 c4 c5 c6 c7 c8 c9 c10 c11 c12 c13 c14 c15=>.nd c0 c1 c2 c3 c4 c5 c6 c7 c8 (f c9) c10 c11 c12 c13 c14 c15) t)
  (fun f t=>H3.rec (motive:=fun _=>H3) (.nd H2.nil H2.nil H2.nil H2.nil H2.nil H2.nil H2.nil H2.nil H2.nil H2.nil (f H2.nil) H2.nil H2.nil H2.nil H2.nil H2.nil) (fun c0 c1 c2 c3 c4 c5 c6 c7 c8 c9 c10 c11 c12 c13 c14 c15=>.nd c0 c1 c2 c3 c4 c5 c6 c7 c8 c9 (f c10) c11 c12 c13 c14 c15) t)
  (fun f t=>H3.rec (motive:=fun _=>H3) (.nd H2.nil H2.nil H2.nil H2.nil H2.nil H2.nil H2.nil H2.nil H2.nil H2.nil H2.nil (f H2.nil) H2.nil H2.nil H2.nil H2.nil) (fun c0 c1 c2 c3 c4 c5 c6 c7 c8 c9 c10 c11 c12 c13 c14 c15=>.nd c0 c1 c2 c3 c4 c5 c6 c7 c8 c9 c10 (f c11) c12 c13 c14 c15) t)
  (fun f t=>H3.rec (motive:=fun _=>H3) (.nd H2.nil H2.nil H2.nil H2.nil H2.nil H2.nil H2.nil H2.nil H2.nil H2.nil H2.nil H2.nil (f H2.nil) H2.nil H2.nil H2.nil) (fun c0 c1 c2 c3 c4 c5 c6 c7 c8 c9 c10 c11 c12 c13 c14 c15=>.nd c0 c1 c2 c3 c4 c5 c6 c7 c8 c9 c10 c11 (f c12) c13 c14 c15) t)
  (fun f t=>H3.rec (motive:=fun _=>H3) (.nd H2.nil H2.nil H2.nil H2.nil H2.nil H2.nil H2.nil H2.nil H2.nil H2.nil H2.nil H2.nil H2.nil (f H2.nil) H2.nil H2.nil) (fun c0 c1 c2 c3 c4 c5 c6 c7 c8 c9 c10 c11 c12 c13 c14 c15=>.nd c0 c1 c2 c3 c4 c5 c6 c7 c8 c9 c10 c11 c12 (f c13) c14 c15) t)
  (fun f t=>H3.rec (motive:=fun _=>H3) (.nd H2.nil H2.nil H2.nil H2.nil H2.nil H2.nil H2.nil H2.nil H2.nil H2.nil H2.nil H2.nil H2.nil H2.nil (f H2.nil) H2.nil) (fun c0 c1 c2 c3 c4 c5 c6 c7 c8 c9 c10 c11 c12 c13 c14 c15=>.nd c0 c1 c2 c3 c4 c5 c6 c7 c8 c9 c10 c11 c12 c13 (f c14) c15) t)
  (fun f t=>H3.rec (motive:=fun _=>H3) (.nd H2.nil H2.nil H2.nil H2.nil H2.nil H2.nil H2.nil H2.nil H2.nil H2.nil H2.nil H2.nil H2.nil H2.nil H2.nil (f H2.nil)) (fun c0 c1 c2 c3 c4 c5 c6 c7 c8 c9 c10 c11 c12 c13 c14 c15=>.nd c0 c1 c2 c3 c4 c5 c6 c7 c8 c9 c10 c11 c12 c13 c14 (f c15)) t) d f t
end
inductive Tm where
 | mk (s:LV) (w:L1)
def Tm.nil:Tm:=.mk .nil .nil
abbrev zC:=H3
noncomputable section
def qT (p:Loc) (t:Tm):CV:=
 Loc.rec (motive:=fun _=>Tm→CV) (fun d t=>Tm.rec (motive:=fun _=>CV) (fun s _=>LV.get d s) t) (fun c d t=>Tm.rec (motive:=fun _=>CV) (fun _ w=>LV.get d (L1.get c w)) t) p t
def kg (v:CV) (p:Loc) (t:Tm):Tm:=
 Loc.rec (motive:=fun _=>CV→Tm→Tm) (fun d v t=>Tm.rec (motive:=fun _=>Tm) (fun s w=>.mk (LV.upd (fun _=>v) d s) w) t)
  (fun c d v t=>Tm.rec (motive:=fun _=>Tm) (fun s w=>.mk s (L1.upd (LV.upd (fun _=>v) d) c w)) t) p v t
def zj (k:Key) (h:zC):Option CObj:=Key.rec (motive:=fun _=>zC→Option CObj) (fun a b c d t=>((H3.get a t |>.get b).get c).get d) k h
def ya (o:Option CObj) (k:Key) (h:zC):zC:=
 Key.rec (motive:=fun _=>Option CObj→zC→zC) (fun a b c d o h=>H3.upd (H2.upd (H1.upd (HV.upd (fun _=>o) d) c) b) a h) k o h
end
def xD {α β:Type} (f:α→Option β):List α→Option (List β)
 | []=>some []
 | x::xs=>match f x with
  | none=>none
  | some y=>match xD f xs with
   | none=>none
   | some ys=>some (y::ys)
def zo (s:ByteArray):List Nat:=s.data.toList.map UInt8.toNat
def uo:Nat→Value→Option CV
 | 0,_=>none
 | d+1,v=>match v with
  | .bool b=>some (.bool b)
  | .int k n=>some (match k,n with | .i64,.ofNat m=>.nat m | k,n=>.int k n)
  | .string s=>some (.str (zo s))
  | .pointer none=>some .nilptr
  | .slice none 0 0=>some .nilsl
  | .map none=>some .nilmap
  | .nilFunc=>some .nilfunc
  | .func fn a b=>if a.size=0∧b.size=0 then some (.func fn [] []) else none
  | .nilIface=>some .niliface
  | .iface t v=>(uo d v).map (.iface t)
  | .agg cs=>(xD (uo d) cs.toList).map .agg
  | .tuple cs=>(xD (uo d) cs.toList).map .tup
  | _=>none
def CV.cells:CV→List CV
 | .agg cs=>cs
 | v=>[v]
def CV.single:CV→Bool
 | .agg _=>false
 | .tup _=>false
 | .any=>false
 | _=>true
noncomputable section
def xQ (l:List CV):Bool:=List.rec (motive:=fun _=>Bool) true (fun v _ ih=>Bool.rec (motive:=fun _=>Bool) false ih v.single) l
def vo (l:List CV):Nat:=List.rec (motive:=fun _=>Nat) 0 (fun _ _ ih=>Nat.succ ih) l
def zCs (l:List Nat):Nat:=List.rec (motive:=fun _=>Nat) 0 (fun _ _ ih=>Nat.succ ih) l
def zOv (l:List CE):Nat:=List.rec (motive:=fun _=>Nat) 0 (fun _ _ ih=>Nat.succ ih) l
end
def nth {α:Type}:List α→Nat→Option α
 | [],_=>none
 | x::_,0=>some x
 | _::xs,k+1=>nth xs k
noncomputable section
def uv (l:List CV) (k:Nat):Option CV:=
 List.rec (motive:=fun _=>Nat→Option CV) (fun _=>none) (fun x _ ih k=>Nat.rec (motive:=fun _=>Option CV) (some x) (fun k _=>ih k) k) l k
def zTv (l:List Nat) (k:Nat):Option Nat:=
 List.rec (motive:=fun _=>Nat→Option Nat) (fun _=>none) (fun x _ ih k=>Nat.rec (motive:=fun _=>Option Nat) (some x) (fun k _=>ih k) k) l k
def zMw (l:List CV) (k:Nat):List CV:=
 List.rec (motive:=fun _=>Nat→List CV) (fun _=>[]) (fun x xs ih k=>Nat.rec (motive:=fun _=>List CV) (x::xs) (fun k _=>ih k) k) l k
def zM4 (l:List Nat) (k:Nat):List Nat:=
 List.rec (motive:=fun _=>Nat→List Nat) (fun _=>[]) (fun x xs ih k=>Nat.rec (motive:=fun _=>List Nat) (x::xs) (fun k _=>ih k) k) l k
def zHE (x:CV) (r:Option (List CV)):Option (List CV):=Option.rec (motive:=fun _=>CV→Option (List CV)) (fun _=>none) (fun l x=>some (x::l)) r x
def zMN (x:Nat) (r:Option (List Nat)):Option (List Nat):=Option.rec (motive:=fun _=>Nat→Option (List Nat)) (fun _=>none) (fun l x=>some (x::l)) r x
def zJ7 (l:List CV) (k:Nat):Option (List CV):=
 List.rec (motive:=fun _=>Nat→Option (List CV)) (fun k=>Nat.rec (motive:=fun _=>Option (List CV)) (some []) (fun _ _=>none) k)
  (fun x _ ih k=>Nat.rec (motive:=fun _=>Option (List CV)) (some []) (fun k _=>zHE x (ih k)) k) l k
def zJP (l:List Nat) (k:Nat):Option (List Nat):=
 List.rec (motive:=fun _=>Nat→Option (List Nat)) (fun k=>Nat.rec (motive:=fun _=>Option (List Nat)) (some []) (fun _ _=>none) k)
  (fun x _ ih k=>Nat.rec (motive:=fun _=>Option (List Nat)) (some []) (fun k _=>zMN x (ih k)) k) l k
def ux (l:List CV) (off n:Nat):Option (List CV):=zJ7 (zMw l off) n
def zTI (l:List Nat) (off n:Nat):Option (List Nat):=zJP (zM4 l off) n
def zD1 (xs:List CV) (s:Nat) (l:List CV):Option (List CV):=
 List.rec (motive:=fun _=>Nat→List CV→Option (List CV)) (fun s l=>Nat.rec (motive:=fun _=>Option (List CV)) (some l) (fun _ _=>none) s)
  (fun x _ ih s l=>Nat.rec (motive:=fun _=>Option (List CV)) none (fun s _=>List.rec (motive:=fun _=>Option (List CV)) none (fun _ l _=>zHE x (ih s l)) l) s) xs s l
def jR (xs:List CV) (s:Nat) (l:List CV) (k:Nat):Option (List CV):=
 List.rec (motive:=fun _=>Nat→List CV→Nat→Option (List CV)) (fun k xs s=>Nat.rec (motive:=fun _=>Option (List CV)) (zD1 xs s []) (fun _ _=>none) k)
  (fun y l ih k xs s=>Nat.rec (motive:=fun _=>Option (List CV)) (zD1 xs s (y::l)) (fun k _=>zHE y (ih k xs s)) k) l k xs s
end
def kv (x:List CV):Nat→List CV
 | 0=>[]
 | n+1=>x++kv x n
noncomputable section
def vj {β:Type} (n:Nat) (k:Nat→β):β:=Nat.rec (motive:=fun _=>(Nat→β)→β) (fun k=>k 0) (fun m _ k=>k (Nat.succ m)) n k
def kr (n:Nat):CV:=Nat.rec (motive:=fun _=>CV) (.nat 0) (fun m _=>.nat (Nat.succ m)) n
def jZ (k:IntKind) (n:Nat):CV:=IntKind.rec (motive:=fun _=>Nat→CV) (fun n=>.int .i8 (.ofNat n)) (fun n=>.int .i16 (.ofNat n)) (fun n=>.int .i32 (.ofNat n)) kr
 (fun n=>.int .u8 (.ofNat n)) (fun n=>.int .u16 (.ofNat n)) (fun n=>.int .u32 (.ofNat n)) (fun n=>.int .u64 (.ofNat n)) k n
def zY (k:IntKind) (n:Int):CV:=
 Int.rec (motive:=fun _=>IntKind→CV) (fun m k=>Nat.rec (motive:=fun _=>CV) (jZ k 0) (fun m _=>jZ k (Nat.succ m)) m)
  (fun m k=>Nat.rec (motive:=fun _=>CV) (.int k (.negSucc 0)) (fun m _=>.int k (.negSucc (Nat.succ m))) m) n k
def kNo (k:IntKind):Nat:=IntKind.rec (motive:=fun _=>Nat) 0 1 2 3 4 5 6 7 k
def kEq (j k:IntKind):Bool:=Nat.beq (kNo j) (kNo k)
def zNy (n:Int):Int:=
 Int.rec (motive:=fun _=>Int) (fun m=>Bool.rec (motive:=fun _=>Int) (IntKind.i64.wrap (.ofNat m)) (.ofNat m) (Nat.ble m 9223372036854775807))
  (fun m=>Bool.rec (motive:=fun _=>Int) (IntKind.i64.wrap (.negSucc m)) (.negSucc m) (Nat.ble m 9223372036854775807)) n
def zTL (n:Int):Int:=Int.rec (motive:=fun _=>Int) (fun m=>.ofNat (Nat.mod m 256)) (fun m=>IntKind.u8.wrap (.negSucc m)) n
def yk (k:IntKind) (n:Int):Int:=
 IntKind.rec (motive:=fun _=>Int→Int) IntKind.i8.wrap IntKind.i16.wrap IntKind.i32.wrap zNy zTL IntKind.u16.wrap IntKind.u32.wrap IntKind.u64.wrap k n
def z7 (a b:Int):Bool:=
 Int.rec (motive:=fun _=>Int→Bool) (fun a b=>Int.rec (motive:=fun _=>Bool) (fun b=>Nat.beq a b) (fun _=>false) b)
  (fun a b=>Int.rec (motive:=fun _=>Bool) (fun _=>false) (fun b=>Nat.beq a b) b) a b
def wY (a b:Int):Bool:=
 Int.rec (motive:=fun _=>Int→Bool) (fun a b=>Int.rec (motive:=fun _=>Bool) (fun b=>Nat.ble (Nat.succ a) b) (fun _=>false) b)
  (fun a b=>Int.rec (motive:=fun _=>Bool) (fun _=>true) (fun b=>Nat.ble (Nat.succ b) a) b) a b
def toU (k:IntKind) (n:Int):Nat:=match n with
 | .ofNat m=>Nat.mod m (Nat.pow 2 k.bits)
 | .negSucc m=>Nat.sub (Nat.sub (Nat.pow 2 k.bits) 1) (Nat.mod m (Nat.pow 2 k.bits))
def zBu (b:Bool):Bool:=Bool.rec (motive:=fun _=>Bool) true false b
abbrev AOp:=IntKind→Int→Int→Option CV
def zVt:AOp:=fun k a b=>some (zY k (yk k (Int.add a b)))
def zVy:AOp:=fun k a b=>some (zY k (yk k (Int.sub a b)))
def zVn:AOp:=fun k a b=>some (zY k (yk k (Int.mul a b)))
def zVe:AOp:=fun k a b=>Bool.rec (motive:=fun _=>Option CV) (some (zY k (yk k (a.tdiv b)))) none (z7 b (.ofNat 0))
def zVo:AOp:=fun k a b=>Bool.rec (motive:=fun _=>Option CV) (some (zY k (a.tmod b))) none (z7 b (.ofNat 0))
def zU9:AOp:=fun k a b=>some (zY k (yk k (.ofNat (Nat.land (toU k a) (toU k b)))))
def aOr:AOp:=fun k a b=>some (zY k (yk k (.ofNat (Nat.lor (toU k a) (toU k b)))))
def zTx:AOp:=fun k a b=>some (zY k (yk k (.ofNat (Nat.xor (toU k a) (toU k b)))))
def zSW:AOp:=fun k a b=>some (zY k (yk k (.ofNat (Nat.land (toU k a) (Nat.sub (Nat.sub (Nat.pow 2 k.bits) 1) (toU k b))))))
def zVz:AOp:=fun _ a b=>some (.bool (z7 a b))
def zVC:AOp:=fun _ a b=>some (.bool (zBu (z7 a b)))
def zU7:AOp:=fun _ a b=>some (.bool (wY a b))
def zU4:AOp:=fun _ a b=>some (.bool (zBu (wY b a)))
def zUX:AOp:=fun _ a b=>some (.bool (wY b a))
def zVx:AOp:=fun _ a b=>some (.bool (zBu (wY a b)))
def zU6:AOp:=fun k a b=>match b with
 | .ofNat m=>some (zY k (yk k (Int.mul a (.ofNat (Nat.pow 2 (min m k.bits))))))
 | .negSucc _=>none
def zVb:AOp:=fun k a b=>match b with
 | .ofNat m=>match a with
  | .ofNat a=>some (jZ k (Nat.div a (Nat.pow 2 (min m k.bits))))
  | .negSucc a=>some (zY k ((Int.negSucc a).fdiv (.ofNat (Nat.pow 2 (min m k.bits)))))
 | .negSucc _=>none
def yQ (op:BinOp):AOp:=
 BinOp.rec (motive:=fun _=>AOp) zVt zVy zVn zVe zVo zU9 aOr zTx zU6 zVb zSW zVz zVC zU7 zU4 zUX zVx op
def yz (op:BinOp):Bool:=match op with
 | .shl=>true
 | .shr=>true
 | _=>false
abbrev NOp:=Nat→Nat→Option CV
def okN (n:Nat):Option CV:=Bool.rec (motive:=fun _=>Option CV) none (some (kr n)) (Nat.ble n 9223372036854775807)
def zVw:NOp:=fun a b=>okN (Nat.add a b)
def zVh:NOp:=fun a b=>Bool.rec (motive:=fun _=>Option CV) none (Bool.rec (motive:=fun _=>Option CV) none (some (kr (Nat.sub a b))) (Nat.ble a 9223372036854775807)) (Nat.ble b a)
def zVA:NOp:=fun a b=>okN (Nat.mul a b)
def nNo:NOp:=fun _ _=>none
def zU5:NOp:=fun a b=>Bool.rec (motive:=fun _=>Option CV) none (Bool.rec (motive:=fun _=>Option CV) none (some (kr (Nat.land a b))) (Nat.ble b 9223372036854775807)) (Nat.ble a 9223372036854775807)
def zU1:NOp:=fun a b=>some (.bool (Nat.beq a b))
def zVk:NOp:=fun a b=>some (.bool (zBu (Nat.beq a b)))
def zUZ:NOp:=fun a b=>some (.bool (Nat.ble (Nat.succ a) b))
def zVv:NOp:=fun a b=>some (.bool (Nat.ble a b))
def zUY:NOp:=fun a b=>some (.bool (Nat.ble (Nat.succ b) a))
def zVp:NOp:=fun a b=>some (.bool (Nat.ble b a))
def zGU (op:BinOp):NOp:=BinOp.rec (motive:=fun _=>NOp) zVw zVh zVA nNo nNo zU5 nNo nNo nNo nNo nNo zU1 zVk zUZ zVv zUY zVp op
def zAl (a b:List Nat):Bool:=
 List.rec (motive:=fun _=>List Nat→Bool) (fun b=>List.rec (motive:=fun _=>Bool) false (fun _ _ _=>true) b)
  (fun x _ ih b=>List.rec (motive:=fun _=>Bool) false (fun y r _=>Bool.rec (motive:=fun _=>Bool) (Bool.rec (motive:=fun _=>Bool) false (ih r) (Nat.beq x y)) true (Nat.ble (Nat.succ x) y)) b) a b
def qB (a b:List Nat):Bool:=
 List.rec (motive:=fun _=>List Nat→Bool) (fun b=>List.rec (motive:=fun _=>Bool) true (fun _ _ _=>false) b)
  (fun x _ ih b=>List.rec (motive:=fun _=>Bool) false (fun y r _=>Bool.rec (motive:=fun _=>Bool) false (ih r) (Nat.beq x y)) b) a b
def zT1 (a b:List Nat):List Nat:=List.rec (motive:=fun _=>List Nat) b (fun x _ ih=>x::ih) a
def zC3 (a b:List CV):List CV:=List.rec (motive:=fun _=>List CV) b (fun x _ ih=>x::ih) a
abbrev SOp:=List Nat→List Nat→Option CV
def zVl:SOp:=fun a b=>Bool.rec (motive:=fun _=>Option CV) none (some (.str (zT1 a b))) (Nat.ble (Nat.add (zCs a) (zCs b)) 1000000)
def zVE:SOp:=fun a b=>some (.bool (qB a b))
def zVg:SOp:=fun a b=>some (.bool (zBu (qB a b)))
def zUV:SOp:=fun a b=>some (.bool (zAl a b))
def zVa:SOp:=fun a b=>some (.bool (zAl a b || qB a b))
def zVd:SOp:=fun a b=>some (.bool (zBu (zAl a b || qB a b)))
def zVr:SOp:=fun a b=>some (.bool (zBu (zAl a b)))
def zGk:SOp:=fun _ _=>none
def zRH (op:BinOp):SOp:=BinOp.rec (motive:=fun _=>SOp) zVl zGk zGk zGk zGk zGk zGk zGk zGk zGk zGk zVE zVg zUV zVa zVd zVr op
end
inductive zT where
 | e (i:Nat)
 | l (p:Loc)
 | k (v:CV)
structure zH9 where
 off:Nat
 size:Nat
 arg:zT
inductive EqK where
 | bool | pointer | iface | slice | map | func | int | str
 | struct (fs:List (Nat × EqK))
inductive j5 where
 | int | str | bool
 | ints (n:Nat)
inductive Ext where
 | count | indexByte | index | mapsClone | overlaps | cmp
inductive COp where
 | mv (x:zT)
 | pick (c a b:zT)
 | alloc (cs:List CV)
 | box (x:zT)
 | build (zero:List CV) (ps:List zH9)
 | bslice (zero:List CV) (len esz:Nat) (ps:List zH9)
 | load1 (x:zT)
 | loadN (s:Nat) (x:zT)
 | store (s:Nat) (a x:zT)
 | nilck (x:zT)
 | arith (op:BinOp) (x y:zT)
 | eq (neg:Bool) (k:EqK) (cst:Bool) (x y:zT)
 | un (op:UnOp) (x:zT)
 | cvInt (k:IntKind) (x:zT)
 | cvStr (x:zT)
 | cvSB (x:zT)
 | cvMark (x:zT)
 | cvBS (x:zT)
 | iface (t:TypeId) (x:zT)
 | mkfn (fn:Fn) (first captured:List zT)
 | mkmap
 | mkslice (zero:List CV) (esz bytes:Nat) (l c:zT)
 | slArr (len esz:Nat) (x:zT) (lo hi mx:Option zT)
 | slSl (esz:Nat) (x:zT) (lo hi mx:Option zT)
 | slStr (x:zT) (lo hi:Option zT)
 | addOff (k:Nat) (x:zT)
 | part (agg:Bool) (off size:Nat) (x:zT)
 | ixArr (len esz:Nat) (x i:zT)
 | ixSl (esz:Nat) (x i:zT)
 | ixAgg (len esz:Nat) (agg:Bool) (x i:zT)
 | ixStr (x i:zT)
 | lookup (kk:j5) (z:CV) (ok:Bool) (x k:zT)
 | mapupd (kk:j5) (m k v:zT)
 | rangeStr (x:zT)
 | rangeMap (x:zT)
 | next (s:Bool) (x:zT)
 | entry (x:zT)
 | tassert (t:TypeId) (z:Option CV) (ok:Bool) (x:zT)
 | tiface (t:TypeId) (z:Option CV) (ok:Bool) (x:zT)
 | extract (i:Nat) (x:zT)
 | call (f:FuncId) (args:List zT)
 | ext (e:Ext) (args:List zT)
 | callv (f:zT) (args:List zT)
 | invoke (recv:zT) (name:String) (args:List zT)
 | append (esz bytes:Nat) (s x:zT)
 | appz (zero:List CV) (esz:Nat) (s x:zT)
 | copy (esz:Nat) (d x:zT)
 | lenStr (x:zT)
 | lenSl (x:zT)
 | lenMap (x:zT)
 | capSl (x:zT)
 | delete (kk:j5) (m k:zT)
 | clearMap (x:zT)
 | clearSl (zero:List CV) (esz:Nat) (x:zT)
 | minmax (mx:Bool) (x:zT) (r:List zT)
 | defer (f:zT) (args:List zT)
 | recov
 | bad (c:Nat)
inductive qd where
 | i (op:COp)
 | o (op:COp) (d:Loc)
 | g (x:zT) (w:Bool) (op:COp) (d:Option Loc)
structure zOR where
 ins:qd
 eff:Bool
 chk:Nat
inductive CCode where
 | skip
 | region (ops:List qd)
 | dregion (ops:List zOR)
 | seq (a b:CCode)
 | cond (x:zT) (a b:CCode)
 | block (id:Nat) (b:CCode)
 | loop (b:CCode)
 | exit (id:Nat)
 | ret
 | scope (b:CCode)
 | bad (c:Nat)
inductive CRes where
 | tmp (p:zT)
 | cell1 (p:zT)
 | cellN (p:zT) (s:Nat)
inductive CFn where
 | mk (body:CCode) (res:List CRes)
 | mkD (ops:List qd) (body:CCode) (res:List CRes)
 | ext (e:Ext)
 | bad (c:Nat)
section
variable (P:Program)
def und (t:TypeId):Option TypeDesc:=P.underlying t
def x7 (t:TypeId):Option Nat:=(P.info? t).map (·.size)
def uY (t:TypeId):Option Nat:=(P.info? t).map (·.bytes)
def qF (t:TypeId):Option Bool:=match P.underlying t with
 | some (.struct _)=>some true
 | some (.array _ _)=>some true
 | some _=>some false
 | none=>none
def wW (t:TypeId):Option CV:=match (P.info? t).bind (·.zero) with
 | some v=>uo 20 v
 | none=>none
def cellsOf (v:CV):Option (List CV):=match v with
 | .agg cs=>some cs
 | .tup _=>none
 | .any=>none
 | v=>some [v]
def jK (t:TypeId):Option (List CV):=(wW P t).bind cellsOf
def jU (fs:List Field):Bool:=match fs with
 | []=>true
 | f::r=>(x7 P f.type).isSome&&jU r
def xM (t:Nat):List (Option Nat)→Nat→Option Nat
 | [],_=>none
 | d::r,i=>match d with
  | some u=>match Nat.beq u t with
   | true=>some i
   | false=>xM t r (i+1)
  | none=>xM t r (i+1)
structure Env where
 F:Nat
 N:Nat
 ds:List (Option Nat)
def zw (F t:Nat):Bool:=Nat.beq (Nat.mod (Nat.shiftRight F t) 2) 1
def zh (E:Env):Operand→Option zT
 | .tmp t=>match xM t E.ds 0 with
  | some i=>some (.e i)
  | none=>match zw E.F t&&Nat.ble t 271&&Nat.ble (Nat.succ t) E.N with
   | true=>some (.l (Loc.ofNat t))
   | false=>none
 | .const v=>(uo 20 v).map .k
 | .global g=>match Nat.ble (Nat.succ g) P.globals.size&&Nat.ble g 4095 with
  | true=>some (.k (.ptr (Key.ofNat g) 0))
  | false=>none
 | .func f=>some (.k (.func (.func f) [] []))
variable (E:Env)
def xK (f:zT→COp) (x:Operand):COp:=match zh P E x with
 | some x=>f x
 | none=>.bad 1
def jF (f:zT→zT→COp) (x y:Operand):COp:=match zh P E x,zh P E y with
 | some x,some y=>f x y
 | _,_=>.bad 1
def vc (place:Nat→Option (Nat × Nat)) (l:List (Nat × Operand)):Option (List zH9):=
 xD (fun (i,x)=>match place i,zh P E x with
  | some (o,s),some x=>some ⟨o,s,x⟩
  | _,_=>none) l
def zAm (fs:List Field) (i:Nat):Option (Nat × Nat):=match nth fs i with
 | none=>none
 | some f=>match x7 P f.type with
  | none=>none
  | some s=>some (f.offset,s)
def wH:List Field→Option (List (Nat × EqK))
 | []=>some []
 | f::r=>if f.name == "_" then none else
  match wH r with
  | none=>none
  | some l=>match und P f.type with
   | some .bool=>some ((f.offset,.bool)::l)
   | some (.int _)=>some ((f.offset,.int)::l)
   | some .string=>some ((f.offset,.str)::l)
   | _=>none
def zIC (t:TypeId):Option EqK:=match und P t with
 | some .bool=>some .bool
 | some (.pointer _)=>some .pointer
 | some (.interface _)=>some .iface
 | some (.slice _)=>some .slice
 | some (.map _ _)=>some .map
 | some (.func _ _ _)=>some .func
 | some (.struct fs)=>if P.eqGuardType P.depth t || P.stoodInHeld t then none else (wH P fs.toList).map .struct
 | _=>none
def zFZ:List Field→Nat→Bool
 | [],_=>true
 | f::r,i=>!(f.name == "_")&&Nat.beq f.offset i&&(match und P f.type with
  | some (.int _)=>true
  | _=>false)&&zFZ r (i+1)
def xr (t:TypeId):Option j5:=match und P t with
 | some (.int _)=>some .int
 | some .string=>some .str
 | some .bool=>some .bool
 | some (.struct fs)=>if P.stoodInHeld t then none else if zFZ P fs.toList 0 then some (.ints fs.size) else none
 | _=>none
def xO:Operand→Bool
 | .const _=>true
 | _=>false
def zNv (op:BinOp) (t:TypeId) (x y:Operand):COp:=match und P t with
 | some (.int _)=>jF P E (.arith op) x y
 | some .string=>jF P E (.arith op) x y
 | _=>match op,zIC P t with
  | .eql,some k=>jF P E (.eq false k (xO x || xO y)) x y
  | .neq,some k=>jF P E (.eq true k (xO x || xO y)) x y
  | _,_=>.bad 2
def zJH (s d:TypeId) (x:Operand):COp:=match und P s,und P d with
 | some (.int _),some (.int k)=>xK P E (.cvInt k) x
 | some .string,some .string=>xK P E .cvStr x
 | some .string,some (.slice e)=>match und P e with
  | some (.int .u8)=>xK P E .cvSB x
  | _=>.bad 3
 | some (.slice _),some (.slice e)=>match Nat.beq s d,und P e with
  | true,some (.int .u8)=>xK P E .cvMark x
  | _,_=>.bad 3
 | some (.slice e),some .string=>match und P e with
  | some (.int .u8)=>xK P E .cvBS x
  | _=>.bad 3
 | _,_=>.bad 3
def qa (l:List Operand):Option (List zT):=xD (zh P E) l
def qD (b:Builtin) (ts:List TypeId) (args:List Operand):COp:=match b,ts,args with
 | .append,t::u::_,[s,x]=>match und P t,und P u with
  | some (.slice e),some ud=>match ud with
   | .int _=>match x7 P e,uY P e,jK P e with
    | some (sz+1),some b,some z=>if Nat.ble b 100000&&Nat.beq z.length (sz+1) then jF P E (.appz z (sz+1)) s x else .bad 4
    | _,_,_=>.bad 4
   | _=>match x7 P e,uY P e,jK P e with
    | some (sz+1),some b,some z=>if Nat.ble b 100000&&Nat.beq z.length (sz+1) then jF P E (.append (sz+1) b) s x else .bad 4
    | _,_,_=>.bad 4
  | _,_=>.bad 4
 | .copy,t::_,[d,x]=>match und P t with
  | some (.slice e)=>match x7 P e with
   | some s=>jF P E (.copy s) d x
   | none=>.bad 5
  | _=>.bad 5
 | .len,t::_,[x]=>match und P t with
  | some .string=>xK P E .lenStr x
  | some (.array k _)=>.mv (.k (.nat k))
  | some (.pointer a)=>match und P a with
   | some (.array k _)=>.mv (.k (.nat k))
   | _=>.bad 6
  | some (.slice _)=>xK P E .lenSl x
  | some (.map _ _)=>xK P E .lenMap x
  | _=>.bad 6
 | .cap,t::_,[x]=>match und P t with
  | some (.slice _)=>xK P E .capSl x
  | some (.array k _)=>.mv (.k (.nat k))
  | _=>.bad 7
 | .delete,t::_,[m,k]=>match und P t with
  | some (.map kt _)=>match xr P kt with
   | some kk=>jF P E (.delete kk) m k
   | none=>.bad 8
  | _=>.bad 8
 | .clear,t::_,[x]=>match und P t with
  | some (.map _ _)=>xK P E .clearMap x
  | some (.slice e)=>match jK P e,x7 P e with
   | some z,some s=>xK P E (.clearSl z s) x
   | _,_=>.bad 9
  | _=>.bad 9
 | .min,_,x::r=>match zh P E x,qa P E r with
  | some x,some r=>.minmax false x r
  | _,_=>.bad 10
 | .max,_,x::r=>match zh P E x,qa P E r with
  | some x,some r=>.minmax true x r
  | _,_=>.bad 10
 | .recover,_,[]=>.recov
 | _,_,_=>.bad 11
def zVu (a b:String):String:=String.append (String.append a (String.singleton (Char.ofNat 47))) b
def zG9 (s:String):String:=zVu "internal" s
def zKF (n:String):Bool:=(Extern.allNextRows.lookup n).isNone&&(Extern.allGenericRows.lookup n).isNone&&(Extern.allTypedRows.lookup n).isNone&&(Extern.allRows.lookup n).isNone
def zBc (fn:Func):Bool:=(!(fn.name == "runtime.NumGoroutine")&&zKF fn.name)&&match fn.params.toList with
 | t::_=>match und P t with
  | some (.slice e)=>(x7 P e).isSome
  | _=>false
 | []=>false
def zCI (fn:Func):Option Ext:=
 if fn.origin == "" then
  if fn.name == zG9 "bytealg.CountString" then some .count
  else if fn.name == zG9 "bytealg.IndexByteString" then some .indexByte
  else if fn.name == zG9 "bytealg.abigen_runtime_cmpstring" then some .cmp
  else if fn.name == "maps.clone" then some .mapsClone
  else none
 else if fn.origin == "slices.overlaps" && zBc P fn then some .overlaps
 else none
def zFT (c:Call):COp:=match c.callee with
 | .builtin b=>qD P E b c.argTypes.toList c.args.toList
 | .invoke r name=>match zh P E r,qa P E c.args.toList with
  | some r,some args=>.invoke r name args
  | _,_=>.bad 13
 | .value f=>match qa P E c.args.toList with
  | none=>.bad 12
  | some args=>match f with
   | .func f=>match nth P.funcs.toList f with
    | none=>.bad (10000+f)
    | some fn=>if fn.body.isSome then .call f args else match zCI P fn with
     | some e=>.ext e args
     | none=>.bad (10000+f)
   | f=>match zh P E f with
    | some f=>.callv f args
    | none=>.bad 14
def zJU (y:Option Operand):Option (Option zT):=match y with
 | none=>some none
 | some y=>(zh P E y).map some
def zHJ (t:TypeId) (x:Operand) (lo hi mx:Option Operand):COp:=
 if mx.isSome&&hi.isNone then .bad 15 else match zh P E x,zJU P E lo,zJU P E hi,zJU P E mx with
 | some x,some lo,some hi,some mx=>match und P t with
  | some (.array k e)=>match x7 P e with
   | some (s+1)=>.slArr k (s+1) x lo hi mx
   | _=>.bad 15
  | some (.slice e)=>match x7 P e with
   | some (s+1)=>.slSl (s+1) x lo hi mx
   | _=>.bad 15
  | some .string=>match mx with
   | none=>.slStr x lo hi
   | some _=>.bad 15
  | _=>.bad 15
 | _,_,_,_=>.bad 15
def zg (o:Op):COp:=match o with
 | .move x=>xK P E .mv x
 | .assign x=>xK P E .mv x
 | .pick c a b=>match zh P E c,zh P E a,zh P E b with
  | some c,some a,some b=>.pick c a b
  | _,_,_=>.bad 20
 | .alloc t=>match jK P t with
  | some z=>.alloc z
  | none=>.bad 21
 | .box _ x=>xK P E .box x
 | .build t ps=>match jK P t,und P t with
  | some z,some (.struct fs)=>if jU P fs.toList then
   match vc P E (zAm P fs.toList) ps.toList with
   | some l=>.build z l
   | none=>.bad 22
   else .bad 22
  | some z,some (.array _ e)=>match x7 P e with
   | none=>.bad 22
   | some s=>match vc P E (fun i=>some (i*s,s)) ps.toList with
    | some l=>.build z l
    | none=>.bad 22
  | _,_=>.bad 22
 | .buildSlice t len ps=>match und P t with
  | some (.slice e)=>match x7 P e,jK P e with
   | some (s+1),some z=>if Nat.ble (len*(s+1)) 100000&&Nat.beq z.length (s+1) then
    match vc P E (fun i=>some (i*(s+1),s+1)) ps.toList with
    | some l=>.bslice (kv z len) len (s+1) l
    | none=>.bad 23
    else .bad 23
   | _,_=>.bad 23
  | _=>.bad 23
 | .load t a=>match qF P t,x7 P t with
  | some true,some s=>xK P E (.loadN s) a
  | some false,some _=>xK P E .load1 a
  | _,_=>.bad 24
 | .store t a x=>match x7 P t with
  | some s=>jF P E (.store s) a x
  | none=>.bad 25
 | .nilCheck x=>xK P E .nilck x
 | .binOp op t x y _=>zNv P E op t x y
 | .unOp op _ x=>xK P E (.un op) x
 | .convert s d x=>zJH P E s d x
 | .makeInterface t x=>match und P t with
  | some (.interface _)=>.bad 26
  | some _=>xK P E (.iface t) x
  | none=>.bad 26
 | .makeFunc fn a b=>match qa P E a.toList,qa P E b.toList with
  | some a,some b=>.mkfn fn a b
  | _,_=>.bad 27
 | .makeMap t r=>match und P t,r with
  | some (.map _ _),none=>.mkmap
  | some (.map _ _),some (.const (.int _ _))=>.mkmap
  | _,_=>.bad 28
 | .makeSlice t l c=>match und P t with
  | some (.slice e)=>match x7 P e,jK P e,uY P e with
   | some (s+1),some z,some b=>if Nat.beq z.length (s+1) then jF P E (.mkslice z (s+1) b) l c else .bad 29
   | _,_,_=>.bad 29
  | _=>.bad 29
 | .slice t x lo hi mx=>zHJ P E t x lo hi mx
 | .fieldAddr t x f=>match und P t with
  | some (.struct fs)=>match nth fs.toList f with
   | some fd=>match x7 P fd.type with
    | some (_+1)=>xK P E (.addOff fd.offset) x
    | _=>.bad 30
   | none=>.bad 30
  | _=>.bad 30
 | .field t x f=>match und P t with
  | some (.struct fs)=>match nth fs.toList f with
   | some fd=>match qF P fd.type,x7 P fd.type with
    | some a,some s=>xK P E (.part a fd.offset s) x
    | _,_=>.bad 31
   | none=>.bad 31
  | _=>.bad 31
 | .indexAddr t x i=>match und P t with
  | some (.array len e)=>match x7 P e with
   | some s=>jF P E (.ixArr len s) x i
   | none=>.bad 32
  | some (.slice e)=>match x7 P e with
   | some s=>jF P E (.ixSl s) x i
   | none=>.bad 32
  | _=>.bad 32
 | .index t x i=>match und P t with
  | some (.array len e)=>match x7 P e,qF P e with
   | some s,some a=>jF P E (.ixAgg len s a) x i
   | _,_=>.bad 33
  | some .string=>jF P E .ixStr x i
  | _=>.bad 33
 | .lookup t x i ok=>match und P t with
  | some (.map kt et)=>match xr P kt,wW P et with
   | some kk,some z=>jF P E (.lookup kk z ok) x i
   | _,_=>.bad 34
  | _=>.bad 34
 | .mapUpdate t m k x=>match und P t with
  | some (.map kt _)=>match xr P kt,zh P E m,zh P E k,zh P E x with
   | some kk,some m,some k,some x=>.mapupd kk m k x
   | _,_,_,_=>.bad 35
  | _=>.bad 35
 | .insert t m k x=>match und P t with
  | some (.map kt _)=>match xr P kt,zh P E m,zh P E k,zh P E x with
   | some kk,some m,some k,some x=>.mapupd kk m k x
   | _,_,_,_=>.bad 35
  | _=>.bad 35
 | .range t x=>match und P t with
  | some .string=>xK P E .rangeStr x
  | some (.map _ _)=>xK P E .rangeMap x
  | _=>.bad 36
 | .next it s=>xK P E (.next s) it
 | .entry it=>xK P E .entry it
 | .typeAssert x _ t ok=>match und P t with
  | some (.interface _)=>xK P E (.tiface t (wW P t) ok) x
  | some _=>xK P E (.tassert t (wW P t) ok) x
  | none=>.bad 37
 | .extract t i=>xK P E (.extract i) t
 | .call c=>zFT P E c
 | .defer c=>match c.callee with
  | .value f=>match zh P E f,qa P E c.args.toList with
   | some f,some args=>.defer f args
   | _,_=>.bad 38
  | _=>.bad 38
 | _=>.bad 39
def xT (F N:Nat) (d:Option Nat):Option (Option Loc):=match d with
 | none=>some none
 | some t=>match Nat.ble (Nat.succ t) N with
  | false=>none
  | true=>match zw F t with
   | false=>some none
   | true=>match Nat.ble t 271 with
    | true=>some (some (Loc.ofNat t))
    | false=>none
def ui (F N:Nat) (all:List Oper) (ds:List (Option Nat)) (o:Oper):qd:=match xT F N o.dst with
 | none=>.i (.bad 40)
 | some d=>match o.guard with
  | none=>match d with
   | none=>.i (zg P ⟨F,N,ds⟩ o.op)
   | some d=>.o (zg P ⟨F,N,ds⟩ o.op) d
  | some (j,w)=>match (nth all j).bind (·.dst) with
   | some t=>match zh P ⟨F,N,ds⟩ (.tmp t) with
    | some x=>.g x w (zg P ⟨F,N,ds⟩ o.op) d
    | none=>.i (.bad 41)
   | none=>.i (.bad 42)
def jI (F N:Nat) (all:List Oper):List (Option Nat)→List Oper→List qd
 | _,[]=>[]
 | ds,o::r=>ui P F N all ds o::jI F N all (o.dst::ds) r
def zDz (o:Op):Bool:=match o with
 | .call c=>match c.callee with
  | .builtin .recover=>true
  | _=>false
 | _=>false
def qM (o:Op):Bool:=match o with
 | .store ..=>true
 | .mapUpdate ..=>true
 | .insert ..=>true
 | .next ..=>true
 | .range ..=>true
 | .defer _=>true
 | .convert s d _=>match und P s,und P d with
  | some (.slice _),some (.slice _)=>true
  | _,_=>false
 | .call c=>match c.callee with
  | .builtin b=>match b with
   | .len=>false
   | .cap=>false
   | .min=>false
   | .max=>false
   | _=>true
  | _=>true
 | _=>false
def zAp (acc:List Nat):List Edge→Nat
 | []=>0
 | e::r=>if Region.binds .any e then Nat.lor (Nat.lor (Nat.shiftLeft 1 e.on) ((nth acc e.on).getD 0)) (zAp acc r) else zAp acc r
def wt:List Nat→List Oper→List Nat
 | acc,[]=>acc
 | acc,o::r=>wt (acc++[zAp acc o.after.toList]) r
def yM (m:Nat) (done:List Nat):List Nat→List Nat
 | []=>[]
 | i::r=>if zw m i && !done.contains i then i::yM m done r else yM m done r
def zHQ (anc:List Nat) (all:List Nat):List Nat→List Nat→List Nat
 | [],done=>done++yM (Nat.sub (Nat.shiftLeft 1 all.length) 1) done all
 | e::es,done=>zHQ anc all es (done++yM ((nth anc e).getD 0) done all++(if done.contains e then [] else [e]))
def zDY (m:Nat):List Nat→Nat
 | []=>0
 | e::es=>if zw m e then 0 else Nat.succ (zDY m es)
def zTK (p:Oper→Bool):List Oper→Nat→List Nat
 | [],_=>[]
 | o::r,i=>if p o then i::zTK p r (i+1) else zTK p r (i+1)
def j3 (F N:Nat) (ops:List Oper) (anc:List Nat):List (Option Nat)→List Nat→List Nat→List zOR
 | _,_,[]=>[]
 | ds,effs,i::r=>match nth ops i with
  | none=>[⟨.i (.bad 47),false,0⟩]
  | some o=>⟨ui P F N ops ds o,qM P o.op,zDY ((nth anc i).getD 0) effs⟩ ::
   j3 F N ops anc (o.dst::ds) (if qM P o.op then i::effs else effs) r
def zNI (ops:List Oper) (anc:List Nat):List Nat:=zHQ anc (List.range ops.length) (zTK (fun o=>qM P o.op) ops 0) []
def zFo (m:Nat):List Nat→List Nat→Bool
 | done,[]=>Nat.beq done.length m
 | done,i::r=>!done.contains i&&Nat.ble (Nat.succ i) m&&zFo m (i::done) r
def zNH (ops:List Oper) (anc:List Nat):List Nat→List Nat→Bool
 | _,[]=>true
 | done,i::r=>(match nth ops i with
  | some o=>if qM P o.op then done.all fun j=>zw ((nth anc i).getD 0) j else true
  | none=>false)&&zNH ops anc (i::done) r
def zME (anc:List Nat) (m:Nat):List Nat→List Nat→Bool
 | _,[]=>true
 | done,i::r=>((List.range m).all fun j=>!zw ((nth anc i).getD 0) j || done.contains j)&&zME anc m (i::done) r
def uM (ops:List Oper) (o:Oper):List Nat:=
 (o.op.operands.toList.filterMap fun | .tmp t=>some t | _=>none)++(match o.guard with
   | some (j,_)=>match (nth ops j).bind (·.dst) with
    | some t=>[t]
    | none=>[]
   | none=>[])
def zLT (ops:List Oper) (anc:List Nat) (m:Nat):Bool:=
 (List.range m).all fun i=>(List.range m).all fun j=>match nth ops i,nth ops j with
   | some x,some y=>match x.dst with
    | some t=>(Nat.beq i j || !(decide (y.dst=some t)))&&(!(uM ops y).contains t || (!Nat.beq i j&&(zw ((nth anc j).getD 0) i || zw ((nth anc i).getD 0) j)))
    | none=>true
   | _,_=>false
def zBX:List Oper→Nat→Bool
 | [],_=>true
 | o::r,i=>(o.after.toList.all fun e=>!Region.binds .any e || Nat.ble (Nat.succ e.on) i)&&zBX r (i+1)
def zCT (ops:List Oper) (anc:List Nat) (order:List Nat):Bool:=
 zFo ops.length [] order&&zNH P ops anc [] order&&zME anc ops.length [] order&&zLT ops anc ops.length&&zBX ops 0
def zIp (F N:Nat) (ops:List Oper):CCode:=
 let anc:=wt [] ops
 let order:=zNI P ops anc
 if zCT P ops anc order then .dregion (j3 P F N ops anc [] [] order) else .bad 48
def zU (F N:Nat):Code→CCode
 | .skip=>.skip
 | .label _=>.skip
 | .region _ ops dr=>match dr with
  | false=>.region (jI P F N ops.toList [] ops.toList)
  | true=>zIp P F N ops.toList
 | .seq a b=>.seq (zU F N a) (zU F N b)
 | .cond x a b=>match zh P ⟨F,N,[]⟩ x with
  | some x=>.cond x (zU F N a) (zU F N b)
  | none=>.bad 43
 | .block id b=>.block id (zU F N b)
 | .loop b=>.loop (zU F N b)
 | .exit id=>.exit id
 | .ret=>.ret
 | .scope b=>.scope (zU F N b)
 | _=>.bad 44
def bit (t:Nat):Nat:=Nat.shiftLeft 1 t
def zBH:List Operand→Nat
 | []=>0
 | .tmp t::r=>Nat.lor (bit t) (zBH r)
 | _::r=>zBH r
def zIg (all:List Oper):List Oper→Nat
 | []=>0
 | o::r=>Nat.lor (zBH o.op.operands.toList) (Nat.lor (match o.guard with | some (j,_)=>zBH [.tmp ((((nth all j).bind (·.dst))).getD 4095)] | none=>0) (zIg all r))
def zIc:List Oper→Nat
 | []=>0
 | o::r=>match o.dst with
  | some t=>Nat.lor (bit t) (zIc r)
  | none=>zIc r
def zDO (c:Code) (x:Nat × Nat):Nat × Nat:=match c with
 | .region _ ops _=>let u:=zIg ops.toList ops.toList; (Nat.lor x.1 u,Nat.lor x.2 (Nat.land x.1 u))
 | .seq a b=>zDO b (zDO a x)
 | .cond y a b=>let u:=zBH [y]; zDO b (zDO a (Nat.lor x.1 u,Nat.lor x.2 (Nat.land x.1 u)))
 | .block _ b=>zDO b x
 | .loop b=>zDO b x
 | .scope b=>zDO b x
 | _=>x
def vC (once:Nat):Code→Nat
 | .region _ ops _=>Nat.land (zIc ops.toList) (Nat.xor once (Nat.land once (zIg ops.toList ops.toList)))
 | .seq a b=>Nat.lor (vC once a) (vC once b)
 | .cond _ a b=>Nat.lor (vC once a) (vC once b)
 | .block _ b=>vC once b
 | .loop b=>vC once b
 | .scope b=>vC once b
 | _=>0
def zIU:List ResultVar→Nat
 | []=>0
 | .tmp t::r=>Nat.lor (bit t) (zIU r)
 | .cell t _::r=>Nat.lor (bit t) (zIU r)
def frameBits (fn:Func) (c:Code):Nat:=
 let res:=zIU fn.results.toList
 let u:=zDO c (res,0)
 Nat.lor (Nat.lor (Nat.lor u.2 (vC u.1 c)) res) (Nat.sub (bit (Nat.add fn.params.size fn.nfree)) 1)
def xc (F N:Nat) (r:ResultVar):Option CRes:=match r with
 | .tmp t=>(zh P ⟨F,N,[]⟩ (.tmp t)).map .tmp
 | .cell a t=>match qF P t,x7 P t,zh P ⟨F,N,[]⟩ (.tmp a) with
  | some true,some s,some x=>some (.cellN x s)
  | some false,some _,some x=>some (.cell1 x)
  | _,_,_=>none
def zFH (l:List Oper):Bool:=match l with
 | []=>true
 | o::r=>!zDz o.op&&zFH r
def yS:Code→Bool
 | .region _ ops _=>zFH ops.toList
 | .seq a b=>yS a&&yS b
 | .cond _ a b=>yS a&&yS b
 | .block _ b=>yS b
 | .loop b=>yS b
 | .scope b=>yS b
 | _=>true
def zBF (F N:Nat) (fn:Func) (c:Code):CFn:=match xD (xc P F N) fn.results.toList with
 | some rs=>if yS c then .mk (zU P F N c) rs else match c with
  | .seq (.region _ ops false) r=>if yS r then .mkD (jI P F N ops.toList [] ops.toList) (zU P F N r) rs else .bad 50
  | _=>.bad 50
 | none=>.bad 45
def compFn (f:FuncId):CFn:=match nth P.funcs.toList f with
 | none=>.bad 46
 | some fn=>match fn.body with
  | none=>match zCI P fn with
   | some e=>.ext e
   | none=>.bad (20000+f)
  | some c=>if fn.name == "runtime.NumGoroutine" then .bad 49 else zBF P (frameBits fn c) fn.ntmps fn c
end
end Go.Ev
namespace Go.Ev
noncomputable section
inductive OR where
 | val (v:CV)
 | read (v:CV)
 | alloc (o:CObj) (v:CV)
 | eff (v:CV) (h:zC) (n:Key)
 | call (f:FuncId) (args:List CV)
 | dfr (f:FuncId) (args:List CV)
 | recov
 | err (c:Nat)
 | fork (a b:OR)
def zD7 (v:Option CV) (c:Nat):OR:=Option.rec (motive:=fun _=>Nat→OR) (fun c=>.err c) (fun v _=>.val v) v c
def zPd (v:Option CV) (c:Nat):OR:=Option.rec (motive:=fun _=>Nat→OR) (fun c=>.err c) (fun v _=>.read v) v c
def zTT (v:Option (List CV)) (c:Nat):OR:=Option.rec (motive:=fun _=>Nat→OR) (fun c=>.err c) (fun v _=>.val (.agg v)) v c
def zS7 (v:Option (List CV)) (c:Nat):OR:=Option.rec (motive:=fun _=>Nat→OR) (fun c=>.err c) (fun v _=>.read (.agg v)) v c
def onL (v:Option (List CV)) (k:List CV→OR) (c:Nat):OR:=Option.rec (motive:=fun _=>(List CV→OR)→Nat→OR) (fun _ c=>.err c) (fun v k _=>k v) v k c
def onN (v:Option Nat) (k:Nat→OR) (c:Nat):OR:=Option.rec (motive:=fun _=>(Nat→OR)→Nat→OR) (fun _ c=>.err c) (fun v k _=>k v) v k c
def yi (b:Bool) (k:OR) (c:Nat):OR:=Bool.rec (motive:=fun _=>OR→Nat→OR) (fun _ c=>.err c) (fun k _=>k) b k c
def ifB (b:Bool) (t f:OR):OR:=Bool.rec (motive:=fun _=>OR→OR→OR) (fun _ f=>f) (fun t _=>t) b t f
def wd (n:Nat) (k:Nat→OR):OR:=Nat.rec (motive:=fun _=>(Nat→OR)→OR) (fun k=>k 0) (fun m _ k=>k (Nat.succ m)) n k
def zDK (v:CV) (k:Key→Nat→OR) (e:Nat):OR:=
 CV.rec (motive_1:=fun _=>(Key→Nat→OR)→Nat→OR) (motive_2:=fun _=>Unit)
  (fun _ _ e=>.err e) (fun _ _ e=>.err e) (fun _ _ _ e=>.err e) (fun _ _ e=>.err e) (fun _ _ e=>.err e) (fun _ e=>.err e) (fun x0 x1 k _=>k x0 x1) (fun _ e=>.err e) (fun _ _ _ _ _ _ _ e=>.err e) (fun _ e=>.err e) (fun _ _ e=>.err e) (fun _ _ _ _ _ _ e=>.err e) (fun _ e=>.err e) (fun _ _ _ _ e=>.err e) (fun _ e=>.err e) (fun _ _ _ e=>.err e) (fun _ _ _ e=>.err e) (fun _ _ e=>.err e) (fun _ _ _ _ _ e=>.err e) (fun _ _ _ e=>.err e) (fun _ _ e=>.err e) (fun _ _ _ e=>.err e) (fun _ _ _ _ _ e=>.err e) (fun _ e=>.err e) () (fun _ _ _ _=>()) v k e
def zRv (v:CV) (k:IntKind→Int→OR) (e:Nat):OR:=
 CV.rec (motive_1:=fun _=>(IntKind→Int→OR)→Nat→OR) (motive_2:=fun _=>Unit)
  (fun _ _ e=>.err e) (fun x0 k _=>k .i64 (.ofNat x0)) (fun x0 x1 k _=>k x0 x1) (fun _ _ e=>.err e) (fun _ _ e=>.err e) (fun _ e=>.err e) (fun _ _ _ e=>.err e) (fun _ e=>.err e) (fun _ _ _ _ _ _ _ e=>.err e) (fun _ e=>.err e) (fun _ _ e=>.err e) (fun _ _ _ _ _ _ e=>.err e) (fun _ e=>.err e) (fun _ _ _ _ e=>.err e) (fun _ e=>.err e) (fun _ _ _ e=>.err e) (fun _ _ _ e=>.err e) (fun _ _ e=>.err e) (fun _ _ _ _ _ e=>.err e) (fun _ _ _ e=>.err e) (fun _ _ e=>.err e) (fun _ _ _ e=>.err e) (fun _ _ _ _ _ e=>.err e) (fun _ e=>.err e) () (fun _ _ _ _=>()) v k e
def zUw (v:CV) (k:Nat→OR) (j:IntKind→Int→OR) (e:Nat):OR:=
 CV.rec (motive_1:=fun _=>(Nat→OR)→(IntKind→Int→OR)→Nat→OR) (motive_2:=fun _=>Unit)
  (fun _ _ _ e=>.err e) (fun x0 k _ _=>k x0) (fun x0 x1 _ j _=>j x0 x1) (fun _ _ _ e=>.err e) (fun _ _ _ e=>.err e) (fun _ _ e=>.err e) (fun _ _ _ _ e=>.err e) (fun _ _ e=>.err e) (fun _ _ _ _ _ _ _ _ e=>.err e) (fun _ _ e=>.err e) (fun _ _ _ e=>.err e) (fun _ _ _ _ _ _ _ e=>.err e) (fun _ _ e=>.err e) (fun _ _ _ _ _ e=>.err e) (fun _ _ e=>.err e) (fun _ _ _ _ e=>.err e) (fun _ _ _ _ e=>.err e) (fun _ _ _ e=>.err e) (fun _ _ _ _ _ _ e=>.err e) (fun _ _ _ _ e=>.err e) (fun _ _ _ e=>.err e) (fun _ _ _ _ e=>.err e) (fun _ _ _ _ _ _ e=>.err e) (fun _ _ e=>.err e) () (fun _ _ _ _=>()) v k j e
def uk (v:CV) (k:List Nat→OR) (e:Nat):OR:=
 CV.rec (motive_1:=fun _=>(List Nat→OR)→Nat→OR) (motive_2:=fun _=>Unit)
  (fun _ _ e=>.err e) (fun _ _ e=>.err e) (fun _ _ _ e=>.err e) (fun _ _ e=>.err e) (fun x0 k _=>k x0) (fun _ e=>.err e) (fun _ _ _ e=>.err e) (fun _ e=>.err e) (fun _ _ _ _ _ _ _ e=>.err e) (fun _ e=>.err e) (fun _ _ e=>.err e) (fun _ _ _ _ _ _ e=>.err e) (fun _ e=>.err e) (fun _ _ _ _ e=>.err e) (fun _ e=>.err e) (fun _ _ _ e=>.err e) (fun _ _ _ e=>.err e) (fun _ _ e=>.err e) (fun _ _ _ _ _ e=>.err e) (fun _ _ _ e=>.err e) (fun _ _ e=>.err e) (fun _ _ _ e=>.err e) (fun _ _ _ _ _ e=>.err e) (fun _ e=>.err e) () (fun _ _ _ _=>()) v k e
def zKY (v:CV) (k:Bool→OR) (e:Nat):OR:=
 CV.rec (motive_1:=fun _=>(Bool→OR)→Nat→OR) (motive_2:=fun _=>Unit)
  (fun x0 k _=>k x0) (fun _ _ e=>.err e) (fun _ _ _ e=>.err e) (fun _ _ e=>.err e) (fun _ _ e=>.err e) (fun _ e=>.err e) (fun _ _ _ e=>.err e) (fun _ e=>.err e) (fun _ _ _ _ _ _ _ e=>.err e) (fun _ e=>.err e) (fun _ _ e=>.err e) (fun _ _ _ _ _ _ e=>.err e) (fun _ e=>.err e) (fun _ _ _ _ e=>.err e) (fun _ e=>.err e) (fun _ _ _ e=>.err e) (fun _ _ _ e=>.err e) (fun _ _ e=>.err e) (fun _ _ _ _ _ e=>.err e) (fun _ _ _ e=>.err e) (fun _ _ e=>.err e) (fun _ _ _ e=>.err e) (fun _ _ _ _ _ e=>.err e) (fun _ e=>.err e) () (fun _ _ _ _=>()) v k e
def uu (v:CV) (z:OR) (k:Key→Nat→Nat→Nat→Nat→Bool→OR) (e:Nat):OR:=
 CV.rec (motive_1:=fun _=>(OR)→(Key→Nat→Nat→Nat→Nat→Bool→OR)→Nat→OR) (motive_2:=fun _=>Unit)
  (fun _ _ _ e=>.err e) (fun _ _ _ e=>.err e) (fun _ _ _ _ e=>.err e) (fun _ _ _ e=>.err e) (fun _ _ _ e=>.err e) (fun _ _ e=>.err e) (fun _ _ _ _ e=>.err e) (fun z _ _=>z) (fun x0 x1 x2 x3 x4 x5 _ k _=>k x0 x1 x2 x3 x4 x5) (fun _ _ e=>.err e) (fun _ _ _ e=>.err e) (fun _ _ _ _ _ _ _ e=>.err e) (fun _ _ e=>.err e) (fun _ _ _ _ _ e=>.err e) (fun _ _ e=>.err e) (fun _ _ _ _ e=>.err e) (fun _ _ _ _ e=>.err e) (fun _ _ _ e=>.err e) (fun _ _ _ _ _ _ e=>.err e) (fun _ _ _ _ e=>.err e) (fun _ _ _ e=>.err e) (fun _ _ _ _ e=>.err e) (fun _ _ _ _ _ _ e=>.err e) (fun _ _ e=>.err e) () (fun _ _ _ _=>()) v z k e
def zDD (v:CV) (z:OR) (k:Key→OR) (e:Nat):OR:=
 CV.rec (motive_1:=fun _=>(OR)→(Key→OR)→Nat→OR) (motive_2:=fun _=>Unit)
  (fun _ _ _ e=>.err e) (fun _ _ _ e=>.err e) (fun _ _ _ _ e=>.err e) (fun _ _ _ e=>.err e) (fun _ _ _ e=>.err e) (fun _ _ e=>.err e) (fun _ _ _ _ e=>.err e) (fun _ _ e=>.err e) (fun _ _ _ _ _ _ _ _ e=>.err e) (fun z _ _=>z) (fun x0 _ k _=>k x0) (fun _ _ _ _ _ _ _ e=>.err e) (fun _ _ e=>.err e) (fun _ _ _ _ _ e=>.err e) (fun _ _ e=>.err e) (fun _ _ _ _ e=>.err e) (fun _ _ _ _ e=>.err e) (fun _ _ _ e=>.err e) (fun _ _ _ _ _ _ e=>.err e) (fun _ _ _ _ e=>.err e) (fun _ _ _ e=>.err e) (fun _ _ _ _ e=>.err e) (fun _ _ _ _ _ _ e=>.err e) (fun _ _ e=>.err e) () (fun _ _ _ _=>()) v z k e
def zRn (v:CV) (k:List CV→OR) (e:Nat):OR:=
 CV.rec (motive_1:=fun _=>(List CV→OR)→Nat→OR) (motive_2:=fun _=>Unit)
  (fun _ _ e=>.err e) (fun _ _ e=>.err e) (fun _ _ _ e=>.err e) (fun _ _ e=>.err e) (fun _ _ e=>.err e) (fun _ e=>.err e) (fun _ _ _ e=>.err e) (fun _ e=>.err e) (fun _ _ _ _ _ _ _ e=>.err e) (fun _ e=>.err e) (fun _ _ e=>.err e) (fun _ _ _ _ _ _ e=>.err e) (fun _ e=>.err e) (fun _ _ _ _ e=>.err e) (fun _ e=>.err e) (fun x0 _ k _=>k x0) (fun _ _ _ e=>.err e) (fun _ _ e=>.err e) (fun _ _ _ _ _ e=>.err e) (fun _ _ _ e=>.err e) (fun _ _ e=>.err e) (fun _ _ _ e=>.err e) (fun _ _ _ _ _ e=>.err e) (fun _ e=>.err e) () (fun _ _ _ _=>()) v k e
def zTa (v:CV) (k:List CV→OR) (e:Nat):OR:=
 CV.rec (motive_1:=fun _=>(List CV→OR)→Nat→OR) (motive_2:=fun _=>Unit)
  (fun _ _ e=>.err e) (fun _ _ e=>.err e) (fun _ _ _ e=>.err e) (fun _ _ e=>.err e) (fun _ _ e=>.err e) (fun _ e=>.err e) (fun _ _ _ e=>.err e) (fun _ e=>.err e) (fun _ _ _ _ _ _ _ e=>.err e) (fun _ e=>.err e) (fun _ _ e=>.err e) (fun _ _ _ _ _ _ e=>.err e) (fun _ e=>.err e) (fun _ _ _ _ e=>.err e) (fun _ e=>.err e) (fun _ _ _ e=>.err e) (fun x0 _ k _=>k x0) (fun _ _ e=>.err e) (fun _ _ _ _ _ e=>.err e) (fun _ _ _ e=>.err e) (fun _ _ e=>.err e) (fun _ _ _ e=>.err e) (fun _ _ _ _ _ e=>.err e) (fun _ e=>.err e) () (fun _ _ _ _=>()) v k e
def zLt (v:CV) (k:Fn→List CV→List CV→OR) (e:Nat):OR:=
 CV.rec (motive_1:=fun _=>(Fn→List CV→List CV→OR)→Nat→OR) (motive_2:=fun _=>Unit)
  (fun _ _ e=>.err e) (fun _ _ e=>.err e) (fun _ _ _ e=>.err e) (fun _ _ e=>.err e) (fun _ _ e=>.err e) (fun _ e=>.err e) (fun _ _ _ e=>.err e) (fun _ e=>.err e) (fun _ _ _ _ _ _ _ e=>.err e) (fun _ e=>.err e) (fun _ _ e=>.err e) (fun x0 x1 x2 _ _ k _=>k x0 x1 x2) (fun _ e=>.err e) (fun _ _ _ _ e=>.err e) (fun _ e=>.err e) (fun _ _ _ e=>.err e) (fun _ _ _ e=>.err e) (fun _ _ e=>.err e) (fun _ _ _ _ _ e=>.err e) (fun _ _ _ e=>.err e) (fun _ _ e=>.err e) (fun _ _ _ e=>.err e) (fun _ _ _ _ _ e=>.err e) (fun _ e=>.err e) () (fun _ _ _ _=>()) v k e
def zB9 (v:CV) (k:TypeId→CV→OR) (z:OR) (e:Nat):OR:=
 CV.rec (motive_1:=fun _=>(TypeId→CV→OR)→(OR)→Nat→OR) (motive_2:=fun _=>Unit)
  (fun _ _ _ e=>.err e) (fun _ _ _ e=>.err e) (fun _ _ _ _ e=>.err e) (fun _ _ _ e=>.err e) (fun _ _ _ e=>.err e) (fun _ _ e=>.err e) (fun _ _ _ _ e=>.err e) (fun _ _ e=>.err e) (fun _ _ _ _ _ _ _ _ e=>.err e) (fun _ _ e=>.err e) (fun _ _ _ e=>.err e) (fun _ _ _ _ _ _ _ e=>.err e) (fun _ _ e=>.err e) (fun x0 x1 _ k _ _=>k x0 x1) (fun _ z _=>z) (fun _ _ _ _ e=>.err e) (fun _ _ _ _ e=>.err e) (fun _ _ _ e=>.err e) (fun _ _ _ _ _ _ e=>.err e) (fun _ _ _ _ e=>.err e) (fun _ _ _ e=>.err e) (fun _ _ _ _ e=>.err e) (fun _ _ _ _ _ _ e=>.err e) (fun _ _ e=>.err e) () (fun _ _ _ _=>()) v k z e
def zUq (v:CV) (k:IntKind→Int→OR) (u:IntKind→OR) (s:List Nat→OR) (e:Nat):OR:=
 CV.rec (motive_1:=fun _=>(IntKind→Int→OR)→(IntKind→OR)→(List Nat→OR)→Nat→OR) (motive_2:=fun _=>Unit)
  (fun _ _ _ _ e=>.err e) (fun x0 k _ _ _=>k .i64 (.ofNat x0)) (fun x0 x1 k _ _ _=>k x0 x1) (fun x0 _ u _ _=>u x0) (fun x0 _ _ s _=>s x0) (fun _ _ _ e=>.err e) (fun _ _ _ _ _ e=>.err e) (fun _ _ _ e=>.err e) (fun _ _ _ _ _ _ _ _ _ e=>.err e) (fun _ _ _ e=>.err e) (fun _ _ _ _ e=>.err e) (fun _ _ _ _ _ _ _ _ e=>.err e) (fun _ _ _ e=>.err e) (fun _ _ _ _ _ _ e=>.err e) (fun _ _ _ e=>.err e) (fun _ _ _ _ _ e=>.err e) (fun _ _ _ _ _ e=>.err e) (fun _ _ _ _ e=>.err e) (fun _ _ _ _ _ _ _ e=>.err e) (fun _ _ _ _ _ e=>.err e) (fun _ _ _ _ e=>.err e) (fun _ _ _ _ _ e=>.err e) (fun _ _ _ _ _ _ _ e=>.err e) (fun _ _ _ e=>.err e) () (fun _ _ _ _=>()) v k u s e
def zRC (v:CV) (k:IntKind→Int→OR) (u:IntKind→OR) (e:Nat):OR:=
 CV.rec (motive_1:=fun _=>(IntKind→Int→OR)→(IntKind→OR)→Nat→OR) (motive_2:=fun _=>Unit)
  (fun _ _ _ e=>.err e) (fun x0 k _ _=>k .i64 (.ofNat x0)) (fun x0 x1 k _ _=>k x0 x1) (fun x0 _ u _=>u x0) (fun _ _ _ e=>.err e) (fun _ _ e=>.err e) (fun _ _ _ _ e=>.err e) (fun _ _ e=>.err e) (fun _ _ _ _ _ _ _ _ e=>.err e) (fun _ _ e=>.err e) (fun _ _ _ e=>.err e) (fun _ _ _ _ _ _ _ e=>.err e) (fun _ _ e=>.err e) (fun _ _ _ _ _ e=>.err e) (fun _ _ e=>.err e) (fun _ _ _ _ e=>.err e) (fun _ _ _ _ e=>.err e) (fun _ _ _ e=>.err e) (fun _ _ _ _ _ _ e=>.err e) (fun _ _ _ _ e=>.err e) (fun _ _ _ e=>.err e) (fun _ _ _ _ e=>.err e) (fun _ _ _ _ _ _ e=>.err e) (fun _ _ e=>.err e) () (fun _ _ _ _=>()) v k u e
def zTP (v:CV) (k:Key→Nat→OR) (z:OR):OR:=
 CV.rec (motive_1:=fun _=>(Key→Nat→OR)→OR→OR) (motive_2:=fun _=>Unit)
  (fun _ _ z=>z) (fun _ _ z=>z) (fun _ _ _ z=>z) (fun _ _ z=>z) (fun _ _ z=>z) (fun _ z=>z) (fun x0 x1 k _=>k x0 x1) (fun _ z=>z) (fun _ _ _ _ _ _ _ z=>z) (fun _ z=>z) (fun _ _ z=>z) (fun _ _ _ _ _ _ z=>z) (fun _ z=>z) (fun _ _ _ _ z=>z) (fun _ z=>z) (fun _ _ _ z=>z) (fun _ _ _ z=>z) (fun _ _ z=>z) (fun _ _ _ _ _ z=>z) (fun _ _ _ z=>z) (fun _ _ z=>z) (fun _ _ _ z=>z) (fun _ _ _ _ _ z=>z) (fun _ z=>z) () (fun _ _ _ _=>()) v k z
def zKH (v:CV) (k:Key→Nat→SE→SE→OR) (z:OR):OR:=
 CV.rec (motive_1:=fun _=>(Key→Nat→SE→SE→OR)→OR→OR) (motive_2:=fun _=>Unit)
  (fun _ _ z=>z) (fun _ _ z=>z) (fun _ _ _ z=>z) (fun _ _ z=>z) (fun _ _ z=>z) (fun _ z=>z) (fun _ _ _ z=>z) (fun _ z=>z) (fun _ _ _ _ _ _ _ z=>z) (fun _ z=>z) (fun _ _ z=>z) (fun _ _ _ _ _ _ z=>z) (fun _ z=>z) (fun _ _ _ _ z=>z) (fun _ z=>z) (fun _ _ _ z=>z) (fun _ _ _ z=>z) (fun _ _ z=>z) (fun x0 x1 x2 x3 k _=>k x0 x1 x2 x3) (fun _ _ _ z=>z) (fun _ _ z=>z) (fun _ _ _ z=>z) (fun _ _ _ _ _ z=>z) (fun _ z=>z) () (fun _ _ _ _=>()) v k z
def zGN (v:CV) (k:List CV→OR) (z:OR):OR:=
 CV.rec (motive_1:=fun _=>(List CV→OR)→OR→OR) (motive_2:=fun _=>Unit)
  (fun _ _ z=>z) (fun _ _ z=>z) (fun _ _ _ z=>z) (fun _ _ z=>z) (fun _ _ z=>z) (fun _ z=>z) (fun _ _ _ z=>z) (fun _ z=>z) (fun _ _ _ _ _ _ _ z=>z) (fun _ z=>z) (fun _ _ z=>z) (fun _ _ _ _ _ _ z=>z) (fun _ z=>z) (fun _ _ _ _ z=>z) (fun _ z=>z) (fun _ _ _ z=>z) (fun _ _ _ z=>z) (fun _ _ z=>z) (fun _ _ _ _ _ z=>z) (fun x0 _ k _=>k x0) (fun _ _ z=>z) (fun _ _ _ z=>z) (fun _ _ _ _ _ z=>z) (fun _ z=>z) () (fun _ _ _ _=>()) v k z
def zO7 (v:CV) (k:Nat→OR) (z:OR):OR:=
 CV.rec (motive_1:=fun _=>(Nat→OR)→OR→OR) (motive_2:=fun _=>Unit)
  (fun _ _ z=>z) (fun x0 k _=>k x0) (fun _ _ _ z=>z) (fun _ _ z=>z) (fun _ _ z=>z) (fun _ z=>z) (fun _ _ _ z=>z) (fun _ z=>z) (fun _ _ _ _ _ _ _ z=>z) (fun _ z=>z) (fun _ _ z=>z) (fun _ _ _ _ _ _ z=>z) (fun _ z=>z) (fun _ _ _ _ z=>z) (fun _ z=>z) (fun _ _ _ z=>z) (fun _ _ _ z=>z) (fun _ _ z=>z) (fun _ _ _ _ _ z=>z) (fun _ _ _ z=>z) (fun _ _ z=>z) (fun _ _ _ z=>z) (fun _ _ _ _ _ z=>z) (fun _ z=>z) () (fun _ _ _ _=>()) v k z
def vh (v:CV) (k:Nat→OR) (e:Nat):OR:=
 zUw v k (fun _ n=>Int.rec (motive:=fun _=>(Nat→OR)→Nat→OR) (fun m k _=>k m) (fun _ _ e=>.err e) n k e) e
def kZ (o:Option CObj) (k:List CV→OR) (e:Nat):OR:=
 Option.rec (motive:=fun _=>(List CV→OR)→Nat→OR) (fun _ e=>.err e)
  (fun o=>CObj.rec (motive:=fun _=>(List CV→OR)→Nat→OR) (fun vs k _=>k vs) (fun _ _ e=>.err e) (fun _ _ _ e=>.err e) (fun _ _ _ e=>.err e) (fun _ _ _ _ _ e=>.err e) (fun _ _ _ e=>.err e) (fun _ _ e=>.err e) (fun _ _ e=>.err e) (fun _ e=>.err e) o) o k e
def vz (o:Option CObj) (k:List CV→OR) (e:Nat):OR:=
 Option.rec (motive:=fun _=>(List CV→OR)→Nat→OR) (fun _ e=>.err e)
  (fun o=>CObj.rec (motive:=fun _=>(List CV→OR)→Nat→OR) (fun vs k _=>k vs) (fun vs k _=>k vs) (fun _ _ _ e=>.err e) (fun _ _ _ e=>.err e) (fun _ _ _ _ _ e=>.err e) (fun _ vs k _=>k vs) (fun _ _ e=>.err e) (fun _ _ e=>.err e) (fun _ e=>.err e) o) o k e
def vP (o:Option CObj) (k:List CE→Nat→OR) (e:Nat):OR:=
 Option.rec (motive:=fun _=>(List CE→Nat→OR)→Nat→OR) (fun _ e=>.err e)
  (fun o=>CObj.rec (motive:=fun _=>(List CE→Nat→OR)→Nat→OR) (fun _ _ e=>.err e) (fun _ _ e=>.err e) (fun es c k _=>k es c) (fun _ _ _ e=>.err e) (fun _ _ _ _ _ e=>.err e) (fun _ _ _ e=>.err e) (fun _ _ e=>.err e) (fun _ _ e=>.err e) (fun _ e=>.err e) o) o k e
def zIJ (o:Option CObj) (k:Bool→List CV→OR) (z:OR):OR:=match o with
 | some (.full u vs)=>k u vs
 | _=>z
def zIV (o:Option CObj) (k:List (CV × CV)→OR) (z:OR):OR:=match o with
 | some (.mapz es)=>k es
 | _=>z
def zSM (l:List CV) (k:Nat):CV:=List.rec (motive:=fun _=>Nat→CV) (fun _=>.any) (fun x _ ih k=>Nat.rec (motive:=fun _=>CV) x (fun k _=>ih k) k) l k
def aE (i:Nat):List CV→Tm→CV:=fun es _=>zSM es i
def aL (p:Loc):List CV→Tm→CV:=fun _ tm=>qT p tm
def aK (v:CV):List CV→Tm→CV:=fun _ _=>v
def aV (es:List CV) (tm:Tm) (x:zT):CV:=zT.rec (motive:=fun _=>List CV→Tm→CV) aE aL aK x es tm
def aVs (es:List CV) (tm:Tm) (l:List zT):List CV:=List.rec (motive:=fun _=>List CV) [] (fun x _ ih=>aV es tm x::ih) l
abbrev X:=List CV→Tm→zC→Key→OR
def xMv (x:zT):X:=fun es tm _ _=>.val (aV es tm x)
def zTg (c a b:zT):X:=fun es tm _ _=>zKY (aV es tm c) (fun t=>ifB t (.val (aV es tm a)) (.val (aV es tm b))) 100
def zPK (cs:List CV):X:=fun _ _ _ n=>.alloc (.cells cs) (.ptr n 0)
def zUh (x:zT):X:=fun es tm _ n=>onL (cellsOf (aV es tm x)) (fun cs=>.alloc (.cells cs) (.ptr n 0)) 101
def zCB (s off:Nat) (cells:List CV) (v:Option (List CV)):Option (List CV):=
 Option.rec (motive:=fun _=>Nat→List CV→Nat→Option (List CV)) (fun _ _ _=>none) (fun xs s cells off=>jR xs s cells off) v s cells off
def zAw (es:List CV) (tm:Tm) (ps:List zH9) (cells:List CV):Option (List CV):=
 List.rec (motive:=fun _=>List CV→Option (List CV)) (fun cells=>some cells)
  (fun p _ ih cells=>Option.rec (motive:=fun _=>Option (List CV)) none ih (zCB p.size p.off cells (cellsOf (aV es tm p.arg)))) ps cells
def zPb (zero:List CV) (ps:List zH9):X:=fun es tm _ _=>zTT (zAw es tm ps zero) 102
def ifO (b:Bool) (t f:CObj):CObj:=Bool.rec (motive:=fun _=>CObj→CObj→CObj) (fun _ f=>f) (fun t _=>t) b t f
def zMJ (zero:List CV) (len esz:Nat) (ps:List zH9):X:=fun es tm _ n=>onL (zAw es tm ps zero) (fun cs=>.alloc (ifO (Nat.beq len 1&&Nat.beq esz 6) (.full true cs) (.cells cs)) (.sl n 0 len len esz true)) 103
def zMS:List CV→Option (List (List Nat))
 | []=>some []
 | .str s::r=>match zMS r with
  | some t=>some (s::t)
  | none=>none
 | _::_=>none
def zUC (vs:List CV) (off i m:Nat):Option CV:=match ux vs off (Nat.succ m) with
 | some l=>match zMS l with
  | some t=>some (.few i t)
  | none=>none
 | none=>none
def zTt (v:CV) (h:zC):OR:=match v with
 | .elt b off i m=>vz (zj b h) (fun vs=>zPd (zUC vs off i m) 104) 105
 | _=>.err 106
def zQ3 (x:zT):X:=fun es tm h _=>zTP (aV es tm x) (fun b off=>vz (zj b h) (fun vs=>zPd (uv vs off) 104) 105) (zTt (aV es tm x) h)
def zQK (s:Nat) (x:zT):X:=fun es tm h _=>zDK (aV es tm x) (fun b off=>vz (zj b h) (fun vs=>zS7 (ux vs off s) 107) 108) 109
def zQm (s:Nat) (a x:zT):X:=fun es tm h n=>zDK (aV es tm a) (fun b off=>kZ (zj b h) (fun vs=>
 onL (cellsOf (aV es tm x)) (fun cs=>yi (xQ cs) (onL (jR cs s vs off) (fun l=>.eff .undef (ya (some (.cells l)) b h) n) 110) 111) 112) 113) 114
def zFC (v:CV):OR:=match v with
 | .nilptr=>.err 115
 | .niliface=>.err 115
 | .nilfunc=>.err 115
 | .func (.method _) _ _=>.err 116
 | .any=>.err 116
 | v=>.val v
def zPq (x:zT):X:=fun es tm _ _=>zTP (aV es tm x) (fun b o=>.val (.ptr b o)) (zFC (aV es tm x))
class Sym where
 val:SE→Value
 one:∀ e,(∃ k n,val e=.int k n)∨∃ s,val e=.string s
 bin:BinOp→CV→CV→Option (List CV)
 cv:IntKind→CV→Option (List CV)
 arg:Key→Option Value
 kb:List (Int × Int):=[]
variable [Sym]
def forkL (c:CV) (l:List CV):OR:=List.rec (motive:=fun _=>CV→OR) (fun c=>.val c) (fun d _ ih c=>.fork (.val c) (ih d)) l c
def zSz (o:Option (List CV)) (e:Nat):OR:=match o with
 | none=>.err e
 | some l=>match l with
  | []=>.err e
  | c::cs=>forkL c cs
def zPy (v:CV):Bool:=match v with
 | .sym _=>true
 | .sst _=>true
 | .few _ _=>true
 | _=>false
def kn:OR:=.fork (.val (.bool true)) (.val (.bool false))
def zL4 (k:IntKind) (m:Nat):OR:=Nat.rec (motive:=fun _=>OR) (.val (jZ k 0)) (fun i ih=>.fork ih (.val (jZ k (Nat.succ i)))) m
def zLg (k:IntKind) (m:Nat):OR:=Nat.rec (motive:=fun _=>OR) (.val (jZ k 0)) (fun i ih=>.fork ih (.fork (.val (jZ k (Nat.succ i))) (.val (.int k (.negSucc i))))) m
def jG (op:BinOp) (j k:IntKind):OR:=yi (kEq j k) (match op with
 | .add=>.val (.anyi k)
 | .sub=>.val (.anyi k)
 | .mul=>.val (.anyi k)
 | .and=>.val (.anyi k)
 | .or=>.val (.anyi k)
 | .xor=>.val (.anyi k)
 | .andNot=>.val (.anyi k)
 | .eql=>kn
 | .neq=>kn
 | .lss=>kn
 | .leq=>kn
 | .gtr=>kn
 | .geq=>kn
 | _=>.err 117) 118
def zF5 (op:BinOp) (k:IntKind) (b:Int):OR:=match op with
 | .and=>match b with
  | .ofNat m=>yi (Nat.ble m 127) (zL4 k m) 117
  | .negSucc _=>.val (.anyi k)
 | .rem=>match b with
  | .ofNat m=>match m with
   | 0=>.err 117
   | m+1=>yi (Nat.ble m 127) (match k.signed with
    | true=>zLg k m
    | false=>.val (.anyi k)) 117
  | .negSucc _=>.err 117
 | .quo=>match b with
  | .ofNat m=>match m with
   | 0=>.err 117
   | _+1=>.val (.anyi k)
  | .negSucc _=>.val (.anyi k)
 | .shl=>match b with
  | .ofNat _=>.val (.anyi k)
  | .negSucc _=>.err 117
 | .shr=>match b with
  | .ofNat _=>.val (.anyi k)
  | .negSucc _=>.err 117
 | op=>jG op k k
def zLh (op:BinOp) (x y:CV):OR:=zUq x
 (fun k a=>zRC y (fun j b=>yi (kEq k j || yz op) (zD7 (yQ op k a b) 117) 118) (fun j=>jG op j k) 119)
 (fun k=>zRC y (fun j b=>yi (kEq k j || yz op) (zF5 op k b) 118) (fun j=>jG op j k) 119)
 (fun a=>uk y (fun b=>zD7 (zRH op a b) 120) 121) 122
def zQO (op:BinOp) (a m:Nat):OR:=match op with
 | .gtr=>ifB (Nat.ble a m) (.val (.bool false)) kn
 | .leq=>ifB (Nat.ble a m) (.val (.bool true)) kn
 | .lss=>ifB (Nat.ble (Nat.succ a) m) (.val (.bool true)) kn
 | .geq=>ifB (Nat.ble (Nat.succ a) m) (.val (.bool false)) kn
 | _=>.err 119
def kQ (op:BinOp) (x y:CV):OR:=match x,y with
 | .nat a,.big m=>zQO op a m
 | x,y=>match zPy x || zPy y with
  | true=>zSz (Sym.bin op x y) 117
  | false=>zLh op x y
def zL2 (op:BinOp) (a b:Nat) (x y:CV):OR:=Option.rec (motive:=fun _=>BinOp→CV→CV→OR) (fun op x y=>kQ op x y) (fun v _ _ _=>.val v) (zGU op a b) op x y
def zQD (op:BinOp) (x y:zT):X:=fun es tm _ _=>
 zO7 (aV es tm x) (fun a=>zO7 (aV es tm y) (fun b=>zL2 op a b (aV es tm x) (aV es tm y)) (kQ op (aV es tm x) (aV es tm y))) (kQ op (aV es tm x) (aV es tm y))
def uc:EqK→CV→CV→Option Bool
 | .bool,.bool a,.bool b=>some (a == b)
 | .int,.nat a,.nat b=>some (Nat.beq a b)
 | .int,.int k a,.int j b=>match kEq k j with
  | true=>some (z7 a b)
  | false=>none
 | .int,.nat _,.int .i64 (.negSucc _)=>some false
 | .int,.int .i64 (.negSucc _),.nat _=>some false
 | .str,.str a,.str b=>some (qB a b)
 | _,_,_=>none
def eqFields (xs ys:List CV):List (Nat × EqK)→Option Bool
 | []=>some true
 | (o,k)::r=>match uv xs o,uv ys o with
  | some x,some y=>match uc k x y with
   | some true=>eqFields xs ys r
   | some false=>some false
   | none=>none
  | _,_=>none
def eqC (k:EqK) (cst:Bool) (x y:CV):Option Bool:=match k with
 | .bool=>uc .bool x y
 | .int=>none
 | .str=>none
 | .pointer=>match x,y with
  | .nilptr,.nilptr=>some true
  | .nilptr,.ptr _ _=>some false
  | .ptr _ _,.nilptr=>some false
  | _,_=>none
 | .iface=>match x,y with
  | .niliface,.niliface=>if cst then some true else none
  | .niliface,.iface _ _=>some false
  | .iface _ _,.niliface=>some false
  | _,_=>none
 | .slice=>match x,y with
  | .nilsl,.nilsl=>some true
  | .nilsl,.sl ..=>some false
  | .sl ..,.nilsl=>some false
  | _,_=>none
 | .map=>match x,y with
  | .nilmap,.nilmap=>some true
  | .nilmap,.map _=>some false
  | .map _,.nilmap=>some false
  | _,_=>none
 | .func=>match x,y with
  | .nilfunc,.nilfunc=>some true
  | .nilfunc,.func ..=>some false
  | .func ..,.nilfunc=>some false
  | _,_=>none
 | .struct fs=>match x,y with
  | .agg xs,.agg ys=>eqFields xs ys fs
  | _,_=>none
def zJQ (v:CV):Option IntKind:=match v with
 | .nat _=>some .i64
 | .int k _=>some k
 | .anyi k=>some k
 | _=>none
def zAz (xs ys:List CV):List (Nat × EqK)→Bool
 | []=>true
 | (o,k)::r=>(match k with
  | .int=>true
  | _=>false)&&(match uv xs o,uv ys o with
  | some x,some y=>match zJQ x,zJQ y with
   | some a,some b=>kEq a b
   | _,_=>false
  | _,_=>false)&&zAz xs ys r
def zHk (k:EqK) (x y:CV):Bool:=match k,x,y with
 | .struct fs,.agg xs,.agg ys=>zAz xs ys fs
 | _,_,_=>false
def xEq (neg:Bool) (k:EqK) (cst:Bool) (x y:zT):X:=fun es tm _ _=>match eqC k cst (aV es tm x) (aV es tm y) with
 | some b=>.val (.bool (xor neg b))
 | none=>match zHk k (aV es tm x) (aV es tm y) with
  | true=>kn
  | false=>.err 123
def xUn (op:UnOp) (x:zT):X:=fun es tm _ _=>match op with
 | .neg=>zRv (aV es tm x) (fun k n=>.val (zY k (yk k (Int.sub (.ofNat 0) n)))) 124
 | .xor=>zRv (aV es tm x) (fun k n=>zD7 (zTx k (if k.signed then -1 else k.max) n) 125) 126
 | .not=>zKY (aV es tm x) (fun b=>.val (.bool (zBu b))) 127
 | .plus=>.err 128
def zF7 (k:IntKind) (v:CV):OR:=match zPy v with
 | true=>zSz (Sym.cv k v) 129
 | false=>zRC v (fun _ a=>.val (zY k (yk k a))) (fun _=>.val (.anyi k)) 129
def zPe (k:IntKind) (x:zT):X:=fun es tm _ _=>zF7 k (aV es tm x)
def zQU (x:zT):X:=fun es tm _ _=>uk (aV es tm x) (fun s=>.val (.str s)) 130
def x8 (s:List Nat):List CV:=List.rec (motive:=fun _=>List CV) [] (fun b _ ih=>.int .u8 (.ofNat b)::ih) s
def vD (v:CV):Option Nat:=match v with
 | .int .u8 (.ofNat b)=>match Nat.ble b 255 with
  | true=>some b
  | false=>none
 | _=>none
def jg (l:List CV):Option (List Nat):=
 List.rec (motive:=fun _=>Option (List Nat)) (some []) (fun v _ ih=>Option.rec (motive:=fun _=>Option (List Nat)→Option (List Nat)) (fun _=>none) (fun b r=>zMN b r) (vD v) ih) l
def zN3 (l:List CV):CV:=match jg l with
 | some r=>.str r
 | none=>.sst l
def zTe (x:zT):X:=fun es tm _ n=>zGN (aV es tm x) (fun l=>wd (vo l) fun k=>.alloc (.cells l) (.sl n 0 k k 1 false)) <| uk (aV es tm x) (fun l=>wd (zCs l) fun k=>.alloc (.cells (x8 l)) (.sl n 0 k k 1 false)) 131
def zMM (x:zT):X:=fun es tm h n=>uu (aV es tm x) (.err 132) (fun b off len cap esz ex=>kZ (zj b h) (fun _=>.eff (.sl b off len cap esz ex) h n) 133) 134
def zUp (v:Option (List Nat)) (c:Nat):OR:=Option.rec (motive:=fun _=>Nat→OR) (fun c=>.err c) (fun v _=>.val (.str v)) v c
def zIO (v:CV):Bool:=match v with
 | .int k (.ofNat b)=>kEq k .u8&&Nat.ble b 255
 | .sym e=>kEq e.k .u8&&(match Sym.bin .leq (.sym e) (.int .u8 (.ofNat 255)),Sym.bin .geq (.sym e) (.int .u8 (.ofNat 0)) with
  | some [.bool true],some [.bool true]=>true
  | _,_=>false)
 | _=>false
def zCy:List CV→Bool
 | []=>true
 | v::r=>zIO v&&zCy r
def zK9 (cs:List CV):OR:=match jg cs with
 | some r=>.read (.str r)
 | none=>match zCy cs with
  | true=>.read (.sst cs)
  | false=>.err 135
def zSq (m:SE):Bool:=match Sym.bin .leq (.sym m) (.nat 0) with
 | some [.bool true]=>true
 | _=>false
def zTl (x:zT):X:=fun es tm h _=>zKH (aV es tm x) (fun _ _ _ m=>yi (zSq m) (.val (.str [])) 138) <| uu (aV es tm x) (.val (.str [])) (fun b off len _ _ _=>vz (zj b h) (fun vs=>
 onL (ux vs off len) zK9 136) 137) 138
def zPl (t:TypeId) (x:zT):X:=fun es tm _ _=>.val (.iface t (aV es tm x))
def zTo (fn:Fn) (a b:List zT):X:=fun es tm _ _=>.val (.func fn (aVs es tm a) (aVs es tm b))
def zRL:X:=fun _ _ _ n=>.alloc (.map [] 0) (.map n)
def zJX (zero:List CV) (esz bytes:Nat) (l c:zT):X:=fun es tm _ n=>vh (aV es tm l) (fun l=>vh (aV es tm c) (fun c=>
 yi (Nat.ble l c&&Nat.ble (Nat.mul c esz) 100000&&Nat.ble (Nat.mul bytes c) 1000000)
  (wd l fun l=>wd c fun c=>.alloc (.cells (kv zero c)) (.sl n 0 l c esz true)) 139) 140) 141
def zBt (es:List CV) (tm:Tm) (x:Option zT) (y d:Nat) (k:Nat→OR) (e:Nat):OR:=
 Option.rec (motive:=fun _=>Nat→(Nat→OR)→OR) (fun d k=>k d) (fun x _ k=>vh (aV es tm x) (fun i=>yi (Nat.ble i y) (k i) e) e) x d k
def qu (es:List CV) (tm:Tm) (len cap:Nat) (lo hi mx:Option zT) (k:Nat→Nat→Nat→OR) (e:Nat):OR:=
 zBt es tm mx cap cap (fun m=>zBt es tm hi m len (fun h=>zBt es tm lo h 0 (fun l=>k l h m) e) e) e
def zM9 (b:Key) (off esz:Nat) (ex:Bool):Nat→Nat→Nat→OR:=fun l h m=>
 yi (Nat.ble h m&&Nat.ble l h) (wd (Nat.add off (Nat.mul l esz)) fun o=>wd (Nat.sub h l) fun hl=>wd (Nat.sub m l) fun ml=>.val (.sl b o hl ml esz ex)) 142
def zQn (len esz:Nat) (x:zT) (lo hi mx:Option zT):X:=fun es tm _ _=>zDK (aV es tm x) (fun b off=>
 qu es tm len len lo hi mx (zM9 b off esz true) 143) 144
def zAT (es:List CV) (tm:Tm) (h:zC) (b:Key) (off cap esz:Nat) (ex:Bool) (lo hi mx:Option zT) (k0:OR):OR:=match ex,lo,mx,hi with
 | false,none,none,some y=>match aV es tm y with
  | .nat m=>match Nat.ble m cap,cap with
   | false,_+1=>kZ (zj b h) (fun vs=>yi (Nat.ble (Nat.add off (Nat.mul m esz)) (vo vs)) (wd m fun m=>.read (.sl b off m m esz false)) 146) 146
   | _,_=>k0
  | _=>k0
 | _,_,_,_=>k0
def zGJ (es:List CV) (tm:Tm) (b:Key) (z:Nat) (e n:SE) (esz:Nat) (lo hi mx:Option zT):OR:=match lo,mx,hi with
 | none,none,some y=>match aV es tm y with
  | .nat m=>match Nat.beq z esz&&Nat.ble 1 m,Sym.bin .leq (.nat m) (.sym n),Sym.bin .leq (.nat 0) (.sym e),Sym.bin .leq (.sym e) (.nat 0) with
   | true,some [.bool true],some [.bool true],some [.bool true]=>wd m fun m=>.val (.sl b 0 m m esz false)
   | _,_,_,_=>.err 325
  | _=>.err 325
 | _,_,_=>.err 325
def zTb (esz:Nat) (x:zT) (lo hi mx:Option zT):X:=fun es tm h _=>zKH (aV es tm x) (fun b z e n=>zGJ es tm b z e n esz lo hi mx) <| uu (aV es tm x)
 (qu es tm 0 0 lo hi mx (fun _ _ _=>.val .nilsl) 145)
 (fun b off len cap s ex=>yi (Nat.beq s esz) (zAT es tm h b off cap esz ex lo hi mx (qu es tm len cap lo hi mx (zM9 b off esz (ex || mx.isSome)) 146)) 147) 148
def zRb (x:zT) (lo hi:Option zT):X:=fun es tm _ _=>zGN (aV es tm x) (fun s=>
 wd (vo s) fun n=>qu es tm n n lo hi none (fun l h _=>yi (Nat.ble l h) (onL (ux s l (Nat.sub h l)) (fun r=>.val (zN3 r)) 149) 149) 150) <| uk (aV es tm x) (fun s=>
 wd (zCs s) fun n=>qu es tm n n lo hi none (fun l h _=>yi (Nat.ble l h) (zUp (zTI s l (Nat.sub h l)) 149) 149) 150) 151
def zNF (k:Nat) (x:zT):X:=fun es tm _ _=>zDK (aV es tm x) (fun b off=>wd (Nat.add off k) fun o=>.val (.ptr b o)) 152
def zRG (agg:Bool) (s:Nat) (cs:List CV) (off:Nat) (e:Nat):OR:=Bool.rec (motive:=fun _=>OR) (zD7 (uv cs off) e) (zTT (ux cs off s) e) agg
def zTc (agg:Bool) (off s:Nat) (x:zT):X:=fun es tm _ _=>zRn (aV es tm x) (fun cs=>zRG agg s cs off 153) 154
def zQE (len esz:Nat) (x i:zT):X:=fun es tm _ _=>zDK (aV es tm x) (fun b off=>vh (aV es tm i) (fun i=>
 yi (Nat.ble (Nat.succ i) len) (wd (Nat.add off (Nat.mul i esz)) fun o=>.val (.ptr b o)) 155) 156) 157
def vY:List (Nat × Int)→List (Nat × Int)→Bool
 | [],[]=>true
 | (i,a)::l,(j,b)::m=>Nat.beq i j&&z7 a b&&vY l m
 | _,_=>false
def zQv (a b:SE):Bool:=kEq a.k b.k&&z7 a.c b.c&&vY a.l b.l
def zLf (b:Key) (s:Nat) (e n:SE) (esz:Nat) (i:CV):OR:=match i with
 | .nat k=>match Nat.beq s esz,Sym.bin .lss (.nat k) (.sym n),Sym.bin .leq (.nat 0) (.sym e),Sym.bin .leq (.sym e) (.nat 0) with
  | true,some [.bool true],some [.bool true],some [.bool true]=>wd (Nat.mul k esz) fun o=>.val (.ptr b o)
  | _,_,_,_=>.err 320
 | _=>.err 322
def zPF (b:Key) (s:Nat) (e n:SE) (esz:Nat) (i:CV):OR:=match i with
 | .sym j=>match zQv j e&&Nat.beq s esz with
  | true=>match Sym.bin .leq (.nat 0) (.sym e),Sym.bin .lss (.sym e) (.sym n) with
   | some [.bool true],some [.bool true]=>.val (.ptr b 0)
   | _,_=>.err 320
  | false=>.err 321
 | i=>zLf b s e n esz i
def zFA (x y:CV):Option Bool:=match Sym.cv .i64 x,Sym.bin .leq x y,Sym.bin .geq x y with
 | some _,some [.bool a],some [.bool b]=>some (a&&b)
 | _,_,_=>none
def zJD (i:CV):CV:=match i with
 | .sym j=>match Sym.bin .andNot (.sym j) (.nat 0) with
  | some [.nat k]=>match zFA (.sym j) (.nat k) with
   | some true=>.nat k
   | _=>.sym j
  | _=>.sym j
 | i=>i
def zTH (v:CV):CV:=match v with
 | .few i t=>match zJD (.sym ⟨.i64,0,[(i,1)]⟩) with
  | .nat k=>match nth t k with
   | some s=>.str s
   | none=>v
  | _=>v
 | v=>v
def zRy (esz:Nat) (b:Key) (off len:Nat) (v:CV) (z:OR):OR:=match v with
 | .sym e=>match e.l with
  | [(i,a)]=>match kEq e.k .i64&&z7 e.c 0&&z7 a 1&&Nat.beq esz 1,Sym.bin .geq (.sym e) (.nat 0),Sym.bin .leq (.sym e) (.nat (Nat.sub len 1)),len with
   | true,some [.bool true],some [.bool true],m+1=>.val (.elt b off i m)
   | _,_,_,_=>z
  | _=>z
 | _=>z
def zTk (esz:Nat) (x i:zT):X:=fun es tm _ _=>zKH (aV es tm x) (fun b s e n=>zPF b s e n esz (aV es tm i)) <| uu (aV es tm x) (.err 158) (fun b off len _ _ _=>zRy esz b off len (zJD (aV es tm i)) <| vh (zJD (aV es tm i)) (fun i=>
 yi (Nat.ble (Nat.succ i) len) (wd (Nat.add off (Nat.mul i esz)) fun o=>.val (.ptr b o)) 159) 160) 161
def zPj (len esz:Nat) (agg:Bool) (x i:zT):X:=fun es tm _ _=>zRn (aV es tm x) (fun cs=>vh (aV es tm i) (fun i=>
 yi (Nat.ble (Nat.succ i) len) (zRG agg esz cs (Nat.mul i esz) 162) 163) 164) 165
def zRt (x i:zT):X:=fun es tm _ _=>zGN (aV es tm x) (fun s=>vh (aV es tm i) (fun i=>zD7 (uv s i) 166) 167) <| uk (aV es tm x) (fun s=>vh (aV es tm i) (fun i=>onN (zTv s i) (fun b=>.val (.int .u8 (.ofNat b))) 166) 167) 168
def zCv:List CV→Bool
 | []=>true
 | .nat _::r=>zCv r
 | .int _ _::r=>zCv r
 | _=>false
def zC8:List CV→List CV→Nat→Option Bool
 | [],[],0=>some true
 | x::a,y::b,n+1=>match uc .int x y with
  | some true=>zC8 a b n
  | some false=>some false
  | none=>none
 | _,_,_=>none
def zA2:j5→CV→Bool
 | .ints n,.agg cs=>Nat.beq (vo cs) n&&zCv cs
 | .int,.nat _=>true
 | .int,.int _ _=>true
 | .str,.str _=>true
 | .bool,.bool _=>true
 | .int,.sym e=>(Sym.cv .i64 (.sym e)).isSome
 | _,_=>false
def ji:j5→CV→CV→Option Bool
 | .ints n,.agg a,.agg b=>zC8 a b n
 | .int,.nat a,.nat b=>some (Nat.beq a b)
 | .int,.int j a,.int k b=>match kEq j k with
  | true=>some (z7 a b)
  | false=>none
 | .str,.str a,.str b=>some (qB a b)
 | .bool,.bool a,.bool b=>some (a == b)
 | .int,.sym e,y=>zFA (.sym e) y
 | .int,.nat a,.sym e=>zFA (.nat a) (.sym e)
 | .int,.int k a,.sym e=>zFA (.int k a) (.sym e)
 | _,_,_=>none
def ve (kk:j5) (k:CV):List CE→Option (Option CV)
 | []=>some none
 | e::es=>match ji kk k e.key with
  | some true=>match ve kk k es with
   | some none=>some (some e.val)
   | _=>none
  | some false=>ve kk k es
  | none=>none
def zJ5 (kk:j5) (k v:CV):List CE→Option (List CE)
 | []=>none
 | e::es=>match ji kk k e.key with
  | some true=>some (⟨k,v,e.born⟩::es)
  | some false=>match zJ5 kk k v es with
   | none=>none
   | some r=>some (e::r)
  | none=>none
def zJ4 (kk:j5) (k:CV):List CE→Option (List CE)
 | []=>none
 | e::es=>match ji kk k e.key with
  | some true=>some es
  | some false=>match zJ4 kk k es with
   | none=>none
   | some r=>some (e::r)
  | none=>none
def okV (ok:Bool) (v:CV):CV:=match ok with
 | true=>.tup [v,.bool true]
 | false=>v
def zCp (kk:j5) (z:CV) (ok:Bool) (k:CV) (es:List CE):OR:=yi (zA2 kk k) (match ve kk k es with
 | some (some v)=>.read (okV ok v)
 | some none=>.read (match ok with | true=>.tup [z,.bool false] | false=>z)
 | none=>.err 169) 170
def noZ (kk:j5) (k:CV):List (CV × CV)→Bool
 | []=>true
 | q::r=>match ji kk k q.1 with
  | some false=>noZ kk k r
  | _=>false
def zHd (kk:j5) (k:CV):List (CV × CV)→Option CV
 | []=>none
 | q::r=>match ji kk k q.1 with
  | some true=>match noZ kk k r with
   | true=>some q.2
   | false=>none
  | some false=>zHd kk k r
  | none=>none
def zEb (kk:j5) (k v:CV):List (CV × CV)→List (CV × CV)
 | []=>[]
 | q::r=>match ji kk k q.1 with
  | some true=>(k,v)::r
  | _=>q::zEb kk k v r
def zKq:CV→Bool
 | .str []=>true
 | _=>false
def zSG (kk:j5) (z:CV) (ok:Bool) (k:CV) (es:List (CV × CV)):OR:=yi (!ok&&zKq z&&zA2 kk k) (match zHd kk k es with
 | some v=>.read (zTH v)
 | none=>.err 234) 235
def zMP (kk:j5) (z:CV) (ok:Bool) (x k:zT):X:=fun es tm h _=>zDD (aV es tm x) (zCp kk z ok (aV es tm k) [])
 (fun b=>zIV (zj b h) (fun l=>zSG kk z ok (aV es tm k) l) <| vP (zj b h) (fun l _=>zCp kk z ok (aV es tm k) l) 171) 172
def zMA (kk:j5) (m k v:zT):X:=fun es tm h n=>zDD (aV es tm m) (.err 173) (fun b=>zIV (zj b h) (fun l=>yi (zA2 kk (aV es tm k)) (match zHd kk (aV es tm k) l with
 | some _=>.eff .undef (ya (some (.mapz (zEb kk (aV es tm k) (aV es tm v) l))) b h) n
 | none=>.err 236) 237) <| vP (zj b h) (fun l clock=>
 yi (zA2 kk (aV es tm k)) (match ve kk (aV es tm k) l with
  | some (some _)=>match zJ5 kk (aV es tm k) (aV es tm v) l with
   | some l'=>.eff .undef (ya (some (.map l' clock)) b h) n
   | none=>.err 174
  | some none=>wd (Nat.succ clock) fun c=>.eff .undef (ya (some (.map (l++[⟨aV es tm k,aV es tm v,clock⟩]) c)) b h) n
  | none=>.err 175) 176) 177) 178
def zGC (x:zT):X:=fun es tm _ n=>zGN (aV es tm x) (fun s=>.alloc (.striter s 0) (.ptr n 0)) <| uk (aV es tm x) (fun s=>.alloc (.striter (x8 s) 0) (.ptr n 0)) 179
def zHY (x:zT):X:=fun es tm h n=>zDD (aV es tm x) (.alloc (.mapiter none 0 [] 0) (.ptr n 0)) (fun b=>vP (zj b h) (fun _ clock=>
 .eff (.ptr n 0) (ya (some (.mapiter (some b) clock [] clock)) n h) n.succ) 180) 181
def zLB (x:Nat) (l:List Nat):Bool:=List.rec (motive:=fun _=>Bool) false (fun y _ ih=>Bool.rec (motive:=fun _=>Bool) ih true (Nat.beq x y)) l
def zH0 (seen:List Nat):List CE→List CE
 | []=>[]
 | e::es=>match zLB e.born seen with
  | true=>zH0 seen es
  | false=>e::zH0 seen es
def zCG (last:Nat):List CE→Bool
 | []=>true
 | e::es=>Nat.ble last e.born&&zCG last es
def zPo (l:List Nat):Bool:=match l with
 | []=>true
 | _=>false
def zL0 (l:List CE):Bool:=match l with
 | []=>true
 | _=>false
def zF6 (since:Nat):List CE→Bool
 | []=>true
 | e::es=>Nat.ble (Nat.succ e.born) since&&zF6 since es
def zEe (f:CE→OR):CE→List CE→OR
 | e,[]=>f e
 | e,e'::l=>.fork (f e) (zEe f e' l)
def zPt (v:CV):Option CV:=match v with
 | .int k (.ofNat b)=>match kEq k .u8&&Nat.ble b 127 with
  | true=>some (.int .i32 (.ofNat b))
  | false=>none
 | .sym e=>match kEq e.k .u8,Sym.bin .leq (.sym e) (.int .u8 (.ofNat 127)),Sym.bin .geq (.sym e) (.int .u8 (.ofNat 0)),Sym.cv .i32 (.sym e) with
  | true,some [.bool true],some [.bool true],some [c]=>some c
  | _,_,_,_=>none
 | _=>none
def zIh (b:Key) (h:zC) (n:Key) (s:List CV) (pos:Nat):OR:=match uv s pos with
 | none=>.eff (.tup [.bool false]) h n
 | some c=>match zPt c with
  | some r=>wd (Nat.succ pos) fun p=>.eff (.tup [.bool true,.nat pos,r]) (ya (some (.striter s p)) b h) n
  | none=>.err 182
def zRN (b:Key) (h:zC) (n:Key) (m:Key) (since:Nat) (seen:List Nat) (last:Nat):OR:=vP (zj m h) (fun es clock=>
 match !zPo seen && !zL0 es&&zCG last es with
 | true=>.err 183
 | false=>match zH0 seen es with
  | []=>.eff (.tup [.bool false]) h n
  | e::l=>yi (zF6 since (e::l)) (zEe (fun e=>.eff (.tup [.bool true,e.key,e.val]) (ya (some (.mapiter (some m) since (seen++[e.born]) clock)) b h) n) e l) 184) 186
def zRJ (s:Bool) (b:Key) (h:zC) (n:Key) (o:Option CObj):OR:=match o,s with
 | some (.striter s pos),true=>zIh b h n s pos
 | some (.mapiter none _ _ _),false=>.eff (.tup [.bool false]) h n
 | some (.mapiter (some m) since seen last),false=>zRN b h n m since seen last
 | _,_=>.err 187
def zTn (s:Bool) (x:zT):X:=fun es tm h n=>zDK (aV es tm x) (fun b off=>yi (Nat.beq off 0) (zRJ s b h n (zj b h)) 188) 189
def zMG:List Nat→Option Nat
 | []=>none
 | [x]=>some x
 | _::y::r=>zMG (y::r)
def zI2 (b:Nat):List CE→Bool
 | []=>true
 | e::es=>match Nat.beq e.born b with
  | true=>false
  | false=>zI2 b es
def zJC (b:Nat):List CE→Option CE
 | []=>none
 | e::es=>match Nat.beq e.born b with
  | true=>match zI2 b es with
   | true=>some e
   | false=>none
  | false=>zJC b es
def zKZ (h:zC) (o:Option CObj):OR:=match o with
 | some (.mapiter (some m) _ seen stepped)=>match zMG seen with
  | some st=>vP (zj m h) (fun es clock=>match Nat.beq clock stepped,zJC st es with
   | true,some e=>.read (.tup [e.key,e.val])
   | _,_=>.err 190) 191
  | none=>.err 192
 | _=>.err 193
def zPL (x:zT):X:=fun es tm h _=>zDK (aV es tm x) (fun b off=>yi (Nat.beq off 0) (zKZ h (zj b h)) 194) 195
def noV (ok:Bool) (z:Option CV):OR:=match ok,z with
 | true,some z=>.val (.tup [z,.bool false])
 | _,_=>.err 196
def zKe (t:TypeId) (z:Option CV) (ok:Bool) (x:zT):X:=fun es tm _ _=>zB9 (aV es tm x)
 (fun d v=>ifB (Nat.beq d t) (.val (okV ok v)) (noV ok z)) (noV ok z) 197
def zRj (P:Program) (t d:TypeId):Option Bool:=match und P t,P.info? d with
 | some (.interface want),some i=>some (Instr.missingMethod want i.methods).isNone
 | _,_=>none
def zNf (P:Program) (t:TypeId) (z:Option CV) (ok:Bool) (x:zT):X:=fun es tm _ _=>zB9 (aV es tm x)
 (fun d v=>match zRj P t d with
   | some true=>.val (okV ok (.iface d v))
   | some false=>noV ok z
   | none=>.err 198) (noV ok z) 199
def zKP (i:Nat) (x:zT):X:=fun es tm _ _=>zTa (aV es tm x) (fun vs=>zD7 (uv vs i) 200) 201
inductive uF where
 | val (v:CV)
 | var (b:Key) (off:Nat)
def zAR (h:zC) (b:Key):Option (List CV):=match zj b h with
 | some (.cells vs)=>some vs
 | some (.ro vs)=>some vs
 | _=>none
def zNQ (agg:Bool) (s:Nat) (cs:List CV) (off:Nat):Option CV:=match agg with
 | true=>(ux cs off s).map .agg
 | false=>uv cs off
section
variable (P:Program)
def zNR (h:zC) (t:TypeId) (b:Key) (off:Nat):Option CV:=match qF P t,x7 P t,zAR h b with
 | some a,some s,some vs=>zNQ a s vs off
 | _,_,_=>none
def uF.get (h:zC) (t:TypeId):uF→Option CV
 | .val v=>some v
 | .var b off=>zNR P h t b off
def zIP (s:FieldStep):Option Field:=match und P s.struct with
 | some (.struct fs)=>match nth fs.toList s.index with
  | some f=>match x7 P f.type with
   | some (_+1)=>some f
   | _=>none
  | none=>none
 | _=>none
def vA (h:zC):List FieldStep→TypeId→uF→Option (TypeId × uF)
 | [],t,x=>some (t,x)
 | s::rest,t,x=>match zIP P s with
  | none=>none
  | some f=>match s.deref with
   | true=>match x.get P h t with
    | some (.ptr b off)=>vA h rest f.type (.var b (Nat.add off f.offset))
    | _=>none
   | false=>match x with
    | .var b off=>vA h rest f.type (.var b (Nat.add off f.offset))
    | .val (.agg cs)=>match qF P f.type,x7 P f.type with
     | some a,some s=>match zNQ a s cs f.offset with
      | some v=>vA h rest f.type (.val v)
      | none=>none
     | _,_=>none
    | .val _=>none
def zAO (h:zC) (xt:TypeId) (x:uF) (pr:Bool):Option CV:=match und P xt,pr,x with
 | some (.pointer _),true,x=>x.get P h xt
 | some (.pointer e),false,x=>match x.get P h xt with
  | some (.ptr b off)=>zNR P h e b off
  | _=>none
 | some _,true,.var b off=>some (.ptr b off)
 | some _,true,.val _=>none
 | some _,false,x=>x.get P h xt
 | none,_,_=>none
def uJ (name:String):List Method→Option Method
 | []=>none
 | m::r=>if m.name == name then some m else uJ name r
def zIk (t:TypeId) (name:String):Option Method:=(P.info? t).bind fun i=>uJ name i.methods.toList
def zEm (h:zC):Nat→TypeId→CV→String→Option (FuncId × CV)
 | 0,_,_,_=>none
 | d+1,t,v,name=>match zIk P t name with
  | none=>none
  | some m=>match vA P h m.path.toList t (.val v) with
   | none=>none
   | some (xt,x)=>match m.func with
    | none=>match x.get P h xt with
     | some (.iface t' v')=>zEm h d t' v' name
     | _=>none
    | some (f,pr)=>match zAO P h xt x pr with
     | some r=>some (f,r)
     | none=>none
def zHc (h:zC) (recv:CV) (name:String) (args:List CV):OR:=zB9 recv
 (fun t v=>match zEm P h 8 t v name with
   | some (f,r)=>.call f (r::args)
   | none=>.err 202) (.err 203) 204
def zQq (h:zC) (f:CV) (args:List CV):OR:=zLt f (fun fn first captured=>match fn with
 | .func g=>.call g (zC3 first (zC3 args captured))
 | .method name=>match zC3 first args with
  | recv::rest=>zHc P h recv name rest
  | []=>.err 205
 | .methodOf t name=>match zC3 first args with
  | recv::rest=>match und P t with
   | some (.interface _)=>zHc P h recv name rest
   | some _=>zHc P h (.iface t recv) name rest
   | none=>.err 206
  | []=>.err 207
 | .via t path g pr=>match zC3 first args with
  | recv::rest=>match vA P h path.toList t (.val recv) with
   | some (xt,x)=>match zAO P h xt x pr with
    | some r=>.call g (r::rest)
    | none=>.err 208
   | none=>.err 209
  | []=>.err 210
 | _=>.err 211) 212
end
def zI0 (c:Nat) (l:List Nat):Nat:=List.rec (motive:=fun _=>Nat) 0 (fun x _ ih=>Bool.rec (motive:=fun _=>Nat) ih (Nat.succ ih) (Nat.beq x c)) l
def zDh (c:Nat):List Nat→Nat→Option Nat
 | [],_=>none
 | x::r,i=>match Nat.beq x c with
  | true=>some i
  | false=>zDh c r (Nat.succ i)
def zCh (e:Ext) (args:List CV) (h:zC) (n:Key):OR:=match e,args with
 | .count,[a,b]=>uk a (fun s=>onN (vD b) (fun c=>.val (kr (zI0 c s))) 213) 214
 | .indexByte,[a,b]=>uk a (fun s=>onN (vD b) (fun c=>match zDh c s 0 with
  | some i=>.val (kr i)
  | none=>.val (.int .i64 (.negSucc 0))) 215) 216
 | .cmp,[a,b]=>uk a (fun s=>uk b (fun t=>ifB (qB s t) (.val (.nat 0)) (ifB (zAl s t) (.val (.int .i64 (.negSucc 0))) (.val (.nat 1)))) 223) 224
 | .overlaps,[a,b]=>uu a (.err 225) (fun k _ l _ _ _=>uu b (.err 226) (fun j _ m _ _ _=>yi (!decide (j=k)) (zIJ (zj k h) (fun u _=>yi u (kZ (zj j h) (fun vs=>yi (Nat.ble 1 (vo vs)) (.eff (.bool false) h n) 227) 228) 233) (.err 229)) 230) 231) 232
 | .mapsClone,[a]=>zB9 a (fun t v=>zDD v (.err 217) (fun b=>vP (zj b h) (fun es clock=>
  .eff (.iface t (.map n)) (ya (some (.map es clock)) n h) n.succ) 218) 219) (.err 220) 221
 | _,_=>.err 222
def zTq (f:FuncId) (args:List zT):X:=fun es tm _ _=>.call f (aVs es tm args)
def zS8 (e:Ext) (args:List zT):X:=fun es tm h n=>zCh e (aVs es tm args) h n
def zRp (P:Program) (f:zT) (args:List zT):X:=fun es tm h _=>zQq P h (aV es tm f) (aVs es tm args)
def zM1 (P:Program) (r:zT) (name:String) (args:List zT):X:=fun es tm h _=>zHc P h (aV es tm r) name (aVs es tm args)
def zLU (h:zC) (s:Nat) (x:CV) (k:Nat→List CV→OR) (n:Nat→Nat) (e:Nat):OR:=match x with
 | .str l=>yi (Nat.beq s 1) (onL ((zJP l (n (zCs l))).map x8) (fun cs=>k (n (zCs l)) cs) e) e
 | .sst l=>yi (Nat.beq s 1) (onL (zJ7 l (n (vo l))) (fun cs=>k (n (vo l)) cs) e) e
 | .win _ _ _ m=>yi (zSq m) (k (n 0) []) e
 | x=>uu x (k 0 []) (fun b off len _ _ _=>vz (zj b h) (fun vs=>onL (ux vs off (Nat.mul (n len) s)) (fun cs=>k (n len) cs) e) e) e
def zGM (esz k:Nat) (xs:List CV) (sv:CV) (h:zC) (n:Key):OR:=uu sv
 (match k with
  | 0=>.eff .nilsl h n
  | k+1=>yi (Nat.ble k 99999) (wd k fun k=>.eff (.sl n 0 (Nat.succ k) (Nat.succ k) esz false) (ya (some (.cells xs)) n h) n.succ) 223)
 (fun b off len cap s ex=>yi (Nat.beq s esz) (zIJ (zj b h) (fun _ vs=>wd (Nat.add len k) fun need=>
   yi ((match ex with | true=>Nat.ble (Nat.succ cap) need | false=>Nat.ble 1 need&&Nat.ble (Nat.succ (vo vs)) (Nat.add off (Nat.mul need esz)))&&Nat.ble need 100000) (onL (ux vs off (Nat.mul len esz)) (fun old=>
    .eff (.sl n 0 need need esz false) (ya (some (.cells (zC3 old xs))) n h) n.succ) 225) 226) <| kZ (zj b h) (fun vs=>wd (Nat.add len k) fun need=>
   ifB (Nat.ble need cap)
    (onL (jR xs (Nat.mul k esz) vs (Nat.add off (Nat.mul len esz))) (fun l=>.eff (.sl b off need cap esz ex) (ya (some (.cells l)) b h) n) 224)
    (yi (Nat.ble need 100000) (onL (ux vs off (Nat.mul len esz)) (fun old=>
      .eff (.sl n 0 need need esz false) (ya (some (.cells (zC3 old xs))) n (Bool.rec (motive:=fun _=>zC) (ya none b h) h ex)) n.succ) 225) 226)) 227) 228) 229
def zAV (esz _bytes:Nat) (s x:zT):X:=fun es tm h n=>zLU h esz (aV es tm x) (fun k xs=>yi (xQ xs) (zGM esz k xs (aV es tm s) h n) 230)
 (fun k=>k) 231
def zNx (zero:List CV) (esz:Nat) (s x:zT):X:=fun es tm h n=>vh (aV es tm x) (fun k=>yi (Nat.ble k 1000) (wd k fun k=>yi (xQ (kv zero k)) (zGM esz k (kv zero k) (aV es tm s) h n) 234) 234) 234
def zRg (x:CV) (k:Nat→OR) (e:Nat):OR:=match x with
 | .str l=>k (zCs l)
 | x=>uu x (k 0) (fun _ _ len _ _ _=>k len) e
def zHi (esz:Nat) (d x:zT):X:=fun es tm h n=>zRg (aV es tm d) (fun dl=>zLU h esz (aV es tm x) (fun k xs=>uu (aV es tm d)
 (.eff (.nat 0) h n)
 (fun b off _ _ _ _=>kZ (zj b h) (fun vs=>yi (xQ xs) (onL (jR xs (Nat.mul k esz) vs off) (fun l=>.eff (kr k) (ya (some (.cells l)) b h) n) 232) 233) 234) 235)
 (fun xl=>Nat.min xl dl) 236) 237
def zMQ (x:zT):X:=fun es tm _ _=>zGN (aV es tm x) (fun l=>.val (kr (vo l))) <| uk (aV es tm x) (fun s=>.val (kr (zCs s))) 238
def zRz (x:zT):X:=fun es tm _ _=>zKH (aV es tm x) (fun _ _ _ n=>.val (.sym n)) <| uu (aV es tm x) (.val (.nat 0)) (fun _ _ len _ _ _=>.val (.nat len)) 239
def zNJ (x:zT):X:=fun es tm h _=>zDD (aV es tm x) (.val (.nat 0)) (fun b=>vP (zj b h) (fun l _=>.read (kr (zOv l))) 240) 241
def zPr (vs:List CV) (k:Nat):List CV:=zC3 vs (kv [.any] (Nat.sub k (vo vs)))
def zRl (b:Key) (off len cap esz:Nat) (h:zC) (n:Key):OR:=ifB (Nat.ble (Nat.succ len) cap) (.val (.big cap))
 (kZ (zj b h) (fun vs=>yi (Nat.ble 1 cap) (.fork (.eff (.nat cap) (ya (some (.full false (zPr vs (Nat.add off (Nat.mul cap esz))))) b h) n)
   (.eff (.big (Nat.succ cap)) (ya (some (.cells (zPr vs (Nat.add off (Nat.mul (Nat.succ cap) esz))))) b h) n)) 242) 242)
def zPc (x:zT):X:=fun es tm h n=>uu (aV es tm x) (.val (.nat 0)) (fun b off len cap esz ex=>ifB ex (.val (.nat cap)) (zRl b off len cap esz h n)) 243
def zMo (kk:j5) (m k:zT):X:=fun es tm h n=>yi (zA2 kk (aV es tm k)) (zDD (aV es tm m) (.eff (.tup []) h n) (fun b=>vP (zj b h) (fun l clock=>
 match ve kk (aV es tm k) l with
 | some (some _)=>match zJ4 kk (aV es tm k) l with
  | some l'=>.eff (.tup []) (ya (some (.map l' clock)) b h) n
  | none=>.err 244
 | some none=>.eff (.tup []) h n
 | none=>.err 245) 246) 247) 248
def zHF (x:zT):X:=fun es tm h n=>zDD (aV es tm x) (.eff (.tup []) h n) (fun b=>vP (zj b h) (fun _ clock=>.eff (.tup []) (ya (some (.map [] clock)) b h) n) 249) 250
def zKp (zero:List CV) (esz:Nat) (x:zT):X:=fun es tm h n=>uu (aV es tm x) (.eff (.tup []) h n) (fun b off len _ _ _=>kZ (zj b h) (fun vs=>
 yi (xQ zero) (onL (jR (kv zero len) (Nat.mul len esz) vs off) (fun l=>.eff (.tup []) (ya (some (.cells l)) b h) n) 251) 252) 253) 254
def intOf:CV→Option (IntKind × Int)
 | .nat n=>some (.i64,.ofNat n)
 | .int k n=>some (k,n)
 | _=>none
def zRX (mx:Bool) (k:IntKind):Int→List CV→Option CV
 | a,[]=>some (zY k a)
 | a,v::r=>match intOf v with
  | some (j,b)=>match kEq k j with
   | true=>zRX mx k (match mx with
    | true=>(match wY a b with | true=>b | false=>a)
    | false=>(match wY b a with | true=>b | false=>a)) r
   | false=>none
  | none=>none
def zK1 (mx:Bool):CV→List CV→Option CV
 | x,[]=>some x
 | x,v::r=>match Sym.cv .i64 x,Sym.bin .lss (Bool.rec (motive:=fun _=>CV) v x mx) (Bool.rec (motive:=fun _=>CV) x v mx) with
  | some _,some [.bool b]=>zK1 mx (Bool.rec (motive:=fun _=>CV) x v b) r
  | some _,_=>match Sym.bin .leq (Bool.rec (motive:=fun _=>CV) v x mx) (Bool.rec (motive:=fun _=>CV) x v mx) with
   | some [.bool true]=>zK1 mx v r
   | _=>none
  | none,_=>none
def zUi (mx:Bool) (x:CV) (r:List CV):Option CV:=match intOf x with
 | some (k,a)=>match zRX mx k a r with
  | some v=>some v
  | none=>zK1 mx x r
 | none=>zK1 mx x r
def zMY (mx:Bool) (x:zT) (r:List zT):X:=fun es tm _ _=>zD7 (zUi mx (aV es tm x) (aVs es tm r)) 255
def zPM (f:zT) (args:List zT):X:=fun es tm _ _=>zLt (aV es tm f) (fun fn first captured=>match fn with
 | .func g=>.dfr g (zC3 first (zC3 (aVs es tm args) captured))
 | _=>.err 256) 257
def zPk:X:=fun _ _ _ _=>.recov
def zUu (c:Nat):X:=fun _ _ _ _=>.err (Nat.add 1000 c)
def yN (P:Program) (op:COp):X:=
 COp.rec (motive:=fun _=>X) xMv zTg zPK zUh zPb zMJ zQ3 zQK zQm zPq zQD xEq xUn zPe zQU zTe zMM zTl
  zPl zTo zRL zJX zQn zTb zRb zNF zTc zQE zTk zPj zRt zMP zMA zGC zHY zTn zPL
  zKe (zNf P) zKP zTq zS8 (zRp P) (zM1 P) zAV zNx zHi zMQ zRz zNJ zPc zMo zHF zKp zMY
  zPM zPk zUu op
inductive CX where
 | normal
 | exit (id:Nat)
 | ret
abbrev xd:=List (FuncId × List CV)
inductive R where
 | ok (e:CX) (tm:Tm) (ds:xd) (h:zC) (n:Key)
 | ret (v:CV) (h:zC) (n:Key)
 | err (c:Nat)
 | fork (a b:R)
abbrev yh:=Bool→FuncId→List CV→zC→Key→R
abbrev K:=Tm→xd→zC→Key→R
abbrev KE:=List CV→K
def yI (d:Option Loc) (v:CV) (tm:Tm) (k:Tm→R):R:=Option.rec (motive:=fun _=>CV→Tm→(Tm→R)→R) (fun _ tm k=>k tm) (fun p v tm k=>k (kg v p tm)) d v tm k
abbrev zAs:=yh→KE→Option Loc→List CV→K
def zUj (v:CV):zAs:=fun _ k d es tm ds h n=>yI d v tm fun tm=>k (v::es) tm ds h n
def zTW (o:CObj) (v:CV):zAs:=fun _ k d es tm ds h n=>yI d v tm fun tm=>k (v::es) tm ds (ya (some o) n h) n.succ
def zVD (v:CV) (h:zC) (n:Key):zAs:=fun _ k d es tm ds _ _=>yI d v tm fun tm=>k (v::es) tm ds h n
def zUL (f:FuncId) (args:List CV):zAs:=fun call k d es tm ds h n=>
 R.rec (motive:=fun _=>R) (fun _ _ _ _ _=>.err 300) (fun v h n=>yI d v tm fun tm=>k (v::es) tm ds h n) (fun c=>.err c) (fun _ _ a b=>.fork a b) (call false f args h n)
def zU8 (f:FuncId) (args:List CV):zAs:=fun _ k d es tm ds h n=>yI d .undef tm fun tm=>k (.undef::es) tm ((f,args)::ds) h n
def zT9:zAs:=fun _ k d es tm ds h n=>yI d .niliface tm fun tm=>k (.niliface::es) tm ds h n
def zVB (c:Nat):zAs:=fun _ _ _ _ _ _ _ _=>.err c
def zUl (_ _:OR) (a b:zAs):zAs:=fun call k d es tm ds h n=>.fork (a call k d es tm ds h n) (b call k d es tm ds h n)
def after (r:OR):zAs:=OR.rec (motive:=fun _=>zAs) zUj zUj zTW zVD zUL zU8 zT9 zVB zUl r
def jt (w:Bool) (v:CV):Bool:=match v with
 | .bool b=>match b,w with
  | true,true=>true
  | false,false=>true
  | _,_=>false
 | _=>false
def k8 (v:CV):Bool:=match v with
 | .any=>false
 | _=>true
def iI (P:Program) (call:yh) (op:COp) (k:KE):KE:=fun es tm ds h n=>after (yN P op es tm h n) call k none es tm ds h n
def iO (P:Program) (call:yh) (op:COp) (d:Loc) (k:KE):KE:=fun es tm ds h n=>after (yN P op es tm h n) call k (some d) es tm ds h n
def iG (P:Program) (call:yh) (x:zT) (w:Bool) (op:COp) (d:Option Loc) (k:KE):KE:=fun es tm ds h n=>
 Bool.rec (motive:=fun _=>R)
  (Bool.rec (motive:=fun _=>R) (.err 299) (yI d .undef tm fun tm=>k (.undef::es) tm ds h n) (k8 (aV es tm x)))
  (after (yN P op es tm h n) call k d es tm ds h n) (jt w (aV es tm x))
def zT2 (P:Program) (call:yh) (i:qd):KE→KE:=qd.rec (motive:=fun _=>KE→KE) (iI P call) (iO P call) (iG P call) i
def yo (P:Program) (call:yh) (l:List qd):KE:=
 List.rec (motive:=fun _=>KE) (fun _ tm ds h n=>.ok .normal tm ds h n) (fun i _ ih=>zT2 P call i ih) l
mutual
def CV.beq:CV→CV→Bool
 | .bool a,.bool b=>a == b
 | .nat a,.nat b=>Nat.beq a b
 | .int k a,.int j b=>kEq k j&&z7 a b
 | .sym a,.sym b=>kEq a.k b.k&&z7 a.c b.c&&vY a.l b.l
 | .str a,.str b=>qB a b
 | .nilptr,.nilptr=>true
 | .ptr a b,.ptr c d=>decide (a=c)&&Nat.beq b d
 | .nilsl,.nilsl=>true
 | .sl a b c d e f,.sl a' b' c' d' e' f'=>decide (a=a')&&Nat.beq b b'&&Nat.beq c c'&&Nat.beq d d'&&Nat.beq e e'&&f == f'
 | .nilmap,.nilmap=>true
 | .map a,.map b=>decide (a=b)
 | .func f a b,.func g c d=>decide (f=g)&&CV.beqs a c&&CV.beqs b d
 | .nilfunc,.nilfunc=>true
 | .iface t v,.iface u w=>Nat.beq t u&&CV.beq v w
 | .niliface,.niliface=>true
 | .agg a,.agg b=>CV.beqs a b
 | .tup a,.tup b=>CV.beqs a b
 | .sst a,.sst b=>CV.beqs a b
 | _,_=>false
def CV.beqs:List CV→List CV→Bool
 | [],[]=>true
 | a::as,b::bs=>CV.beq a b&&CV.beqs as bs
 | _,_=>false
end
abbrev KD:=List CV→List zC→K
def jD (P:Program) (op:COp) (es:List CV) (tm:Tm) (n:Key) (v:CV):Nat→List zC→Bool
 | 0,_=>true
 | _+1,[]=>true
 | c+1,h::hs=>match yN P op es tm h n with
  | .read w=>CV.beq v w&&jD P op es tm n v c hs
  | _=>false
def zLR (call:yh) (d:Option Loc) (k:KD) (r:OR):KD:=fun es hs tm ds h n=>match r with
 | .val v=>yI d v tm fun tm=>k (v::es) (h::hs) tm ds h n
 | .read v=>yI d v tm fun tm=>k (v::es) (h::hs) tm ds h n
 | .alloc o v=>yI d v tm fun tm=>k (v::es) (h::hs) tm ds (ya (some o) n h) n.succ
 | .eff v h' n'=>yI d v tm fun tm=>k (v::es) (h::hs) tm ds h' n'
 | .call f args=>R.rec (motive:=fun _=>R) (fun _ _ _ _ _=>.err 300) (fun v h' n'=>yI d v tm fun tm=>k (v::es) (h::hs) tm ds h' n') (fun c=>.err c)
  (fun _ _ a b=>.fork a b) (call false f args h n)
 | .err c=>.err c
 | _=>.err 312
def dNo (P:Program) (op:COp) (d:Option Loc) (chk:Nat) (k:KD) (r:OR):KD:=fun es hs tm ds h n=>match r with
 | .val v=>yI d v tm fun tm=>k (v::es) hs tm ds h n
 | .read v=>match jD P op es tm n v chk hs with
  | true=>yI d v tm fun tm=>k (v::es) hs tm ds h n
  | false=>.err 311
 | .alloc o v=>yI d v tm fun tm=>k (v::es) hs tm ds (ya (some o) n h) n.succ
 | .err c=>.err c
 | _=>.err 313
def dOp (P:Program) (call:yh) (op:COp) (d:Option Loc) (e:Bool) (chk:Nat) (k:KD):KD:=fun es hs tm ds h n=>match e with
 | true=>zLR call d k (yN P op es tm h n) es hs tm ds h n
 | false=>dNo P op d chk k (yN P op es tm h n) es hs tm ds h n
def zEF (d:Option Loc) (e:Bool) (k:KD):KD:=fun es hs tm ds h n=>yI d .undef tm fun tm=>k (.undef::es) (match e with | true=>h::hs | false=>hs) tm ds h n
def evD (P:Program) (call:yh):List zOR→KD
 | [],_,_,tm,ds,h,n=>.ok .normal tm ds h n
 | i::r,es,hs,tm,ds,h,n=>match i.ins with
  | .i op=>dOp P call op none i.eff i.chk (evD P call r) es hs tm ds h n
  | .o op d=>dOp P call op (some d) i.eff i.chk (evD P call r) es hs tm ds h n
  | .g x w op d=>match jt w (aV es tm x) with
   | true=>dOp P call op d i.eff i.chk (evD P call r) es hs tm ds h n
   | false=>match k8 (aV es tm x) with
    | true=>zEF d i.eff (evD P call r) es hs tm ds h n
    | false=>.err 299
def qJ (k:K) (r:R):R:=R.rec (motive:=fun _=>R) (fun e tm ds h n=>CX.rec (motive:=fun _=>R) (k tm ds h n) (fun id=>.ok (.exit id) tm ds h n) (.ok .ret tm ds h n) e)
 (fun _ _ _=>.err 301) (fun c=>.err c) (fun _ _ a b=>.fork a b) r
def uh (id:Nat) (r:R):R:=R.rec (motive:=fun _=>R) (fun e tm ds h n=>CX.rec (motive:=fun _=>R) (.ok .normal tm ds h n)
 (fun i=>Bool.rec (motive:=fun _=>R) (.ok (.exit i) tm ds h n) (.ok .normal tm ds h n) (Nat.beq i id)) (.ok .ret tm ds h n) e)
 (fun _ _ _=>.err 301) (fun c=>.err c) (fun _ _ a b=>.fork a b) r
def zGA (a b:K) (v:CV):K:=match v with
 | .bool true=>a
 | .bool false=>b
 | _=>fun _ _ _ _=>.err 302
def zA7 (fuel:Nat) (b:K):K:=Nat.rec (motive:=fun _=>K) (fun _ _ _ _=>.err 303) (fun _ ih tm ds h n=>qJ ih (b tm ds h n)) fuel
def u0:Nat:=100000
def zp (P:Program) (call:yh) (c:CCode):K:=
 CCode.rec (motive:=fun _=>K)
  (fun tm ds h n=>.ok .normal tm ds h n)
  (fun ops=>yo P call ops [])
  (fun ops=>evD P call ops [] [])
  (fun _ _ a b tm ds h n=>qJ b (a tm ds h n))
  (fun x _ _ a b tm ds h n=>zGA a b (aV [] tm x) tm ds h n)
  (fun id _ b tm ds h n=>uh id (b tm ds h n))
  (fun _ b=>zA7 u0 b)
  (fun id tm ds h n=>.ok (.exit id) tm ds h n)
  (fun tm ds h n=>.ok .ret tm ds h n)
  (fun _ b=>b)
  (fun c _ _ _ _=>.err (Nat.add 2000 c)) c
def zPT (h:zC) (tm:Tm) (r:CRes):Option CV:=match r with
 | .tmp x=>some (aV [] tm x)
 | .cell1 x=>match aV [] tm x with
  | .ptr b off=>match zAR h b with
   | some cs=>uv cs off
   | none=>none
  | _=>none
 | .cellN x s=>match aV [] tm x with
  | .ptr b off=>match zAR h b with
   | some cs=>(ux cs off s).map .agg
   | none=>none
  | _=>none
def zCx (h:zC) (tm:Tm):List CRes→Option (List CV)
 | []=>some []
 | r::rs=>match zPT h tm r with
  | none=>none
  | some v=>match zCx h tm rs with
   | none=>none
   | some vs=>some (v::vs)
def zCA (h:zC) (tm:Tm) (rs:List CRes):Option CV:=match zCx h tm rs with
 | some [v]=>some v
 | some vs=>some (.tup vs)
 | none=>none
def qY:List CV→Nat→Tm→Tm
 | [],_,t=>t
 | v::vs,i,t=>match Nat.ble i 271 with
  | true=>qY vs (Nat.succ i) (kg v (Loc.ofNat i) t)
  | false=>t
def w5 (call:yh) (k:zC→Key→R):xd→zC→Key→R
 | [],h,n=>k h n
 | (f,args)::r,h,n=>R.rec (motive:=fun _=>R) (fun _ _ _ _ _=>.err 300) (fun _ h n=>w5 call k r h n) (fun c=>.err c) (fun _ _ a b=>.fork a b) (call true f args h n)
def zC9 (rs:List CRes) (tm:Tm) (h:zC) (n:Key):R:=match zCA h tm rs with
 | some v=>.ret v h n
 | none=>.err 305
def jv (d:Bool) (call:yh) (rs:List CRes) (tm:Tm) (ds:xd) (h:zC) (n:Key):R:=match ds with
 | []=>zC9 rs tm h n
 | f::ds=>match d with
  | false=>w5 call (fun h n=>zC9 rs tm h n) (f::ds) h n
  | true=>.err 306
def yt (d:Bool) (call:yh) (rs:List CRes) (r:R):R:=R.rec (motive:=fun _=>R)
 (fun e tm ds h n=>CX.rec (motive:=fun _=>R) (jv d call rs tm ds h n) (fun _=>.err 307) (jv d call rs tm ds h n) e) (fun _ _ _=>.err 308) (fun c=>.err c) (fun _ _ a b=>.fork a b) r
abbrev NatF:=Sym→Bool→List CV→zC→Key→R
abbrev Nats:=FuncId→Option NatF
def zQW (r:OR) (h:zC) (n:Key):R:=match r with
 | .val v=>.ret v h n
 | .eff v h n=>.ret v h n
 | .err c=>.err c
 | _=>.err 309
def zA4 (P:Program) (d:Bool) (call:yh) (fn:CFn) (args:List CV) (h:zC) (n:Key):R:=
 CFn.rec (motive:=fun _=>R) (fun body res=>yt d call res (zp P call body (qY args 0 .nil) [] h n))
  (fun ops body res=>match d with
    | true=>yt true call res (qJ (zp P call body) (yo P call ops [] (qY args 0 .nil) [] h n))
    | false=>.err 311)
  (fun e=>match d with
    | true=>.err 313
    | false=>zQW (zCh e args h n) h n) (fun c=>.err (Nat.add 3000 c)) fn
def ev (P:Program) (code:FuncId→CFn) (nat:Nats) (fuel:Nat):yh:=
 Nat.rec (motive:=fun _=>yh) (fun _ _ _ _ _=>.err 310)
  (fun _ ih d f args h n=>Option.rec (motive:=fun _=>R) (zA4 P d ih (code f) args h n) (fun g=>g ‹Sym› d args h n) (nat f)) fuel
end
end Go.Ev
