/- A verified evaluator for the model's code: EvA, EvB. -/
import GoSem.Dispatch
import GoSem.Core.Made
set_option linter.unusedSectionVars false
set_option linter.unusedVariables false
set_option linter.unusedSimpArgs false
namespace Go.Ev
inductive Dg where
 | d0 | d1 | d2 | d3 | d4 | d5 | d6 | d7 | d8 | d9 | d10 | d11 | d12 | d13 | d14 | d15
 deriving DecidableEq,Inhabited
noncomputable def Dg.succ (d:Dg):Option Dg:=Dg.rec (motive:=fun _=>Option Dg) (some .d1) (some .d2) (some .d3) (some .d4) (some .d5) (some .d6) (some .d7) (some .d8) (some .d9) (some .d10) (some .d11) (some .d12) (some .d13) (some .d14) (some .d15) none d
noncomputable def Dg.ix (d:Dg):Nat:=Dg.rec (motive:=fun _=>Nat) 0 1 2 3 4 5 6 7 8 9 10 11 12 13 14 15 d
def Dg.ofN:Nat→Dg
 | 0=>.d0
 | 1=>.d1
 | 2=>.d2
 | 3=>.d3
 | 4=>.d4
 | 5=>.d5
 | 6=>.d6
 | 7=>.d7
 | 8=>.d8
 | 9=>.d9
 | 10=>.d10
 | 11=>.d11
 | 12=>.d12
 | 13=>.d13
 | 14=>.d14
 | _=>.d15
inductive Key where
 | mk (a b c d:Dg)
 deriving DecidableEq,Inhabited
def Key.zero:Key:=.mk .d0 .d0 .d0 .d0
noncomputable def Key.succ (k:Key):Key:=
 Key.rec (motive:=fun _=>Key) (fun a b c d=>
  Option.rec (motive:=fun _=>Key)
   (Option.rec (motive:=fun _=>Key)
     (Option.rec (motive:=fun _=>Key)
       (Option.rec (motive:=fun _=>Key) (.mk .d15 .d15 .d15 .d15) (fun a=>.mk a .d0 .d0 .d0) a.succ)
       (fun b=>.mk a b .d0 .d0) b.succ)
     (fun c=>.mk a b c .d0) c.succ)
   (fun d=>.mk a b c d) d.succ) k
noncomputable def Key.ix:Key→Nat
 | .mk a b c d=>((a.ix*16+b.ix)*16+c.ix)*16+d.ix
def Key.ofNat (n:Nat):Key:=.mk (.ofN (n / 4096 % 16)) (.ofN (n / 256 % 16)) (.ofN (n / 16 % 16)) (.ofN (n % 16))
inductive Loc where
 | s (d:Dg)
 | w (c d:Dg)
 deriving DecidableEq,Inhabited
def Loc.ofNat (n:Nat):Loc:=match Nat.ble n 15 with
 | true=>.s (.ofN n)
 | false=>.w (.ofN ((n - 16) / 16)) (.ofN ((n - 16) % 16))
structure SE where
 k:IntKind
 c:Int
 l:List (Nat × Int)
inductive CV where
 | bool (b:Bool)
 | nat (n:Nat)
 | int (k:IntKind) (n:Int)
 | anyi (k:IntKind)
 | str (s:List Nat)
 | nilptr
 | ptr (b:Key) (off:Nat)
 | nilsl
 | sl (b:Key) (off len cap esz:Nat) (exact:Bool)
 | nilmap
 | map (b:Key)
 | func (fn:Fn) (first captured:List CV)
 | nilfunc
 | iface (t:TypeId) (v:CV)
 | niliface
 | agg (cs:List CV)
 | tup (vs:List CV)
 | sym (e:SE)
 | win (b:Key) (esz:Nat) (e n:SE)
 | sst (l:List CV)
 | big (n:Nat)
 | few (i:Nat) (t:List (List Nat))
 | elt (b:Key) (off i m:Nat)
 | any
 deriving Inhabited
def CV.undef:CV:=.tup []
structure CE where
 key:CV
 val:CV
 born:Nat
inductive CObj where
 | cells (vs:List CV)
 | ro (vs:List CV)
 | map (es:List CE) (clock:Nat)
 | striter (s:List CV) (pos:Nat)
 | mapiter (m:Option Key) (since:Nat) (seen:List Nat) (stepped:Nat)
 | full (u:Bool) (vs:List CV)
 | mapz (es:List (CV × CV))
noncomputable section
inductive LV where
 | nil
 | nd (c0 c1 c2 c3 c4 c5 c6 c7 c8 c9 c10 c11 c12 c13 c14 c15:CV)
def LV.get (d:Dg) (t:LV):CV:=
 Dg.rec (motive:=fun _=>LV→CV)
  (fun t=>LV.rec (motive:=fun _=>CV) CV.any (fun c0 _ _ _ _ _ _ _ _ _ _ _ _ _ _ _=>c0) t)
  (fun t=>LV.rec (motive:=fun _=>CV) CV.any (fun _ c1 _ _ _ _ _ _ _ _ _ _ _ _ _ _=>c1) t)
  (fun t=>LV.rec (motive:=fun _=>CV) CV.any (fun _ _ c2 _ _ _ _ _ _ _ _ _ _ _ _ _=>c2) t)
  (fun t=>LV.rec (motive:=fun _=>CV) CV.any (fun _ _ _ c3 _ _ _ _ _ _ _ _ _ _ _ _=>c3) t)
  (fun t=>LV.rec (motive:=fun _=>CV) CV.any (fun _ _ _ _ c4 _ _ _ _ _ _ _ _ _ _ _=>c4) t)
  (fun t=>LV.rec (motive:=fun _=>CV) CV.any (fun _ _ _ _ _ c5 _ _ _ _ _ _ _ _ _ _=>c5) t)
  (fun t=>LV.rec (motive:=fun _=>CV) CV.any (fun _ _ _ _ _ _ c6 _ _ _ _ _ _ _ _ _=>c6) t)
  (fun t=>LV.rec (motive:=fun _=>CV) CV.any (fun _ _ _ _ _ _ _ c7 _ _ _ _ _ _ _ _=>c7) t)
  (fun t=>LV.rec (motive:=fun _=>CV) CV.any (fun _ _ _ _ _ _ _ _ c8 _ _ _ _ _ _ _=>c8) t)
  (fun t=>LV.rec (motive:=fun _=>CV) CV.any (fun _ _ _ _ _ _ _ _ _ c9 _ _ _ _ _ _=>c9) t)
  (fun t=>LV.rec (motive:=fun _=>CV) CV.any (fun _ _ _ _ _ _ _ _ _ _ c10 _ _ _ _ _=>c10) t)
  (fun t=>LV.rec (motive:=fun _=>CV) CV.any (fun _ _ _ _ _ _ _ _ _ _ _ c11 _ _ _ _=>c11) t)
  (fun t=>LV.rec (motive:=fun _=>CV) CV.any (fun _ _ _ _ _ _ _ _ _ _ _ _ c12 _ _ _=>c12) t)
  (fun t=>LV.rec (motive:=fun _=>CV) CV.any (fun _ _ _ _ _ _ _ _ _ _ _ _ _ c13 _ _=>c13) t)
  (fun t=>LV.rec (motive:=fun _=>CV) CV.any (fun _ _ _ _ _ _ _ _ _ _ _ _ _ _ c14 _=>c14) t)
  (fun t=>LV.rec (motive:=fun _=>CV) CV.any (fun _ _ _ _ _ _ _ _ _ _ _ _ _ _ _ c15=>c15) t) d t
def LV.upd (f:CV→CV) (d:Dg) (t:LV):LV:=
 Dg.rec (motive:=fun _=>(CV→CV)→LV→LV)
  (fun f t=>LV.rec (motive:=fun _=>LV) (.nd (f CV.any) CV.any CV.any CV.any CV.any CV.any CV.any CV.any CV.any CV.any CV.any CV.any CV.any CV.any CV.any CV.any) (fun c0 c1 c2 c3 c4 c5 c6 c7 c8 c9 c10 c11 c12 c13 c14 c15=>.nd (f c0) c1 c2 c3 c4 c5 c6 c7 c8 c9 c10 c11 c12 c13 c14 c15) t)
  (fun f t=>LV.rec (motive:=fun _=>LV) (.nd CV.any (f CV.any) CV.any CV.any CV.any CV.any CV.any CV.any CV.any CV.any CV.any CV.any CV.any CV.any CV.any CV.any) (fun c0 c1 c2 c3 c4 c5 c6 c7 c8 c9 c10 c11 c12 c13 c14 c15=>.nd c0 (f c1) c2 c3 c4 c5 c6 c7 c8 c9 c10 c11 c12 c13 c14 c15) t)
  (fun f t=>LV.rec (motive:=fun _=>LV) (.nd CV.any CV.any (f CV.any) CV.any CV.any CV.any CV.any CV.any CV.any CV.any CV.any CV.any CV.any CV.any CV.any CV.any) (fun c0 c1 c2 c3 c4 c5 c6 c7 c8 c9 c10 c11 c12 c13 c14 c15=>.nd c0 c1 (f c2) c3 c4 c5 c6 c7 c8 c9 c10 c11 c12 c13 c14 c15) t)
  (fun f t=>LV.rec (motive:=fun _=>LV) (.nd CV.any CV.any CV.any (f CV.any) CV.any CV.any CV.any CV.any CV.any CV.any CV.any CV.any CV.any CV.any CV.any CV.any) (fun c0 c1 c2 c3 c4 c5 c6 c7 c8 c9 c10 c11 c12 c13 c14 c15=>.nd c0 c1 c2 (f c3) c4 c5 c6 c7 c8 c9 c10 c11 c12 c13 c14 c15) t)
  (fun f t=>LV.rec (motive:=fun _=>LV) (.nd CV.any CV.any CV.any CV.any (f CV.any) CV.any CV.any CV.any CV.any CV.any CV.any CV.any CV.any CV.any CV.any CV.any) (fun c0 c1 c2 c3 c4 c5 c6 c7 c8 c9 c10 c11 c12 c13 c14 c15=>.nd c0 c1 c2 c3 (f c4) c5 c6 c7 c8 c9 c10 c11 c12 c13 c14 c15) t)
  (fun f t=>LV.rec (motive:=fun _=>LV) (.nd CV.any CV.any CV.any CV.any CV.any (f CV.any) CV.any CV.any CV.any CV.any CV.any CV.any CV.any CV.any CV.any CV.any) (fun c0 c1 c2 c3 c4 c5 c6 c7 c8 c9 c10 c11 c12 c13 c14 c15=>.nd c0 c1 c2 c3 c4 (f c5) c6 c7 c8 c9 c10 c11 c12 c13 c14 c15) t)
  (fun f t=>LV.rec (motive:=fun _=>LV) (.nd CV.any CV.any CV.any CV.any CV.any CV.any (f CV.any) CV.any CV.any CV.any CV.any CV.any CV.any CV.any CV.any CV.any) (fun c0 c1 c2 c3 c4 c5 c6 c7 c8 c9 c10 c11 c12 c13 c14 c15=>.nd c0 c1 c2 c3 c4 c5 (f c6) c7 c8 c9 c10 c11 c12 c13 c14 c15) t)
  (fun f t=>LV.rec (motive:=fun _=>LV) (.nd CV.any CV.any CV.any CV.any CV.any CV.any CV.any (f CV.any) CV.any CV.any CV.any CV.any CV.any CV.any CV.any CV.any) (fun c0 c1 c2 c3 c4 c5 c6 c7 c8 c9 c10 c11 c12 c13 c14 c15=>.nd c0 c1 c2 c3 c4 c5 c6 (f c7) c8 c9 c10 c11 c12 c13 c14 c15) t)
  (fun f t=>LV.rec (motive:=fun _=>LV) (.nd CV.any CV.any CV.any CV.any CV.any CV.any CV.any CV.any (f CV.any) CV.any CV.any CV.any CV.any CV.any CV.any CV.any) (fun c0 c1 c2 c3 c4 c5 c6 c7 c8 c9 c10 c11 c12 c13 c14 c15=>.nd c0 c1 c2 c3 c4 c5 c6 c7 (f c8) c9 c10 c11 c12 c13 c14 c15) t)
  (fun f t=>LV.rec (motive:=fun _=>LV) (.nd CV.any CV.any CV.any CV.any CV.any CV.any CV.any CV.any CV.any (f CV.any) CV.any CV.any CV.any CV.any CV.any CV.any) (fun c0 c1 c2 c3 c4 c5 c6 c7 c8 c9 c10 c11 c12 c13 c14 c15=>.nd c0 c1 c2 c3 c4 c5 c6 c7 c8 (f c9) c10 c11 c12 c13 c14 c15) t)
  (fun f t=>LV.rec (motive:=fun _=>LV) (.nd CV.any CV.any CV.any CV.any CV.any CV.any CV.any CV.any CV.any CV.any (f CV.any) CV.any CV.any CV.any CV.any CV.any) (fun c0 c1 c2 c3 c4 c5 c6 c7 c8 c9 c10 c11 c12 c13 c14 c15=>.nd c0 c1 c2 c3 c4 c5 c6 c7 c8 c9 (f c10) c11 c12 c13 c14 c15) t)
  (fun f t=>LV.rec (motive:=fun _=>LV) (.nd CV.any CV.any CV.any CV.any CV.any CV.any CV.any CV.any CV.any CV.any CV.any (f CV.any) CV.any CV.any CV.any CV.any) (fun c0 c1 c2 c3 c4 c5 c6 c7 c8 c9 c10 c11 c12 c13 c14 c15=>.nd c0 c1 c2 c3 c4 c5 c6 c7 c8 c9 c10 (f c11) c12 c13 c14 c15) t)
  (fun f t=>LV.rec (motive:=fun _=>LV) (.nd CV.any CV.any CV.any CV.any CV.any CV.any CV.any CV.any CV.any CV.any CV.any CV.any (f CV.any) CV.any CV.any CV.any) (fun c0 c1 c2 c3 c4 c5 c6 c7 c8 c9 c10 c11 c12 c13 c14 c15=>.nd c0 c1 c2 c3 c4 c5 c6 c7 c8 c9 c10 c11 (f c12) c13 c14 c15) t)
  (fun f t=>LV.rec (motive:=fun _=>LV) (.nd CV.any CV.any CV.any CV.any CV.any CV.any CV.any CV.any CV.any CV.any CV.any CV.any CV.any (f CV.any) CV.any CV.any) (fun c0 c1 c2 c3 c4 c5 c6 c7 c8 c9 c10 c11 c12 c13 c14 c15=>.nd c0 c1 c2 c3 c4 c5 c6 c7 c8 c9 c10 c11 c12 (f c13) c14 c15) t)
  (fun f t=>LV.rec (motive:=fun _=>LV) (.nd CV.any CV.any CV.any CV.any CV.any CV.any CV.any CV.any CV.any CV.any CV.any CV.any CV.any CV.any (f CV.any) CV.any) (fun c0 c1 c2 c3 c4 c5 c6 c7 c8 c9 c10 c11 c12 c13 c14 c15=>.nd c0 c1 c2 c3 c4 c5 c6 c7 c8 c9 c10 c11 c12 c13 (f c14) c15) t)
  (fun f t=>LV.rec (motive:=fun _=>LV) (.nd CV.any CV.any CV.any CV.any CV.any CV.any CV.any CV.any CV.any CV.any CV.any CV.any CV.any CV.any CV.any (f CV.any)) (fun c0 c1 c2 c3 c4 c5 c6 c7 c8 c9 c10 c11 c12 c13 c14 c15=>.nd c0 c1 c2 c3 c4 c5 c6 c7 c8 c9 c10 c11 c12 c13 c14 (f c15)) t) d f t
inductive L1 where
 | nil
 | nd (c0 c1 c2 c3 c4 c5 c6 c7 c8 c9 c10 c11 c12 c13 c14 c15:LV)
def L1.get (d:Dg) (t:L1):LV:=
 Dg.rec (motive:=fun _=>L1→LV)
  (fun t=>L1.rec (motive:=fun _=>LV) LV.nil (fun c0 _ _ _ _ _ _ _ _ _ _ _ _ _ _ _=>c0) t)
  (fun t=>L1.rec (motive:=fun _=>LV) LV.nil (fun _ c1 _ _ _ _ _ _ _ _ _ _ _ _ _ _=>c1) t)
  (fun t=>L1.rec (motive:=fun _=>LV) LV.nil (fun _ _ c2 _ _ _ _ _ _ _ _ _ _ _ _ _=>c2) t)
  (fun t=>L1.rec (motive:=fun _=>LV) LV.nil (fun _ _ _ c3 _ _ _ _ _ _ _ _ _ _ _ _=>c3) t)
  (fun t=>L1.rec (motive:=fun _=>LV) LV.nil (fun _ _ _ _ c4 _ _ _ _ _ _ _ _ _ _ _=>c4) t)
  (fun t=>L1.rec (motive:=fun _=>LV) LV.nil (fun _ _ _ _ _ c5 _ _ _ _ _ _ _ _ _ _=>c5) t)
  (fun t=>L1.rec (motive:=fun _=>LV) LV.nil (fun _ _ _ _ _ _ c6 _ _ _ _ _ _ _ _ _=>c6) t)
  (fun t=>L1.rec (motive:=fun _=>LV) LV.nil (fun _ _ _ _ _ _ _ c7 _ _ _ _ _ _ _ _=>c7) t)
  (fun t=>L1.rec (motive:=fun _=>LV) LV.nil (fun _ _ _ _ _ _ _ _ c8 _ _ _ _ _ _ _=>c8) t)
  (fun t=>L1.rec (motive:=fun _=>LV) LV.nil (fun _ _ _ _ _ _ _ _ _ c9 _ _ _ _ _ _=>c9) t)
  (fun t=>L1.rec (motive:=fun _=>LV) LV.nil (fun _ _ _ _ _ _ _ _ _ _ c10 _ _ _ _ _=>c10) t)
  (fun t=>L1.rec (motive:=fun _=>LV) LV.nil (fun _ _ _ _ _ _ _ _ _ _ _ c11 _ _ _ _=>c11) t)
  (fun t=>L1.rec (motive:=fun _=>LV) LV.nil (fun _ _ _ _ _ _ _ _ _ _ _ _ c12 _ _ _=>c12) t)
  (fun t=>L1.rec (motive:=fun _=>LV) LV.nil (fun _ _ _ _ _ _ _ _ _ _ _ _ _ c13 _ _=>c13) t)
  (fun t=>L1.rec (motive:=fun _=>LV) LV.nil (fun _ _ _ _ _ _ _ _ _ _ _ _ _ _ c14 _=>c14) t)
  (fun t=>L1.rec (motive:=fun _=>LV) LV.nil (fun _ _ _ _ _ _ _ _ _ _ _ _ _ _ _ c15=>c15) t) d t
def L1.upd (f:LV→LV) (d:Dg) (t:L1):L1:=
 Dg.rec (motive:=fun _=>(LV→LV)→L1→L1)
  (fun f t=>L1.rec (motive:=fun _=>L1) (.nd (f LV.nil) LV.nil LV.nil LV.nil LV.nil LV.nil LV.nil LV.nil LV.nil LV.nil LV.nil LV.nil LV.nil LV.nil LV.nil LV.nil) (fun c0 c1 c2 c3 c4 c5 c6 c7 c8 c9 c10 c11 c12 c13 c14 c15=>.nd (f c0) c1 c2 c3 c4 c5 c6 c7 c8 c9 c10 c11 c12 c13 c14 c15) t)
  (fun f t=>L1.rec (motive:=fun _=>L1) (.nd LV.nil (f LV.nil) LV.nil LV.nil LV.nil LV.nil LV.nil LV.nil LV.nil LV.nil LV.nil LV.nil LV.nil LV.nil LV.nil LV.nil) (fun c0 c1 c2 c3 c4 c5 c6 c7 c8 c9 c10 c11 c12 c13 c14 c15=>.nd c0 (f c1) c2 c3 c4 c5 c6 c7 c8 c9 c10 c11 c12 c13 c14 c15) t)
  (fun f t=>L1.rec (motive:=fun _=>L1) (.nd LV.nil LV.nil (f LV.nil) LV.nil LV.nil LV.nil LV.nil LV.nil LV.nil LV.nil LV.nil LV.nil LV.nil LV.nil LV.nil LV.nil) (fun c0 c1 c2 c3 c4 c5 c6 c7 c8 c9 c10 c11 c12 c13 c14 c15=>.nd c0 c1 (f c2) c3 c4 c5 c6 c7 c8 c9 c10 c11 c12 c13 c14 c15) t)
  (fun f t=>L1.rec (motive:=fun _=>L1) (.nd LV.nil LV.nil LV.nil (f LV.nil) LV.nil LV.nil LV.nil LV.nil LV.nil LV.nil LV.nil LV.nil LV.nil LV.nil LV.nil LV.nil) (fun c0 c1 c2 c3 c4 c5 c6 c7 c8 c9 c10 c11 c12 c13 c14 c15=>.nd c0 c1 c2 (f c3) c4 c5 c6 c7 c8 c9 c10 c11 c12 c13 c14 c15) t)
  (fun f t=>L1.rec (motive:=fun _=>L1) (.nd LV.nil LV.nil LV.nil LV.nil (f LV.nil) LV.nil LV.nil LV.nil LV.nil LV.nil LV.nil LV.nil LV.nil LV.nil LV.nil LV.nil) (fun c0 c1 c2 c3 c4 c5 c6 c7 c8 c9 c10 c11 c12 c13 c14 c15=>.nd c0 c1 c2 c3 (f c4) c5 c6 c7 c8 c9 c10 c11 c12 c13 c14 c15) t)
  (fun f t=>L1.rec (motive:=fun _=>L1) (.nd LV.nil LV.nil LV.nil LV.nil LV.nil (f LV.nil) LV.nil LV.nil LV.nil LV.nil LV.nil LV.nil LV.nil LV.nil LV.nil LV.nil) (fun c0 c1 c2 c3 c4 c5 c6 c7 c8 c9 c10 c11 c12 c13 c14 c15=>.nd c0 c1 c2 c3 c4 (f c5) c6 c7 c8 c9 c10 c11 c12 c13 c14 c15) t)
  (fun f t=>L1.rec (motive:=fun _=>L1) (.nd LV.nil LV.nil LV.nil LV.nil LV.nil LV.nil (f LV.nil) LV.nil LV.nil LV.nil LV.nil LV.nil LV.nil LV.nil LV.nil LV.nil) (fun c0 c1 c2 c3 c4 c5 c6 c7 c8 c9 c10 c11 c12 c13 c14 c15=>.nd c0 c1 c2 c3 c4 c5 (f c6) c7 c8 c9 c10 c11 c12 c13 c14 c15) t)
  (fun f t=>L1.rec (motive:=fun _=>L1) (.nd LV.nil LV.nil LV.nil LV.nil LV.nil LV.nil LV.nil (f LV.nil) LV.nil LV.nil LV.nil LV.nil LV.nil LV.nil LV.nil LV.nil) (fun c0 c1 c2 c3 c4 c5 c6 c7 c8 c9 c10 c11 c12 c13 c14 c15=>.nd c0 c1 c2 c3 c4 c5 c6 (f c7) c8 c9 c10 c11 c12 c13 c14 c15) t)
  (fun f t=>L1.rec (motive:=fun _=>L1) (.nd LV.nil LV.nil LV.nil LV.nil LV.nil LV.nil LV.nil LV.nil (f LV.nil) LV.nil LV.nil LV.nil LV.nil LV.nil LV.nil LV.nil) (fun c0 c1 c2 c3 c4 c5 c6 c7 c8 c9 c10 c11 c12 c13 c14 c15=>.nd c0 c1 c2 c3 c4 c5 c6 c7 (f c8) c9 c10 c11 c12 c13 c14 c15) t)
  (fun f t=>L1.rec (motive:=fun _=>L1) (.nd LV.nil LV.nil LV.nil LV.nil LV.nil LV.nil LV.nil LV.nil LV.nil (f LV.nil) LV.nil LV.nil LV.nil LV.nil LV.nil LV.nil) (fun c0 c1 c2 c3 c4 c5 c6 c7 c8 c9 c10 c11 c12 c13 c14 c15=>.nd c0 c1 c2 c3 c4 c5 c6 c7 c8 (f c9) c10 c11 c12 c13 c14 c15) t)
  (fun f t=>L1.rec (motive:=fun _=>L1) (.nd LV.nil LV.nil LV.nil LV.nil LV.nil LV.nil LV.nil LV.nil LV.nil LV.nil (f LV.nil) LV.nil LV.nil LV.nil LV.nil LV.nil) (fun c0 c1 c2 c3 c4 c5 c6 c7 c8 c9 c10 c11 c12 c13 c14 c15=>.nd c0 c1 c2 c3 c4 c5 c6 c7 c8 c9 (f c10) c11 c12 c13 c14 c15) t)
  (fun f t=>L1.rec (motive:=fun _=>L1) (.nd LV.nil LV.nil LV.nil LV.nil LV.nil LV.nil LV.nil LV.nil LV.nil LV.nil LV.nil (f LV.nil) LV.nil LV.nil LV.nil LV.nil) (fun c0 c1 c2 c3 c4 c5 c6 c7 c8 c9 c10 c11 c12 c13 c14 c15=>.nd c0 c1 c2 c3 c4 c5 c6 c7 c8 c9 c10 (f c11) c12 c13 c14 c15) t)
  (fun f t=>L1.rec (motive:=fun _=>L1) (.nd LV.nil LV.nil LV.nil LV.nil LV.nil LV.nil LV.nil LV.nil LV.nil LV.nil LV.nil LV.nil (f LV.nil) LV.nil LV.nil LV.nil) (fun c0 c1 c2 c3 c4 c5 c6 c7 c8 c9 c10 c11 c12 c13 c14 c15=>.nd c0 c1 c2 c3 c4 c5 c6 c7 c8 c9 c10 c11 (f c12) c13 c14 c15) t)
  (fun f t=>L1.rec (motive:=fun _=>L1) (.nd LV.nil LV.nil LV.nil LV.nil LV.nil LV.nil LV.nil LV.nil LV.nil LV.nil LV.nil LV.nil LV.nil (f LV.nil) LV.nil LV.nil) (fun c0 c1 c2 c3 c4 c5 c6 c7 c8 c9 c10 c11 c12 c13 c14 c15=>.nd c0 c1 c2 c3 c4 c5 c6 c7 c8 c9 c10 c11 c12 (f c13) c14 c15) t)
  (fun f t=>L1.rec (motive:=fun _=>L1) (.nd LV.nil LV.nil LV.nil LV.nil LV.nil LV.nil LV.nil LV.nil LV.nil LV.nil LV.nil LV.nil LV.nil LV.nil (f LV.nil) LV.nil) (fun c0 c1 c2 c3 c4 c5 c6 c7 c8 c9 c10 c11 c12 c13 c14 c15=>.nd c0 c1 c2 c3 c4 c5 c6 c7 c8 c9 c10 c11 c12 c13 (f c14) c15) t)
  (fun f t=>L1.rec (motive:=fun _=>L1) (.nd LV.nil LV.nil LV.nil LV.nil LV.nil LV.nil LV.nil LV.nil LV.nil LV.nil LV.nil LV.nil LV.nil LV.nil LV.nil (f LV.nil)) (fun c0 c1 c2 c3 c4 c5 c6 c7 c8 c9 c10 c11 c12 c13 c14 c15=>.nd c0 c1 c2 c3 c4 c5 c6 c7 c8 c9 c10 c11 c12 c13 c14 (f c15)) t) d f t
inductive HV where
 | nil
 | nd (c0 c1 c2 c3 c4 c5 c6 c7 c8 c9 c10 c11 c12 c13 c14 c15:Option CObj)
def HV.get (d:Dg) (t:HV):Option CObj:=
 Dg.rec (motive:=fun _=>HV→Option CObj)
  (fun t=>HV.rec (motive:=fun _=>Option CObj) none (fun c0 _ _ _ _ _ _ _ _ _ _ _ _ _ _ _=>c0) t)
  (fun t=>HV.rec (motive:=fun _=>Option CObj) none (fun _ c1 _ _ _ _ _ _ _ _ _ _ _ _ _ _=>c1) t)
  (fun t=>HV.rec (motive:=fun _=>Option CObj) none (fun _ _ c2 _ _ _ _ _ _ _ _ _ _ _ _ _=>c2) t)
  (fun t=>HV.rec (motive:=fun _=>Option CObj) none (fun _ _ _ c3 _ _ _ _ _ _ _ _ _ _ _ _=>c3) t)
  (fun t=>HV.rec (motive:=fun _=>Option CObj) none (fun _ _ _ _ c4 _ _ _ _ _ _ _ _ _ _ _=>c4) t)
  (fun t=>HV.rec (motive:=fun _=>Option CObj) none (fun _ _ _ _ _ c5 _ _ _ _ _ _ _ _ _ _=>c5) t)
  (fun t=>HV.rec (motive:=fun _=>Option CObj) none (fun _ _ _ _ _ _ c6 _ _ _ _ _ _ _ _ _=>c6) t)
  (fun t=>HV.rec (motive:=fun _=>Option CObj) none (fun _ _ _ _ _ _ _ c7 _ _ _ _ _ _ _ _=>c7) t)
  (fun t=>HV.rec (motive:=fun _=>Option CObj) none (fun _ _ _ _ _ _ _ _ c8 _ _ _ _ _ _ _=>c8) t)
  (fun t=>HV.rec (motive:=fun _=>Option CObj) none (fun _ _ _ _ _ _ _ _ _ c9 _ _ _ _ _ _=>c9) t)
  (fun t=>HV.rec (motive:=fun _=>Option CObj) none (fun _ _ _ _ _ _ _ _ _ _ c10 _ _ _ _ _=>c10) t)
  (fun t=>HV.rec (motive:=fun _=>Option CObj) none (fun _ _ _ _ _ _ _ _ _ _ _ c11 _ _ _ _=>c11) t)
  (fun t=>HV.rec (motive:=fun _=>Option CObj) none (fun _ _ _ _ _ _ _ _ _ _ _ _ c12 _ _ _=>c12) t)
  (fun t=>HV.rec (motive:=fun _=>Option CObj) none (fun _ _ _ _ _ _ _ _ _ _ _ _ _ c13 _ _=>c13) t)
  (fun t=>HV.rec (motive:=fun _=>Option CObj) none (fun _ _ _ _ _ _ _ _ _ _ _ _ _ _ c14 _=>c14) t)
  (fun t=>HV.rec (motive:=fun _=>Option CObj) none (fun _ _ _ _ _ _ _ _ _ _ _ _ _ _ _ c15=>c15) t) d t
def HV.upd (f:Option CObj→Option CObj) (d:Dg) (t:HV):HV:=
 Dg.rec (motive:=fun _=>(Option CObj→Option CObj)→HV→HV)
  (fun f t=>HV.rec (motive:=fun _=>HV) (.nd (f none) none none none none none none none none none none none none none none none) (fun c0 c1 c2 c3 c4 c5 c6 c7 c8 c9 c10 c11 c12 c13 c14 c15=>.nd (f c0) c1 c2 c3 c4 c5 c6 c7 c8 c9 c10 c11 c12 c13 c14 c15) t)
  (fun f t=>HV.rec (motive:=fun _=>HV) (.nd none (f none) none none none none none none none none none none none none none none) (fun c0 c1 c2 c3 c4 c5 c6 c7 c8 c9 c10 c11 c12 c13 c14 c15=>.nd c0 (f c1) c2 c3 c4 c5 c6 c7 c8 c9 c10 c11 c12 c13 c14 c15) t)
  (fun f t=>HV.rec (motive:=fun _=>HV) (.nd none none (f none) none none none none none none none none none none none none none) (fun c0 c1 c2 c3 c4 c5 c6 c7 c8 c9 c10 c11 c12 c13 c14 c15=>.nd c0 c1 (f c2) c3 c4 c5 c6 c7 c8 c9 c10 c11 c12 c13 c14 c15) t)
  (fun f t=>HV.rec (motive:=fun _=>HV) (.nd none none none (f none) none none none none none none none none none none none none) (fun c0 c1 c2 c3 c4 c5 c6 c7 c8 c9 c10 c11 c12 c13 c14 c15=>.nd c0 c1 c2 (f c3) c4 c5 c6 c7 c8 c9 c10 c11 c12 c13 c14 c15) t)
  (fun f t=>HV.rec (motive:=fun _=>HV) (.nd none none none none (f none) none none none none none none none none none none none) (fun c0 c1 c2 c3 c4 c5 c6 c7 c8 c9 c10 c11 c12 c13 c14 c15=>.nd c0 c1 c2 c3 (f c4) c5 c6 c7 c8 c9 c10 c11 c12 c13 c14 c15) t)
  (fun f t=>HV.rec (motive:=fun _=>HV) (.nd none none none none none (f none) none none none none none none none none none none) (fun c0 c1 c2 c3 c4 c5 c6 c7 c8 c9 c10 c11 c12 c13 c14 c15=>.nd c0 c1 c2 c3 c4 (f c5) c6 c7 c8 c9 c10 c11 c12 c13 c14 c15) t)
  (fun f t=>HV.rec (motive:=fun _=>HV) (.nd none none none none none none (f none) none none none none none none none none none) (fun c0 c1 c2 c3 c4 c5 c6 c7 c8 c9 c10 c11 c12 c13 c14 c15=>.nd c0 c1 c2 c3 c4 c5 (f c6) c7 c8 c9 c10 c11 c12 c13 c14 c15) t)
  (fun f t=>HV.rec (motive:=fun _=>HV) (.nd none none none none none none none (f none) none none none none none none none none) (fun c0 c1 c2 c3 c4 c5 c6 c7 c8 c9 c10 c11 c12 c13 c14 c15=>.nd c0 c1 c2 c3 c4 c5 c6 (f c7) c8 c9 c10 c11 c12 c13 c14 c15) t)
  (fun f t=>HV.rec (motive:=fun _=>HV) (.nd none none none none none none none none (f none) none none none none none none none) (fun c0 c1 c2 c3 c4 c5 c6 c7 c8 c9 c10 c11 c12 c13 c14 c15=>.nd c0 c1 c2 c3 c4 c5 c6 c7 (f c8) c9 c10 c11 c12 c13 c14 c15) t)
  (fun f t=>HV.rec (motive:=fun _=>HV) (.nd none none none none none none none none none (f none) none none none none none none) (fun c0 c1 c2 c3 c4 c5 c6 c7 c8 c9 c10 c11 c12 c13 c14 c15=>.nd c0 c1 c2 c3 c4 c5 c6 c7 c8 (f c9) c10 c11 c12 c13 c14 c15) t)
  (fun f t=>HV.rec (motive:=fun _=>HV) (.nd none none none none none none none none none none (f none) none none none none none) (fun c0 c1 c2 c3 c4 c5 c6 c7 c8 c9 c10 c11 c12 c13 c14 c15=>.nd c0 c1 c2 c3 c4 c5 c6 c7 c8 c9 (f c10) c11 c12 c13 c14 c15) t)
  (fun f t=>HV.rec (motive:=fun _=>HV) (.nd none none none none none none none none none none none (f none) none none none none) (fun c0 c1 c2 c3 c4 c5 c6 c7 c8 c9 c10 c11 c12 c13 c14 c15=>.nd c0 c1 c2 c3 c4 c5 c6 c7 c8 c9 c10 (f c11) c12 c13 c14 c15) t)
  (fun f t=>HV.rec (motive:=fun _=>HV) (.nd none none none none none none none none none none none none (f none) none none none) (fun c0 c1 c2 c3 c4 c5 c6 c7 c8 c9 c10 c11 c12 c13 c14 c15=>.nd c0 c1 c2 c3 c4 c5 c6 c7 c8 c9 c10 c11 (f c12) c13 c14 c15) t)
  (fun f t=>HV.rec (motive:=fun _=>HV) (.nd none none none none none none none none none none none none none (f none) none none) (fun c0 c1 c2 c3 c4 c5 c6 c7 c8 c9 c10 c11 c12 c13 c14 c15=>.nd c0 c1 c2 c3 c4 c5 c6 c7 c8 c9 c10 c11 c12 (f c13) c14 c15) t)
  (fun f t=>HV.rec (motive:=fun _=>HV) (.nd none none none none none none none none none none none none none none (f none) none) (fun c0 c1 c2 c3 c4 c5 c6 c7 c8 c9 c10 c11 c12 c13 c14 c15=>.nd c0 c1 c2 c3 c4 c5 c6 c7 c8 c9 c10 c11 c12 c13 (f c14) c15) t)
  (fun f t=>HV.rec (motive:=fun _=>HV) (.nd none none none none none none none none none none none none none none none (f none)) (fun c0 c1 c2 c3 c4 c5 c6 c7 c8 c9 c10 c11 c12 c13 c14 c15=>.nd c0 c1 c2 c3 c4 c5 c6 c7 c8 c9 c10 c11 c12 c13 c14 (f c15)) t) d f t
inductive H1 where
 | nil
 | nd (c0 c1 c2 c3 c4 c5 c6 c7 c8 c9 c10 c11 c12 c13 c14 c15:HV)
def H1.get (d:Dg) (t:H1):HV:=
 Dg.rec (motive:=fun _=>H1→HV)
  (fun t=>H1.rec (motive:=fun _=>HV) HV.nil (fun c0 _ _ _ _ _ _ _ _ _ _ _ _ _ _ _=>c0) t)
  (fun t=>H1.rec (motive:=fun _=>HV) HV.nil (fun _ c1 _ _ _ _ _ _ _ _ _ _ _ _ _ _=>c1) t)
  (fun t=>H1.rec (motive:=fun _=>HV) HV.nil (fun _ _ c2 _ _ _ _ _ _ _ _ _ _ _ _ _=>c2) t)
  (fun t=>H1.rec (motive:=fun _=>HV) HV.nil (fun _ _ _ c3 _ _ _ _ _ _ _ _ _ _ _ _=>c3) t)
  (fun t=>H1.rec (motive:=fun _=>HV) HV.nil (fun _ _ _ _ c4 _ _ _ _ _ _ _ _ _ _ _=>c4) t)
  (fun t=>H1.rec (motive:=fun _=>HV) HV.nil (fun _ _ _ _ _ c5 _ _ _ _ _ _ _ _ _ _=>c5) t)
  (fun t=>H1.rec (motive:=fun _=>HV) HV.nil (fun _ _ _ _ _ _ c6 _ _ _ _ _ _ _ _ _=>c6) t)
  (fun t=>H1.rec (motive:=fun _=>HV) HV.nil (fun _ _ _ _ _ _ _ c7 _ _ _ _ _ _ _ _=>c7) t)
  (fun t=>H1.rec (motive:=fun _=>HV) HV.nil (fun _ _ _ _ _ _ _ _ c8 _ _ _ _ _ _ _=>c8) t)
  (fun t=>H1.rec (motive:=fun _=>HV) HV.nil (fun _ _ _ _ _ _ _ _ _ c9 _ _ _ _ _ _=>c9) t)
  (fun t=>H1.rec (motive:=fun _=>HV) HV.nil (fun _ _ _ _ _ _ _ _ _ _ c10 _ _ _ _ _=>c10) t)
  (fun t=>H1.rec (motive:=fun _=>HV) HV.nil (fun _ _ _ _ _ _ _ _ _ _ _ c11 _ _ _ _=>c11) t)
  (fun t=>H1.rec (motive:=fun _=>HV) HV.nil (fun _ _ _ _ _ _ _ _ _ _ _ _ c12 _ _ _=>c12) t)
  (fun t=>H1.rec (motive:=fun _=>HV) HV.nil (fun _ _ _ _ _ _ _ _ _ _ _ _ _ c13 _ _=>c13) t)
  (fun t=>H1.rec (motive:=fun _=>HV) HV.nil (fun _ _ _ _ _ _ _ _ _ _ _ _ _ _ c14 _=>c14) t)
  (fun t=>H1.rec (motive:=fun _=>HV) HV.nil (fun _ _ _ _ _ _ _ _ _ _ _ _ _ _ _ c15=>c15) t) d t
def H1.upd (f:HV→HV) (d:Dg) (t:H1):H1:=
 Dg.rec (motive:=fun _=>(HV→HV)→H1→H1)
  (fun f t=>H1.rec (motive:=fun _=>H1) (.nd (f HV.nil) HV.nil HV.nil HV.nil HV.nil HV.nil HV.nil HV.nil HV.nil HV.nil HV.nil HV.nil HV.nil HV.nil HV.nil HV.nil) (fun c0 c1 c2 c3 c4 c5 c6 c7 c8 c9 c10 c11 c12 c13 c14 c15=>.nd (f c0) c1 c2 c3 c4 c5 c6 c7 c8 c9 c10 c11 c12 c13 c14 c15) t)
  (fun f t=>H1.rec (motive:=fun _=>H1) (.nd HV.nil (f HV.nil) HV.nil HV.nil HV.nil HV.nil HV.nil HV.nil HV.nil HV.nil HV.nil HV.nil HV.nil HV.nil HV.nil HV.nil) (fun c0 c1 c2 c3 c4 c5 c6 c7 c8 c9 c10 c11 c12 c13 c14 c15=>.nd c0 (f c1) c2 c3 c4 c5 c6 c7 c8 c9 c10 c11 c12 c13 c14 c15) t)
  (fun f t=>H1.rec (motive:=fun _=>H1) (.nd HV.nil HV.nil (f HV.nil) HV.nil HV.nil HV.nil HV.nil HV.nil HV.nil HV.nil HV.nil HV.nil HV.nil HV.nil HV.nil HV.nil) (fun c0 c1 c2 c3 c4 c5 c6 c7 c8 c9 c10 c11 c12 c13 c14 c15=>.nd c0 c1 (f c2) c3 c4 c5 c6 c7 c8 c9 c10 c11 c12 c13 c14 c15) t)
  (fun f t=>H1.rec (motive:=fun _=>H1) (.nd HV.nil HV.nil HV.nil (f HV.nil) HV.nil HV.nil HV.nil HV.nil HV.nil HV.nil HV.nil HV.nil HV.nil HV.nil HV.nil HV.nil) (fun c0 c1 c2 c3 c4 c5 c6 c7 c8 c9 c10 c11 c12 c13 c14 c15=>.nd c0 c1 c2 (f c3) c4 c5 c6 c7 c8 c9 c10 c11 c12 c13 c14 c15) t)
  (fun f t=>H1.rec (motive:=fun _=>H1) (.nd HV.nil HV.nil HV.nil HV.nil (f HV.nil) HV.nil HV.nil HV.nil HV.nil HV.nil HV.nil HV.nil HV.nil HV.nil HV.nil HV.nil) (fun c0 c1 c2 c3 c4 c5 c6 c7 c8 c9 c10 c11 c12 c13 c14 c15=>.nd c0 c1 c2 c3 (f c4) c5 c6 c7 c8 c9 c10 c11 c12 c13 c14 c15) t)
  (fun f t=>H1.rec (motive:=fun _=>H1) (.nd HV.nil HV.nil HV.nil HV.nil HV.nil (f HV.nil) HV.nil HV.nil HV.nil HV.nil HV.nil HV.nil HV.nil HV.nil HV.nil HV.nil) (fun c0 c1 c2 c3 c4 c5 c6 c7 c8 c9 c10 c11 c12 c13 c14 c15=>.nd c0 c1 c2 c3 c4 (f c5) c6 c7 c8 c9 c10 c11 c12 c13 c14 c15) t)
  (fun f t=>H1.rec (motive:=fun _=>H1) (.nd HV.nil HV.nil HV.nil HV.nil HV.nil HV.nil (f HV.nil) HV.nil HV.nil HV.nil HV.nil HV.nil HV.nil HV.nil HV.nil HV.nil) (fun c0 c1 c2 c3 c4 c5 c6 c7 c8 c9 c10 c11 c12 c13 c14 c15=>.nd c0 c1 c2 c3 c4 c5 (f c6) c7 c8 c9 c10 c11 c12 c13 c14 c15) t)
  (fun f t=>H1.rec (motive:=fun _=>H1) (.nd HV.nil HV.nil HV.nil HV.nil HV.nil HV.nil HV.nil (f HV.nil) HV.nil HV.nil HV.nil HV.nil HV.nil HV.nil HV.nil HV.nil) (fun c0 c1 c2 c3 c4 c5 c6 c7 c8 c9 c10 c11 c12 c13 c14 c15=>.nd c0 c1 c2 c3 c4 c5 c6 (f c7) c8 c9 c10 c11 c12 c13 c14 c15) t)
  (fun f t=>H1.rec (motive:=fun _=>H1) (.nd HV.nil HV.nil HV.nil HV.nil HV.nil HV.nil HV.nil HV.nil (f HV.nil) HV.nil HV.nil HV.nil HV.nil HV.nil HV.nil HV.nil) (fun c0 c1 c2 c3 c4 c5 c6 c7 c8 c9 c10 c11 c12 c13 c14 c15=>.nd c0 c1 c2 c3 c4 c5 c6 c7 (f c8) c9 c10 c11 c12 c13 c14 c15) t)
  (fun f t=>H1.rec (motive:=fun _=>H1) (.nd HV.nil HV.nil HV.nil HV.nil HV.nil HV.nil HV.nil HV.nil HV.nil (f HV.nil) HV.nil HV.nil HV.nil HV.nil HV.nil HV.nil) (fun c0 c1 c2 c3 c4 c5 c6 c7 c8 c9 c10 c11 c12 c13 c14 c15=>.nd c0 c1 c2 c3 c4 c5 c6 c7 c8 (f c9) c10 c11 c12 c13 c14 c15) t)
  (fun f t=>H1.rec (motive:=fun _=>H1) (.nd HV.nil HV.nil HV.nil HV.nil HV.nil HV.nil HV.nil HV.nil HV.nil HV.nil (f HV.nil) HV.nil HV.nil HV.nil HV.nil HV.nil) (fun c0 c1 c2 c3 c4 c5 c6 c7 c8 c9 c10 c11 c12 c13 c14 c15=>.nd c0 c1 c2 c3 c4 c5 c6 c7 c8 c9 (f c10) c11 c12 c13 c14 c15) t)
  (fun f t=>H1.rec (motive:=fun _=>H1) (.nd HV.nil HV.nil HV.nil HV.nil HV.nil HV.nil HV.nil HV.nil HV.nil HV.nil HV.nil (f HV.nil) HV.nil HV.nil HV.nil HV.nil) (fun c0 c1 c2 c3 c4 c5 c6 c7 c8 c9 c10 c11 c12 c13 c14 c15=>.nd c0 c1 c2 c3 c4 c5 c6 c7 c8 c9 c10 (f c11) c12 c13 c14 c15) t)
  (fun f t=>H1.rec (motive:=fun _=>H1) (.nd HV.nil HV.nil HV.nil HV.nil HV.nil HV.nil HV.nil HV.nil HV.nil HV.nil HV.nil HV.nil (f HV.nil) HV.nil HV.nil HV.nil) (fun c0 c1 c2 c3 c4 c5 c6 c7 c8 c9 c10 c11 c12 c13 c14 c15=>.nd c0 c1 c2 c3 c4 c5 c6 c7 c8 c9 c10 c11 (f c12) c13 c14 c15) t)
  (fun f t=>H1.rec (motive:=fun _=>H1) (.nd HV.nil HV.nil HV.nil HV.nil HV.nil HV.nil HV.nil HV.nil HV.nil HV.nil HV.nil HV.nil HV.nil (f HV.nil) HV.nil HV.nil) (fun c0 c1 c2 c3 c4 c5 c6 c7 c8 c9 c10 c11 c12 c13 c14 c15=>.nd c0 c1 c2 c3 c4 c5 c6 c7 c8 c9 c10 c11 c12 (f c13) c14 c15) t)
  (fun f t=>H1.rec (motive:=fun _=>H1) (.nd HV.nil HV.nil HV.nil HV.nil HV.nil HV.nil HV.nil HV.nil HV.nil HV.nil HV.nil HV.nil HV.nil HV.nil (f HV.nil) HV.nil) (fun c0 c1 c2 c3 c4 c5 c6 c7 c8 c9 c10 c11 c12 c13 c14 c15=>.nd c0 c1 c2 c3 c4 c5 c6 c7 c8 c9 c10 c11 c12 c13 (f c14) c15) t)
  (fun f t=>H1.rec (motive:=fun _=>H1) (.nd HV.nil HV.nil HV.nil HV.nil HV.nil HV.nil HV.nil HV.nil HV.nil HV.nil HV.nil HV.nil HV.nil HV.nil HV.nil (f HV.nil)) (fun c0 c1 c2 c3 c4 c5 c6 c7 c8 c9 c10 c11 c12 c13 c14 c15=>.nd c0 c1 c2 c3 c4 c5 c6 c7 c8 c9 c10 c11 c12 c13 c14 (f c15)) t) d f t
inductive H2 where
 | nil
 | nd (c0 c1 c2 c3 c4 c5 c6 c7 c8 c9 c10 c11 c12 c13 c14 c15:H1)
def H2.get (d:Dg) (t:H2):H1:=
 Dg.rec (motive:=fun _=>H2→H1)
  (fun t=>H2.rec (motive:=fun _=>H1) H1.nil (fun c0 _ _ _ _ _ _ _ _ _ _ _ _ _ _ _=>c0) t)
  (fun t=>H2.rec (motive:=fun _=>H1) H1.nil (fun _ c1 _ _ _ _ _ _ _ _ _ _ _ _ _ _=>c1) t)
  (fun t=>H2.rec (motive:=fun _=>H1) H1.nil (fun _ _ c2 _ _ _ _ _ _ _ _ _ _ _ _ _=>c2) t)
  (fun t=>H2.rec (motive:=fun _=>H1) H1.nil (fun _ _ _ c3 _ _ _ _ _ _ _ _ _ _ _ _=>c3) t)
  (fun t=>H2.rec (motive:=fun _=>H1) H1.nil (fun _ _ _ _ c4 _ _ _ _ _ _ _ _ _ _ _=>c4) t)
  (fun t=>H2.rec (motive:=fun _=>H1) H1.nil (fun _ _ _ _ _ c5 _ _ _ _ _ _ _ _ _ _=>c5) t)
  (fun t=>H2.rec (motive:=fun _=>H1) H1.nil (fun _ _ _ _ _ _ c6 _ _ _ _ _ _ _ _ _=>c6) t)
  (fun t=>H2.rec (motive:=fun _=>H1) H1.nil (fun _ _ _ _ _ _ _ c7 _ _ _ _ _ _ _ _=>c7) t)
  (fun t=>H2.rec (motive:=fun _=>H1) H1.nil (fun _ _ _ _ _ _ _ _ c8 _ _ _ _ _ _ _=>c8) t)
  (fun t=>H2.rec (motive:=fun _=>H1) H1.nil (fun _ _ _ _ _ _ _ _ _ c9 _ _ _ _ _ _=>c9) t)
  (fun t=>H2.rec (motive:=fun _=>H1) H1.nil (fun _ _ _ _ _ _ _ _ _ _ c10 _ _ _ _ _=>c10) t)
  (fun t=>H2.rec (motive:=fun _=>H1) H1.nil (fun _ _ _ _ _ _ _ _ _ _ _ c11 _ _ _ _=>c11) t)
  (fun t=>H2.rec (motive:=fun _=>H1) H1.nil (fun _ _ _ _ _ _ _ _ _ _ _ _ c12 _ _ _=>c12) t)
  (fun t=>H2.rec (motive:=fun _=>H1) H1.nil (fun _ _ _ _ _ _ _ _ _ _ _ _ _ c13 _ _=>c13) t)
  (fun t=>H2.rec (motive:=fun _=>H1) H1.nil (fun _ _ _ _ _ _ _ _ _ _ _ _ _ _ c14 _=>c14) t)
  (fun t=>H2.rec (motive:=fun _=>H1) H1.nil (fun _ _ _ _ _ _ _ _ _ _ _ _ _ _ _ c15=>c15) t) d t
def H2.upd (f:H1→H1) (d:Dg) (t:H2):H2:=
 Dg.rec (motive:=fun _=>(H1→H1)→H2→H2)
  (fun f t=>H2.rec (motive:=fun _=>H2) (.nd (f H1.nil) H1.nil H1.nil H1.nil H1.nil H1.nil H1.nil H1.nil H1.nil H1.nil H1.nil H1.nil H1.nil H1.nil H1.nil H1.nil) (fun c0 c1 c2 c3 c4 c5 c6 c7 c8 c9 c10 c11 c12 c13 c14 c15=>.nd (f c0) c1 c2 c3 c4 c5 c6 c7 c8 c9 c10 c11 c12 c13 c14 c15) t)
  (fun f t=>H2.rec (motive:=fun _=>H2) (.nd H1.nil (f H1.nil) H1.nil H1.nil H1.nil H1.nil H1.nil H1.nil H1.nil H1.nil H1.nil H1.nil H1.nil H1.nil H1.nil H1.nil) (fun c0 c1 c2 c3 c4 c5 c6 c7 c8 c9 c10 c11 c12 c13 c14 c15=>.nd c0 (f c1) c2 c3 c4 c5 c6 c7 c8 c9 c10 c11 c12 c13 c14 c15) t)
  (fun f t=>H2.rec (motive:=fun _=>H2) (.nd H1.nil H1.nil (f H1.nil) H1.nil H1.nil H1.nil H1.nil H1.nil H1.nil H1.nil H1.nil H1.nil H1.nil H1.nil H1.nil H1.nil) (fun c0 c1 c2 c3 c4 c5 c6 c7 c8 c9 c10 c11 c12 c13 c14 c15=>.nd c0 c1 (f c2) c3 c4 c5 c6 c7 c8 c9 c10 c11 c12 c13 c14 c15) t)
  (fun f t=>H2.rec (motive:=fun _=>H2) (.nd H1.nil H1.nil H1.nil (f H1.nil) H1.nil H1.nil H1.nil H1.nil H1.nil H1.nil H1.nil H1.nil H1.nil H1.nil H1.nil H1.nil) (fun c0 c1 c2 c3 c4 c5 c6 c7 c8 c9 c10 c11 c12 c13 c14 c15=>.nd c0 c1 c2 (f c3) c4 c5 c6 c7 c8 c9 c10 c11 c12 c13 c14 c15) t)
  (fun f t=>H2.rec (motive:=fun _=>H2) (.nd H1.nil H1.nil H1.nil H1.nil (f H1.nil) H1.nil H1.nil H1.nil H1.nil H1.nil H1.nil H1.nil H1.nil H1.nil H1.nil H1.nil) (fun c0 c1 c2 c3 c4 c5 c6 c7 c8 c9 c10 c11 c12 c13 c14 c15=>.nd c0 c1 c2 c3 (f c4) c5 c6 c7 c8 c9 c10 c11 c12 c13 c14 c15) t)
  (fun f t=>H2.rec (motive:=fun _=>H2) (.nd H1.nil H1.nil H1.nil H1.nil H1.nil (f H1.nil) H1.nil H1.nil H1.nil H1.nil H1.nil H1.nil H1.nil H1.nil H1.nil H1.nil) (fun c0 c1 c2 c3 c4 c5 c6 c7 c8 c9 c10 c11 c12 c13 c14 c15=>.nd c0 c1 c2 c3 c4 (f c5) c6 c7 c8 c9 c10 c11 c12 c13 c14 c15) t)
  (fun f t=>H2.rec (motive:=fun _=>H2) (.nd H1.nil H1.nil H1.nil H1.nil H1.nil H1.nil (f H1.nil) H1.nil H1.nil H1.nil H1.nil H1.nil H1.nil H1.nil H1.nil H1.nil) (fun c0 c1 c2 c3 c4 c5 c6 c7 c8 c9 c10 c11 c12 c13 c14 c15=>.nd c0 c1 c2 c3 c4 c5 (f c6) c7 c8 c9 c10 c11 c12 c13 c14 c15) t)
  (fun f t=>H2.rec (motive:=fun _=>H2) (.nd H1.nil H1.nil H1.nil H1.nil H1.nil H1.nil H1.nil (f H1.nil) H1.nil H1.nil H1.nil H1.nil H1.nil H1.nil H1.nil H1.nil) (fun c0 c1 c2 c3 c4 c5 c6 c7 c8 c9 c10 c11 c12 c13 c14 c15=>.nd c0 c1 c2 c3 c4 c5 c6 (f c7) c8 c9 c10 c11 c12 c13 c14 c15) t)
  (fun f t=>H2.rec (motive:=fun _=>H2) (.nd H1.nil H1.nil H1.nil H1.nil H1.nil H1.nil H1.nil H1.nil (f H1.nil) H1.nil H1.nil H1.nil H1.nil H1.nil H1.nil H1.nil) (fun c0 c1 c2 c3 c4 c5 c6 c7 c8 c9 c10 c11 c12 c13 c14 c15=>.nd c0 c1 c2 c3 c4 c5 c6 c7 (f c8) c9 c10 c11 c12 c13 c14 c15) t)
  (fun f t=>H2.rec (motive:=fun _=>H2) (.nd H1.nil H1.nil H1.nil H1.nil H1.nil H1.nil H1.nil H1.nil H1.nil (f H1.nil) H1.nil H1.nil H1.nil H1.nil H1.nil H1.nil) (fun c0 c1 c2 c3 c4 c5 c6 c7 c8 c9 c10 c11 c12 c13 c14 c15=>.nd c0 c1 c2 c3 c4 c5 c6 c7 c8 (f c9) c10 c11 c12 c13 c14 c15) t)
  (fun f t=>H2.rec (motive:=fun _=>H2) (.nd H1.nil H1.nil H1.nil H1.nil H1.nil H1.nil H1.nil H1.nil H1.nil H1.nil (f H1.nil) H1.nil H1.nil H1.nil H1.nil H1.nil) (fun c0 c1 c2 c3 c4 c5 c6 c7 c8 c9 c10 c11 c12 c13 c14 c15=>.nd c0 c1 c2 c3 c4 c5 c6 c7 c8 c9 (f c10) c11 c12 c13 c14 c15) t)
  (fun f t=>H2.rec (motive:=fun _=>H2) (.nd H1.nil H1.nil H1.nil H1.nil H1.nil H1.nil H1.nil H1.nil H1.nil H1.nil H1.nil (f H1.nil) H1.nil H1.nil H1.nil H1.nil) (fun c0 c1 c2 c3 c4 c5 c6 c7 c8 c9 c10 c11 c12 c13 c14 c15=>.nd c0 c1 c2 c3 c4 c5 c6 c7 c8 c9 c10 (f c11) c12 c13 c14 c15) t)
  (fun f t=>H2.rec (motive:=fun _=>H2) (.nd H1.nil H1.nil H1.nil H1.nil H1.nil H1.nil H1.nil H1.nil H1.nil H1.nil H1.nil H1.nil (f H1.nil) H1.nil H1.nil H1.nil) (fun c0 c1 c2 c3 c4 c5 c6 c7 c8 c9 c10 c11 c12 c13 c14 c15=>.nd c0 c1 c2 c3 c4 c5 c6 c7 c8 c9 c10 c11 (f c12) c13 c14 c15) t)
  (fun f t=>H2.rec (motive:=fun _=>H2) (.nd H1.nil H1.nil H1.nil H1.nil H1.nil H1.nil H1.nil H1.nil H1.nil H1.nil H1.nil H1.nil H1.nil (f H1.nil) H1.nil H1.nil) (fun c0 c1 c2 c3 c4 c5 c6 c7 c8 c9 c10 c11 c12 c13 c14 c15=>.nd c0 c1 c2 c3 c4 c5 c6 c7 c8 c9 c10 c11 c12 (f c13) c14 c15) t)
  (fun f t=>H2.rec (motive:=fun _=>H2) (.nd H1.nil H1.nil H1.nil H1.nil H1.nil H1.nil H1.nil H1.nil H1.nil H1.nil H1.nil H1.nil H1.nil H1.nil (f H1.nil) H1.nil) (fun c0 c1 c2 c3 c4 c5 c6 c7 c8 c9 c10 c11 c12 c13 c14 c15=>.nd c0 c1 c2 c3 c4 c5 c6 c7 c8 c9 c10 c11 c12 c13 (f c14) c15) t)
  (fun f t=>H2.rec (motive:=fun _=>H2) (.nd H1.nil H1.nil H1.nil H1.nil H1.nil H1.nil H1.nil H1.nil H1.nil H1.nil H1.nil H1.nil H1.nil H1.nil H1.nil (f H1.nil)) (fun c0 c1 c2 c3 c4 c5 c6 c7 c8 c9 c10 c11 c12 c13 c14 c15=>.nd c0 c1 c2 c3 c4 c5 c6 c7 c8 c9 c10 c11 c12 c13 c14 (f c15)) t) d f t
inductive H3 where
 | nil
 | nd (c0 c1 c2 c3 c4 c5 c6 c7 c8 c9 c10 c11 c12 c13 c14 c15:H2)
def H3.get (d:Dg) (t:H3):H2:=
 Dg.rec (motive:=fun _=>H3→H2)
  (fun t=>H3.rec (motive:=fun _=>H2) H2.nil (fun c0 _ _ _ _ _ _ _ _ _ _ _ _ _ _ _=>c0) t)
  (fun t=>H3.rec (motive:=fun _=>H2) H2.nil (fun _ c1 _ _ _ _ _ _ _ _ _ _ _ _ _ _=>c1) t)
  (fun t=>H3.rec (motive:=fun _=>H2) H2.nil (fun _ _ c2 _ _ _ _ _ _ _ _ _ _ _ _ _=>c2) t)
  (fun t=>H3.rec (motive:=fun _=>H2) H2.nil (fun _ _ _ c3 _ _ _ _ _ _ _ _ _ _ _ _=>c3) t)
  (fun t=>H3.rec (motive:=fun _=>H2) H2.nil (fun _ _ _ _ c4 _ _ _ _ _ _ _ _ _ _ _=>c4) t)
  (fun t=>H3.rec (motive:=fun _=>H2) H2.nil (fun _ _ _ _ _ c5 _ _ _ _ _ _ _ _ _ _=>c5) t)
  (fun t=>H3.rec (motive:=fun _=>H2) H2.nil (fun _ _ _ _ _ _ c6 _ _ _ _ _ _ _ _ _=>c6) t)
  (fun t=>H3.rec (motive:=fun _=>H2) H2.nil (fun _ _ _ _ _ _ _ c7 _ _ _ _ _ _ _ _=>c7) t)
  (fun t=>H3.rec (motive:=fun _=>H2) H2.nil (fun _ _ _ _ _ _ _ _ c8 _ _ _ _ _ _ _=>c8) t)
  (fun t=>H3.rec (motive:=fun _=>H2) H2.nil (fun _ _ _ _ _ _ _ _ _ c9 _ _ _ _ _ _=>c9) t)
  (fun t=>H3.rec (motive:=fun _=>H2) H2.nil (fun _ _ _ _ _ _ _ _ _ _ c10 _ _ _ _ _=>c10) t)
  (fun t=>H3.rec (motive:=fun _=>H2) H2.nil (fun _ _ _ _ _ _ _ _ _ _ _ c11 _ _ _ _=>c11) t)
  (fun t=>H3.rec (motive:=fun _=>H2) H2.nil (fun _ _ _ _ _ _ _ _ _ _ _ _ c12 _ _ _=>c12) t)
  (fun t=>H3.rec (motive:=fun _=>H2) H2.nil (fun _ _ _ _ _ _ _ _ _ _ _ _ _ c13 _ _=>c13) t)
  (fun t=>H3.rec (motive:=fun _=>H2) H2.nil (fun _ _ _ _ _ _ _ _ _ _ _ _ _ _ c14 _=>c14) t)
  (fun t=>H3.rec (motive:=fun _=>H2) H2.nil (fun _ _ _ _ _ _ _ _ _ _ _ _ _ _ _ c15=>c15) t) d t
def H3.upd (f:H2→H2) (d:Dg) (t:H3):H3:=
 Dg.rec (motive:=fun _=>(H2→H2)→H3→H3)
  (fun f t=>H3.rec (motive:=fun _=>H3) (.nd (f H2.nil) H2.nil H2.nil H2.nil H2.nil H2.nil H2.nil H2.nil H2.nil H2.nil H2.nil H2.nil H2.nil H2.nil H2.nil H2.nil) (fun c0 c1 c2 c3 c4 c5 c6 c7 c8 c9 c10 c11 c12 c13 c14 c15=>.nd (f c0) c1 c2 c3 c4 c5 c6 c7 c8 c9 c10 c11 c12 c13 c14 c15) t)
  (fun f t=>H3.rec (motive:=fun _=>H3) (.nd H2.nil (f H2.nil) H2.nil H2.nil H2.nil H2.nil H2.nil H2.nil H2.nil H2.nil H2.nil H2.nil H2.nil H2.nil H2.nil H2.nil) (fun c0 c1 c2 c3 c4 c5 c6 c7 c8 c9 c10 c11 c12 c13 c14 c15=>.nd c0 (f c1) c2 c3 c4 c5 c6 c7 c8 c9 c10 c11 c12 c13 c14 c15) t)
  (fun f t=>H3.rec (motive:=fun _=>H3) (.nd H2.nil H2.nil (f H2.nil) H2.nil H2.nil H2.nil H2.nil H2.nil H2.nil H2.nil H2.nil H2.nil H2.nil H2.nil H2.nil H2.nil) (fun c0 c1 c2 c3 c4 c5 c6 c7 c8 c9 c10 c11 c12 c13 c14 c15=>.nd c0 c1 (f c2) c3 c4 c5 c6 c7 c8 c9 c10 c11 c12 c13 c14 c15) t)
  (fun f t=>H3.rec (motive:=fun _=>H3) (.nd H2.nil H2.nil H2.nil (f H2.nil) H2.nil H2.nil H2.nil H2.nil H2.nil H2.nil H2.nil H2.nil H2.nil H2.nil H2.nil H2.nil) (fun c0 c1 c2 c3 c4 c5 c6 c7 c8 c9 c10 c11 c12 c13 c14 c15=>.nd c0 c1 c2 (f c3) c4 c5 c6 c7 c8 c9 c10 c11 c12 c13 c14 c15) t)
  (fun f t=>H3.rec (motive:=fun _=>H3) (.nd H2.nil H2.nil H2.nil H2.nil (f H2.nil) H2.nil H2.nil H2.nil H2.nil H2.nil H2.nil H2.nil H2.nil H2.nil H2.nil H2.nil) (fun c0 c1 c2 c3 c4 c5 c6 c7 c8 c9 c10 c11 c12 c13 c14 c15=>.nd c0 c1 c2 c3 (f c4) c5 c6 c7 c8 c9 c10 c11 c12 c13 c14 c15) t)
  (fun f t=>H3.rec (motive:=fun _=>H3) (.nd H2.nil H2.nil H2.nil H2.nil H2.nil (f H2.nil) H2.nil H2.nil H2.nil H2.nil H2.nil H2.nil H2.nil H2.nil H2.nil H2.nil) (fun c0 c1 c2 c3 c4 c5 c6 c7 c8 c9 c10 c11 c12 c13 c14 c15=>.nd c0 c1 c2 c3 c4 (f c5) c6 c7 c8 c9 c10 c11 c12 c13 c14 c15) t)
  (fun f t=>H3.rec (motive:=fun _=>H3) (.nd H2.nil H2.nil H2.nil H2.nil H2.nil H2.nil (f H2.nil) H2.nil H2.nil H2.nil H2.nil H2.nil H2.nil H2.nil H2.nil H2.nil) (fun c0 c1 c2 c3 c4 c5 c6 c7 c8 c9 c10 c11 c12 c13 c14 c15=>.nd c0 c1 c2 c3 c4 c5 (f c6) c7 c8 c9 c10 c11 c12 c13 c14 c15) t)
  (fun f t=>H3.rec (motive:=fun _=>H3) (.nd H2.nil H2.nil H2.nil H2.nil H2.nil H2.nil H2.nil (f H2.nil) H2.nil H2.nil H2.nil H2.nil H2.nil H2.nil H2.nil H2.nil) (fun c0 c1 c2 c3 c4 c5 c6 c7 c8 c9 c10 c11 c12 c13 c14 c15=>.nd c0 c1 c2 c3 c4 c5 c6 (f c7) c8 c9 c10 c11 c12 c13 c14 c15) t)
  (fun f t=>H3.rec (motive:=fun _=>H3) (.nd H2.nil H2.nil H2.nil H2.nil H2.nil H2.nil H2.nil H2.nil (f H2.nil) H2.nil H2.nil H2.nil H2.nil H2.nil H2.nil H2.nil) (fun c0 c1 c2 c3 c4 c5 c6 c7 c8 c9 c10 c11 c12 c13 c14 c15=>.nd c0 c1 c2 c3 c4 c5 c6 c7 (f c8) c9 c10 c11 c12 c13 c14 c15) t)
  (fun f t=>H3.rec (motive:=fun _=>H3) (.nd H2.nil H2.nil H2.nil H2.nil H2.nil H2.nil H2.nil H2.nil H2.nil (f H2.nil) H2.nil H2.nil H2.nil H2.nil H2.nil H2.nil) (fun c0 c1 c2 c3 c4 c5 c6 c7 c8 c9 c10 c11 c12 c13 c14 c15=>.nd c0 c1 c2 c3 c4 c5 c6 c7 c8 (f c9) c10 c11 c12 c13 c14 c15) t)
  (fun f t=>H3.rec (motive:=fun _=>H3) (.nd H2.nil H2.nil H2.nil H2.nil H2.nil H2.nil H2.nil H2.nil H2.nil H2.nil (f H2.nil) H2.nil H2.nil H2.nil H2.nil H2.nil) (fun c0 c1 c2 c3 c4 c5 c6 c7 c8 c9 c10 c11 c12 c13 c14 c15=>.nd c0 c1 c2 c3 c4 c5 c6 c7 c8 c9 (f c10) c11 c12 c13 c14 c15) t)
  (fun f t=>H3.rec (motive:=fun _=>H3) (.nd H2.nil H2.nil H2.nil H2.nil H2.nil H2.nil H2.nil H2.nil H2.nil H2.nil H2.nil (f H2.nil) H2.nil H2.nil H2.nil H2.nil) (fun c0 c1 c2 c3 c4 c5 c6 c7 c8 c9 c10 c11 c12 c13 c14 c15=>.nd c0 c1 c2 c3 c4 c5 c6 c7 c8 c9 c10 (f c11) c12 c13 c14 c15) t)
  (fun f t=>H3.rec (motive:=fun _=>H3) (.nd H2.nil H2.nil H2.nil H2.nil H2.nil H2.nil H2.nil H2.nil H2.nil H2.nil H2.nil H2.nil (f H2.nil) H2.nil H2.nil H2.nil) (fun c0 c1 c2 c3 c4 c5 c6 c7 c8 c9 c10 c11 c12 c13 c14 c15=>.nd c0 c1 c2 c3 c4 c5 c6 c7 c8 c9 c10 c11 (f c12) c13 c14 c15) t)
  (fun f t=>H3.rec (motive:=fun _=>H3) (.nd H2.nil H2.nil H2.nil H2.nil H2.nil H2.nil H2.nil H2.nil H2.nil H2.nil H2.nil H2.nil H2.nil (f H2.nil) H2.nil H2.nil) (fun c0 c1 c2 c3 c4 c5 c6 c7 c8 c9 c10 c11 c12 c13 c14 c15=>.nd c0 c1 c2 c3 c4 c5 c6 c7 c8 c9 c10 c11 c12 (f c13) c14 c15) t)
  (fun f t=>H3.rec (motive:=fun _=>H3) (.nd H2.nil H2.nil H2.nil H2.nil H2.nil H2.nil H2.nil H2.nil H2.nil H2.nil H2.nil H2.nil H2.nil H2.nil (f H2.nil) H2.nil) (fun c0 c1 c2 c3 c4 c5 c6 c7 c8 c9 c10 c11 c12 c13 c14 c15=>.nd c0 c1 c2 c3 c4 c5 c6 c7 c8 c9 c10 c11 c12 c13 (f c14) c15) t)
  (fun f t=>H3.rec (motive:=fun _=>H3) (.nd H2.nil H2.nil H2.nil H2.nil H2.nil H2.nil H2.nil H2.nil H2.nil H2.nil H2.nil H2.nil H2.nil H2.nil H2.nil (f H2.nil)) (fun c0 c1 c2 c3 c4 c5 c6 c7 c8 c9 c10 c11 c12 c13 c14 c15=>.nd c0 c1 c2 c3 c4 c5 c6 c7 c8 c9 c10 c11 c12 c13 c14 (f c15)) t) d f t
end
inductive Tm where
 | mk (s:LV) (w:L1)
def Tm.nil:Tm:=.mk .nil .nil
abbrev Heap:=H3
noncomputable section
def qf (p:Loc) (t:Tm):CV:=
 Loc.rec (motive:=fun _=>Tm→CV) (fun d t=>Tm.rec (motive:=fun _=>CV) (fun s _=>LV.get d s) t) (fun c d t=>Tm.rec (motive:=fun _=>CV) (fun _ w=>LV.get d (L1.get c w)) t) p t
def k8 (v:CV) (p:Loc) (t:Tm):Tm:=
 Loc.rec (motive:=fun _=>CV→Tm→Tm) (fun d v t=>Tm.rec (motive:=fun _=>Tm) (fun s w=>.mk (LV.upd (fun _=>v) d s) w) t)
  (fun c d v t=>Tm.rec (motive:=fun _=>Tm) (fun s w=>.mk s (L1.upd (LV.upd (fun _=>v) d) c w)) t) p v t
def getH (k:Key) (h:Heap):Option CObj:=Key.rec (motive:=fun _=>Heap→Option CObj) (fun a b c d t=>((H3.get a t |>.get b).get c).get d) k h
def yl (o:Option CObj) (k:Key) (h:Heap):Heap:=
 Key.rec (motive:=fun _=>Option CObj→Heap→Heap) (fun a b c d o h=>H3.upd (H2.upd (H1.upd (HV.upd (fun _=>o) d) c) b) a h) k o h
end
def yu {α β:Type} (f:α→Option β):List α→Option (List β)
 | []=>some []
 | x::xs=>match f x with
  | none=>none
  | some y=>match yu f xs with
   | none=>none
   | some ys=>some (y::ys)
def zk (s:ByteArray):List Nat:=s.data.toList.map UInt8.toNat
def uN:Nat→Value→Option CV
 | 0,_=>none
 | d+1,v=>match v with
  | .bool b=>some (.bool b)
  | .int k n=>some (match k,n with | .i64,.ofNat m=>.nat m | k,n=>.int k n)
  | .string s=>some (.str (zk s))
  | .pointer none=>some .nilptr
  | .slice none 0 0=>some .nilsl
  | .map none=>some .nilmap
  | .nilFunc=>some .nilfunc
  | .func fn a b=>if a.size=0∧b.size=0 then some (.func fn [] []) else none
  | .nilIface=>some .niliface
  | .iface t v=>(uN d v).map (.iface t)
  | .agg cs=>(yu (uN d) cs.toList).map .agg
  | .tuple cs=>(yu (uN d) cs.toList).map .tup
  | _=>none
def CV.cells:CV→List CV
 | .agg cs=>cs
 | v=>[v]
def CV.single:CV→Bool
 | .agg _=>false
 | .tup _=>false
 | .any=>false
 | _=>true
noncomputable section
def xE (l:List CV):Bool:=List.rec (motive:=fun _=>Bool) true (fun v _ ih=>Bool.rec (motive:=fun _=>Bool) false ih v.single) l
def vM (l:List CV):Nat:=List.rec (motive:=fun _=>Nat) 0 (fun _ _ ih=>Nat.succ ih) l
def zBS (l:List Nat):Nat:=List.rec (motive:=fun _=>Nat) 0 (fun _ _ ih=>Nat.succ ih) l
def zNg (l:List CE):Nat:=List.rec (motive:=fun _=>Nat) 0 (fun _ _ ih=>Nat.succ ih) l
end
def nth {α:Type}:List α→Nat→Option α
 | [],_=>none
 | x::_,0=>some x
 | _::xs,k+1=>nth xs k
noncomputable section
def zCm (l:List CV) (k:Nat):Option CV:=
 List.rec (motive:=fun _=>Nat→Option CV) (fun _=>none) (fun x _ ih k=>Nat.rec (motive:=fun _=>Option CV) (some x) (fun k _=>ih k) k) l k
def zR2 (l:List Nat) (k:Nat):Option Nat:=
 List.rec (motive:=fun _=>Nat→Option Nat) (fun _=>none) (fun x _ ih k=>Nat.rec (motive:=fun _=>Option Nat) (some x) (fun k _=>ih k) k) l k
def zLw (l:List CV) (k:Nat):List CV:=
 List.rec (motive:=fun _=>Nat→List CV) (fun _=>[]) (fun x xs ih k=>Nat.rec (motive:=fun _=>List CV) (x::xs) (fun k _=>ih k) k) l k
def zL2 (l:List Nat) (k:Nat):List Nat:=
 List.rec (motive:=fun _=>Nat→List Nat) (fun _=>[]) (fun x xs ih k=>Nat.rec (motive:=fun _=>List Nat) (x::xs) (fun k _=>ih k) k) l k
def zGY (x:CV) (r:Option (List CV)):Option (List CV):=Option.rec (motive:=fun _=>CV→Option (List CV)) (fun _=>none) (fun l x=>some (x::l)) r x
def zLK (x:Nat) (r:Option (List Nat)):Option (List Nat):=Option.rec (motive:=fun _=>Nat→Option (List Nat)) (fun _=>none) (fun l x=>some (x::l)) r x
def zJj (l:List CV) (k:Nat):Option (List CV):=
 List.rec (motive:=fun _=>Nat→Option (List CV)) (fun k=>Nat.rec (motive:=fun _=>Option (List CV)) (some []) (fun _ _=>none) k)
  (fun x _ ih k=>Nat.rec (motive:=fun _=>Option (List CV)) (some []) (fun k _=>zGY x (ih k)) k) l k
def zI3 (l:List Nat) (k:Nat):Option (List Nat):=
 List.rec (motive:=fun _=>Nat→Option (List Nat)) (fun k=>Nat.rec (motive:=fun _=>Option (List Nat)) (some []) (fun _ _=>none) k)
  (fun x _ ih k=>Nat.rec (motive:=fun _=>Option (List Nat)) (some []) (fun k _=>zLK x (ih k)) k) l k
def uS (l:List CV) (off n:Nat):Option (List CV):=zJj (zLw l off) n
def zSf (l:List Nat) (off n:Nat):Option (List Nat):=zI3 (zL2 l off) n
def zDm (xs:List CV) (s:Nat) (l:List CV):Option (List CV):=
 List.rec (motive:=fun _=>Nat→List CV→Option (List CV)) (fun s l=>Nat.rec (motive:=fun _=>Option (List CV)) (some l) (fun _ _=>none) s)
  (fun x _ ih s l=>Nat.rec (motive:=fun _=>Option (List CV)) none (fun s _=>List.rec (motive:=fun _=>Option (List CV)) none (fun _ l _=>zGY x (ih s l)) l) s) xs s l
def qz (xs:List CV) (s:Nat) (l:List CV) (k:Nat):Option (List CV):=
 List.rec (motive:=fun _=>Nat→List CV→Nat→Option (List CV)) (fun k xs s=>Nat.rec (motive:=fun _=>Option (List CV)) (zDm xs s []) (fun _ _=>none) k)
  (fun y l ih k xs s=>Nat.rec (motive:=fun _=>Option (List CV)) (zDm xs s (y::l)) (fun k _=>zGY y (ih k xs s)) k) l k xs s
end
def kR (x:List CV):Nat→List CV
 | 0=>[]
 | n+1=>x++kR x n
noncomputable section
def vK {β:Type} (n:Nat) (k:Nat→β):β:=Nat.rec (motive:=fun _=>(Nat→β)→β) (fun k=>k 0) (fun m _ k=>k (Nat.succ m)) n k
def kP (n:Nat):CV:=Nat.rec (motive:=fun _=>CV) (.nat 0) (fun m _=>.nat (Nat.succ m)) n
def jH (k:IntKind) (n:Nat):CV:=IntKind.rec (motive:=fun _=>Nat→CV) (fun n=>.int .i8 (.ofNat n)) (fun n=>.int .i16 (.ofNat n)) (fun n=>.int .i32 (.ofNat n)) kP
 (fun n=>.int .u8 (.ofNat n)) (fun n=>.int .u16 (.ofNat n)) (fun n=>.int .u32 (.ofNat n)) (fun n=>.int .u64 (.ofNat n)) k n
def zU (k:IntKind) (n:Int):CV:=
 Int.rec (motive:=fun _=>IntKind→CV) (fun m k=>Nat.rec (motive:=fun _=>CV) (jH k 0) (fun m _=>jH k (Nat.succ m)) m)
  (fun m k=>Nat.rec (motive:=fun _=>CV) (.int k (.negSucc 0)) (fun m _=>.int k (.negSucc (Nat.succ m))) m) n k
def kNo (k:IntKind):Nat:=IntKind.rec (motive:=fun _=>Nat) 0 1 2 3 4 5 6 7 k
def kEq (j k:IntKind):Bool:=Nat.beq (kNo j) (kNo k)
def zMt (n:Int):Int:=
 Int.rec (motive:=fun _=>Int) (fun m=>Bool.rec (motive:=fun _=>Int) (IntKind.i64.wrap (.ofNat m)) (.ofNat m) (Nat.ble m 9223372036854775807))
  (fun m=>Bool.rec (motive:=fun _=>Int) (IntKind.i64.wrap (.negSucc m)) (.negSucc m) (Nat.ble m 9223372036854775807)) n
def zSi (n:Int):Int:=Int.rec (motive:=fun _=>Int) (fun m=>.ofNat (Nat.mod m 256)) (fun m=>IntKind.u8.wrap (.negSucc m)) n
def yZ (k:IntKind) (n:Int):Int:=
 IntKind.rec (motive:=fun _=>Int→Int) IntKind.i8.wrap IntKind.i16.wrap IntKind.i32.wrap zMt zSi IntKind.u16.wrap IntKind.u32.wrap IntKind.u64.wrap k n
def zx (a b:Int):Bool:=
 Int.rec (motive:=fun _=>Int→Bool) (fun a b=>Int.rec (motive:=fun _=>Bool) (fun b=>Nat.beq a b) (fun _=>false) b)
  (fun a b=>Int.rec (motive:=fun _=>Bool) (fun _=>false) (fun b=>Nat.beq a b) b) a b
def wE (a b:Int):Bool:=
 Int.rec (motive:=fun _=>Int→Bool) (fun a b=>Int.rec (motive:=fun _=>Bool) (fun b=>Nat.ble (Nat.succ a) b) (fun _=>false) b)
  (fun a b=>Int.rec (motive:=fun _=>Bool) (fun _=>true) (fun b=>Nat.ble (Nat.succ b) a) b) a b
def toU (k:IntKind) (n:Int):Nat:=match n with
 | .ofNat m=>Nat.mod m (Nat.pow 2 k.bits)
 | .negSucc m=>Nat.sub (Nat.sub (Nat.pow 2 k.bits) 1) (Nat.mod m (Nat.pow 2 k.bits))
def zBG (b:Bool):Bool:=Bool.rec (motive:=fun _=>Bool) true false b
abbrev AOp:=IntKind→Int→Int→Option CV
def zTM:AOp:=fun k a b=>some (zU k (yZ k (Int.add a b)))
def zTR:AOp:=fun k a b=>some (zU k (yZ k (Int.sub a b)))
def zTH:AOp:=fun k a b=>some (zU k (yZ k (Int.mul a b)))
def zTA:AOp:=fun k a b=>Bool.rec (motive:=fun _=>Option CV) (some (zU k (yZ k (a.tdiv b)))) none (zx b (.ofNat 0))
def zTI:AOp:=fun k a b=>Bool.rec (motive:=fun _=>Option CV) (some (zU k (a.tmod b))) none (zx b (.ofNat 0))
def zTv:AOp:=fun k a b=>some (zU k (yZ k (.ofNat (Nat.land (toU k a) (toU k b)))))
def aOr:AOp:=fun k a b=>some (zU k (yZ k (.ofNat (Nat.lor (toU k a) (toU k b)))))
def zR4:AOp:=fun k a b=>some (zU k (yZ k (.ofNat (Nat.xor (toU k a) (toU k b)))))
def zRt:AOp:=fun k a b=>some (zU k (yZ k (.ofNat (Nat.land (toU k a) (Nat.sub (Nat.sub (Nat.pow 2 k.bits) 1) (toU k b))))))
def zTT:AOp:=fun _ a b=>some (.bool (zx a b))
def zTW:AOp:=fun _ a b=>some (.bool (zBG (zx a b)))
def zTt:AOp:=fun _ a b=>some (.bool (wE a b))
def zTq:AOp:=fun _ a b=>some (.bool (zBG (wE b a)))
def zTl:AOp:=fun _ a b=>some (.bool (wE b a))
def zTQ:AOp:=fun _ a b=>some (.bool (zBG (wE a b)))
def zTs:AOp:=fun k a b=>match b with
 | .ofNat m=>some (zU k (yZ k (Int.mul a (.ofNat (Nat.pow 2 (min m k.bits))))))
 | .negSucc _=>none
def zTx:AOp:=fun k a b=>match b with
 | .ofNat m=>match a with
  | .ofNat a=>some (jH k (Nat.div a (Nat.pow 2 (min m k.bits))))
  | .negSucc a=>some (zU k ((Int.negSucc a).fdiv (.ofNat (Nat.pow 2 (min m k.bits)))))
 | .negSucc _=>none
def yO (op:BinOp):AOp:=
 BinOp.rec (motive:=fun _=>AOp) zTM zTR zTH zTA zTI zTv aOr zR4 zTs zTx zRt zTT zTW zTt zTq zTl zTQ op
def yn (op:BinOp):Bool:=match op with
 | .shl=>true
 | .shr=>true
 | _=>false
abbrev NOp:=Nat→Nat→Option CV
def okN (n:Nat):Option CV:=Bool.rec (motive:=fun _=>Option CV) none (some (kP n)) (Nat.ble n 9223372036854775807)
def zTP:NOp:=fun a b=>okN (Nat.add a b)
def zTC:NOp:=fun a b=>Bool.rec (motive:=fun _=>Option CV) none (Bool.rec (motive:=fun _=>Option CV) none (some (kP (Nat.sub a b))) (Nat.ble a 9223372036854775807)) (Nat.ble b a)
def zTU:NOp:=fun a b=>okN (Nat.mul a b)
def nNo:NOp:=fun _ _=>none
def zTr:NOp:=fun a b=>Bool.rec (motive:=fun _=>Option CV) none (Bool.rec (motive:=fun _=>Option CV) none (some (kP (Nat.land a b))) (Nat.ble b 9223372036854775807)) (Nat.ble a 9223372036854775807)
def zTp:NOp:=fun a b=>some (.bool (Nat.beq a b))
def zTE:NOp:=fun a b=>some (.bool (zBG (Nat.beq a b)))
def zTn:NOp:=fun a b=>some (.bool (Nat.ble (Nat.succ a) b))
def zTO:NOp:=fun a b=>some (.bool (Nat.ble a b))
def zTm:NOp:=fun a b=>some (.bool (Nat.ble (Nat.succ b) a))
def zTJ:NOp:=fun a b=>some (.bool (Nat.ble b a))
def zGh (op:BinOp):NOp:=BinOp.rec (motive:=fun _=>NOp) zTP zTC zTU nNo nNo zTr nNo nNo nNo nNo nNo zTp zTE zTn zTO zTm zTJ op
def um (a b:List Nat):Bool:=
 List.rec (motive:=fun _=>List Nat→Bool) (fun b=>List.rec (motive:=fun _=>Bool) false (fun _ _ _=>true) b)
  (fun x _ ih b=>List.rec (motive:=fun _=>Bool) false (fun y r _=>Bool.rec (motive:=fun _=>Bool) (Bool.rec (motive:=fun _=>Bool) false (ih r) (Nat.beq x y)) true (Nat.ble (Nat.succ x) y)) b) a b
def xq (a b:List Nat):Bool:=
 List.rec (motive:=fun _=>List Nat→Bool) (fun b=>List.rec (motive:=fun _=>Bool) true (fun _ _ _=>false) b)
  (fun x _ ih b=>List.rec (motive:=fun _=>Bool) false (fun y r _=>Bool.rec (motive:=fun _=>Bool) false (ih r) (Nat.beq x y)) b) a b
def zSw (a b:List Nat):List Nat:=List.rec (motive:=fun _=>List Nat) b (fun x _ ih=>x::ih) a
def zCs (a b:List CV):List CV:=List.rec (motive:=fun _=>List CV) b (fun x _ ih=>x::ih) a
abbrev SOp:=List Nat→List Nat→Option CV
def zTG:SOp:=fun a b=>Bool.rec (motive:=fun _=>Option CV) none (some (.str (zSw a b))) (Nat.ble (Nat.add (zBS a) (zBS b)) 1000000)
def zTY:SOp:=fun a b=>some (.bool (xq a b))
def zTB:SOp:=fun a b=>some (.bool (zBG (xq a b)))
def zTk:SOp:=fun a b=>some (.bool (um a b))
def zTw:SOp:=fun a b=>some (.bool (um a b || xq a b))
def zTz:SOp:=fun a b=>some (.bool (zBG (um a b || xq a b)))
def zTL:SOp:=fun a b=>some (.bool (zBG (um a b)))
def zFI:SOp:=fun _ _=>none
def zQi (op:BinOp):SOp:=BinOp.rec (motive:=fun _=>SOp) zTG zFI zFI zFI zFI zFI zFI zFI zFI zFI zFI zTY zTB zTk zTw zTz zTL op
end
inductive zP where
 | e (i:Nat)
 | l (p:Loc)
 | k (v:CV)
structure zHr where
 off:Nat
 size:Nat
 arg:zP
inductive EqK where
 | bool | pointer | iface | slice | map | func | int | str
 | struct (fs:List (Nat × EqK))
inductive ji where
 | int | str | bool
 | ints (n:Nat)
inductive Ext where
 | count | indexByte | index | mapsClone | overlaps | cmp
inductive COp where
 | mv (x:zP)
 | pick (c a b:zP)
 | alloc (cs:List CV)
 | box (x:zP)
 | build (zero:List CV) (ps:List zHr)
 | bslice (zero:List CV) (len esz:Nat) (ps:List zHr)
 | load1 (x:zP)
 | loadN (s:Nat) (x:zP)
 | store (s:Nat) (a x:zP)
 | nilck (x:zP)
 | arith (op:BinOp) (x y:zP)
 | eq (neg:Bool) (k:EqK) (cst:Bool) (x y:zP)
 | un (op:UnOp) (x:zP)
 | cvInt (k:IntKind) (x:zP)
 | cvStr (x:zP)
 | cvSB (x:zP)
 | cvMark (x:zP)
 | cvBS (x:zP)
 | iface (t:TypeId) (x:zP)
 | mkfn (fn:Fn) (first captured:List zP)
 | mkmap
 | mkslice (zero:List CV) (esz bytes:Nat) (l c:zP)
 | slArr (len esz:Nat) (x:zP) (lo hi mx:Option zP)
 | slSl (esz:Nat) (x:zP) (lo hi mx:Option zP)
 | slStr (x:zP) (lo hi:Option zP)
 | addOff (k:Nat) (x:zP)
 | part (agg:Bool) (off size:Nat) (x:zP)
 | ixArr (len esz:Nat) (x i:zP)
 | ixSl (esz:Nat) (x i:zP)
 | ixAgg (len esz:Nat) (agg:Bool) (x i:zP)
 | ixStr (x i:zP)
 | lookup (kk:ji) (z:CV) (ok:Bool) (x k:zP)
 | mapupd (kk:ji) (m k v:zP)
 | rangeStr (x:zP)
 | rangeMap (x:zP)
 | next (s:Bool) (x:zP)
 | entry (x:zP)
 | tassert (t:TypeId) (z:Option CV) (ok:Bool) (x:zP)
 | tiface (t:TypeId) (z:Option CV) (ok:Bool) (x:zP)
 | extract (i:Nat) (x:zP)
 | call (f:FuncId) (args:List zP)
 | ext (e:Ext) (args:List zP)
 | callv (f:zP) (args:List zP)
 | invoke (recv:zP) (name:String) (args:List zP)
 | append (esz bytes:Nat) (s x:zP)
 | appz (zero:List CV) (esz:Nat) (s x:zP)
 | copy (esz:Nat) (d x:zP)
 | lenStr (x:zP)
 | lenSl (x:zP)
 | lenMap (x:zP)
 | capSl (x:zP)
 | delete (kk:ji) (m k:zP)
 | clearMap (x:zP)
 | clearSl (zero:List CV) (esz:Nat) (x:zP)
 | minmax (mx:Bool) (x:zP) (r:List zP)
 | defer (f:zP) (args:List zP)
 | recov
 | bad (c:Nat)
inductive qO where
 | i (op:COp)
 | o (op:COp) (d:Loc)
 | g (x:zP) (w:Bool) (op:COp) (d:Option Loc)
structure zNC where
 ins:qO
 eff:Bool
 chk:Nat
inductive CCode where
 | skip
 | region (ops:List qO)
 | dregion (ops:List zNC)
 | seq (a b:CCode)
 | cond (x:zP) (a b:CCode)
 | block (id:Nat) (b:CCode)
 | loop (b:CCode)
 | exit (id:Nat)
 | ret
 | scope (b:CCode)
 | bad (c:Nat)
inductive CRes where
 | tmp (p:zP)
 | cell1 (p:zP)
 | cellN (p:zP) (s:Nat)
inductive CFn where
 | mk (body:CCode) (res:List CRes)
 | mkD (ops:List qO) (body:CCode) (res:List CRes)
 | ext (e:Ext)
 | bad (c:Nat)
section
variable (P:Program)
def und (t:TypeId):Option TypeDesc:=P.underlying t
def xi (t:TypeId):Option Nat:=(P.info? t).map (·.size)
def uC (t:TypeId):Option Nat:=(P.info? t).map (·.bytes)
def xw (t:TypeId):Option Bool:=match P.underlying t with
 | some (.struct _)=>some true
 | some (.array _ _)=>some true
 | some _=>some false
 | none=>none
def wC (t:TypeId):Option CV:=match (P.info? t).bind (·.zero) with
 | some v=>uN 20 v
 | none=>none
def cellsOf (v:CV):Option (List CV):=match v with
 | .agg cs=>some cs
 | .tup _=>none
 | .any=>none
 | v=>some [v]
def qt (t:TypeId):Option (List CV):=(wC P t).bind cellsOf
def jC (fs:List Field):Bool:=match fs with
 | []=>true
 | f::r=>(xi P f.type).isSome&&jC r
def xB (t:Nat):List (Option Nat)→Nat→Option Nat
 | [],_=>none
 | d::r,i=>match d with
  | some u=>match Nat.beq u t with
   | true=>some i
   | false=>xB t r (i+1)
  | none=>xB t r (i+1)
structure Env where
 F:Nat
 N:Nat
 ds:List (Option Nat)
def zo (F t:Nat):Bool:=Nat.beq (Nat.mod (Nat.shiftRight F t) 2) 1
def zf (E:Env):Operand→Option zP
 | .tmp t=>match xB t E.ds 0 with
  | some i=>some (.e i)
  | none=>match zo E.F t&&Nat.ble t 271&&Nat.ble (Nat.succ t) E.N with
   | true=>some (.l (Loc.ofNat t))
   | false=>none
 | .const v=>(uN 20 v).map .k
 | .global g=>match Nat.ble (Nat.succ g) P.globals.size&&Nat.ble g 4095 with
  | true=>some (.k (.ptr (Key.ofNat g) 0))
  | false=>none
 | .func f=>some (.k (.func (.func f) [] []))
variable (E:Env)
def yz (f:zP→COp) (x:Operand):COp:=match zf P E x with
 | some x=>f x
 | none=>.bad 1
def qo (f:zP→zP→COp) (x y:Operand):COp:=match zf P E x,zf P E y with
 | some x,some y=>f x y
 | _,_=>.bad 1
def vF (place:Nat→Option (Nat × Nat)) (l:List (Nat × Operand)):Option (List zHr):=
 yu (fun (i,x)=>match place i,zf P E x with
  | some (o,s),some x=>some ⟨o,s,x⟩
  | _,_=>none) l
def uo (fs:List Field) (i:Nat):Option (Nat × Nat):=match nth fs i with
 | none=>none
 | some f=>match xi P f.type with
  | none=>none
  | some s=>some (f.offset,s)
def ko:List Field→Option (List (Nat × EqK))
 | []=>some []
 | f::r=>if f.name == "_" then none else
  match ko r with
  | none=>none
  | some l=>match und P f.type with
   | some .bool=>some ((f.offset,.bool)::l)
   | some (.int _)=>some ((f.offset,.int)::l)
   | some .string=>some ((f.offset,.str)::l)
   | _=>none
def zHT (t:TypeId):Option EqK:=match und P t with
 | some .bool=>some .bool
 | some (.pointer _)=>some .pointer
 | some (.interface _)=>some .iface
 | some (.slice _)=>some .slice
 | some (.map _ _)=>some .map
 | some (.func _ _ _)=>some .func
 | some (.struct fs)=>if P.eqGuardType P.depth t || P.stoodInHeld t then none else (ko P fs.toList).map .struct
 | _=>none
def zFn:List Field→Nat→Bool
 | [],_=>true
 | f::r,i=>!(f.name == "_")&&Nat.beq f.offset i&&(match und P f.type with
  | some (.int _)=>true
  | _=>false)&&zFn r (i+1)
def xX (t:TypeId):Option ji:=match und P t with
 | some (.int _)=>some .int
 | some .string=>some .str
 | some .bool=>some .bool
 | some (.struct fs)=>if P.stoodInHeld t then none else if zFn P fs.toList 0 then some (.ints fs.size) else none
 | _=>none
def xp:Operand→Bool
 | .const _=>true
 | _=>false
def zMq (op:BinOp) (t:TypeId) (x y:Operand):COp:=match und P t with
 | some (.int _)=>qo P E (.arith op) x y
 | some .string=>qo P E (.arith op) x y
 | _=>match op,zHT P t with
  | .eql,some k=>qo P E (.eq false k (xp x || xp y)) x y
  | .neq,some k=>qo P E (.eq true k (xp x || xp y)) x y
  | _,_=>.bad 2
def zIV (s d:TypeId) (x:Operand):COp:=match und P s,und P d with
 | some (.int _),some (.int k)=>yz P E (.cvInt k) x
 | some .string,some .string=>yz P E .cvStr x
 | some .string,some (.slice e)=>match und P e with
  | some (.int .u8)=>yz P E .cvSB x
  | _=>.bad 3
 | some (.slice _),some (.slice e)=>match Nat.beq s d,und P e with
  | true,some (.int .u8)=>yz P E .cvMark x
  | _,_=>.bad 3
 | some (.slice e),some .string=>match und P e with
  | some (.int .u8)=>yz P E .cvBS x
  | _=>.bad 3
 | _,_=>.bad 3
def qM (l:List Operand):Option (List zP):=yu (zf P E) l
def xu (b:Builtin) (ts:List TypeId) (args:List Operand):COp:=match b,ts,args with
 | .append,t::u::_,[s,x]=>match und P t,und P u with
  | some (.slice e),some ud=>match ud with
   | .int _=>match xi P e,uC P e,qt P e with
    | some (sz+1),some b,some z=>if Nat.ble b 100000&&Nat.beq z.length (sz+1) then qo P E (.appz z (sz+1)) s x else .bad 4
    | _,_,_=>.bad 4
   | _=>match xi P e,uC P e,qt P e with
    | some (sz+1),some b,some z=>if Nat.ble b 100000&&Nat.beq z.length (sz+1) then qo P E (.append (sz+1) b) s x else .bad 4
    | _,_,_=>.bad 4
  | _,_=>.bad 4
 | .copy,t::_,[d,x]=>match und P t with
  | some (.slice e)=>match xi P e with
   | some s=>qo P E (.copy s) d x
   | none=>.bad 5
  | _=>.bad 5
 | .len,t::_,[x]=>match und P t with
  | some .string=>yz P E .lenStr x
  | some (.array k _)=>.mv (.k (.nat k))
  | some (.pointer a)=>match und P a with
   | some (.array k _)=>.mv (.k (.nat k))
   | _=>.bad 6
  | some (.slice _)=>yz P E .lenSl x
  | some (.map _ _)=>yz P E .lenMap x
  | _=>.bad 6
 | .cap,t::_,[x]=>match und P t with
  | some (.slice _)=>yz P E .capSl x
  | some (.array k _)=>.mv (.k (.nat k))
  | _=>.bad 7
 | .delete,t::_,[m,k]=>match und P t with
  | some (.map kt _)=>match xX P kt with
   | some kk=>qo P E (.delete kk) m k
   | none=>.bad 8
  | _=>.bad 8
 | .clear,t::_,[x]=>match und P t with
  | some (.map _ _)=>yz P E .clearMap x
  | some (.slice e)=>match qt P e,xi P e with
   | some z,some s=>yz P E (.clearSl z s) x
   | _,_=>.bad 9
  | _=>.bad 9
 | .min,_,x::r=>match zf P E x,qM P E r with
  | some x,some r=>.minmax false x r
  | _,_=>.bad 10
 | .max,_,x::r=>match zf P E x,qM P E r with
  | some x,some r=>.minmax true x r
  | _,_=>.bad 10
 | .recover,_,[]=>.recov
 | _,_,_=>.bad 11
def zTN (a b:String):String:=String.append (String.append a (String.singleton (Char.ofNat 47))) b
def zGw (s:String):String:=zTN "internal" s
def zJO (n:String):Bool:=(Extern.allNextRows.lookup n).isNone&&(Extern.allGenericRows.lookup n).isNone&&(Extern.allTypedRows.lookup n).isNone&&(Extern.allRows.lookup n).isNone
def zAE (fn:Func):Bool:=(!(fn.name == "runtime.NumGoroutine")&&zJO fn.name)&&match fn.params.toList with
 | t::_=>match und P t with
  | some (.slice e)=>(xi P e).isSome
  | _=>false
 | []=>false
def zCa (fn:Func):Option Ext:=
 if fn.origin == "" then
  if fn.name == zGw "bytealg.CountString" then some .count
  else if fn.name == zGw "bytealg.IndexByteString" then some .indexByte
  else if fn.name == zGw "bytealg.abigen_runtime_cmpstring" then some .cmp
  else if fn.name == "maps.clone" then some .mapsClone
  else none
 else if fn.origin == "slices.overlaps" && zAE P fn then some .overlaps
 else none
def zFh (c:Call):COp:=match c.callee with
 | .builtin b=>xu P E b c.argTypes.toList c.args.toList
 | .invoke r name=>match zf P E r,qM P E c.args.toList with
  | some r,some args=>.invoke r name args
  | _,_=>.bad 13
 | .value f=>match qM P E c.args.toList with
  | none=>.bad 12
  | some args=>match f with
   | .func f=>match nth P.funcs.toList f with
    | none=>.bad (10000+f)
    | some fn=>if fn.body.isSome then .call f args else match zCa P fn with
     | some e=>.ext e args
     | none=>.bad (10000+f)
   | f=>match zf P E f with
    | some f=>.callv f args
    | none=>.bad 14
def zI7 (y:Option Operand):Option (Option zP):=match y with
 | none=>some none
 | some y=>(zf P E y).map some
def zG3 (t:TypeId) (x:Operand) (lo hi mx:Option Operand):COp:=
 if mx.isSome&&hi.isNone then .bad 15 else match zf P E x,zI7 P E lo,zI7 P E hi,zI7 P E mx with
 | some x,some lo,some hi,some mx=>match und P t with
  | some (.array k e)=>match xi P e with
   | some (s+1)=>.slArr k (s+1) x lo hi mx
   | _=>.bad 15
  | some (.slice e)=>match xi P e with
   | some (s+1)=>.slSl (s+1) x lo hi mx
   | _=>.bad 15
  | some .string=>match mx with
   | none=>.slStr x lo hi
   | some _=>.bad 15
  | _=>.bad 15
 | _,_,_,_=>.bad 15
def zd (o:Op):COp:=match o with
 | .move x=>yz P E .mv x
 | .assign x=>yz P E .mv x
 | .pick c a b=>match zf P E c,zf P E a,zf P E b with
  | some c,some a,some b=>.pick c a b
  | _,_,_=>.bad 20
 | .alloc t=>match qt P t with
  | some z=>.alloc z
  | none=>.bad 21
 | .box _ x=>yz P E .box x
 | .build t ps=>match qt P t,und P t with
  | some z,some (.struct fs)=>if jC P fs.toList then
   match vF P E (uo P fs.toList) ps.toList with
   | some l=>.build z l
   | none=>.bad 22
   else .bad 22
  | some z,some (.array _ e)=>match xi P e with
   | none=>.bad 22
   | some s=>match vF P E (fun i=>some (i*s,s)) ps.toList with
    | some l=>.build z l
    | none=>.bad 22
  | _,_=>.bad 22
 | .buildSlice t len ps=>match und P t with
  | some (.slice e)=>match xi P e,qt P e with
   | some (s+1),some z=>if Nat.ble (len*(s+1)) 100000&&Nat.beq z.length (s+1) then
    match vF P E (fun i=>some (i*(s+1),s+1)) ps.toList with
    | some l=>.bslice (kR z len) len (s+1) l
    | none=>.bad 23
    else .bad 23
   | _,_=>.bad 23
  | _=>.bad 23
 | .load t a=>match xw P t,xi P t with
  | some true,some s=>yz P E (.loadN s) a
  | some false,some _=>yz P E .load1 a
  | _,_=>.bad 24
 | .store t a x=>match xi P t with
  | some s=>qo P E (.store s) a x
  | none=>.bad 25
 | .nilCheck x=>yz P E .nilck x
 | .binOp op t x y _=>zMq P E op t x y
 | .unOp op _ x=>yz P E (.un op) x
 | .convert s d x=>zIV P E s d x
 | .makeInterface t x=>match und P t with
  | some (.interface _)=>.bad 26
  | some _=>yz P E (.iface t) x
  | none=>.bad 26
 | .makeFunc fn a b=>match qM P E a.toList,qM P E b.toList with
  | some a,some b=>.mkfn fn a b
  | _,_=>.bad 27
 | .makeMap t r=>match und P t,r with
  | some (.map _ _),none=>.mkmap
  | some (.map _ _),some (.const (.int _ _))=>.mkmap
  | _,_=>.bad 28
 | .makeSlice t l c=>match und P t with
  | some (.slice e)=>match xi P e,qt P e,uC P e with
   | some (s+1),some z,some b=>if Nat.beq z.length (s+1) then qo P E (.mkslice z (s+1) b) l c else .bad 29
   | _,_,_=>.bad 29
  | _=>.bad 29
 | .slice t x lo hi mx=>zG3 P E t x lo hi mx
 | .fieldAddr t x f=>match und P t with
  | some (.struct fs)=>match nth fs.toList f with
   | some fd=>match xi P fd.type with
    | some (_+1)=>yz P E (.addOff fd.offset) x
    | _=>.bad 30
   | none=>.bad 30
  | _=>.bad 30
 | .field t x f=>match und P t with
  | some (.struct fs)=>match nth fs.toList f with
   | some fd=>match xw P fd.type,xi P fd.type with
    | some a,some s=>yz P E (.part a fd.offset s) x
    | _,_=>.bad 31
   | none=>.bad 31
  | _=>.bad 31
 | .indexAddr t x i=>match und P t with
  | some (.array len e)=>match xi P e with
   | some s=>qo P E (.ixArr len s) x i
   | none=>.bad 32
  | some (.slice e)=>match xi P e with
   | some s=>qo P E (.ixSl s) x i
   | none=>.bad 32
  | _=>.bad 32
 | .index t x i=>match und P t with
  | some (.array len e)=>match xi P e,xw P e with
   | some s,some a=>qo P E (.ixAgg len s a) x i
   | _,_=>.bad 33
  | some .string=>qo P E .ixStr x i
  | _=>.bad 33
 | .lookup t x i ok=>match und P t with
  | some (.map kt et)=>match xX P kt,wC P et with
   | some kk,some z=>qo P E (.lookup kk z ok) x i
   | _,_=>.bad 34
  | _=>.bad 34
 | .mapUpdate t m k x=>match und P t with
  | some (.map kt _)=>match xX P kt,zf P E m,zf P E k,zf P E x with
   | some kk,some m,some k,some x=>.mapupd kk m k x
   | _,_,_,_=>.bad 35
  | _=>.bad 35
 | .insert t m k x=>match und P t with
  | some (.map kt _)=>match xX P kt,zf P E m,zf P E k,zf P E x with
   | some kk,some m,some k,some x=>.mapupd kk m k x
   | _,_,_,_=>.bad 35
  | _=>.bad 35
 | .range t x=>match und P t with
  | some .string=>yz P E .rangeStr x
  | some (.map _ _)=>yz P E .rangeMap x
  | _=>.bad 36
 | .next it s=>yz P E (.next s) it
 | .entry it=>yz P E .entry it
 | .typeAssert x _ t ok=>match und P t with
  | some (.interface _)=>yz P E (.tiface t (wC P t) ok) x
  | some _=>yz P E (.tassert t (wC P t) ok) x
  | none=>.bad 37
 | .extract t i=>yz P E (.extract i) t
 | .call c=>zFh P E c
 | .defer c=>match c.callee with
  | .value f=>match zf P E f,qM P E c.args.toList with
   | some f,some args=>.defer f args
   | _,_=>.bad 38
  | _=>.bad 38
 | _=>.bad 39
def xI (F N:Nat) (d:Option Nat):Option (Option Loc):=match d with
 | none=>some none
 | some t=>match Nat.ble (Nat.succ t) N with
  | false=>none
  | true=>match zo F t with
   | false=>some none
   | true=>match Nat.ble t 271 with
    | true=>some (some (Loc.ofNat t))
    | false=>none
def uJ (F N:Nat) (all:List Oper) (ds:List (Option Nat)) (o:Oper):qO:=match xI F N o.dst with
 | none=>.i (.bad 40)
 | some d=>match o.guard with
  | none=>match d with
   | none=>.i (zd P ⟨F,N,ds⟩ o.op)
   | some d=>.o (zd P ⟨F,N,ds⟩ o.op) d
  | some (j,w)=>match (nth all j).bind (·.dst) with
   | some t=>match zf P ⟨F,N,ds⟩ (.tmp t) with
    | some x=>.g x w (zd P ⟨F,N,ds⟩ o.op) d
    | none=>.i (.bad 41)
   | none=>.i (.bad 42)
def qq (F N:Nat) (all:List Oper):List (Option Nat)→List Oper→List qO
 | _,[]=>[]
 | ds,o::r=>uJ P F N all ds o::qq F N all (o.dst::ds) r
def zCV (o:Op):Bool:=match o with
 | .call c=>match c.callee with
  | .builtin .recover=>true
  | _=>false
 | _=>false
def x8 (o:Op):Bool:=match o with
 | .store ..=>true
 | .mapUpdate ..=>true
 | .insert ..=>true
 | .next ..=>true
 | .range ..=>true
 | .defer _=>true
 | .convert s d _=>match und P s,und P d with
  | some (.slice _),some (.slice _)=>true
  | _,_=>false
 | .call c=>match c.callee with
  | .builtin b=>match b with
   | .len=>false
   | .cap=>false
   | .min=>false
   | .max=>false
   | _=>true
  | _=>true
 | _=>false
def ut (acc:List Nat):List Edge→Nat
 | []=>0
 | e::r=>if Region.binds .any e then Nat.lor (Nat.lor (Nat.shiftLeft 1 e.on) ((nth acc e.on).getD 0)) (ut acc r) else ut acc r
def wQ:List Nat→List Oper→List Nat
 | acc,[]=>acc
 | acc,o::r=>wQ (acc++[ut acc o.after.toList]) r
def yC (m:Nat) (done:List Nat):List Nat→List Nat
 | []=>[]
 | i::r=>if zo m i && !done.contains i then i::yC m done r else yC m done r
def zG9 (anc:List Nat) (all:List Nat):List Nat→List Nat→List Nat
 | [],done=>done++yC (Nat.sub (Nat.shiftLeft 1 all.length) 1) done all
 | e::es,done=>zG9 anc all es (done++yC ((nth anc e).getD 0) done all++(if done.contains e then [] else [e]))
def zDi (m:Nat):List Nat→Nat
 | []=>0
 | e::es=>if zo m e then 0 else Nat.succ (zDi m es)
def zSh (p:Oper→Bool):List Oper→Nat→List Nat
 | [],_=>[]
 | o::r,i=>if p o then i::zSh p r (i+1) else zSh p r (i+1)
def jf (F N:Nat) (ops:List Oper) (anc:List Nat):List (Option Nat)→List Nat→List Nat→List zNC
 | _,_,[]=>[]
 | ds,effs,i::r=>match nth ops i with
  | none=>[⟨.i (.bad 47),false,0⟩]
  | some o=>⟨uJ P F N ops ds o,x8 P o.op,zDi ((nth anc i).getD 0) effs⟩ ::
   jf F N ops anc (o.dst::ds) (if x8 P o.op then i::effs else effs) r
def zMA (ops:List Oper) (anc:List Nat):List Nat:=zG9 anc (List.range ops.length) (zSh (fun o=>x8 P o.op) ops 0) []
def zEN (m:Nat):List Nat→List Nat→Bool
 | done,[]=>Nat.beq done.length m
 | done,i::r=>!done.contains i&&Nat.ble (Nat.succ i) m&&zEN m (i::done) r
def zMz (ops:List Oper) (anc:List Nat):List Nat→List Nat→Bool
 | _,[]=>true
 | done,i::r=>(match nth ops i with
  | some o=>if x8 P o.op then done.all fun j=>zo ((nth anc i).getD 0) j else true
  | none=>false)&&zMz ops anc (i::done) r
def zLC (anc:List Nat) (m:Nat):List Nat→List Nat→Bool
 | _,[]=>true
 | done,i::r=>((List.range m).all fun j=>!zo ((nth anc i).getD 0) j || done.contains j)&&zLC anc m (i::done) r
def vm (ops:List Oper) (o:Oper):List Nat:=
 (o.op.operands.toList.filterMap fun | .tmp t=>some t | _=>none)++(match o.guard with
   | some (j,_)=>match (nth ops j).bind (·.dst) with
    | some t=>[t]
    | none=>[]
   | none=>[])
def zKS (ops:List Oper) (anc:List Nat) (m:Nat):Bool:=
 (List.range m).all fun i=>(List.range m).all fun j=>match nth ops i,nth ops j with
   | some x,some y=>match x.dst with
    | some t=>(Nat.beq i j || !(decide (y.dst=some t)))&&(!(vm ops y).contains t || (!Nat.beq i j&&(zo ((nth anc j).getD 0) i || zo ((nth anc i).getD 0) j)))
    | none=>true
   | _,_=>false
def zBm:List Oper→Nat→Bool
 | [],_=>true
 | o::r,i=>(o.after.toList.all fun e=>!Region.binds .any e || Nat.ble (Nat.succ e.on) i)&&zBm r (i+1)
def zCi (ops:List Oper) (anc:List Nat) (order:List Nat):Bool:=
 zEN ops.length [] order&&zMz P ops anc [] order&&zLC anc ops.length [] order&&zKS ops anc ops.length&&zBm ops 0
def zHG (F N:Nat) (ops:List Oper):CCode:=
 let anc:=wQ [] ops
 let order:=zMA P ops anc
 if zCi P ops anc order then .dregion (jf P F N ops anc [] [] order) else .bad 48
def zR (F N:Nat):Code→CCode
 | .skip=>.skip
 | .label _=>.skip
 | .region _ ops dr=>match dr with
  | false=>.region (qq P F N ops.toList [] ops.toList)
  | true=>zHG P F N ops.toList
 | .seq a b=>.seq (zR F N a) (zR F N b)
 | .cond x a b=>match zf P ⟨F,N,[]⟩ x with
  | some x=>.cond x (zR F N a) (zR F N b)
  | none=>.bad 43
 | .block id b=>.block id (zR F N b)
 | .loop b=>.loop (zR F N b)
 | .exit id=>.exit id
 | .ret=>.ret
 | .scope b=>.scope (zR F N b)
 | _=>.bad 44
def bit (t:Nat):Nat:=Nat.shiftLeft 1 t
def zA4:List Operand→Nat
 | []=>0
 | .tmp t::r=>Nat.lor (bit t) (zA4 r)
 | _::r=>zA4 r
def zHx (all:List Oper):List Oper→Nat
 | []=>0
 | o::r=>Nat.lor (zA4 o.op.operands.toList) (Nat.lor (match o.guard with | some (j,_)=>zA4 [.tmp ((((nth all j).bind (·.dst))).getD 4095)] | none=>0) (zHx all r))
def zHu:List Oper→Nat
 | []=>0
 | o::r=>match o.dst with
  | some t=>Nat.lor (bit t) (zHu r)
  | none=>zHu r
def zC9 (c:Code) (x:Nat × Nat):Nat × Nat:=match c with
 | .region _ ops _=>let u:=zHx ops.toList ops.toList; (Nat.lor x.1 u,Nat.lor x.2 (Nat.land x.1 u))
 | .seq a b=>zC9 b (zC9 a x)
 | .cond y a b=>let u:=zA4 [y]; zC9 b (zC9 a (Nat.lor x.1 u,Nat.lor x.2 (Nat.land x.1 u)))
 | .block _ b=>zC9 b x
 | .loop b=>zC9 b x
 | .scope b=>zC9 b x
 | _=>x
def wg (once:Nat):Code→Nat
 | .region _ ops _=>Nat.land (zHu ops.toList) (Nat.xor once (Nat.land once (zHx ops.toList ops.toList)))
 | .seq a b=>Nat.lor (wg once a) (wg once b)
 | .cond _ a b=>Nat.lor (wg once a) (wg once b)
 | .block _ b=>wg once b
 | .loop b=>wg once b
 | .scope b=>wg once b
 | _=>0
def zIa:List ResultVar→Nat
 | []=>0
 | .tmp t::r=>Nat.lor (bit t) (zIa r)
 | .cell t _::r=>Nat.lor (bit t) (zIa r)
def frameBits (fn:Func) (c:Code):Nat:=
 let res:=zIa fn.results.toList
 let u:=zC9 c (res,0)
 Nat.lor (Nat.lor (Nat.lor u.2 (wg u.1 c)) res) (Nat.sub (bit (Nat.add fn.params.size fn.nfree)) 1)
def xO (F N:Nat) (r:ResultVar):Option CRes:=match r with
 | .tmp t=>(zf P ⟨F,N,[]⟩ (.tmp t)).map .tmp
 | .cell a t=>match xw P t,xi P t,zf P ⟨F,N,[]⟩ (.tmp a) with
  | some true,some s,some x=>some (.cellN x s)
  | some false,some _,some x=>some (.cell1 x)
  | _,_,_=>none
def zE5 (l:List Oper):Bool:=match l with
 | []=>true
 | o::r=>!zCV o.op&&zE5 r
def yH:Code→Bool
 | .region _ ops _=>zE5 ops.toList
 | .seq a b=>yH a&&yH b
 | .cond _ a b=>yH a&&yH b
 | .block _ b=>yH b
 | .loop b=>yH b
 | .scope b=>yH b
 | _=>true
def zA1 (F N:Nat) (fn:Func) (c:Code):CFn:=match yu (xO P F N) fn.results.toList with
 | some rs=>if yH c then .mk (zR P F N c) rs else match c with
  | .seq (.region _ ops false) r=>if yH r then .mkD (qq P F N ops.toList [] ops.toList) (zR P F N r) rs else .bad 50
  | _=>.bad 50
 | none=>.bad 45
def compFn (f:FuncId):CFn:=match nth P.funcs.toList f with
 | none=>.bad 46
 | some fn=>match fn.body with
  | none=>match zCa P fn with
   | some e=>.ext e
   | none=>.bad (20000+f)
  | some c=>if fn.name == "runtime.NumGoroutine" then .bad 49 else zA1 P (frameBits fn c) fn.ntmps fn c
end
end Go.Ev
namespace Go.Ev
noncomputable section
inductive OR where
 | val (v:CV)
 | read (v:CV)
 | alloc (o:CObj) (v:CV)
 | eff (v:CV) (h:Heap) (n:Key)
 | call (f:FuncId) (args:List CV)
 | dfr (f:FuncId) (args:List CV)
 | recov
 | err (c:Nat)
 | fork (a b:OR)
def zDs (v:Option CV) (c:Nat):OR:=Option.rec (motive:=fun _=>Nat→OR) (fun c=>.err c) (fun v _=>.val v) v c
def zNY (v:Option CV) (c:Nat):OR:=Option.rec (motive:=fun _=>Nat→OR) (fun c=>.err c) (fun v _=>.read v) v c
def zSo (v:Option (List CV)) (c:Nat):OR:=Option.rec (motive:=fun _=>Nat→OR) (fun c=>.err c) (fun v _=>.val (.agg v)) v c
def zRE (v:Option (List CV)) (c:Nat):OR:=Option.rec (motive:=fun _=>Nat→OR) (fun c=>.err c) (fun v _=>.read (.agg v)) v c
def onL (v:Option (List CV)) (k:List CV→OR) (c:Nat):OR:=Option.rec (motive:=fun _=>(List CV→OR)→Nat→OR) (fun _ c=>.err c) (fun v k _=>k v) v k c
def onN (v:Option Nat) (k:Nat→OR) (c:Nat):OR:=Option.rec (motive:=fun _=>(Nat→OR)→Nat→OR) (fun _ c=>.err c) (fun v k _=>k v) v k c
def yU (b:Bool) (k:OR) (c:Nat):OR:=Bool.rec (motive:=fun _=>OR→Nat→OR) (fun _ c=>.err c) (fun k _=>k) b k c
def ifB (b:Bool) (t f:OR):OR:=Bool.rec (motive:=fun _=>OR→OR→OR) (fun _ f=>f) (fun t _=>t) b t f
def wR (n:Nat) (k:Nat→OR):OR:=Nat.rec (motive:=fun _=>(Nat→OR)→OR) (fun k=>k 0) (fun m _ k=>k (Nat.succ m)) n k
def zC5 (v:CV) (k:Key→Nat→OR) (e:Nat):OR:=
 CV.rec (motive_1:=fun _=>(Key→Nat→OR)→Nat→OR) (motive_2:=fun _=>Unit)
  (fun _ _ e=>.err e) (fun _ _ e=>.err e) (fun _ _ _ e=>.err e) (fun _ _ e=>.err e) (fun _ _ e=>.err e) (fun _ e=>.err e) (fun x0 x1 k _=>k x0 x1) (fun _ e=>.err e) (fun _ _ _ _ _ _ _ e=>.err e) (fun _ e=>.err e) (fun _ _ e=>.err e) (fun _ _ _ _ _ _ e=>.err e) (fun _ e=>.err e) (fun _ _ _ _ e=>.err e) (fun _ e=>.err e) (fun _ _ _ e=>.err e) (fun _ _ _ e=>.err e) (fun _ _ e=>.err e) (fun _ _ _ _ _ e=>.err e) (fun _ _ _ e=>.err e) (fun _ _ e=>.err e) (fun _ _ _ e=>.err e) (fun _ _ _ _ _ e=>.err e) (fun _ e=>.err e) () (fun _ _ _ _=>()) v k e
def zP8 (v:CV) (k:IntKind→Int→OR) (e:Nat):OR:=
 CV.rec (motive_1:=fun _=>(IntKind→Int→OR)→Nat→OR) (motive_2:=fun _=>Unit)
  (fun _ _ e=>.err e) (fun x0 k _=>k .i64 (.ofNat x0)) (fun x0 x1 k _=>k x0 x1) (fun _ _ e=>.err e) (fun _ _ e=>.err e) (fun _ e=>.err e) (fun _ _ _ e=>.err e) (fun _ e=>.err e) (fun _ _ _ _ _ _ _ e=>.err e) (fun _ e=>.err e) (fun _ _ e=>.err e) (fun _ _ _ _ _ _ e=>.err e) (fun _ e=>.err e) (fun _ _ _ _ e=>.err e) (fun _ e=>.err e) (fun _ _ _ e=>.err e) (fun _ _ _ e=>.err e) (fun _ _ e=>.err e) (fun _ _ _ _ _ e=>.err e) (fun _ _ _ e=>.err e) (fun _ _ e=>.err e) (fun _ _ _ e=>.err e) (fun _ _ _ _ _ e=>.err e) (fun _ e=>.err e) () (fun _ _ _ _=>()) v k e
def zSY (v:CV) (k:Nat→OR) (j:IntKind→Int→OR) (e:Nat):OR:=
 CV.rec (motive_1:=fun _=>(Nat→OR)→(IntKind→Int→OR)→Nat→OR) (motive_2:=fun _=>Unit)
  (fun _ _ _ e=>.err e) (fun x0 k _ _=>k x0) (fun x0 x1 _ j _=>j x0 x1) (fun _ _ _ e=>.err e) (fun _ _ _ e=>.err e) (fun _ _ e=>.err e) (fun _ _ _ _ e=>.err e) (fun _ _ e=>.err e) (fun _ _ _ _ _ _ _ _ e=>.err e) (fun _ _ e=>.err e) (fun _ _ _ e=>.err e) (fun _ _ _ _ _ _ _ e=>.err e) (fun _ _ e=>.err e) (fun _ _ _ _ _ e=>.err e) (fun _ _ e=>.err e) (fun _ _ _ _ e=>.err e) (fun _ _ _ _ e=>.err e) (fun _ _ _ e=>.err e) (fun _ _ _ _ _ _ e=>.err e) (fun _ _ _ _ e=>.err e) (fun _ _ _ e=>.err e) (fun _ _ _ _ e=>.err e) (fun _ _ _ _ _ _ e=>.err e) (fun _ _ e=>.err e) () (fun _ _ _ _=>()) v k j e
def uL (v:CV) (k:List Nat→OR) (e:Nat):OR:=
 CV.rec (motive_1:=fun _=>(List Nat→OR)→Nat→OR) (motive_2:=fun _=>Unit)
  (fun _ _ e=>.err e) (fun _ _ e=>.err e) (fun _ _ _ e=>.err e) (fun _ _ e=>.err e) (fun x0 k _=>k x0) (fun _ e=>.err e) (fun _ _ _ e=>.err e) (fun _ e=>.err e) (fun _ _ _ _ _ _ _ e=>.err e) (fun _ e=>.err e) (fun _ _ e=>.err e) (fun _ _ _ _ _ _ e=>.err e) (fun _ e=>.err e) (fun _ _ _ _ e=>.err e) (fun _ e=>.err e) (fun _ _ _ e=>.err e) (fun _ _ _ e=>.err e) (fun _ _ e=>.err e) (fun _ _ _ _ _ e=>.err e) (fun _ _ _ e=>.err e) (fun _ _ e=>.err e) (fun _ _ _ e=>.err e) (fun _ _ _ _ _ e=>.err e) (fun _ e=>.err e) () (fun _ _ _ _=>()) v k e
def zJ7 (v:CV) (k:Bool→OR) (e:Nat):OR:=
 CV.rec (motive_1:=fun _=>(Bool→OR)→Nat→OR) (motive_2:=fun _=>Unit)
  (fun x0 k _=>k x0) (fun _ _ e=>.err e) (fun _ _ _ e=>.err e) (fun _ _ e=>.err e) (fun _ _ e=>.err e) (fun _ e=>.err e) (fun _ _ _ e=>.err e) (fun _ e=>.err e) (fun _ _ _ _ _ _ _ e=>.err e) (fun _ e=>.err e) (fun _ _ e=>.err e) (fun _ _ _ _ _ _ e=>.err e) (fun _ e=>.err e) (fun _ _ _ _ e=>.err e) (fun _ e=>.err e) (fun _ _ _ e=>.err e) (fun _ _ _ e=>.err e) (fun _ _ e=>.err e) (fun _ _ _ _ _ e=>.err e) (fun _ _ _ e=>.err e) (fun _ _ e=>.err e) (fun _ _ _ e=>.err e) (fun _ _ _ _ _ e=>.err e) (fun _ e=>.err e) () (fun _ _ _ _=>()) v k e
def uQ (v:CV) (z:OR) (k:Key→Nat→Nat→Nat→Nat→Bool→OR) (e:Nat):OR:=
 CV.rec (motive_1:=fun _=>(OR)→(Key→Nat→Nat→Nat→Nat→Bool→OR)→Nat→OR) (motive_2:=fun _=>Unit)
  (fun _ _ _ e=>.err e) (fun _ _ _ e=>.err e) (fun _ _ _ _ e=>.err e) (fun _ _ _ e=>.err e) (fun _ _ _ e=>.err e) (fun _ _ e=>.err e) (fun _ _ _ _ e=>.err e) (fun z _ _=>z) (fun x0 x1 x2 x3 x4 x5 _ k _=>k x0 x1 x2 x3 x4 x5) (fun _ _ e=>.err e) (fun _ _ _ e=>.err e) (fun _ _ _ _ _ _ _ e=>.err e) (fun _ _ e=>.err e) (fun _ _ _ _ _ e=>.err e) (fun _ _ e=>.err e) (fun _ _ _ _ e=>.err e) (fun _ _ _ _ e=>.err e) (fun _ _ _ e=>.err e) (fun _ _ _ _ _ _ e=>.err e) (fun _ _ _ _ e=>.err e) (fun _ _ _ e=>.err e) (fun _ _ _ _ e=>.err e) (fun _ _ _ _ _ _ e=>.err e) (fun _ _ e=>.err e) () (fun _ _ _ _=>()) v z k e
def zCY (v:CV) (z:OR) (k:Key→OR) (e:Nat):OR:=
 CV.rec (motive_1:=fun _=>(OR)→(Key→OR)→Nat→OR) (motive_2:=fun _=>Unit)
  (fun _ _ _ e=>.err e) (fun _ _ _ e=>.err e) (fun _ _ _ _ e=>.err e) (fun _ _ _ e=>.err e) (fun _ _ _ e=>.err e) (fun _ _ e=>.err e) (fun _ _ _ _ e=>.err e) (fun _ _ e=>.err e) (fun _ _ _ _ _ _ _ _ e=>.err e) (fun z _ _=>z) (fun x0 _ k _=>k x0) (fun _ _ _ _ _ _ _ e=>.err e) (fun _ _ e=>.err e) (fun _ _ _ _ _ e=>.err e) (fun _ _ e=>.err e) (fun _ _ _ _ e=>.err e) (fun _ _ _ _ e=>.err e) (fun _ _ _ e=>.err e) (fun _ _ _ _ _ _ e=>.err e) (fun _ _ _ _ e=>.err e) (fun _ _ _ e=>.err e) (fun _ _ _ _ e=>.err e) (fun _ _ _ _ _ _ e=>.err e) (fun _ _ e=>.err e) () (fun _ _ _ _=>()) v z k e
def zP1 (v:CV) (k:List CV→OR) (e:Nat):OR:=
 CV.rec (motive_1:=fun _=>(List CV→OR)→Nat→OR) (motive_2:=fun _=>Unit)
  (fun _ _ e=>.err e) (fun _ _ e=>.err e) (fun _ _ _ e=>.err e) (fun _ _ e=>.err e) (fun _ _ e=>.err e) (fun _ e=>.err e) (fun _ _ _ e=>.err e) (fun _ e=>.err e) (fun _ _ _ _ _ _ _ e=>.err e) (fun _ e=>.err e) (fun _ _ e=>.err e) (fun _ _ _ _ _ _ e=>.err e) (fun _ e=>.err e) (fun _ _ _ _ e=>.err e) (fun _ e=>.err e) (fun x0 _ k _=>k x0) (fun _ _ _ e=>.err e) (fun _ _ e=>.err e) (fun _ _ _ _ _ e=>.err e) (fun _ _ _ e=>.err e) (fun _ _ e=>.err e) (fun _ _ _ e=>.err e) (fun _ _ _ _ _ e=>.err e) (fun _ e=>.err e) () (fun _ _ _ _=>()) v k e
def zRH (v:CV) (k:List CV→OR) (e:Nat):OR:=
 CV.rec (motive_1:=fun _=>(List CV→OR)→Nat→OR) (motive_2:=fun _=>Unit)
  (fun _ _ e=>.err e) (fun _ _ e=>.err e) (fun _ _ _ e=>.err e) (fun _ _ e=>.err e) (fun _ _ e=>.err e) (fun _ e=>.err e) (fun _ _ _ e=>.err e) (fun _ e=>.err e) (fun _ _ _ _ _ _ _ e=>.err e) (fun _ e=>.err e) (fun _ _ e=>.err e) (fun _ _ _ _ _ _ e=>.err e) (fun _ e=>.err e) (fun _ _ _ _ e=>.err e) (fun _ e=>.err e) (fun _ _ _ e=>.err e) (fun x0 _ k _=>k x0) (fun _ _ e=>.err e) (fun _ _ _ _ _ e=>.err e) (fun _ _ _ e=>.err e) (fun _ _ e=>.err e) (fun _ _ _ e=>.err e) (fun _ _ _ _ _ e=>.err e) (fun _ e=>.err e) () (fun _ _ _ _=>()) v k e
def zKu (v:CV) (k:Fn→List CV→List CV→OR) (e:Nat):OR:=
 CV.rec (motive_1:=fun _=>(Fn→List CV→List CV→OR)→Nat→OR) (motive_2:=fun _=>Unit)
  (fun _ _ e=>.err e) (fun _ _ e=>.err e) (fun _ _ _ e=>.err e) (fun _ _ e=>.err e) (fun _ _ e=>.err e) (fun _ e=>.err e) (fun _ _ _ e=>.err e) (fun _ e=>.err e) (fun _ _ _ _ _ _ _ e=>.err e) (fun _ e=>.err e) (fun _ _ e=>.err e) (fun x0 x1 x2 _ _ k _=>k x0 x1 x2) (fun _ e=>.err e) (fun _ _ _ _ e=>.err e) (fun _ e=>.err e) (fun _ _ _ e=>.err e) (fun _ _ _ e=>.err e) (fun _ _ e=>.err e) (fun _ _ _ _ _ e=>.err e) (fun _ _ _ e=>.err e) (fun _ _ e=>.err e) (fun _ _ _ e=>.err e) (fun _ _ _ _ _ e=>.err e) (fun _ e=>.err e) () (fun _ _ _ _=>()) v k e
def zBy (v:CV) (k:TypeId→CV→OR) (z:OR) (e:Nat):OR:=
 CV.rec (motive_1:=fun _=>(TypeId→CV→OR)→(OR)→Nat→OR) (motive_2:=fun _=>Unit)
  (fun _ _ _ e=>.err e) (fun _ _ _ e=>.err e) (fun _ _ _ _ e=>.err e) (fun _ _ _ e=>.err e) (fun _ _ _ e=>.err e) (fun _ _ e=>.err e) (fun _ _ _ _ e=>.err e) (fun _ _ e=>.err e) (fun _ _ _ _ _ _ _ _ e=>.err e) (fun _ _ e=>.err e) (fun _ _ _ e=>.err e) (fun _ _ _ _ _ _ _ e=>.err e) (fun _ _ e=>.err e) (fun x0 x1 _ k _ _=>k x0 x1) (fun _ z _=>z) (fun _ _ _ _ e=>.err e) (fun _ _ _ _ e=>.err e) (fun _ _ _ e=>.err e) (fun _ _ _ _ _ _ e=>.err e) (fun _ _ _ _ e=>.err e) (fun _ _ _ e=>.err e) (fun _ _ _ _ e=>.err e) (fun _ _ _ _ _ _ e=>.err e) (fun _ _ e=>.err e) () (fun _ _ _ _=>()) v k z e
def zSS (v:CV) (k:IntKind→Int→OR) (u:IntKind→OR) (s:List Nat→OR) (e:Nat):OR:=
 CV.rec (motive_1:=fun _=>(IntKind→Int→OR)→(IntKind→OR)→(List Nat→OR)→Nat→OR) (motive_2:=fun _=>Unit)
  (fun _ _ _ _ e=>.err e) (fun x0 k _ _ _=>k .i64 (.ofNat x0)) (fun x0 x1 k _ _ _=>k x0 x1) (fun x0 _ u _ _=>u x0) (fun x0 _ _ s _=>s x0) (fun _ _ _ e=>.err e) (fun _ _ _ _ _ e=>.err e) (fun _ _ _ e=>.err e) (fun _ _ _ _ _ _ _ _ _ e=>.err e) (fun _ _ _ e=>.err e) (fun _ _ _ _ e=>.err e) (fun _ _ _ _ _ _ _ _ e=>.err e) (fun _ _ _ e=>.err e) (fun _ _ _ _ _ _ e=>.err e) (fun _ _ _ e=>.err e) (fun _ _ _ _ _ e=>.err e) (fun _ _ _ _ _ e=>.err e) (fun _ _ _ _ e=>.err e) (fun _ _ _ _ _ _ _ e=>.err e) (fun _ _ _ _ _ e=>.err e) (fun _ _ _ _ e=>.err e) (fun _ _ _ _ _ e=>.err e) (fun _ _ _ _ _ _ _ e=>.err e) (fun _ _ _ e=>.err e) () (fun _ _ _ _=>()) v k u s e
def zQe (v:CV) (k:IntKind→Int→OR) (u:IntKind→OR) (e:Nat):OR:=
 CV.rec (motive_1:=fun _=>(IntKind→Int→OR)→(IntKind→OR)→Nat→OR) (motive_2:=fun _=>Unit)
  (fun _ _ _ e=>.err e) (fun x0 k _ _=>k .i64 (.ofNat x0)) (fun x0 x1 k _ _=>k x0 x1) (fun x0 _ u _=>u x0) (fun _ _ _ e=>.err e) (fun _ _ e=>.err e) (fun _ _ _ _ e=>.err e) (fun _ _ e=>.err e) (fun _ _ _ _ _ _ _ _ e=>.err e) (fun _ _ e=>.err e) (fun _ _ _ e=>.err e) (fun _ _ _ _ _ _ _ e=>.err e) (fun _ _ e=>.err e) (fun _ _ _ _ _ e=>.err e) (fun _ _ e=>.err e) (fun _ _ _ _ e=>.err e) (fun _ _ _ _ e=>.err e) (fun _ _ _ e=>.err e) (fun _ _ _ _ _ _ e=>.err e) (fun _ _ _ _ e=>.err e) (fun _ _ _ e=>.err e) (fun _ _ _ _ e=>.err e) (fun _ _ _ _ _ _ e=>.err e) (fun _ _ e=>.err e) () (fun _ _ _ _=>()) v k u e
def zSl (v:CV) (k:Key→Nat→OR) (z:OR):OR:=
 CV.rec (motive_1:=fun _=>(Key→Nat→OR)→OR→OR) (motive_2:=fun _=>Unit)
  (fun _ _ z=>z) (fun _ _ z=>z) (fun _ _ _ z=>z) (fun _ _ z=>z) (fun _ _ z=>z) (fun _ z=>z) (fun x0 x1 k _=>k x0 x1) (fun _ z=>z) (fun _ _ _ _ _ _ _ z=>z) (fun _ z=>z) (fun _ _ z=>z) (fun _ _ _ _ _ _ z=>z) (fun _ z=>z) (fun _ _ _ _ z=>z) (fun _ z=>z) (fun _ _ _ z=>z) (fun _ _ _ z=>z) (fun _ _ z=>z) (fun _ _ _ _ _ z=>z) (fun _ _ _ z=>z) (fun _ _ z=>z) (fun _ _ _ z=>z) (fun _ _ _ _ _ z=>z) (fun _ z=>z) () (fun _ _ _ _=>()) v k z
def zJQ (v:CV) (k:Key→Nat→SE→SE→OR) (z:OR):OR:=
 CV.rec (motive_1:=fun _=>(Key→Nat→SE→SE→OR)→OR→OR) (motive_2:=fun _=>Unit)
  (fun _ _ z=>z) (fun _ _ z=>z) (fun _ _ _ z=>z) (fun _ _ z=>z) (fun _ _ z=>z) (fun _ z=>z) (fun _ _ _ z=>z) (fun _ z=>z) (fun _ _ _ _ _ _ _ z=>z) (fun _ z=>z) (fun _ _ z=>z) (fun _ _ _ _ _ _ z=>z) (fun _ z=>z) (fun _ _ _ _ z=>z) (fun _ z=>z) (fun _ _ _ z=>z) (fun _ _ _ z=>z) (fun _ _ z=>z) (fun x0 x1 x2 x3 k _=>k x0 x1 x2 x3) (fun _ _ _ z=>z) (fun _ _ z=>z) (fun _ _ _ z=>z) (fun _ _ _ _ _ z=>z) (fun _ z=>z) () (fun _ _ _ _=>()) v k z
def zGa (v:CV) (k:List CV→OR) (z:OR):OR:=
 CV.rec (motive_1:=fun _=>(List CV→OR)→OR→OR) (motive_2:=fun _=>Unit)
  (fun _ _ z=>z) (fun _ _ z=>z) (fun _ _ _ z=>z) (fun _ _ z=>z) (fun _ _ z=>z) (fun _ z=>z) (fun _ _ _ z=>z) (fun _ z=>z) (fun _ _ _ _ _ _ _ z=>z) (fun _ z=>z) (fun _ _ z=>z) (fun _ _ _ _ _ _ z=>z) (fun _ z=>z) (fun _ _ _ _ z=>z) (fun _ z=>z) (fun _ _ _ z=>z) (fun _ _ _ z=>z) (fun _ _ z=>z) (fun _ _ _ _ _ z=>z) (fun x0 _ k _=>k x0) (fun _ _ z=>z) (fun _ _ _ z=>z) (fun _ _ _ _ _ z=>z) (fun _ z=>z) () (fun _ _ _ _=>()) v k z
def zNS (v:CV) (k:Nat→OR) (z:OR):OR:=
 CV.rec (motive_1:=fun _=>(Nat→OR)→OR→OR) (motive_2:=fun _=>Unit)
  (fun _ _ z=>z) (fun x0 k _=>k x0) (fun _ _ _ z=>z) (fun _ _ z=>z) (fun _ _ z=>z) (fun _ z=>z) (fun _ _ _ z=>z) (fun _ z=>z) (fun _ _ _ _ _ _ _ z=>z) (fun _ z=>z) (fun _ _ z=>z) (fun _ _ _ _ _ _ z=>z) (fun _ z=>z) (fun _ _ _ _ z=>z) (fun _ z=>z) (fun _ _ _ z=>z) (fun _ _ _ z=>z) (fun _ _ z=>z) (fun _ _ _ _ _ z=>z) (fun _ _ _ z=>z) (fun _ _ z=>z) (fun _ _ _ z=>z) (fun _ _ _ _ _ z=>z) (fun _ z=>z) () (fun _ _ _ _=>()) v k z
def vJ (v:CV) (k:Nat→OR) (e:Nat):OR:=
 zSY v k (fun _ n=>Int.rec (motive:=fun _=>(Nat→OR)→Nat→OR) (fun m k _=>k m) (fun _ _ e=>.err e) n k e) e
def kD (o:Option CObj) (k:List CV→OR) (e:Nat):OR:=
 Option.rec (motive:=fun _=>(List CV→OR)→Nat→OR) (fun _ e=>.err e)
  (fun o=>CObj.rec (motive:=fun _=>(List CV→OR)→Nat→OR) (fun vs k _=>k vs) (fun _ _ e=>.err e) (fun _ _ _ e=>.err e) (fun _ _ _ e=>.err e) (fun _ _ _ _ _ e=>.err e) (fun _ _ _ e=>.err e) (fun _ _ e=>.err e) o) o k e
def vV (o:Option CObj) (k:List CV→OR) (e:Nat):OR:=
 Option.rec (motive:=fun _=>(List CV→OR)→Nat→OR) (fun _ e=>.err e)
  (fun o=>CObj.rec (motive:=fun _=>(List CV→OR)→Nat→OR) (fun vs k _=>k vs) (fun vs k _=>k vs) (fun _ _ _ e=>.err e) (fun _ _ _ e=>.err e) (fun _ _ _ _ _ e=>.err e) (fun _ vs k _=>k vs) (fun _ _ e=>.err e) o) o k e
def wx (o:Option CObj) (k:List CE→Nat→OR) (e:Nat):OR:=
 Option.rec (motive:=fun _=>(List CE→Nat→OR)→Nat→OR) (fun _ e=>.err e)
  (fun o=>CObj.rec (motive:=fun _=>(List CE→Nat→OR)→Nat→OR) (fun _ _ e=>.err e) (fun _ _ e=>.err e) (fun es c k _=>k es c) (fun _ _ _ e=>.err e) (fun _ _ _ _ _ e=>.err e) (fun _ _ _ e=>.err e) (fun _ _ e=>.err e) o) o k e
def zH0 (o:Option CObj) (k:Bool→List CV→OR) (z:OR):OR:=match o with
 | some (.full u vs)=>k u vs
 | _=>z
def zIb (o:Option CObj) (k:List (CV × CV)→OR) (z:OR):OR:=match o with
 | some (.mapz es)=>k es
 | _=>z
def zRi (l:List CV) (k:Nat):CV:=List.rec (motive:=fun _=>Nat→CV) (fun _=>.any) (fun x _ ih k=>Nat.rec (motive:=fun _=>CV) x (fun k _=>ih k) k) l k
def aE (i:Nat):List CV→Tm→CV:=fun es _=>zRi es i
def aL (p:Loc):List CV→Tm→CV:=fun _ tm=>qf p tm
def aK (v:CV):List CV→Tm→CV:=fun _ _=>v
def aV (es:List CV) (tm:Tm) (x:zP):CV:=zP.rec (motive:=fun _=>List CV→Tm→CV) aE aL aK x es tm
def aVs (es:List CV) (tm:Tm) (l:List zP):List CV:=List.rec (motive:=fun _=>List CV) [] (fun x _ ih=>aV es tm x::ih) l
abbrev X:=List CV→Tm→Heap→Key→OR
def xMv (x:zP):X:=fun es tm _ _=>.val (aV es tm x)
def zRN (c a b:zP):X:=fun es tm _ _=>zJ7 (aV es tm c) (fun t=>ifB t (.val (aV es tm a)) (.val (aV es tm b))) 100
def zOz (cs:List CV):X:=fun _ _ _ n=>.alloc (.cells cs) (.ptr n 0)
def zSJ (x:zP):X:=fun es tm _ n=>onL (cellsOf (aV es tm x)) (fun cs=>.alloc (.cells cs) (.ptr n 0)) 101
def zB3 (s off:Nat) (cells:List CV) (v:Option (List CV)):Option (List CV):=
 Option.rec (motive:=fun _=>Nat→List CV→Nat→Option (List CV)) (fun _ _ _=>none) (fun xs s cells off=>qz xs s cells off) v s cells off
def uy (es:List CV) (tm:Tm) (ps:List zHr) (cells:List CV):Option (List CV):=
 List.rec (motive:=fun _=>List CV→Option (List CV)) (fun cells=>some cells)
  (fun p _ ih cells=>Option.rec (motive:=fun _=>Option (List CV)) none ih (zB3 p.size p.off cells (cellsOf (aV es tm p.arg)))) ps cells
def zNW (zero:List CV) (ps:List zHr):X:=fun es tm _ _=>zSo (uy es tm ps zero) 102
def ifO (b:Bool) (t f:CObj):CObj:=Bool.rec (motive:=fun _=>CObj→CObj→CObj) (fun _ f=>f) (fun t _=>t) b t f
def zLG (zero:List CV) (len esz:Nat) (ps:List zHr):X:=fun es tm _ n=>onL (uy es tm ps zero) (fun cs=>.alloc (ifO (Nat.beq len 1&&Nat.beq esz 6) (.full true cs) (.cells cs)) (.sl n 0 len len esz true)) 103
def zLQ:List CV→Option (List (List Nat))
 | []=>some []
 | .str s::r=>match zLQ r with
  | some t=>some (s::t)
  | none=>none
 | _::_=>none
def zS3 (vs:List CV) (off i m:Nat):Option CV:=match uS vs off (Nat.succ m) with
 | some l=>match zLQ l with
  | some t=>some (.few i t)
  | none=>none
 | none=>none
def zR0 (v:CV) (h:Heap):OR:=match v with
 | .elt b off i m=>vV (getH b h) (fun vs=>zNY (zS3 vs off i m) 104) 105
 | _=>.err 106
def zPK (x:zP):X:=fun es tm h _=>zSl (aV es tm x) (fun b off=>vV (getH b h) (fun vs=>zNY (zCm vs off) 104) 105) (zR0 (aV es tm x) h)
def zPs (s:Nat) (x:zP):X:=fun es tm h _=>zC5 (aV es tm x) (fun b off=>vV (getH b h) (fun vs=>zRE (uS vs off s) 107) 108) 109
def zO6 (s:Nat) (a x:zP):X:=fun es tm h n=>zC5 (aV es tm a) (fun b off=>kD (getH b h) (fun vs=>
 onL (cellsOf (aV es tm x)) (fun cs=>yU (xE cs) (onL (qz cs s vs off) (fun l=>.eff .undef (yl (some (.cells l)) b h) n) 110) 111) 112) 113) 114
def zE0 (v:CV):OR:=match v with
 | .nilptr=>.err 115
 | .niliface=>.err 115
 | .nilfunc=>.err 115
 | .func (.method _) _ _=>.err 116
 | .any=>.err 116
 | v=>.val v
def zOb (x:zP):X:=fun es tm _ _=>zSl (aV es tm x) (fun b o=>.val (.ptr b o)) (zE0 (aV es tm x))
class Sym where
 val:SE→Value
 one:∀ e,(∃ k n,val e=.int k n)∨∃ s,val e=.string s
 bin:BinOp→CV→CV→Option (List CV)
 cv:IntKind→CV→Option (List CV)
 arg:Key→Option Value
 kb:List (Int × Int):=[]
variable [Sym]
def forkL (c:CV) (l:List CV):OR:=List.rec (motive:=fun _=>CV→OR) (fun c=>.val c) (fun d _ ih c=>.fork (.val c) (ih d)) l c
def zQ8 (o:Option (List CV)) (e:Nat):OR:=match o with
 | none=>.err e
 | some l=>match l with
  | []=>.err e
  | c::cs=>forkL c cs
def zOk (v:CV):Bool:=match v with
 | .sym _=>true
 | .sst _=>true
 | .few _ _=>true
 | _=>false
def vN:OR:=.fork (.val (.bool true)) (.val (.bool false))
def zK3 (k:IntKind) (m:Nat):OR:=Nat.rec (motive:=fun _=>OR) (.val (jH k 0)) (fun i ih=>.fork ih (.val (jH k (Nat.succ i)))) m
def zKk (k:IntKind) (m:Nat):OR:=Nat.rec (motive:=fun _=>OR) (.val (jH k 0)) (fun i ih=>.fork ih (.fork (.val (jH k (Nat.succ i))) (.val (.int k (.negSucc i))))) m
def qp (op:BinOp) (j k:IntKind):OR:=yU (kEq j k) (match op with
 | .add=>.val (.anyi k)
 | .sub=>.val (.anyi k)
 | .mul=>.val (.anyi k)
 | .and=>.val (.anyi k)
 | .or=>.val (.anyi k)
 | .xor=>.val (.anyi k)
 | .andNot=>.val (.anyi k)
 | .eql=>vN
 | .neq=>vN
 | .lss=>vN
 | .leq=>vN
 | .gtr=>vN
 | .geq=>vN
 | _=>.err 117) 118
def zFt (op:BinOp) (k:IntKind) (b:Int):OR:=match op with
 | .and=>match b with
  | .ofNat m=>yU (Nat.ble m 127) (zK3 k m) 117
  | .negSucc _=>.val (.anyi k)
 | .rem=>match b with
  | .ofNat m=>match m with
   | 0=>.err 117
   | m+1=>yU (Nat.ble m 127) (match k.signed with
    | true=>zKk k m
    | false=>.val (.anyi k)) 117
  | .negSucc _=>.err 117
 | .quo=>match b with
  | .ofNat m=>match m with
   | 0=>.err 117
   | _+1=>.val (.anyi k)
  | .negSucc _=>.val (.anyi k)
 | .shl=>match b with
  | .ofNat _=>.val (.anyi k)
  | .negSucc _=>.err 117
 | .shr=>match b with
  | .ofNat _=>.val (.anyi k)
  | .negSucc _=>.err 117
 | op=>qp op k k
def zKl (op:BinOp) (x y:CV):OR:=zSS x
 (fun k a=>zQe y (fun j b=>yU (kEq k j || yn op) (zDs (yO op k a b) 117) 118) (fun j=>qp op j k) 119)
 (fun k=>zQe y (fun j b=>yU (kEq k j || yn op) (zFt op k b) 118) (fun j=>qp op j k) 119)
 (fun a=>uL y (fun b=>zDs (zQi op a b) 120) 121) 122
def zPw (op:BinOp) (a m:Nat):OR:=match op with
 | .gtr=>ifB (Nat.ble a m) (.val (.bool false)) vN
 | .leq=>ifB (Nat.ble a m) (.val (.bool true)) vN
 | .lss=>ifB (Nat.ble (Nat.succ a) m) (.val (.bool true)) vN
 | .geq=>ifB (Nat.ble (Nat.succ a) m) (.val (.bool false)) vN
 | _=>.err 119
def j0 (op:BinOp) (x y:CV):OR:=match x,y with
 | .nat a,.big m=>zPw op a m
 | x,y=>match zOk x || zOk y with
  | true=>zQ8 (Sym.bin op x y) 117
  | false=>zKl op x y
def zK1 (op:BinOp) (a b:Nat) (x y:CV):OR:=Option.rec (motive:=fun _=>BinOp→CV→CV→OR) (fun op x y=>j0 op x y) (fun v _ _ _=>.val v) (zGh op a b) op x y
def zPm (op:BinOp) (x y:zP):X:=fun es tm _ _=>
 zNS (aV es tm x) (fun a=>zNS (aV es tm y) (fun b=>zK1 op a b (aV es tm x) (aV es tm y)) (j0 op (aV es tm x) (aV es tm y))) (j0 op (aV es tm x) (aV es tm y))
def uq:EqK→CV→CV→Option Bool
 | .bool,.bool a,.bool b=>some (a == b)
 | .int,.nat a,.nat b=>some (Nat.beq a b)
 | .int,.int k a,.int j b=>match kEq k j with
  | true=>some (zx a b)
  | false=>none
 | .int,.nat _,.int .i64 (.negSucc _)=>some false
 | .int,.int .i64 (.negSucc _),.nat _=>some false
 | .str,.str a,.str b=>some (xq a b)
 | _,_,_=>none
def eqFields (xs ys:List CV):List (Nat × EqK)→Option Bool
 | []=>some true
 | (o,k)::r=>match zCm xs o,zCm ys o with
  | some x,some y=>match uq k x y with
   | some true=>eqFields xs ys r
   | some false=>some false
   | none=>none
  | _,_=>none
def eqC (k:EqK) (cst:Bool) (x y:CV):Option Bool:=match k with
 | .bool=>uq .bool x y
 | .int=>none
 | .str=>none
 | .pointer=>match x,y with
  | .nilptr,.nilptr=>some true
  | .nilptr,.ptr _ _=>some false
  | .ptr _ _,.nilptr=>some false
  | _,_=>none
 | .iface=>match x,y with
  | .niliface,.niliface=>if cst then some true else none
  | .niliface,.iface _ _=>some false
  | .iface _ _,.niliface=>some false
  | _,_=>none
 | .slice=>match x,y with
  | .nilsl,.nilsl=>some true
  | .nilsl,.sl ..=>some false
  | .sl ..,.nilsl=>some false
  | _,_=>none
 | .map=>match x,y with
  | .nilmap,.nilmap=>some true
  | .nilmap,.map _=>some false
  | .map _,.nilmap=>some false
  | _,_=>none
 | .func=>match x,y with
  | .nilfunc,.nilfunc=>some true
  | .nilfunc,.func ..=>some false
  | .func ..,.nilfunc=>some false
  | _,_=>none
 | .struct fs=>match x,y with
  | .agg xs,.agg ys=>eqFields xs ys fs
  | _,_=>none
def xEq (neg:Bool) (k:EqK) (cst:Bool) (x y:zP):X:=fun es tm _ _=>match eqC k cst (aV es tm x) (aV es tm y) with
 | some b=>.val (.bool (xor neg b))
 | none=>.err 123
def xUn (op:UnOp) (x:zP):X:=fun es tm _ _=>match op with
 | .neg=>zP8 (aV es tm x) (fun k n=>.val (zU k (yZ k (Int.sub (.ofNat 0) n)))) 124
 | .xor=>zP8 (aV es tm x) (fun k n=>zDs (zR4 k (if k.signed then -1 else k.max) n) 125) 126
 | .not=>zJ7 (aV es tm x) (fun b=>.val (.bool (zBG b))) 127
 | .plus=>.err 128
def zFv (k:IntKind) (v:CV):OR:=match zOk v with
 | true=>zQ8 (Sym.cv k v) 129
 | false=>zQe v (fun _ a=>.val (zU k (yZ k a))) (fun _=>.val (.anyi k)) 129
def zNZ (k:IntKind) (x:zP):X:=fun es tm _ _=>zFv k (aV es tm x)
def zPC (x:zP):X:=fun es tm _ _=>uL (aV es tm x) (fun s=>.val (.str s)) 130
def xk (s:List Nat):List CV:=List.rec (motive:=fun _=>List CV) [] (fun b _ ih=>.int .u8 (.ofNat b)::ih) s
def wh (v:CV):Option Nat:=match v with
 | .int .u8 (.ofNat b)=>match Nat.ble b 255 with
  | true=>some b
  | false=>none
 | _=>none
def jP (l:List CV):Option (List Nat):=
 List.rec (motive:=fun _=>Option (List Nat)) (some []) (fun v _ ih=>Option.rec (motive:=fun _=>Option (List Nat)→Option (List Nat)) (fun _=>none) (fun b r=>zLK b r) (wh v) ih) l
def zMR (l:List CV):CV:=match jP l with
 | some r=>.str r
 | none=>.sst l
def zRL (x:zP):X:=fun es tm _ n=>zGa (aV es tm x) (fun l=>wR (vM l) fun k=>.alloc (.cells l) (.sl n 0 k k 1 false)) <| uL (aV es tm x) (fun l=>wR (zBS l) fun k=>.alloc (.cells (xk l)) (.sl n 0 k k 1 false)) 131
def zLJ (x:zP):X:=fun es tm h n=>uQ (aV es tm x) (.err 132) (fun b off len cap esz ex=>kD (getH b h) (fun _=>.eff (.sl b off len cap esz ex) h n) 133) 134
def zSR (v:Option (List Nat)) (c:Nat):OR:=Option.rec (motive:=fun _=>Nat→OR) (fun c=>.err c) (fun v _=>.val (.str v)) v c
def zH4 (v:CV):Bool:=match v with
 | .int k (.ofNat b)=>kEq k .u8&&Nat.ble b 255
 | .sym e=>kEq e.k .u8&&(match Sym.bin .leq (.sym e) (.int .u8 (.ofNat 255)),Sym.bin .geq (.sym e) (.int .u8 (.ofNat 0)) with
  | some [.bool true],some [.bool true]=>true
  | _,_=>false)
 | _=>false
def zB0:List CV→Bool
 | []=>true
 | v::r=>zH4 v&&zB0 r
def zKh (cs:List CV):OR:=match jP cs with
 | some r=>.read (.str r)
 | none=>match zB0 cs with
  | true=>.read (.sst cs)
  | false=>.err 135
def zQZ (m:SE):Bool:=match Sym.bin .leq (.sym m) (.nat 0) with
 | some [.bool true]=>true
 | _=>false
def zRS (x:zP):X:=fun es tm h _=>zJQ (aV es tm x) (fun _ _ _ m=>yU (zQZ m) (.val (.str [])) 138) <| uQ (aV es tm x) (.val (.str [])) (fun b off len _ _ _=>vV (getH b h) (fun vs=>
 onL (uS vs off len) zKh 136) 137) 138
def zN6 (t:TypeId) (x:zP):X:=fun es tm _ _=>.val (.iface t (aV es tm x))
def zRV (fn:Fn) (a b:List zP):X:=fun es tm _ _=>.val (.func fn (aVs es tm a) (aVs es tm b))
def zQl:X:=fun _ _ _ n=>.alloc (.map [] 0) (.map n)
def zJa (zero:List CV) (esz bytes:Nat) (l c:zP):X:=fun es tm _ n=>vJ (aV es tm l) (fun l=>vJ (aV es tm c) (fun c=>
 yU (Nat.ble l c&&Nat.ble (Nat.mul c esz) 100000&&Nat.ble (Nat.mul bytes c) 1000000)
  (wR l fun l=>wR c fun c=>.alloc (.cells (kR zero c)) (.sl n 0 l c esz true)) 139) 140) 141
def zAT (es:List CV) (tm:Tm) (x:Option zP) (y d:Nat) (k:Nat→OR) (e:Nat):OR:=
 Option.rec (motive:=fun _=>Nat→(Nat→OR)→OR) (fun d k=>k d) (fun x _ k=>vJ (aV es tm x) (fun i=>yU (Nat.ble i y) (k i) e) e) x d k
def qd (es:List CV) (tm:Tm) (len cap:Nat) (lo hi mx:Option zP) (k:Nat→Nat→Nat→OR) (e:Nat):OR:=
 zAT es tm mx cap cap (fun m=>zAT es tm hi m len (fun h=>zAT es tm lo h 0 (fun l=>k l h m) e) e) e
def zL8 (b:Key) (off esz:Nat) (ex:Bool):Nat→Nat→Nat→OR:=fun l h m=>
 yU (Nat.ble h m&&Nat.ble l h) (wR (Nat.add off (Nat.mul l esz)) fun o=>wR (Nat.sub h l) fun hl=>wR (Nat.sub m l) fun ml=>.val (.sl b o hl ml esz ex)) 142
def zO7 (len esz:Nat) (x:zP) (lo hi mx:Option zP):X:=fun es tm _ _=>zC5 (aV es tm x) (fun b off=>
 qd es tm len len lo hi mx (zL8 b off esz true) 143) 144
def zAk (es:List CV) (tm:Tm) (h:Heap) (b:Key) (off cap esz:Nat) (ex:Bool) (lo hi mx:Option zP) (k0:OR):OR:=match ex,lo,mx,hi with
 | false,none,none,some y=>match aV es tm y with
  | .nat m=>match Nat.ble m cap,cap with
   | false,_+1=>kD (getH b h) (fun vs=>yU (Nat.ble (Nat.add off (Nat.mul m esz)) (vM vs)) (wR m fun m=>.read (.sl b off m m esz false)) 146) 146
   | _,_=>k0
  | _=>k0
 | _,_,_,_=>k0
def zF6 (es:List CV) (tm:Tm) (b:Key) (z:Nat) (e n:SE) (esz:Nat) (lo hi mx:Option zP):OR:=match lo,mx,hi with
 | none,none,some y=>match aV es tm y with
  | .nat m=>match Nat.beq z esz&&Nat.ble 1 m,Sym.bin .leq (.nat m) (.sym n),Sym.bin .leq (.nat 0) (.sym e),Sym.bin .leq (.sym e) (.nat 0) with
   | true,some [.bool true],some [.bool true],some [.bool true]=>wR m fun m=>.val (.sl b 0 m m esz false)
   | _,_,_,_=>.err 325
  | _=>.err 325
 | _,_,_=>.err 325
def zRI (esz:Nat) (x:zP) (lo hi mx:Option zP):X:=fun es tm h _=>zJQ (aV es tm x) (fun b z e n=>zF6 es tm b z e n esz lo hi mx) <| uQ (aV es tm x)
 (qd es tm 0 0 lo hi mx (fun _ _ _=>.val .nilsl) 145)
 (fun b off len cap s ex=>yU (Nat.beq s esz) (zAk es tm h b off cap esz ex lo hi mx (qd es tm len cap lo hi mx (zL8 b off esz (ex || mx.isSome)) 146)) 147) 148
def zPR (x:zP) (lo hi:Option zP):X:=fun es tm _ _=>zGa (aV es tm x) (fun s=>
 wR (vM s) fun n=>qd es tm n n lo hi none (fun l h _=>yU (Nat.ble l h) (onL (uS s l (Nat.sub h l)) (fun r=>.val (zMR r)) 149) 149) 150) <| uL (aV es tm x) (fun s=>
 wR (zBS s) fun n=>qd es tm n n lo hi none (fun l h _=>yU (Nat.ble l h) (zSR (zSf s l (Nat.sub h l)) 149) 149) 150) 151
def zMx (k:Nat) (x:zP):X:=fun es tm _ _=>zC5 (aV es tm x) (fun b off=>wR (Nat.add off k) fun o=>.val (.ptr b o)) 152
def zQh (agg:Bool) (s:Nat) (cs:List CV) (off:Nat) (e:Nat):OR:=Bool.rec (motive:=fun _=>OR) (zDs (zCm cs off) e) (zSo (uS cs off s) e) agg
def zRJ (agg:Bool) (off s:Nat) (x:zP):X:=fun es tm _ _=>zP1 (aV es tm x) (fun cs=>zQh agg s cs off 153) 154
def zPn (len esz:Nat) (x i:zP):X:=fun es tm _ _=>zC5 (aV es tm x) (fun b off=>vJ (aV es tm i) (fun i=>
 yU (Nat.ble (Nat.succ i) len) (wR (Nat.add off (Nat.mul i esz)) fun o=>.val (.ptr b o)) 155) 156) 157
def vA:List (Nat × Int)→List (Nat × Int)→Bool
 | [],[]=>true
 | (i,a)::l,(j,b)::m=>Nat.beq i j&&zx a b&&vA l m
 | _,_=>false
def zQ5 (a b:SE):Bool:=kEq a.k b.k&&zx a.c b.c&&vA a.l b.l
def zOr (b:Key) (s:Nat) (e n:SE) (esz:Nat) (i:CV):OR:=match i with
 | .sym j=>match zQ5 j e&&Nat.beq s esz with
  | true=>match Sym.bin .leq (.nat 0) (.sym e),Sym.bin .lss (.sym e) (.sym n) with
   | some [.bool true],some [.bool true]=>.val (.ptr b 0)
   | _,_=>.err 320
  | false=>.err 321
 | _=>.err 322
def zEY (x y:CV):Option Bool:=match Sym.cv .i64 x,Sym.bin .leq x y,Sym.bin .geq x y with
 | some _,some [.bool a],some [.bool b]=>some (a&&b)
 | _,_,_=>none
def zIQ (i:CV):CV:=match i with
 | .sym j=>match Sym.bin .andNot (.sym j) (.nat 0) with
  | some [.nat k]=>match zEY (.sym j) (.nat k) with
   | some true=>.nat k
   | _=>.sym j
  | _=>.sym j
 | i=>i
def zSe (v:CV):CV:=match v with
 | .few i t=>match zIQ (.sym ⟨.i64,0,[(i,1)]⟩) with
  | .nat k=>match nth t k with
   | some s=>.str s
   | none=>v
  | _=>v
 | v=>v
def zQa (esz:Nat) (b:Key) (off len:Nat) (v:CV) (z:OR):OR:=match v with
 | .sym e=>match e.l with
  | [(i,a)]=>match kEq e.k .i64&&zx e.c 0&&zx a 1&&Nat.beq esz 1,Sym.bin .geq (.sym e) (.nat 0),Sym.bin .leq (.sym e) (.nat (Nat.sub len 1)),len with
   | true,some [.bool true],some [.bool true],m+1=>.val (.elt b off i m)
   | _,_,_,_=>z
  | _=>z
 | _=>z
def zRR (esz:Nat) (x i:zP):X:=fun es tm _ _=>zJQ (aV es tm x) (fun b s e n=>zOr b s e n esz (aV es tm i)) <| uQ (aV es tm x) (.err 158) (fun b off len _ _ _=>zQa esz b off len (zIQ (aV es tm i)) <| vJ (zIQ (aV es tm i)) (fun i=>
 yU (Nat.ble (Nat.succ i) len) (wR (Nat.add off (Nat.mul i esz)) fun o=>.val (.ptr b o)) 159) 160) 161
def zN4 (len esz:Nat) (agg:Bool) (x i:zP):X:=fun es tm _ _=>zP1 (aV es tm x) (fun cs=>vJ (aV es tm i) (fun i=>
 yU (Nat.ble (Nat.succ i) len) (zQh agg esz cs (Nat.mul i esz) 162) 163) 164) 165
def zP6 (x i:zP):X:=fun es tm _ _=>zGa (aV es tm x) (fun s=>vJ (aV es tm i) (fun i=>zDs (zCm s i) 166) 167) <| uL (aV es tm x) (fun s=>vJ (aV es tm i) (fun i=>onN (zR2 s i) (fun b=>.val (.int .u8 (.ofNat b))) 166) 167) 168
def zBV:List CV→Bool
 | []=>true
 | .nat _::r=>zBV r
 | .int _ _::r=>zBV r
 | _=>false
def zCx:List CV→List CV→Nat→Option Bool
 | [],[],0=>some true
 | x::a,y::b,n+1=>match uq .int x y with
  | some true=>zCx a b n
  | some false=>some false
  | none=>none
 | _,_,_=>none
def zAt:ji→CV→Bool
 | .ints n,.agg cs=>Nat.beq (vM cs) n&&zBV cs
 | .int,.nat _=>true
 | .int,.int _ _=>true
 | .str,.str _=>true
 | .bool,.bool _=>true
 | .int,.sym e=>(Sym.cv .i64 (.sym e)).isSome
 | _,_=>false
def jQ:ji→CV→CV→Option Bool
 | .ints n,.agg a,.agg b=>zCx a b n
 | .int,.nat a,.nat b=>some (Nat.beq a b)
 | .int,.int j a,.int k b=>match kEq j k with
  | true=>some (zx a b)
  | false=>none
 | .str,.str a,.str b=>some (xq a b)
 | .bool,.bool a,.bool b=>some (a == b)
 | .int,.sym e,y=>zEY (.sym e) y
 | .int,.nat a,.sym e=>zEY (.nat a) (.sym e)
 | .int,.int k a,.sym e=>zEY (.int k a) (.sym e)
 | _,_,_=>none
def vH (kk:ji) (k:CV):List CE→Option (Option CV)
 | []=>some none
 | e::es=>match jQ kk k e.key with
  | some true=>match vH kk k es with
   | some none=>some (some e.val)
   | _=>none
  | some false=>vH kk k es
  | none=>none
def zJh (kk:ji) (k v:CV):List CE→Option (List CE)
 | []=>none
 | e::es=>match jQ kk k e.key with
  | some true=>some (⟨k,v,e.born⟩::es)
  | some false=>match zJh kk k v es with
   | none=>none
   | some r=>some (e::r)
  | none=>none
def zJg (kk:ji) (k:CV):List CE→Option (List CE)
 | []=>none
 | e::es=>match jQ kk k e.key with
  | some true=>some es
  | some false=>match zJg kk k es with
   | none=>none
   | some r=>some (e::r)
  | none=>none
def okV (ok:Bool) (v:CV):CV:=match ok with
 | true=>.tup [v,.bool true]
 | false=>v
def zBP (kk:ji) (z:CV) (ok:Bool) (k:CV) (es:List CE):OR:=yU (zAt kk k) (match vH kk k es with
 | some (some v)=>.read (okV ok v)
 | some none=>.read (match ok with | true=>.tup [z,.bool false] | false=>z)
 | none=>.err 169) 170
def noZ (kk:ji) (k:CV):List (CV × CV)→Bool
 | []=>true
 | q::r=>match jQ kk k q.1 with
  | some false=>noZ kk k r
  | _=>false
def zGA (kk:ji) (k:CV):List (CV × CV)→Option CV
 | []=>none
 | q::r=>match jQ kk k q.1 with
  | some true=>match noZ kk k r with
   | true=>some q.2
   | false=>none
  | some false=>zGA kk k r
  | none=>none
def zDw (kk:ji) (k v:CV):List (CV × CV)→List (CV × CV)
 | []=>[]
 | q::r=>match jQ kk k q.1 with
  | some true=>(k,v)::r
  | _=>q::zDw kk k v r
def zJD:CV→Bool
 | .str []=>true
 | _=>false
def zRc (kk:ji) (z:CV) (ok:Bool) (k:CV) (es:List (CV × CV)):OR:=yU (!ok&&zJD z&&zAt kk k) (match zGA kk k es with
 | some v=>.read (zSe v)
 | none=>.err 234) 235
def zLN (kk:ji) (z:CV) (ok:Bool) (x k:zP):X:=fun es tm h _=>zCY (aV es tm x) (zBP kk z ok (aV es tm k) [])
 (fun b=>zIb (getH b h) (fun l=>zRc kk z ok (aV es tm k) l) <| wx (getH b h) (fun l _=>zBP kk z ok (aV es tm k) l) 171) 172
def zLy (kk:ji) (m k v:zP):X:=fun es tm h n=>zCY (aV es tm m) (.err 173) (fun b=>zIb (getH b h) (fun l=>yU (zAt kk (aV es tm k)) (match zGA kk (aV es tm k) l with
 | some _=>.eff .undef (yl (some (.mapz (zDw kk (aV es tm k) (aV es tm v) l))) b h) n
 | none=>.err 236) 237) <| wx (getH b h) (fun l clock=>
 yU (zAt kk (aV es tm k)) (match vH kk (aV es tm k) l with
  | some (some _)=>match zJh kk (aV es tm k) (aV es tm v) l with
   | some l'=>.eff .undef (yl (some (.map l' clock)) b h) n
   | none=>.err 174
  | some none=>wR (Nat.succ clock) fun c=>.eff .undef (yl (some (.map (l++[⟨aV es tm k,aV es tm v,clock⟩]) c)) b h) n
  | none=>.err 175) 176) 177) 178
def zFZ (x:zP):X:=fun es tm _ n=>zGa (aV es tm x) (fun s=>.alloc (.striter s 0) (.ptr n 0)) <| uL (aV es tm x) (fun s=>.alloc (.striter (xk s) 0) (.ptr n 0)) 179
def zHg (x:zP):X:=fun es tm h n=>zCY (aV es tm x) (.alloc (.mapiter none 0 [] 0) (.ptr n 0)) (fun b=>wx (getH b h) (fun _ clock=>
 .eff (.ptr n 0) (yl (some (.mapiter (some b) clock [] clock)) n h) n.succ) 180) 181
def zKB (x:Nat) (l:List Nat):Bool:=List.rec (motive:=fun _=>Bool) false (fun y _ ih=>Bool.rec (motive:=fun _=>Bool) ih true (Nat.beq x y)) l
def zHi (seen:List Nat):List CE→List CE
 | []=>[]
 | e::es=>match zKB e.born seen with
  | true=>zHi seen es
  | false=>e::zHi seen es
def zB7 (last:Nat):List CE→Bool
 | []=>true
 | e::es=>Nat.ble last e.born&&zB7 last es
def zN9 (l:List Nat):Bool:=match l with
 | []=>true
 | _=>false
def zKZ (l:List CE):Bool:=match l with
 | []=>true
 | _=>false
def zFu (since:Nat):List CE→Bool
 | []=>true
 | e::es=>Nat.ble (Nat.succ e.born) since&&zFu since es
def zDz (f:CE→OR):CE→List CE→OR
 | e,[]=>f e
 | e,e'::l=>.fork (f e) (zDz f e' l)
def zOf (v:CV):Option CV:=match v with
 | .int k (.ofNat b)=>match kEq k .u8&&Nat.ble b 127 with
  | true=>some (.int .i32 (.ofNat b))
  | false=>none
 | .sym e=>match kEq e.k .u8,Sym.bin .leq (.sym e) (.int .u8 (.ofNat 127)),Sym.bin .geq (.sym e) (.int .u8 (.ofNat 0)),Sym.cv .i32 (.sym e) with
  | true,some [.bool true],some [.bool true],some [c]=>some c
  | _,_,_,_=>none
 | _=>none
def zHy (b:Key) (h:Heap) (n:Key) (s:List CV) (pos:Nat):OR:=match zCm s pos with
 | none=>.eff (.tup [.bool false]) h n
 | some c=>match zOf c with
  | some r=>wR (Nat.succ pos) fun p=>.eff (.tup [.bool true,.nat pos,r]) (yl (some (.striter s p)) b h) n
  | none=>.err 182
def zQn (b:Key) (h:Heap) (n:Key) (m:Key) (since:Nat) (seen:List Nat) (last:Nat):OR:=wx (getH m h) (fun es clock=>
 match !zN9 seen && !zKZ es&&zB7 last es with
 | true=>.err 183
 | false=>match zHi seen es with
  | []=>.eff (.tup [.bool false]) h n
  | e::l=>yU (zFu since (e::l)) (zDz (fun e=>.eff (.tup [.bool true,e.key,e.val]) (yl (some (.mapiter (some m) since (seen++[e.born]) clock)) b h) n) e l) 184) 186
def zQj (s:Bool) (b:Key) (h:Heap) (n:Key) (o:Option CObj):OR:=match o,s with
 | some (.striter s pos),true=>zHy b h n s pos
 | some (.mapiter none _ _ _),false=>.eff (.tup [.bool false]) h n
 | some (.mapiter (some m) since seen last),false=>zQn b h n m since seen last
 | _,_=>.err 187
def zRU (s:Bool) (x:zP):X:=fun es tm h n=>zC5 (aV es tm x) (fun b off=>yU (Nat.beq off 0) (zQj s b h n (getH b h)) 188) 189
def zLE:List Nat→Option Nat
 | []=>none
 | [x]=>some x
 | _::y::r=>zLE (y::r)
def zIi (b:Nat):List CE→Bool
 | []=>true
 | e::es=>match Nat.beq e.born b with
  | true=>false
  | false=>zIi b es
def zIO (b:Nat):List CE→Option CE
 | []=>none
 | e::es=>match Nat.beq e.born b with
  | true=>match zIi b es with
   | true=>some e
   | false=>none
  | false=>zIO b es
def zJ8 (h:Heap) (o:Option CObj):OR:=match o with
 | some (.mapiter (some m) _ seen stepped)=>match zLE seen with
  | some st=>wx (getH m h) (fun es clock=>match Nat.beq clock stepped,zIO st es with
   | true,some e=>.read (.tup [e.key,e.val])
   | _,_=>.err 190) 191
  | none=>.err 192
 | _=>.err 193
def zOA (x:zP):X:=fun es tm h _=>zC5 (aV es tm x) (fun b off=>yU (Nat.beq off 0) (zJ8 h (getH b h)) 194) 195
def noV (ok:Bool) (z:Option CV):OR:=match ok,z with
 | true,some z=>.val (.tup [z,.bool false])
 | _,_=>.err 196
def zJq (t:TypeId) (z:Option CV) (ok:Bool) (x:zP):X:=fun es tm _ _=>zBy (aV es tm x)
 (fun d v=>ifB (Nat.beq d t) (.val (okV ok v)) (noV ok z)) (noV ok z) 197
def zPX (P:Program) (t d:TypeId):Option Bool:=match und P t,P.info? d with
 | some (.interface want),some i=>some (Instr.missingMethod want i.methods).isNone
 | _,_=>none
def zMd (P:Program) (t:TypeId) (z:Option CV) (ok:Bool) (x:zP):X:=fun es tm _ _=>zBy (aV es tm x)
 (fun d v=>match zPX P t d with
   | some true=>.val (okV ok (.iface d v))
   | some false=>noV ok z
   | none=>.err 198) (noV ok z) 199
def zJY (i:Nat) (x:zP):X:=fun es tm _ _=>zRH (aV es tm x) (fun vs=>zDs (zCm vs i) 200) 201
inductive vd where
 | val (v:CV)
 | var (b:Key) (off:Nat)
def zAi (h:Heap) (b:Key):Option (List CV):=match getH b h with
 | some (.cells vs)=>some vs
 | some (.ro vs)=>some vs
 | _=>none
def zMH (agg:Bool) (s:Nat) (cs:List CV) (off:Nat):Option CV:=match agg with
 | true=>(uS cs off s).map .agg
 | false=>zCm cs off
section
variable (P:Program)
def zMI (h:Heap) (t:TypeId) (b:Key) (off:Nat):Option CV:=match xw P t,xi P t,zAi h b with
 | some a,some s,some vs=>zMH a s vs off
 | _,_,_=>none
def vd.get (h:Heap) (t:TypeId):vd→Option CV
 | .val v=>some v
 | .var b off=>zMI P h t b off
def zH5 (s:FieldStep):Option Field:=match und P s.struct with
 | some (.struct fs)=>match nth fs.toList s.index with
  | some f=>match xi P f.type with
   | some (_+1)=>some f
   | _=>none
  | none=>none
 | _=>none
def wd (h:Heap):List FieldStep→TypeId→vd→Option (TypeId × vd)
 | [],t,x=>some (t,x)
 | s::rest,t,x=>match zH5 P s with
  | none=>none
  | some f=>match s.deref with
   | true=>match x.get P h t with
    | some (.ptr b off)=>wd h rest f.type (.var b (Nat.add off f.offset))
    | _=>none
   | false=>match x with
    | .var b off=>wd h rest f.type (.var b (Nat.add off f.offset))
    | .val (.agg cs)=>match xw P f.type,xi P f.type with
     | some a,some s=>match zMH a s cs f.offset with
      | some v=>wd h rest f.type (.val v)
      | none=>none
     | _,_=>none
    | .val _=>none
def zAf (h:Heap) (xt:TypeId) (x:vd) (pr:Bool):Option CV:=match und P xt,pr,x with
 | some (.pointer _),true,x=>x.get P h xt
 | some (.pointer e),false,x=>match x.get P h xt with
  | some (.ptr b off)=>zMI P h e b off
  | _=>none
 | some _,true,.var b off=>some (.ptr b off)
 | some _,true,.val _=>none
 | some _,false,x=>x.get P h xt
 | none,_,_=>none
def vj (name:String):List Method→Option Method
 | []=>none
 | m::r=>if m.name == name then some m else vj name r
def zHB (t:TypeId) (name:String):Option Method:=(P.info? t).bind fun i=>vj name i.methods.toList
def zDK (h:Heap):Nat→TypeId→CV→String→Option (FuncId × CV)
 | 0,_,_,_=>none
 | d+1,t,v,name=>match zHB P t name with
  | none=>none
  | some m=>match wd P h m.path.toList t (.val v) with
   | none=>none
   | some (xt,x)=>match m.func with
    | none=>match x.get P h xt with
     | some (.iface t' v')=>zDK h d t' v' name
     | _=>none
    | some (f,pr)=>match zAf P h xt x pr with
     | some r=>some (f,r)
     | none=>none
def zGz (h:Heap) (recv:CV) (name:String) (args:List CV):OR:=zBy recv
 (fun t v=>match zDK P h 8 t v name with
   | some (f,r)=>.call f (r::args)
   | none=>.err 202) (.err 203) 204
def zPa (h:Heap) (f:CV) (args:List CV):OR:=zKu f (fun fn first captured=>match fn with
 | .func g=>.call g (zCs first (zCs args captured))
 | .method name=>match zCs first args with
  | recv::rest=>zGz P h recv name rest
  | []=>.err 205
 | .methodOf t name=>match zCs first args with
  | recv::rest=>match und P t with
   | some (.interface _)=>zGz P h recv name rest
   | some _=>zGz P h (.iface t recv) name rest
   | none=>.err 206
  | []=>.err 207
 | .via t path g pr=>match zCs first args with
  | recv::rest=>match wd P h path.toList t (.val recv) with
   | some (xt,x)=>match zAf P h xt x pr with
    | some r=>.call g (r::rest)
    | none=>.err 208
   | none=>.err 209
  | []=>.err 210
 | _=>.err 211) 212
end
def zIg (c:Nat) (l:List Nat):Nat:=List.rec (motive:=fun _=>Nat) 0 (fun x _ ih=>Bool.rec (motive:=fun _=>Nat) ih (Nat.succ ih) (Nat.beq x c)) l
def zCE (c:Nat):List Nat→Nat→Option Nat
 | [],_=>none
 | x::r,i=>match Nat.beq x c with
  | true=>some i
  | false=>zCE c r (Nat.succ i)
def zBH (e:Ext) (args:List CV) (h:Heap) (n:Key):OR:=match e,args with
 | .count,[a,b]=>uL a (fun s=>onN (wh b) (fun c=>.val (kP (zIg c s))) 213) 214
 | .indexByte,[a,b]=>uL a (fun s=>onN (wh b) (fun c=>match zCE c s 0 with
  | some i=>.val (kP i)
  | none=>.val (.int .i64 (.negSucc 0))) 215) 216
 | .cmp,[a,b]=>uL a (fun s=>uL b (fun t=>ifB (xq s t) (.val (.nat 0)) (ifB (um s t) (.val (.int .i64 (.negSucc 0))) (.val (.nat 1)))) 223) 224
 | .overlaps,[a,b]=>uQ a (.err 225) (fun k _ l _ _ _=>uQ b (.err 226) (fun j _ m _ _ _=>yU (!decide (j=k)) (zH0 (getH k h) (fun u _=>yU u (kD (getH j h) (fun vs=>yU (Nat.ble 1 (vM vs)) (.eff (.bool false) h n) 227) 228) 233) (.err 229)) 230) 231) 232
 | .mapsClone,[a]=>zBy a (fun t v=>zCY v (.err 217) (fun b=>wx (getH b h) (fun es clock=>
  .eff (.iface t (.map n)) (yl (some (.map es clock)) n h) n.succ) 218) 219) (.err 220) 221
 | _,_=>.err 222
def zRX (f:FuncId) (args:List zP):X:=fun es tm _ _=>.call f (aVs es tm args)
def zRF (e:Ext) (args:List zP):X:=fun es tm h n=>zBH e (aVs es tm args) h n
def zP3 (P:Program) (f:zP) (args:List zP):X:=fun es tm h _=>zPa P h (aV es tm f) (aVs es tm args)
def zLZ (P:Program) (r:zP) (name:String) (args:List zP):X:=fun es tm h _=>zGz P h (aV es tm r) name (aVs es tm args)
def zKT (h:Heap) (s:Nat) (x:CV) (k:Nat→List CV→OR) (n:Nat→Nat) (e:Nat):OR:=match x with
 | .str l=>yU (Nat.beq s 1) (onL ((zI3 l (n (zBS l))).map xk) (fun cs=>k (n (zBS l)) cs) e) e
 | .sst l=>yU (Nat.beq s 1) (onL (zJj l (n (vM l))) (fun cs=>k (n (vM l)) cs) e) e
 | .win _ _ _ m=>yU (zQZ m) (k (n 0) []) e
 | x=>uQ x (k 0 []) (fun b off len _ _ _=>vV (getH b h) (fun vs=>onL (uS vs off (Nat.mul (n len) s)) (fun cs=>k (n len) cs) e) e) e
def zF9 (esz k:Nat) (xs:List CV) (sv:CV) (h:Heap) (n:Key):OR:=uQ sv
 (match k with
  | 0=>.eff .nilsl h n
  | k+1=>yU (Nat.ble k 99999) (wR k fun k=>.eff (.sl n 0 (Nat.succ k) (Nat.succ k) esz false) (yl (some (.cells xs)) n h) n.succ) 223)
 (fun b off len cap s ex=>yU (Nat.beq s esz) (zH0 (getH b h) (fun _ vs=>wR (Nat.add len k) fun need=>
   yU ((match ex with | true=>Nat.ble (Nat.succ cap) need | false=>Nat.ble 1 need&&Nat.ble (Nat.succ (vM vs)) (Nat.add off (Nat.mul need esz)))&&Nat.ble need 100000) (onL (uS vs off (Nat.mul len esz)) (fun old=>
    .eff (.sl n 0 need need esz false) (yl (some (.cells (zCs old xs))) n h) n.succ) 225) 226) <| kD (getH b h) (fun vs=>wR (Nat.add len k) fun need=>
   ifB (Nat.ble need cap)
    (onL (qz xs (Nat.mul k esz) vs (Nat.add off (Nat.mul len esz))) (fun l=>.eff (.sl b off need cap esz ex) (yl (some (.cells l)) b h) n) 224)
    (yU (Nat.ble need 100000) (onL (uS vs off (Nat.mul len esz)) (fun old=>
      .eff (.sl n 0 need need esz false) (yl (some (.cells (zCs old xs))) n (Bool.rec (motive:=fun _=>Heap) (yl none b h) h ex)) n.succ) 225) 226)) 227) 228) 229
def zAm (esz _bytes:Nat) (s x:zP):X:=fun es tm h n=>zKT h esz (aV es tm x) (fun k xs=>yU (xE xs) (zF9 esz k xs (aV es tm s) h n) 230)
 (fun k=>k) 231
def zMs (zero:List CV) (esz:Nat) (s x:zP):X:=fun es tm h n=>vJ (aV es tm x) (fun k=>yU (Nat.ble k 1000) (wR k fun k=>yU (xE (kR zero k)) (zF9 esz k (kR zero k) (aV es tm s) h n) 234) 234) 234
def zPU (x:CV) (k:Nat→OR) (e:Nat):OR:=match x with
 | .str l=>k (zBS l)
 | x=>uQ x (k 0) (fun _ _ len _ _ _=>k len) e
def zGE (esz:Nat) (d x:zP):X:=fun es tm h n=>zPU (aV es tm d) (fun dl=>zKT h esz (aV es tm x) (fun k xs=>uQ (aV es tm d)
 (.eff (.nat 0) h n)
 (fun b off _ _ _ _=>kD (getH b h) (fun vs=>yU (xE xs) (onL (qz xs (Nat.mul k esz) vs off) (fun l=>.eff (kP k) (yl (some (.cells l)) b h) n) 232) 233) 234) 235)
 (fun xl=>Nat.min xl dl) 236) 237
def zLO (x:zP):X:=fun es tm _ _=>zGa (aV es tm x) (fun l=>.val (kP (vM l))) <| uL (aV es tm x) (fun s=>.val (kP (zBS s))) 238
def zQb (x:zP):X:=fun es tm _ _=>zJQ (aV es tm x) (fun _ _ _ n=>.val (.sym n)) <| uQ (aV es tm x) (.val (.nat 0)) (fun _ _ len _ _ _=>.val (.nat len)) 239
def zMB (x:zP):X:=fun es tm h _=>zCY (aV es tm x) (.val (.nat 0)) (fun b=>wx (getH b h) (fun l _=>.read (kP (zNg l))) 240) 241
def zOd (vs:List CV) (k:Nat):List CV:=zCs vs (kR [.any] (Nat.sub k (vM vs)))
def zPZ (b:Key) (off len cap esz:Nat) (h:Heap) (n:Key):OR:=ifB (Nat.ble (Nat.succ len) cap) (.val (.big cap))
 (kD (getH b h) (fun vs=>yU (Nat.ble 1 cap) (.fork (.eff (.nat cap) (yl (some (.full false (zOd vs (Nat.add off (Nat.mul cap esz))))) b h) n)
   (.eff (.big (Nat.succ cap)) (yl (some (.cells (zOd vs (Nat.add off (Nat.mul (Nat.succ cap) esz))))) b h) n)) 242) 242)
def zNX (x:zP):X:=fun es tm h n=>uQ (aV es tm x) (.val (.nat 0)) (fun b off len cap esz ex=>ifB ex (.val (.nat cap)) (zPZ b off len cap esz h n)) 243
def zLp (kk:ji) (m k:zP):X:=fun es tm h n=>yU (zAt kk (aV es tm k)) (zCY (aV es tm m) (.eff (.tup []) h n) (fun b=>wx (getH b h) (fun l clock=>
 match vH kk (aV es tm k) l with
 | some (some _)=>match zJg kk (aV es tm k) l with
  | some l'=>.eff (.tup []) (yl (some (.map l' clock)) b h) n
  | none=>.err 244
 | some none=>.eff (.tup []) h n
 | none=>.err 245) 246) 247) 248
def zGZ (x:zP):X:=fun es tm h n=>zCY (aV es tm x) (.eff (.tup []) h n) (fun b=>wx (getH b h) (fun _ clock=>.eff (.tup []) (yl (some (.map [] clock)) b h) n) 249) 250
def zJC (zero:List CV) (esz:Nat) (x:zP):X:=fun es tm h n=>uQ (aV es tm x) (.eff (.tup []) h n) (fun b off len _ _ _=>kD (getH b h) (fun vs=>
 yU (xE zero) (onL (qz (kR zero len) (Nat.mul len esz) vs off) (fun l=>.eff (.tup []) (yl (some (.cells l)) b h) n) 251) 252) 253) 254
def intOf:CV→Option (IntKind × Int)
 | .nat n=>some (.i64,.ofNat n)
 | .int k n=>some (k,n)
 | _=>none
def zQy (mx:Bool) (k:IntKind):Int→List CV→Option CV
 | a,[]=>some (zU k a)
 | a,v::r=>match intOf v with
  | some (j,b)=>match kEq k j with
   | true=>zQy mx k (match mx with
    | true=>(match wE a b with | true=>b | false=>a)
    | false=>(match wE b a with | true=>b | false=>a)) r
   | false=>none
  | none=>none
def zKa (mx:Bool):CV→List CV→Option CV
 | x,[]=>some x
 | x,v::r=>match Sym.cv .i64 x,Sym.bin .lss (Bool.rec (motive:=fun _=>CV) v x mx) (Bool.rec (motive:=fun _=>CV) x v mx) with
  | some _,some [.bool b]=>zKa mx (Bool.rec (motive:=fun _=>CV) x v b) r
  | some _,_=>match Sym.bin .leq (Bool.rec (motive:=fun _=>CV) v x mx) (Bool.rec (motive:=fun _=>CV) x v mx) with
   | some [.bool true]=>zKa mx v r
   | _=>none
  | none,_=>none
def zSK (mx:Bool) (x:CV) (r:List CV):Option CV:=match intOf x with
 | some (k,a)=>match zQy mx k a r with
  | some v=>some v
  | none=>zKa mx x r
 | none=>zKa mx x r
def zLW (mx:Bool) (x:zP) (r:List zP):X:=fun es tm _ _=>zDs (zSK mx (aV es tm x) (aVs es tm r)) 255
def zOB (f:zP) (args:List zP):X:=fun es tm _ _=>zKu (aV es tm f) (fun fn first captured=>match fn with
 | .func g=>.dfr g (zCs first (zCs (aVs es tm args) captured))
 | _=>.err 256) 257
def zN5:X:=fun _ _ _ _=>.recov
def zSX (c:Nat):X:=fun _ _ _ _=>.err (Nat.add 1000 c)
def yD (P:Program) (op:COp):X:=
 COp.rec (motive:=fun _=>X) xMv zRN zOz zSJ zNW zLG zPK zPs zO6 zOb zPm xEq xUn zNZ zPC zRL zLJ zRS
  zN6 zRV zQl zJa zO7 zRI zPR zMx zRJ zPn zRR zN4 zP6 zLN zLy zFZ zHg zRU zOA
  zJq (zMd P) zJY zRX zRF (zP3 P) (zLZ P) zAm zMs zGE zLO zQb zMB zNX zLp zGZ zJC zLW
  zOB zN5 zSX op
inductive CX where
 | normal
 | exit (id:Nat)
 | ret
abbrev xP:=List (FuncId × List CV)
inductive R where
 | ok (e:CX) (tm:Tm) (ds:xP) (h:Heap) (n:Key)
 | ret (v:CV) (h:Heap) (n:Key)
 | err (c:Nat)
 | fork (a b:R)
abbrev yT:=Bool→FuncId→List CV→Heap→Key→R
abbrev K:=Tm→xP→Heap→Key→R
abbrev KE:=List CV→K
def z6 (d:Option Loc) (v:CV) (tm:Tm) (k:Tm→R):R:=Option.rec (motive:=fun _=>CV→Tm→(Tm→R)→R) (fun _ tm k=>k tm) (fun p v tm k=>k (k8 v p tm)) d v tm k
abbrev uv:=yT→KE→Option Loc→List CV→K
def zSL (v:CV):uv:=fun _ k d es tm ds h n=>z6 d v tm fun tm=>k (v::es) tm ds h n
def zSr (o:CObj) (v:CV):uv:=fun _ k d es tm ds h n=>z6 d v tm fun tm=>k (v::es) tm ds (yl (some o) n h) n.succ
def zTX (v:CV) (h:Heap) (n:Key):uv:=fun _ k d es tm ds _ _=>z6 d v tm fun tm=>k (v::es) tm ds h n
def zTb (f:FuncId) (args:List CV):uv:=fun call k d es tm ds h n=>
 R.rec (motive:=fun _=>R) (fun _ _ _ _ _=>.err 300) (fun v h n=>z6 d v tm fun tm=>k (v::es) tm ds h n) (fun c=>.err c) (fun _ _ a b=>.fork a b) (call false f args h n)
def zTu (f:FuncId) (args:List CV):uv:=fun _ k d es tm ds h n=>z6 d .undef tm fun tm=>k (.undef::es) tm ((f,args)::ds) h n
def zSD:uv:=fun _ k d es tm ds h n=>z6 d .niliface tm fun tm=>k (.niliface::es) tm ds h n
def zTV (c:Nat):uv:=fun _ _ _ _ _ _ _ _=>.err c
def zSN (_ _:OR) (a b:uv):uv:=fun call k d es tm ds h n=>.fork (a call k d es tm ds h n) (b call k d es tm ds h n)
def after (r:OR):uv:=OR.rec (motive:=fun _=>uv) zSL zSL zSr zTX zTb zTu zSD zTV zSN r
def jY (w:Bool) (v:CV):Bool:=match v with
 | .bool b=>match b,w with
  | true,true=>true
  | false,false=>true
  | _,_=>false
 | _=>false
def kW (v:CV):Bool:=match v with
 | .any=>false
 | _=>true
def iI (P:Program) (call:yT) (op:COp) (k:KE):KE:=fun es tm ds h n=>after (yD P op es tm h n) call k none es tm ds h n
def iO (P:Program) (call:yT) (op:COp) (d:Loc) (k:KE):KE:=fun es tm ds h n=>after (yD P op es tm h n) call k (some d) es tm ds h n
def iG (P:Program) (call:yT) (x:zP) (w:Bool) (op:COp) (d:Option Loc) (k:KE):KE:=fun es tm ds h n=>
 Bool.rec (motive:=fun _=>R)
  (Bool.rec (motive:=fun _=>R) (.err 299) (z6 d .undef tm fun tm=>k (.undef::es) tm ds h n) (kW (aV es tm x)))
  (after (yD P op es tm h n) call k d es tm ds h n) (jY w (aV es tm x))
def zSx (P:Program) (call:yT) (i:qO):KE→KE:=qO.rec (motive:=fun _=>KE→KE) (iI P call) (iO P call) (iG P call) i
def ya (P:Program) (call:yT) (l:List qO):KE:=
 List.rec (motive:=fun _=>KE) (fun _ tm ds h n=>.ok .normal tm ds h n) (fun i _ ih=>zSx P call i ih) l
mutual
def CV.beq:CV→CV→Bool
 | .bool a,.bool b=>a == b
 | .nat a,.nat b=>Nat.beq a b
 | .int k a,.int j b=>kEq k j&&zx a b
 | .sym a,.sym b=>kEq a.k b.k&&zx a.c b.c&&vA a.l b.l
 | .str a,.str b=>xq a b
 | .nilptr,.nilptr=>true
 | .ptr a b,.ptr c d=>decide (a=c)&&Nat.beq b d
 | .nilsl,.nilsl=>true
 | .sl a b c d e f,.sl a' b' c' d' e' f'=>decide (a=a')&&Nat.beq b b'&&Nat.beq c c'&&Nat.beq d d'&&Nat.beq e e'&&f == f'
 | .nilmap,.nilmap=>true
 | .map a,.map b=>decide (a=b)
 | .func f a b,.func g c d=>decide (f=g)&&CV.beqs a c&&CV.beqs b d
 | .nilfunc,.nilfunc=>true
 | .iface t v,.iface u w=>Nat.beq t u&&CV.beq v w
 | .niliface,.niliface=>true
 | .agg a,.agg b=>CV.beqs a b
 | .tup a,.tup b=>CV.beqs a b
 | .sst a,.sst b=>CV.beqs a b
 | _,_=>false
def CV.beqs:List CV→List CV→Bool
 | [],[]=>true
 | a::as,b::bs=>CV.beq a b&&CV.beqs as bs
 | _,_=>false
end
abbrev KD:=List CV→List Heap→K
def qm (P:Program) (op:COp) (es:List CV) (tm:Tm) (n:Key) (v:CV):Nat→List Heap→Bool
 | 0,_=>true
 | _+1,[]=>true
 | c+1,h::hs=>match yD P op es tm h n with
  | .read w=>CV.beq v w&&qm P op es tm n v c hs
  | _=>false
def zKQ (call:yT) (d:Option Loc) (k:KD) (r:OR):KD:=fun es hs tm ds h n=>match r with
 | .val v=>z6 d v tm fun tm=>k (v::es) (h::hs) tm ds h n
 | .read v=>z6 d v tm fun tm=>k (v::es) (h::hs) tm ds h n
 | .alloc o v=>z6 d v tm fun tm=>k (v::es) (h::hs) tm ds (yl (some o) n h) n.succ
 | .eff v h' n'=>z6 d v tm fun tm=>k (v::es) (h::hs) tm ds h' n'
 | .call f args=>R.rec (motive:=fun _=>R) (fun _ _ _ _ _=>.err 300) (fun v h' n'=>z6 d v tm fun tm=>k (v::es) (h::hs) tm ds h' n') (fun c=>.err c)
  (fun _ _ a b=>.fork a b) (call false f args h n)
 | .err c=>.err c
 | _=>.err 312
def dNo (P:Program) (op:COp) (d:Option Loc) (chk:Nat) (k:KD) (r:OR):KD:=fun es hs tm ds h n=>match r with
 | .val v=>z6 d v tm fun tm=>k (v::es) hs tm ds h n
 | .read v=>match qm P op es tm n v chk hs with
  | true=>z6 d v tm fun tm=>k (v::es) hs tm ds h n
  | false=>.err 311
 | .alloc o v=>z6 d v tm fun tm=>k (v::es) hs tm ds (yl (some o) n h) n.succ
 | .err c=>.err c
 | _=>.err 313
def dOp (P:Program) (call:yT) (op:COp) (d:Option Loc) (e:Bool) (chk:Nat) (k:KD):KD:=fun es hs tm ds h n=>match e with
 | true=>zKQ call d k (yD P op es tm h n) es hs tm ds h n
 | false=>dNo P op d chk k (yD P op es tm h n) es hs tm ds h n
def zD3 (d:Option Loc) (e:Bool) (k:KD):KD:=fun es hs tm ds h n=>z6 d .undef tm fun tm=>k (.undef::es) (match e with | true=>h::hs | false=>hs) tm ds h n
def evD (P:Program) (call:yT):List zNC→KD
 | [],_,_,tm,ds,h,n=>.ok .normal tm ds h n
 | i::r,es,hs,tm,ds,h,n=>match i.ins with
  | .i op=>dOp P call op none i.eff i.chk (evD P call r) es hs tm ds h n
  | .o op d=>dOp P call op (some d) i.eff i.chk (evD P call r) es hs tm ds h n
  | .g x w op d=>match jY w (aV es tm x) with
   | true=>dOp P call op d i.eff i.chk (evD P call r) es hs tm ds h n
   | false=>match kW (aV es tm x) with
    | true=>zD3 d i.eff (evD P call r) es hs tm ds h n
    | false=>.err 299
def xz (k:K) (r:R):R:=R.rec (motive:=fun _=>R) (fun e tm ds h n=>CX.rec (motive:=fun _=>R) (k tm ds h n) (fun id=>.ok (.exit id) tm ds h n) (.ok .ret tm ds h n) e)
 (fun _ _ _=>.err 301) (fun c=>.err c) (fun _ _ a b=>.fork a b) r
def uI (id:Nat) (r:R):R:=R.rec (motive:=fun _=>R) (fun e tm ds h n=>CX.rec (motive:=fun _=>R) (.ok .normal tm ds h n)
 (fun i=>Bool.rec (motive:=fun _=>R) (.ok (.exit i) tm ds h n) (.ok .normal tm ds h n) (Nat.beq i id)) (.ok .ret tm ds h n) e)
 (fun _ _ _=>.err 301) (fun c=>.err c) (fun _ _ a b=>.fork a b) r
def zFX (a b:K) (v:CV):K:=match v with
 | .bool true=>a
 | .bool false=>b
 | _=>fun _ _ _ _=>.err 302
def zAz (fuel:Nat) (b:K):K:=Nat.rec (motive:=fun _=>K) (fun _ _ _ _=>.err 303) (fun _ ih tm ds h n=>xz ih (b tm ds h n)) fuel
def uV:Nat:=100000
def zi (P:Program) (call:yT) (c:CCode):K:=
 CCode.rec (motive:=fun _=>K)
  (fun tm ds h n=>.ok .normal tm ds h n)
  (fun ops=>ya P call ops [])
  (fun ops=>evD P call ops [] [])
  (fun _ _ a b tm ds h n=>xz b (a tm ds h n))
  (fun x _ _ a b tm ds h n=>zFX a b (aV [] tm x) tm ds h n)
  (fun id _ b tm ds h n=>uI id (b tm ds h n))
  (fun _ b=>zAz uV b)
  (fun id tm ds h n=>.ok (.exit id) tm ds h n)
  (fun tm ds h n=>.ok .ret tm ds h n)
  (fun _ b=>b)
  (fun c _ _ _ _=>.err (Nat.add 2000 c)) c
def zOG (h:Heap) (tm:Tm) (r:CRes):Option CV:=match r with
 | .tmp x=>some (aV [] tm x)
 | .cell1 x=>match aV [] tm x with
  | .ptr b off=>match zAi h b with
   | some cs=>zCm cs off
   | none=>none
  | _=>none
 | .cellN x s=>match aV [] tm x with
  | .ptr b off=>match zAi h b with
   | some cs=>(uS cs off s).map .agg
   | none=>none
  | _=>none
def zBZ (h:Heap) (tm:Tm):List CRes→Option (List CV)
 | []=>some []
 | r::rs=>match zOG h tm r with
  | none=>none
  | some v=>match zBZ h tm rs with
   | none=>none
   | some vs=>some (v::vs)
def zB2 (h:Heap) (tm:Tm) (rs:List CRes):Option CV:=match zBZ h tm rs with
 | some [v]=>some v
 | some vs=>some (.tup vs)
 | none=>none
def qJ:List CV→Nat→Tm→Tm
 | [],_,t=>t
 | v::vs,i,t=>match Nat.ble i 271 with
  | true=>qJ vs (Nat.succ i) (k8 v (Loc.ofNat i) t)
  | false=>t
def wa (call:yT) (k:Heap→Key→R):xP→Heap→Key→R
 | [],h,n=>k h n
 | (f,args)::r,h,n=>R.rec (motive:=fun _=>R) (fun _ _ _ _ _=>.err 300) (fun _ h n=>wa call k r h n) (fun c=>.err c) (fun _ _ a b=>.fork a b) (call true f args h n)
def zCy (rs:List CRes) (tm:Tm) (h:Heap) (n:Key):R:=match zB2 h tm rs with
 | some v=>.ret v h n
 | none=>.err 305
def ja (d:Bool) (call:yT) (rs:List CRes) (tm:Tm) (ds:xP) (h:Heap) (n:Key):R:=match ds with
 | []=>zCy rs tm h n
 | f::ds=>match d with
  | false=>wa call (fun h n=>zCy rs tm h n) (f::ds) h n
  | true=>.err 306
def ye (d:Bool) (call:yT) (rs:List CRes) (r:R):R:=R.rec (motive:=fun _=>R)
 (fun e tm ds h n=>CX.rec (motive:=fun _=>R) (ja d call rs tm ds h n) (fun _=>.err 307) (ja d call rs tm ds h n) e) (fun _ _ _=>.err 308) (fun c=>.err c) (fun _ _ a b=>.fork a b) r
abbrev NatF:=Sym→Bool→List CV→Heap→Key→R
abbrev Nats:=FuncId→Option NatF
def zPE (r:OR) (h:Heap) (n:Key):R:=match r with
 | .val v=>.ret v h n
 | .eff v h n=>.ret v h n
 | .err c=>.err c
 | _=>.err 309
def zAw (P:Program) (d:Bool) (call:yT) (fn:CFn) (args:List CV) (h:Heap) (n:Key):R:=
 CFn.rec (motive:=fun _=>R) (fun body res=>ye d call res (zi P call body (qJ args 0 .nil) [] h n))
  (fun ops body res=>match d with
    | true=>ye true call res (xz (zi P call body) (ya P call ops [] (qJ args 0 .nil) [] h n))
    | false=>.err 311)
  (fun e=>match d with
    | true=>.err 313
    | false=>zPE (zBH e args h n) h n) (fun c=>.err (Nat.add 3000 c)) fn
def ev (P:Program) (code:FuncId→CFn) (nat:Nats) (fuel:Nat):yT:=
 Nat.rec (motive:=fun _=>yT) (fun _ _ _ _ _=>.err 310)
  (fun _ ih d f args h n=>Option.rec (motive:=fun _=>R) (zAw P d ih (code f) args h n) (fun g=>g ‹Sym› d args h n) (nat f)) fuel
end
end Go.Ev
