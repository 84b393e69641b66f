/- A verified evaluator for the model's code: EvA, EvB. -/
import GoSem.Dispatch
import GoSem.Core.Made
set_option linter.unusedSectionVars false
set_option linter.unusedVariables false
set_option linter.unusedSimpArgs false
namespace Go.Ev
inductive Dg where
 | d0 | d1 | d2 | d3 | d4 | d5 | d6 | d7 | d8 | d9 | d10 | d11 | d12 | d13 | d14 | d15
 deriving DecidableEq,Inhabited
noncomputable def Dg.succ (d:Dg):Option Dg:=Dg.rec (motive:=fun _=>Option Dg) (some .d1) (some .d2) (some .d3) (some .d4) (some .d5) (some .d6) (some .d7) (some .d8) (some .d9) (some .d10) (some .d11) (some .d12) (some .d13) (some .d14) (some .d15) none d
noncomputable def Dg.ix (d:Dg):Nat:=Dg.rec (motive:=fun _=>Nat) 0 1 2 3 4 5 6 7 8 9 10 11 12 13 14 15 d
def Dg.ofN:Nat→Dg
 | 0=>.d0
 | 1=>.d1
 | 2=>.d2
 | 3=>.d3
 | 4=>.d4
 | 5=>.d5
 | 6=>.d6
 | 7=>.d7
 | 8=>.d8
 | 9=>.d9
 | 10=>.d10
 | 11=>.d11
 | 12=>.d12
 | 13=>.d13
 | 14=>.d14
 | _=>.d15
inductive Key where
 | mk (a b c d:Dg)
 deriving DecidableEq,Inhabited
def Key.zero:Key:=.mk .d0 .d0 .d0 .d0
noncomputable def Key.succ (k:Key):Key:=
 Key.rec (motive:=fun _=>Key) (fun a b c d=>
  Option.rec (motive:=fun _=>Key)
   (Option.rec (motive:=fun _=>Key)
     (Option.rec (motive:=fun _=>Key)
       (Option.rec (motive:=fun _=>Key) (.mk .d15 .d15 .d15 .d15) (fun a=>.mk a .d0 .d0 .d0) a.succ)
       (fun b=>.mk a b .d0 .d0) b.succ)
     (fun c=>.mk a b c .d0) c.succ)
   (fun d=>.mk a b c d) d.succ) k
noncomputable def Key.ix:Key→Nat
 | .mk a b c d=>((a.ix*16+b.ix)*16+c.ix)*16+d.ix
def Key.ofNat (n:Nat):Key:=.mk (.ofN (n / 4096 % 16)) (.ofN (n / 256 % 16)) (.ofN (n / 16 % 16)) (.ofN (n % 16))
inductive Loc where
 | s (d:Dg)
 | w (c d:Dg)
 deriving DecidableEq,Inhabited
def Loc.ofNat (n:Nat):Loc:=match Nat.ble n 15 with
 | true=>.s (.ofN n)
 | false=>.w (.ofN ((n - 16) / 16)) (.ofN ((n - 16) % 16))
structure SE where
 k:IntKind
 c:Int
 l:List (Nat × Int)
inductive CV where
 | bool (b:Bool)
 | nat (n:Nat)
 | int (k:IntKind) (n:Int)
 | anyi (k:IntKind)
 | str (s:List Nat)
 | nilptr
 | ptr (b:Key) (off:Nat)
 | nilsl
 | sl (b:Key) (off len cap esz:Nat) (exact:Bool)
 | nilmap
 | map (b:Key)
 | func (fn:Fn) (first captured:List CV)
 | nilfunc
 | iface (t:TypeId) (v:CV)
 | niliface
 | agg (cs:List CV)
 | tup (vs:List CV)
 | sym (e:SE)
 | win (b:Key) (esz:Nat) (e n:SE)
 | sst (l:List CV)
 | big (n:Nat)
 | few (i:Nat) (t:List (List Nat))
 | elt (b:Key) (off i m:Nat)
 | any
 deriving Inhabited
def CV.undef:CV:=.tup []
structure CE where
 key:CV
 val:CV
 born:Nat
inductive CObj where
 | cells (vs:List CV)
 | ro (vs:List CV)
 | map (es:List CE) (clock:Nat)
 | striter (s:List CV) (pos:Nat)
 | mapiter (m:Option Key) (since:Nat) (seen:List Nat) (stepped:Nat)
 | full (u:Bool) (vs:List CV)
 | mapz (es:List (CV × CV))
noncomputable section
inductive LV where
 | nil
 | nd (c0 c1 c2 c3 c4 c5 c6 c7 c8 c9 c10 c11 c12 c13 c14 c15:CV)
def LV.get (d:Dg) (t:LV):CV:=
 Dg.rec (motive:=fun _=>LV→CV)
  (fun t=>LV.rec (motive:=fun _=>CV) CV.any (fun c0 _ _ _ _ _ _ _ _ _ _ _ _ _ _ _=>c0) t)
  (fun t=>LV.rec (motive:=fun _=>CV) CV.any (fun _ c1 _ _ _ _ _ _ _ _ _ _ _ _ _ _=>c1) t)
  (fun t=>LV.rec (motive:=fun _=>CV) CV.any (fun _ _ c2 _ _ _ _ _ _ _ _ _ _ _ _ _=>c2) t)
  (fun t=>LV.rec (motive:=fun _=>CV) CV.any (fun _ _ _ c3 _ _ _ _ _ _ _ _ _ _ _ _=>c3) t)
  (fun t=>LV.rec (motive:=fun _=>CV) CV.any (fun _ _ _ _ c4 _ _ _ _ _ _ _ _ _ _ _=>c4) t)
  (fun t=>LV.rec (motive:=fun _=>CV) CV.any (fun _ _ _ _ _ c5 _ _ _ _ _ _ _ _ _ _=>c5) t)
  (fun t=>LV.rec (motive:=fun _=>CV) CV.any (fun _ _ _ _ _ _ c6 _ _ _ _ _ _ _ _ _=>c6) t)
  (fun t=>LV.rec (motive:=fun _=>CV) CV.any (fun _ _ _ _ _ _ _ c7 _ _ _ _ _ _ _ _=>c7) t)
  (fun t=>LV.rec (motive:=fun _=>CV) CV.any (fun _ _ _ _ _ _ _ _ c8 _ _ _ _ _ _ _=>c8) t)
  (fun t=>LV.rec (motive:=fun _=>CV) CV.any (fun _ _ _ _ _ _ _ _ _ c9 _ _ _ _ _ _=>c9) t)
  (fun t=>LV.rec (motive:=fun _=>CV) CV.any (fun _ _ _ _ _ _ _ _ _ _ c10 _ _ _ _ _=>c10) t)
  (fun t=>LV.rec (motive:=fun _=>CV) CV.any (fun _ _ _ _ _ _ _ _ _ _ _ c11 _ _ _ _=>c11) t)
  (fun t=>LV.rec (motive:=fun _=>CV) CV.any (fun _ _ _ _ _ _ _ _ _ _ _ _ c12 _ _ _=>c12) t)
  (fun t=>LV.rec (motive:=fun _=>CV) CV.any (fun _ _ _ _ _ _ _ _ _ _ _ _ _ c13 _ _=>c13) t)
  (fun t=>LV.rec (motive:=fun _=>CV) CV.any (fun _ _ _ _ _ _ _ _ _ _ _ _ _ _ c14 _=>c14) t)
  (fun t=>LV.rec (motive:=fun _=>CV) CV.any (fun _ _ _ _ _ _ _ _ _ _ _ _ _ _ _ c15=>c15) t) d t
def LV.upd (f:CV→CV) (d:Dg) (t:LV):LV:=
 Dg.rec (motive:=fun _=>(CV→CV)→LV→LV)
  (fun f t=>LV.rec (motive:=fun _=>LV) (.nd (f CV.any) CV.any CV.any CV.any CV.any CV.any CV.any CV.any CV.any CV.any CV.any CV.any CV.any CV.any CV.any CV.any) (fun c0 c1 c2 c3 c4 c5 c6 c7 c8 c9 c10 c11 c12 c13 c14 c15=>.nd (f c0) c1 c2 c3 c4 c5 c6 c7 c8 c9 c10 c11 c12 c13 c14 c15) t)
  (fun f t=>LV.rec (motive:=fun _=>LV) (.nd CV.any (f CV.any) CV.any CV.any CV.any CV.any CV.any CV.any CV.any CV.any CV.any CV.any CV.any CV.any CV.any CV.any) (fun c0 c1 c2 c3 c4 c5 c6 c7 c8 c9 c10 c11 c12 c13 c14 c15=>.nd c0 (f c1) c2 c3 c4 c5 c6 c7 c8 c9 c10 c11 c12 c13 c14 c15) t)
  (fun f t=>LV.rec (motive:=fun _=>LV) (.nd CV.any CV.any (f CV.any) CV.any CV.any CV.any CV.any CV.any CV.any CV.any CV.any CV.any CV.any CV.any CV.any CV.any) (fun c0 c1 c2 c3 c4 c5 c6 c7 c8 c9 c10 c11 c12 c13 c14 c15=>.nd c0 c1 (f c2) c3 c4 c5 c6 c7 c8 c9 c10 c11 c12 c13 c14 c15) t)
  (fun f t=>LV.rec (motive:=fun _=>LV) (.nd CV.any CV.any CV.any (f CV.any) CV.any CV.any CV.any CV.any CV.any CV.any CV.any CV.any CV.any CV.any CV.any CV.any) (fun c0 c1 c2 c3 c4 c5 c6 c7 c8 c9 c10 c11 c12 c13 c14 c15=>.nd c0 c1 c2 (f c3) c4 c5 c6 c7 c8 c9 c10 c11 c12 c13 c14 c15) t)
  (fun f t=>LV.rec (motive:=fun _=>LV) (.nd CV.any CV.any CV.any CV.any (f CV.any) CV.any CV.any CV.any CV.any CV.any CV.any CV.any CV.any CV.any CV.any CV.any) (fun c0 c1 c2 c3 c4 c5 c6 c7 c8 c9 c10 c11 c12 c13 c14 c15=>.nd c0 c1 c2 c3 (f c4) c5 c6 c7 c8 c9 c10 c11 c12 c13 c14 c15) t)
  (fun f t=>LV.rec (motive:=fun _=>LV) (.nd CV.any CV.any CV.any CV.any CV.any (f CV.any) CV.any CV.any CV.any CV.any CV.any CV.any CV.any CV.any CV.any CV.any) (fun c0 c1 c2 c3 c4 c5 c6 c7 c8 c9 c10 c11 c12 c13 c14 c15=>.nd c0 c1 c2 c3 c4 (f c5) c6 c7 c8 c9 c10 c11 c12 c13 c14 c15) t)
  (fun f t=>LV.rec (motive:=fun _=>LV) (.nd CV.any CV.any CV.any CV.any CV.any CV.any (f CV.any) CV.any CV.any CV.any CV.any CV.any CV.any CV.any CV.any CV.any) (fun c0 c1 c2 c3 c4 c5 c6 c7 c8 c9 c10 c11 c12 c13 c14 c15=>.nd c0 c1 c2 c3 c4 c5 (f c6) c7 c8 c9 c10 c11 c12 c13 c14 c15) t)
  (fun f t=>LV.rec (motive:=fun _=>LV) (.nd CV.any CV.any CV.any CV.any CV.any CV.any CV.any (f CV.any) CV.any CV.any CV.any CV.any CV.any CV.any CV.any CV.any) (fun c0 c1 c2 c3 c4 c5 c6 c7 c8 c9 c10 c11 c12 c13 c14 c15=>.nd c0 c1 c2 c3 c4 c5 c6 (f c7) c8 c9 c10 c11 c12 c13 c14 c15) t)
  (fun f t=>LV.rec (motive:=fun _=>LV) (.nd CV.any CV.any CV.any CV.any CV.any CV.any CV.any CV.any (f CV.any) CV.any CV.any CV.any CV.any CV.any CV.any CV.any) (fun c0 c1 c2 c3 c4 c5 c6 c7 c8 c9 c10 c11 c12 c13 c14 c15=>.nd c0 c1 c2 c3 c4 c5 c6 c7 (f c8) c9 c10 c11 c12 c13 c14 c15) t)
  (fun f t=>LV.rec (motive:=fun _=>LV) (.nd CV.any CV.any CV.any CV.any CV.any CV.any CV.any CV.any CV.any (f CV.any) CV.any CV.any CV.any CV.any CV.any CV.any) (fun c0 c1 c2 c3 c4 c5 c6 c7 c8 c9 c10 c11 c12 c13 c14 c15=>.nd c0 c1 c2 c3 c4 c5 c6 c7 c8 (f c9) c10 c11 c12 c13 c14 c15) t)
  (fun f t=>LV.rec (motive:=fun _=>LV) (.nd CV.any CV.any CV.any CV.any CV.any CV.any CV.any CV.any CV.any CV.any (f CV.any) CV.any CV.any CV.any CV.any CV.any) (fun c0 c1 c2 c3 c4 c5 c6 c7 c8 c9 c10 c11 c12 c13 c14 c15=>.nd c0 c1 c2 c3 c4 c5 c6 c7 c8 c9 (f c10) c11 c12 c13 c14 c15) t)
  (fun f t=>LV.rec (motive:=fun _=>LV) (.nd CV.any CV.any CV.any CV.any CV.any CV.any CV.any CV.any CV.any CV.any CV.any (f CV.any) CV.any CV.any CV.any CV.any) (fun c0 c1 c2 c3 c4 c5 c6 c7 c8 c9 c10 c11 c12 c13 c14 c15=>.nd c0 c1 c2 c3 c4 c5 c6 c7 c8 c9 c10 (f c11) c12 c13 c14 c15) t)
  (fun f t=>LV.rec (motive:=fun _=>LV) (.nd CV.any CV.any CV.any CV.any CV.any CV.any CV.any CV.any CV.any CV.any CV.any CV.any (f CV.any) CV.any CV.any CV.any) (fun c0 c1 c2 c3 c4 c5 c6 c7 c8 c9 c10 c11 c12 c13 c14 c15=>.nd c0 c1 c2 c3 c4 c5 c6 c7 c8 c9 c10 c11 (f c12) c13 c14 c15) t)
  (fun f t=>LV.rec (motive:=fun _=>LV) (.nd CV.any CV.any CV.any CV.any CV.any CV.any CV.any CV.any CV.any CV.any CV.any CV.any CV.any (f CV.any) CV.any CV.any) (fun c0 c1 c2 c3 c4 c5 c6 c7 c8 c9 c10 c11 c12 c13 c14 c15=>.nd c0 c1 c2 c3 c4 c5 c6 c7 c8 c9 c10 c11 c12 (f c13) c14 c15) t)
  (fun f t=>LV.rec (motive:=fun _=>LV) (.nd CV.any CV.any CV.any CV.any CV.any CV.any CV.any CV.any CV.any CV.any CV.any CV.any CV.any CV.any (f CV.any) CV.any) (fun c0 c1 c2 c3 c4 c5 c6 c7 c8 c9 c10 c11 c12 c13 c14 c15=>.nd c0 c1 c2 c3 c4 c5 c6 c7 c8 c9 c10 c11 c12 c13 (f c14) c15) t)
  (fun f t=>LV.rec (motive:=fun _=>LV) (.nd CV.any CV.any CV.any CV.any CV.any CV.any CV.any CV.any CV.any CV.any CV.any CV.any CV.any CV.any CV.any (f CV.any)) (fun c0 c1 c2 c3 c4 c5 c6 c7 c8 c9 c10 c11 c12 c13 c14 c15=>.nd c0 c1 c2 c3 c4 c5 c6 c7 c8 c9 c10 c11 c12 c13 c14 (f c15)) t) d f t
inductive L1 where
 | nil
 | nd (c0 c1 c2 c3 c4 c5 c6 c7 c8 c9 c10 c11 c12 c13 c14 c15:LV)
def L1.get (d:Dg) (t:L1):LV:=
 Dg.rec (motive:=fun _=>L1→LV)
  (fun t=>L1.rec (motive:=fun _=>LV) LV.nil (fun c0 _ _ _ _ _ _ _ _ _ _ _ _ _ _ _=>c0) t)
  (fun t=>L1.rec (motive:=fun _=>LV) LV.nil (fun _ c1 _ _ _ _ _ _ _ _ _ _ _ _ _ _=>c1) t)
  (fun t=>L1.rec (motive:=fun _=>LV) LV.nil (fun _ _ c2 _ _ _ _ _ _ _ _ _ _ _ _ _=>c2) t)
  (fun t=>L1.rec (motive:=fun _=>LV) LV.nil (fun _ _ _ c3 _ _ _ _ _ _ _ _ _ _ _ _=>c3) t)
  (fun t=>L1.rec (motive:=fun _=>LV) LV.nil (fun _ _ _ _ c4 _ _ _ _ _ _ _ _ _ _ _=>c4) t)
  (fun t=>L1.rec (motive:=fun _=>LV) LV.nil (fun _ _ _ _ _ c5 _ _ _ _ _ _ _ _ _ _=>c5) t)
  (fun t=>L1.rec (motive:=fun _=>LV) LV.nil (fun _ _ _ _ _ _ c6 _ _ _ _ _ _ _ _ _=>c6) t)
  (fun t=>L1.rec (motive:=fun _=>LV) LV.nil (fun _ _ _ _ _ _ _ c7 _ _ _ _ _ _ _ _=>c7) t)
  (fun t=>L1.rec (motive:=fun _=>LV) LV.nil (fun _ _ _ _ _ _ _ _ c8 _ _ _ _ _ _ _=>c8) t)
  (fun t=>L1.rec (motive:=fun _=>LV) LV.nil (fun _ _ _ _ _ _ _ _ _ c9 _ _ _ _ _ _=>c9) t)
  (fun t=>L1.rec (motive:=fun _=>LV) LV.nil (fun _ _ _ _ _ _ _ _ _ _ c10 _ _ _ _ _=>c10) t)
  (fun t=>L1.rec (motive:=fun _=>LV) LV.nil (fun _ _ _ _ _ _ _ _ _ _ _ c11 _ _ _ _=>c11) t)
  (fun t=>L1.rec (motive:=fun _=>LV) LV.nil (fun _ _ _ _ _ _ _ _ _ _ _ _ c12 _ _ _=>c12) t)
  (fun t=>L1.rec (motive:=fun _=>LV) LV.nil (fun _ _ _ _ _ _ _ _ _ _ _ _ _ c13 _ _=>c13) t)
  (fun t=>L1.rec (motive:=fun _=>LV) LV.nil (fun _ _ _ _ _ _ _ _ _ _ _ _ _ _ c14 _=>c14) t)
  (fun t=>L1.rec (motive:=fun _=>LV) LV.nil (fun _ _ _ _ _ _ _ _ _ _ _ _ _ _ _ c15=>c15) t) d t
def L1.upd (f:LV→LV) (d:Dg) (t:L1):L1:=
 Dg.rec (motive:=fun _=>(LV→LV)→L1→L1)
  (fun f t=>L1.rec (motive:=fun _=>L1) (.nd (f LV.nil) LV.nil LV.nil LV.nil LV.nil LV.nil LV.nil LV.nil LV.nil LV.nil LV.nil LV.nil LV.nil LV.nil LV.nil LV.nil) (fun c0 c1 c2 c3 c4 c5 c6 c7 c8 c9 c10 c11 c12 c13 c14 c15=>.nd (f c0) c1 c2 c3 c4 c5 c6 c7 c8 c9 c10 c11 c12 c13 c14 c15) t)
  (fun f t=>L1.rec (motive:=fun _=>L1) (.nd LV.nil (f LV.nil) LV.nil LV.nil LV.nil LV.nil LV.nil LV.nil LV.nil LV.nil LV.nil LV.nil LV.nil LV.nil LV.nil LV.nil) (fun c0 c1 c2 c3 c4 c5 c6 c7 c8 c9 c10 c11 c12 c13 c14 c15=>.nd c0 (f c1) c2 c3 c4 c5 c6 c7 c8 c9 c10 c11 c12 c13 c14 c15) t)
  (fun f t=>L1.rec (motive:=fun _=>L1) (.nd LV.nil LV.nil (f LV.nil) LV.nil LV.nil LV.nil LV.nil LV.nil LV.nil LV.nil LV.nil LV.nil LV.nil LV.nil LV.nil LV.nil) (fun c0 c1 c2 c3 c4 c5 c6 c7 c8 c9 c10 c11 c12 c13 c14 c15=>.nd c0 c1 (f c2) c3 c4 c5 c6 c7 c8 c9 c10 c11 c12 c13 c14 c15) t)
  (fun f t=>L1.rec (motive:=fun _=>L1) (.nd LV.nil LV.nil LV.nil (f LV.nil) LV.nil LV.nil LV.nil LV.nil LV.nil LV.nil LV.nil LV.nil LV.nil LV.nil LV.nil LV.nil) (fun c0 c1 c2 c3 c4 c5 c6 c7 c8 c9 c10 c11 c12 c13 c14 c15=>.nd c0 c1 c2 (f c3) c4 c5 c6 c7 c8 c9 c10 c11 c12 c13 c14 c15) t)
  (fun f t=>L1.rec (motive:=fun _=>L1) (.nd LV.nil LV.nil LV.nil LV.nil (f LV.nil) LV.nil LV.nil LV.nil LV.nil LV.nil LV.nil LV.nil LV.nil LV.nil LV.nil LV.nil) (fun c0 c1 c2 c3 c4 c5 c6 c7 c8 c9 c10 c11 c12 c13 c14 c15=>.nd c0 c1 c2 c3 (f c4) c5 c6 c7 c8 c9 c10 c11 c12 c13 c14 c15) t)
  (fun f t=>L1.rec (motive:=fun _=>L1) (.nd LV.nil LV.nil LV.nil LV.nil LV.nil (f LV.nil) LV.nil LV.nil LV.nil LV.nil LV.nil LV.nil LV.nil LV.nil LV.nil LV.nil) (fun c0 c1 c2 c3 c4 c5 c6 c7 c8 c9 c10 c11 c12 c13 c14 c15=>.nd c0 c1 c2 c3 c4 (f c5) c6 c7 c8 c9 c10 c11 c12 c13 c14 c15) t)
  (fun f t=>L1.rec (motive:=fun _=>L1) (.nd LV.nil LV.nil LV.nil LV.nil LV.nil LV.nil (f LV.nil) LV.nil LV.nil LV.nil LV.nil LV.nil LV.nil LV.nil LV.nil LV.nil) (fun c0 c1 c2 c3 c4 c5 c6 c7 c8 c9 c10 c11 c12 c13 c14 c15=>.nd c0 c1 c2 c3 c4 c5 (f c6) c7 c8 c9 c10 c11 c12 c13 c14 c15) t)
  (fun f t=>L1.rec (motive:=fun _=>L1) (.nd LV.nil LV.nil LV.nil LV.nil LV.nil LV.nil LV.nil (f LV.nil) LV.nil LV.nil LV.nil LV.nil LV.nil LV.nil LV.nil LV.nil) (fun c0 c1 c2 c3 c4 c5 c6 c7 c8 c9 c10 c11 c12 c13 c14 c15=>.nd c0 c1 c2 c3 c4 c5 c6 (f c7) c8 c9 c10 c11 c12 c13 c14 c15) t)
  (fun f t=>L1.rec (motive:=fun _=>L1) (.nd LV.nil LV.nil LV.nil LV.nil LV.nil LV.nil LV.nil LV.nil (f LV.nil) LV.nil LV.nil LV.nil LV.nil LV.nil LV.nil LV.nil) (fun c0 c1 c2 c3 c4 c5 c6 c7 c8 c9 c10 c11 c12 c13 c14 c15=>.nd c0 c1 c2 c3 c4 c5 c6 c7 (f c8) c9 c10 c11 c12 c13 c14 c15) t)
  (fun f t=>L1.rec (motive:=fun _=>L1) (.nd LV.nil LV.nil LV.nil LV.nil LV.nil LV.nil LV.nil LV.nil LV.nil (f LV.nil) LV.nil LV.nil LV.nil LV.nil LV.nil LV.nil) (fun c0 c1 c2 c3 c4 c5 c6 c7 c8 c9 c10 c11 c12 c13 c14 c15=>.nd c0 c1 c2 c3 c4 c5 c6 c7 c8 (f c9) c10 c11 c12 c13 c14 c15) t)
  (fun f t=>L1.rec (motive:=fun _=>L1) (.nd LV.nil LV.nil LV.nil LV.nil LV.nil LV.nil LV.nil LV.nil LV.nil LV.nil (f LV.nil) LV.nil LV.nil LV.nil LV.nil LV.nil) (fun c0 c1 c2 c3 c4 c5 c6 c7 c8 c9 c10 c11 c12 c13 c14 c15=>.nd c0 c1 c2 c3 c4 c5 c6 c7 c8 c9 (f c10) c11 c12 c13 c14 c15) t)
  (fun f t=>L1.rec (motive:=fun _=>L1) (.nd LV.nil LV.nil LV.nil LV.nil LV.nil LV.nil LV.nil LV.nil LV.nil LV.nil LV.nil (f LV.nil) LV.nil LV.nil LV.nil LV.nil) (fun c0 c1 c2 c3 c4 c5 c6 c7 c8 c9 c10 c11 c12 c13 c14 c15=>.nd c0 c1 c2 c3 c4 c5 c6 c7 c8 c9 c10 (f c11) c12 c13 c14 c15) t)
  (fun f t=>L1.rec (motive:=fun _=>L1) (.nd LV.nil LV.nil LV.nil LV.nil LV.nil LV.nil LV.nil LV.nil LV.nil LV.nil LV.nil LV.nil (f LV.nil) LV.nil LV.nil LV.nil) (fun c0 c1 c2 c3 c4 c5 c6 c7 c8 c9 c10 c11 c12 c13 c14 c15=>.nd c0 c1 c2 c3 c4 c5 c6 c7 c8 c9 c10 c11 (f c12) c13 c14 c15) t)
  (fun f t=>L1.rec (motive:=fun _=>L1) (.nd LV.nil LV.nil LV.nil LV.nil LV.nil LV.nil LV.nil LV.nil LV.nil LV.nil LV.nil LV.nil LV.nil (f LV.nil) LV.nil LV.nil) (fun c0 c1 c2 c3 c4 c5 c6 c7 c8 c9 c10 c11 c12 c13 c14 c15=>.nd c0 c1 c2 c3 c4 c5 c6 c7 c8 c9 c10 c11 c12 (f c13) c14 c15) t)
  (fun f t=>L1.rec (motive:=fun _=>L1) (.nd LV.nil LV.nil LV.nil LV.nil LV.nil LV.nil LV.nil LV.nil LV.nil LV.nil LV.nil LV.nil LV.nil LV.nil (f LV.nil) LV.nil) (fun c0 c1 c2 c3 c4 c5 c6 c7 c8 c9 c10 c11 c12 c13 c14 c15=>.nd c0 c1 c2 c3 c4 c5 c6 c7 c8 c9 c10 c11 c12 c13 (f c14) c15) t)
  (fun f t=>L1.rec (motive:=fun _=>L1) (.nd LV.nil LV.nil LV.nil LV.nil LV.nil LV.nil LV.nil LV.nil LV.nil LV.nil LV.nil LV.nil LV.nil LV.nil LV.nil (f LV.nil)) (fun c0 c1 c2 c3 c4 c5 c6 c7 c8 c9 c10 c11 c12 c13 c14 c15=>.nd c0 c1 c2 c3 c4 c5 c6 c7 c8 c9 c10 c11 c12 c13 c14 (f c15)) t) d f t
inductive HV where
 | nil
 | nd (c0 c1 c2 c3 c4 c5 c6 c7 c8 c9 c10 c11 c12 c13 c14 c15:Option CObj)
def HV.get (d:Dg) (t:HV):Option CObj:=
 Dg.rec (motive:=fun _=>HV→Option CObj)
  (fun t=>HV.rec (motive:=fun _=>Option CObj) none (fun c0 _ _ _ _ _ _ _ _ _ _ _ _ _ _ _=>c0) t)
  (fun t=>HV.rec (motive:=fun _=>Option CObj) none (fun _ c1 _ _ _ _ _ _ _ _ _ _ _ _ _ _=>c1) t)
  (fun t=>HV.rec (motive:=fun _=>Option CObj) none (fun _ _ c2 _ _ _ _ _ _ _ _ _ _ _ _ _=>c2) t)
  (fun t=>HV.rec (motive:=fun _=>Option CObj) none (fun _ _ _ c3 _ _ _ _ _ _ _ _ _ _ _ _=>c3) t)
  (fun t=>HV.rec (motive:=fun _=>Option CObj) none (fun _ _ _ _ c4 _ _ _ _ _ _ _ _ _ _ _=>c4) t)
  (fun t=>HV.rec (motive:=fun _=>Option CObj) none (fun _ _ _ _ _ c5 _ _ _ _ _ _ _ _ _ _=>c5) t)
  (fun t=>HV.rec (motive:=fun _=>Option CObj) none (fun _ _ _ _ _ _ c6 _ _ _ _ _ _ _ _ _=>c6) t)
  (fun t=>HV.rec (motive:=fun _=>Option CObj) none (fun _ _ _ _ _ _ _ c7 _ _ _ _ _ _ _ _=>c7) t)
  (fun t=>HV.rec (motive:=fun _=>Option CObj) none (fun _ _ _ _ _ _ _ _ c8 _ _ _ _ _ _ _=>c8) t)
  (fun t=>HV.rec (motive:=fun _=>Option CObj) none (fun _ _ _ _ _ _ _ _ _ c9 _ _ _ _ _ _=>c9) t)
  (fun t=>HV.rec (motive:=fun _=>Option CObj) none (fun _ _ _ _ _ _ _ _ _ _ c10 _ _ _ _ _=>c10) t)
  (fun t=>HV.rec (motive:=fun _=>Option CObj) none (fun _ _ _ _ _ _ _ _ _ _ _ c11 _ _ _ _=>c11) t)
  (fun t=>HV.rec (motive:=fun _=>Option CObj) none (fun _ _ _ _ _ _ _ _ _ _ _ _ c12 _ _ _=>c12) t)
  (fun t=>HV.rec (motive:=fun _=>Option CObj) none (fun _ _ _ _ _ _ _ _ _ _ _ _ _ c13 _ _=>c13) t)
  (fun t=>HV.rec (motive:=fun _=>Option CObj) none (fun _ _ _ _ _ _ _ _ _ _ _ _ _ _ c14 _=>c14) t)
  (fun t=>HV.rec (motive:=fun _=>Option CObj) none (fun _ _ _ _ _ _ _ _ _ _ _ _ _ _ _ c15=>c15) t) d t
def HV.upd (f:Option CObj→Option CObj) (d:Dg) (t:HV):HV:=
 Dg.rec (motive:=fun _=>(Option CObj→Option CObj)→HV→HV)
  (fun f t=>HV.rec (motive:=fun _=>HV) (.nd (f none) none none none none none none none none none none none none none none none) (fun c0 c1 c2 c3 c4 c5 c6 c7 c8 c9 c10 c11 c12 c13 c14 c15=>.nd (f c0) c1 c2 c3 c4 c5 c6 c7 c8 c9 c10 c11 c12 c13 c14 c15) t)
  (fun f t=>HV.rec (motive:=fun _=>HV) (.nd none (f none) none none none none none none none none none none none none none none) (fun c0 c1 c2 c3 c4 c5 c6 c7 c8 c9 c10 c11 c12 c13 c14 c15=>.nd c0 (f c1) c2 c3 c4 c5 c6 c7 c8 c9 c10 c11 c12 c13 c14 c15) t)
  (fun f t=>HV.rec (motive:=fun _=>HV) (.nd none none (f none) none none none none none none none none none none none none none) (fun c0 c1 c2 c3 c4 c5 c6 c7 c8 c9 c10 c11 c12 c13 c14 c15=>.nd c0 c1 (f c2) c3 c4 c5 c6 c7 c8 c9 c10 c11 c12 c13 c14 c15) t)
  (fun f t=>HV.rec (motive:=fun _=>HV) (.nd none none none (f none) none none none none none none none none none none none none) (fun c0 c1 c2 c3 c4 c5 c6 c7 c8 c9 c10 c11 c12 c13 c14 c15=>.nd c0 c1 c2 (f c3) c4 c5 c6 c7 c8 c9 c10 c11 c12 c13 c14 c15) t)
  (fun f t=>HV.rec (motive:=fun _=>HV) (.nd none none none none (f none) none none none none none none none none none none none) (fun c0 c1 c2 c3 c4 c5 c6 c7 c8 c9 c10 c11 c12 c13 c14 c15=>.nd c0 c1 c2 c3 (f c4) c5 c6 c7 c8 c9 c10 c11 c12 c13 c14 c15) t)
  (fun f t=>HV.rec (motive:=fun _=>HV) (.nd none none none none none (f none) none none none none none none none none none none) (fun c0 c1 c2 c3 c4 c5 c6 c7 c8 c9 c10 c11 c12 c13 c14 c15=>.nd c0 c1 c2 c3 c4 (f c5) c6 c7 c8 c9 c10 c11 c12 c13 c14 c15) t)
  (fun f t=>HV.rec (motive:=fun _=>HV) (.nd none none none none none none (f none) none none none none none none none none none) (fun c0 c1 c2 c3 c4 c5 c6 c7 c8 c9 c10 c11 c12 c13 c14 c15=>.nd c0 c1 c2 c3 c4 c5 (f c6) c7 c8 c9 c10 c11 c12 c13 c14 c15) t)
  (fun f t=>HV.rec (motive:=fun _=>HV) (.nd none none none none none none none (f none) none none none none none none none none) (fun c0 c1 c2 c3 c4 c5 c6 c7 c8 c9 c10 c11 c12 c13 c14 c15=>.nd c0 c1 c2 c3 c4 c5 c6 (f c7) c8 c9 c10 c11 c12 c13 c14 c15) t)
  (fun f t=>HV.rec (motive:=fun _=>HV) (.nd none none none none none none none none (f none) none none none none none none none) (fun c0 c1 c2 c3 c4 c5 c6 c7 c8 c9 c10 c11 c12 c13 c14 c15=>.nd c0 c1 c2 c3 c4 c5 c6 c7 (f c8) c9 c10 c11 c12 c13 c14 c15) t)
  (fun f t=>HV.rec (motive:=fun _=>HV) (.nd none none none none none none none none none (f none) none none none none none none) (fun c0 c1 c2 c3 c4 c5 c6 c7 c8 c9 c10 c11 c12 c13 c14 c15=>.nd c0 c1 c2 c3 c4 c5 c6 c7 c8 (f c9) c10 c11 c12 c13 c14 c15) t)
  (fun f t=>HV.rec (motive:=fun _=>HV) (.nd none none none none none none none none none none (f none) none none none none none) (fun c0 c1 c2 c3 c4 c5 c6 c7 c8 c9 c10 c11 c12 c13 c14 c15=>.nd c0 c1 c2 c3 c4 c5 c6 c7 c8 c9 (f c10) c11 c12 c13 c14 c15) t)
  (fun f t=>HV.rec (motive:=fun _=>HV) (.nd none none none none none none none none none none none (f none) none none none none) (fun c0 c1 c2 c3 c4 c5 c6 c7 c8 c9 c10 c11 c12 c13 c14 c15=>.nd c0 c1 c2 c3 c4 c5 c6 c7 c8 c9 c10 (f c11) c12 c13 c14 c15) t)
  (fun f t=>HV.rec (motive:=fun _=>HV) (.nd none none none none none none none none none none none none (f none) none none none) (fun c0 c1 c2 c3 c4 c5 c6 c7 c8 c9 c10 c11 c12 c13 c14 c15=>.nd c0 c1 c2 c3 c4 c5 c6 c7 c8 c9 c10 c11 (f c12) c13 c14 c15) t)
  (fun f t=>HV.rec (motive:=fun _=>HV) (.nd none none none none none none none none none none none none none (f none) none none) (fun c0 c1 c2 c3 c4 c5 c6 c7 c8 c9 c10 c11 c12 c13 c14 c15=>.nd c0 c1 c2 c3 c4 c5 c6 c7 c8 c9 c10 c11 c12 (f c13) c14 c15) t)
  (fun f t=>HV.rec (motive:=fun _=>HV) (.nd none none none none none none none none none none none none none none (f none) none) (fun c0 c1 c2 c3 c4 c5 c6 c7 c8 c9 c10 c11 c12 c13 c14 c15=>.nd c0 c1 c2 c3 c4 c5 c6 c7 c8 c9 c10 c11 c12 c13 (f c14) c15) t)
  (fun f t=>HV.rec (motive:=fun _=>HV) (.nd none none none none none none none none none none none none none none none (f none)) (fun c0 c1 c2 c3 c4 c5 c6 c7 c8 c9 c10 c11 c12 c13 c14 c15=>.nd c0 c1 c2 c3 c4 c5 c6 c7 c8 c9 c10 c11 c12 c13 c14 (f c15)) t) d f t
inductive H1 where
 | nil
 | nd (c0 c1 c2 c3 c4 c5 c6 c7 c8 c9 c10 c11 c12 c13 c14 c15:HV)
def H1.get (d:Dg) (t:H1):HV:=
 Dg.rec (motive:=fun _=>H1→HV)
  (fun t=>H1.rec (motive:=fun _=>HV) HV.nil (fun c0 _ _ _ _ _ _ _ _ _ _ _ _ _ _ _=>c0) t)
  (fun t=>H1.rec (motive:=fun _=>HV) HV.nil (fun _ c1 _ _ _ _ _ _ _ _ _ _ _ _ _ _=>c1) t)
  (fun t=>H1.rec (motive:=fun _=>HV) HV.nil (fun _ _ c2 _ _ _ _ _ _ _ _ _ _ _ _ _=>c2) t)
  (fun t=>H1.rec (motive:=fun _=>HV) HV.nil (fun _ _ _ c3 _ _ _ _ _ _ _ _ _ _ _ _=>c3) t)
  (fun t=>H1.rec (motive:=fun _=>HV) HV.nil (fun _ _ _ _ c4 _ _ _ _ _ _ _ _ _ _ _=>c4) t)
  (fun t=>H1.rec (motive:=fun _=>HV) HV.nil (fun _ _ _ _ _ c5 _ _ _ _ _ _ _ _ _ _=>c5) t)
  (fun t=>H1.rec (motive:=fun _=>HV) HV.nil (fun _ _ _ _ _ _ c6 _ _ _ _ _ _ _ _ _=>c6) t)
  (fun t=>H1.rec (motive:=fun _=>HV) HV.nil (fun _ _ _ _ _ _ _ c7 _ _ _ _ _ _ _ _=>c7) t)
  (fun t=>H1.rec (motive:=fun _=>HV) HV.nil (fun _ _ _ _ _ _ _ _ c8 _ _ _ _ _ _ _=>c8) t)
  (fun t=>H1.rec (motive:=fun _=>HV) HV.nil (fun _ _ _ _ _ _ _ _ _ c9 _ _ _ _ _ _=>c9) t)
  (fun t=>H1.rec (motive:=fun _=>HV) HV.nil (fun _ _ _ _ _ _ _ _ _ _ c10 _ _ _ _ _=>c10) t)
  (fun t=>H1.rec (motive:=fun _=>HV) HV.nil (fun _ _ _ _ _ _ _ _ _ _ _ c11 _ _ _ _=>c11) t)
  (fun t=>H1.rec (motive:=fun _=>HV) HV.nil (fun _ _ _ _ _ _ _ _ _ _ _ _ c12 _ _ _=>c12) t)
  (fun t=>H1.rec (motive:=fun _=>HV) HV.nil (fun _ _ _ _ _ _ _ _ _ _ _ _ _ c13 _ _=>c13) t)
  (fun t=>H1.rec (motive:=fun _=>HV) HV.nil (fun _ _ _ _ _ _ _ _ _ _ _ _ _ _ c14 _=>c14) t)
  (fun t=>H1.rec (motive:=fun _=>HV) HV.nil (fun _ _ _ _ _ _ _ _ _ _ _ _ _ _ _ c15=>c15) t) d t
def H1.upd (f:HV→HV) (d:Dg) (t:H1):H1:=
 Dg.rec (motive:=fun _=>(HV→HV)→H1→H1)
  (fun f t=>H1.rec (motive:=fun _=>H1) (.nd (f HV.nil) HV.nil HV.nil HV.nil HV.nil HV.nil HV.nil HV.nil HV.nil HV.nil HV.nil HV.nil HV.nil HV.nil HV.nil HV.nil) (fun c0 c1 c2 c3 c4 c5 c6 c7 c8 c9 c10 c11 c12 c13 c14 c15=>.nd (f c0) c1 c2 c3 c4 c5 c6 c7 c8 c9 c10 c11 c12 c13 c14 c15) t)
  (fun f t=>H1.rec (motive:=fun _=>H1) (.nd HV.nil (f HV.nil) HV.nil HV.nil HV.nil HV.nil HV.nil HV.nil HV.nil HV.nil HV.nil HV.nil HV.nil HV.nil HV.nil HV.nil) (fun c0 c1 c2 c3 c4 c5 c6 c7 c8 c9 c10 c11 c12 c13 c14 c15=>.nd c0 (f c1) c2 c3 c4 c5 c6 c7 c8 c9 c10 c11 c12 c13 c14 c15) t)
  (fun f t=>H1.rec (motive:=fun _=>H1) (.nd HV.nil HV.nil (f HV.nil) HV.nil HV.nil HV.nil HV.nil HV.nil HV.nil HV.nil HV.nil HV.nil HV.nil HV.nil HV.nil HV.nil) (fun c0 c1 c2 c3 c4 c5 c6 c7 c8 c9 c10 c11 c12 c13 c14 c15=>.nd c0 c1 (f c2) c3 c4 c5 c6 c7 c8 c9 c10 c11 c12 c13 c14 c15) t)
  (fun f t=>H1.rec (motive:=fun _=>H1) (.nd HV.nil HV.nil HV.nil (f HV.nil) HV.nil HV.nil HV.nil HV.nil HV.nil HV.nil HV.nil HV.nil HV.nil HV.nil HV.nil HV.nil) (fun c0 c1 c2 c3 c4 c5 c6 c7 c8 c9 c10 c11 c12 c13 c14 c15=>.nd c0 c1 c2 (f c3) c4 c5 c6 c7 c8 c9 c10 c11 c12 c13 c14 c15) t)
  (fun f t=>H1.rec (motive:=fun _=>H1) (.nd HV.nil HV.nil HV.nil HV.nil (f HV.nil) HV.nil HV.nil HV.nil HV.nil HV.nil HV.nil HV.nil HV.nil HV.nil HV.nil HV.nil) (fun c0 c1 c2 c3 c4 c5 c6 c7 c8 c9 c10 c11 c12 c13 c14 c15=>.nd c0 c1 c2 c3 (f c4) c5 c6 c7 c8 c9 c10 c11 c12 c13 c14 c15) t)
  (fun f t=>H1.rec (motive:=fun _=>H1) (.nd HV.nil HV.nil HV.nil HV.nil HV.nil (f HV.nil) HV.nil HV.nil HV.nil HV.nil HV.nil HV.nil HV.nil HV.nil HV.nil HV.nil) (fun c0 c1 c2 c3 c4 c5 c6 c7 c8 c9 c10 c11 c12 c13 c14 c15=>.nd c0 c1 c2 c3 c4 (f c5) c6 c7 c8 c9 c10 c11 c12 c13 c14 c15) t)
  (fun f t=>H1.rec (motive:=fun _=>H1) (.nd HV.nil HV.nil HV.nil HV.nil HV.nil HV.nil (f HV.nil) HV.nil HV.nil HV.nil HV.nil HV.nil HV.nil HV.nil HV.nil HV.nil) (fun c0 c1 c2 c3 c4 c5 c6 c7 c8 c9 c10 c11 c12 c13 c14 c15=>.nd c0 c1 c2 c3 c4 c5 (f c6) c7 c8 c9 c10 c11 c12 c13 c14 c15) t)
  (fun f t=>H1.rec (motive:=fun _=>H1) (.nd HV.nil HV.nil HV.nil HV.nil HV.nil HV.nil HV.nil (f HV.nil) HV.nil HV.nil HV.nil HV.nil HV.nil HV.nil HV.nil HV.nil) (fun c0 c1 c2 c3 c4 c5 c6 c7 c8 c9 c10 c11 c12 c13 c14 c15=>.nd c0 c1 c2 c3 c4 c5 c6 (f c7) c8 c9 c10 c11 c12 c13 c14 c15) t)
  (fun f t=>H1.rec (motive:=fun _=>H1) (.nd HV.nil HV.nil HV.nil HV.nil HV.nil HV.nil HV.nil HV.nil (f HV.nil) HV.nil HV.nil HV.nil HV.nil HV.nil HV.nil HV.nil) (fun c0 c1 c2 c3 c4 c5 c6 c7 c8 c9 c10 c11 c12 c13 c14 c15=>.nd c0 c1 c2 c3 c4 c5 c6 c7 (f c8) c9 c10 c11 c12 c13 c14 c15) t)
  (fun f t=>H1.rec (motive:=fun _=>H1) (.nd HV.nil HV.nil HV.nil HV.nil HV.nil HV.nil HV.nil HV.nil HV.nil (f HV.nil) HV.nil HV.nil HV.nil HV.nil HV.nil HV.nil) (fun c0 c1 c2 c3 c4 c5 c6 c7 c8 c9 c10 c11 c12 c13 c14 c15=>.nd c0 c1 c2 c3 c4 c5 c6 c7 c8 (f c9) c10 c11 c12 c13 c14 c15) t)
  (fun f t=>H1.rec (motive:=fun _=>H1) (.nd HV.nil HV.nil HV.nil HV.nil HV.nil HV.nil HV.nil HV.nil HV.nil HV.nil (f HV.nil) HV.nil HV.nil HV.nil HV.nil HV.nil) (fun c0 c1 c2 c3 c4 c5 c6 c7 c8 c9 c10 c11 c12 c13 c14 c15=>.nd c0 c1 c2 c3 c4 c5 c6 c7 c8 c9 (f c10) c11 c12 c13 c14 c15) t)
  (fun f t=>H1.rec (motive:=fun _=>H1) (.nd HV.nil HV.nil HV.nil HV.nil HV.nil HV.nil HV.nil HV.nil HV.nil HV.nil HV.nil (f HV.nil) HV.nil HV.nil HV.nil HV.nil) (fun c0 c1 c2 c3 c4 c5 c6 c7 c8 c9 c10 c11 c12 c13 c14 c15=>.nd c0 c1 c2 c3 c4 c5 c6 c7 c8 c9 c10 (f c11) c12 c13 c14 c15) t)
  (fun f t=>H1.rec (motive:=fun _=>H1) (.nd HV.nil HV.nil HV.nil HV.nil HV.nil HV.nil HV.nil HV.nil HV.nil HV.nil HV.nil HV.nil (f HV.nil) HV.nil HV.nil HV.nil) (fun c0 c1 c2 c3 c4 c5 c6 c7 c8 c9 c10 c11 c12 c13 c14 c15=>.nd c0 c1 c2 c3 c4 c5 c6 c7 c8 c9 c10 c11 (f c12) c13 c14 c15) t)
  (fun f t=>H1.rec (motive:=fun _=>H1) (.nd HV.nil HV.nil HV.nil HV.nil HV.nil HV.nil HV.nil HV.nil HV.nil HV.nil HV.nil HV.nil HV.nil (f HV.nil) HV.nil HV.nil) (fun c0 c1 c2 c3 c4 c5 c6 c7 c8 c9 c10 c11 c12 c13 c14 c15=>.nd c0 c1 c2 c3 c4 c5 c6 c7 c8 c9 c10 c11 c12 (f c13) c14 c15) t)
  (fun f t=>H1.rec (motive:=fun _=>H1) (.nd HV.nil HV.nil HV.nil HV.nil HV.nil HV.nil HV.nil HV.nil HV.nil HV.nil HV.nil HV.nil HV.nil HV.nil (f HV.nil) HV.nil) (fun c0 c1 c2 c3 c4 c5 c6 c7 c8 c9 c10 c11 c12 c13 c14 c15=>.nd c0 c1 c2 c3 c4 c5 c6 c7 c8 c9 c10 c11 c12 c13 (f c14) c15) t)
  (fun f t=>H1.rec (motive:=fun _=>H1) (.nd HV.nil HV.nil HV.nil HV.nil HV.nil HV.nil HV.nil HV.nil HV.nil HV.nil HV.nil HV.nil HV.nil HV.nil HV.nil (f HV.nil)) (fun c0 c1 c2 c3 c4 c5 c6 c7 c8 c9 c10 c11 c12 c13 c14 c15=>.nd c0 c1 c2 c3 c4 c5 c6 c7 c8 c9 c10 c11 c12 c13 c14 (f c15)) t) d f t
inductive H2 where
 | nil
 | nd (c0 c1 c2 c3 c4 c5 c6 c7 c8 c9 c10 c11 c12 c13 c14 c15:H1)
def H2.get (d:Dg) (t:H2):H1:=
 Dg.rec (motive:=fun _=>H2→H1)
  (fun t=>H2.rec (motive:=fun _=>H1) H1.nil (fun c0 _ _ _ _ _ _ _ _ _ _ _ _ _ _ _=>c0) t)
  (fun t=>H2.rec (motive:=fun _=>H1) H1.nil (fun _ c1 _ _ _ _ _ _ _ _ _ _ _ _ _ _=>c1) t)
  (fun t=>H2.rec (motive:=fun _=>H1) H1.nil (fun _ _ c2 _ _ _ _ _ _ _ _ _ _ _ _ _=>c2) t)
  (fun t=>H2.rec (motive:=fun _=>H1) H1.nil (fun _ _ _ c3 _ _ _ _ _ _ _ _ _ _ _ _=>c3) t)
  (fun t=>H2.rec (motive:=fun _=>H1) H1.nil (fun _ _ _ _ c4 _ _ _ _ _ _ _ _ _ _ _=>c4) t)
  (fun t=>H2.rec (motive:=fun _=>H1) H1.nil (fun _ _ _ _ _ c5 _ _ _ _ _ _ _ _ _ _=>c5) t)
  (fun t=>H2.rec (motive:=fun _=>H1) H1.nil (fun _ _ _ _ _ _ c6 _ _ _ _ _ _ _ _ _=>c6) t)
  (fun t=>H2.rec (motive:=fun _=>H1) H1.nil (fun _ _ _ _ _ _ _ c7 _ _ _ _ _ _ _ _=>c7) t)
  (fun t=>H2.rec (motive:=fun _=>H1) H1.nil (fun _ _ _ _ _ _ _ _ c8 _ _ _ _ _ _ _=>c8) t)
  (fun t=>H2.rec (motive:=fun _=>H1) H1.nil (fun _ _ _ _ _ _ _ _ _ c9 _ _ _ _ _ _=>c9) t)
  (fun t=>H2.rec (motive:=fun _=>H1) H1.nil (fun _ _ _ _ _ _ _ _ _ _ c10 _ _ _ _ _=>c10) t)
  (fun t=>H2.rec (motive:=fun _=>H1) H1.nil (fun _ _ _ _ _ _ _ _ _ _ _ c11 _ _ _ _=>c11) t)
  (fun t=>H2.rec (motive:=fun _=>H1) H1.nil (fun _ _ _ _ _ _ _ _ _ _ _ _ c12 _ _ _=>c12) t)
  (fun t=>H2.rec (motive:=fun _=>H1) H1.nil (fun _ _ _ _ _ _ _ _ _ _ _ _ _ c13 _ _=>c13) t)
  (fun t=>H2.rec (motive:=fun _=>H1) H1.nil (fun _ _ _ _ _ _ _ _ _ _ _ _ _ _ c14 _=>c14) t)
  (fun t=>H2.rec (motive:=fun _=>H1) H1.nil (fun _ _ _ _ _ _ _ _ _ _ _ _ _ _ _ c15=>c15) t) d t
def H2.upd (f:H1→H1) (d:Dg) (t:H2):H2:=
 Dg.rec (motive:=fun _=>(H1→H1)→H2→H2)
  (fun f t=>H2.rec (motive:=fun _=>H2) (.nd (f H1.nil) H1.nil H1.nil H1.nil H1.nil H1.nil H1.nil H1.nil H1.nil H1.nil H1.nil H1.nil H1.nil H1.nil H1.nil H1.nil) (fun c0 c1 c2 c3 c4 c5 c6 c7 c8 c9 c10 c11 c12 c13 c14 c15=>.nd (f c0) c1 c2 c3 c4 c5 c6 c7 c8 c9 c10 c11 c12 c13 c14 c15) t)
  (fun f t=>H2.rec (motive:=fun _=>H2) (.nd H1.nil (f H1.nil) H1.nil H1.nil H1.nil H1.nil H1.nil H1.nil H1.nil H1.nil H1.nil H1.nil H1.nil H1.nil H1.nil H1.nil) (fun c0 c1 c2 c3 c4 c5 c6 c7 c8 c9 c10 c11 c12 c13 c14 c15=>.nd c0 (f c1) c2 c3 c4 c5 c6 c7 c8 c9 c10 c11 c12 c13 c14 c15) t)
  (fun f t=>H2.rec (motive:=fun _=>H2) (.nd H1.nil H1.nil (f H1.nil) H1.nil H1.nil H1.nil H1.nil H1.nil H1.nil H1.nil H1.nil H1.nil H1.nil H1.nil H1.nil H1.nil) (fun c0 c1 c2 c3 c4 c5 c6 c7 c8 c9 c10 c11 c12 c13 c14 c15=>.nd c0 c1 (f c2) c3 c4 c5 c6 c7 c8 c9 c10 c11 c12 c13 c14 c15) t)
  (fun f t=>H2.rec (motive:=fun _=>H2) (.nd H1.nil H1.nil H1.nil (f H1.nil) H1.nil H1.nil H1.nil H1.nil H1.nil H1.nil H1.nil H1.nil H1.nil H1.nil H1.nil H1.nil) (fun c0 c1 c2 c3 c4 c5 c6 c7 c8 c9 c10 c11 c12 c13 c14 c15=>.nd c0 c1 c2 (f c3) c4 c5 c6 c7 c8 c9 c10 c11 c12 c13 c14 c15) t)
  (fun f t=>H2.rec (motive:=fun _=>H2) (.nd H1.nil H1.nil H1.nil H1.nil (f H1.nil) H1.nil H1.nil H1.nil H1.nil H1.nil H1.nil H1.nil H1.nil H1.nil H1.nil H1.nil) (fun c0 c1 c2 c3 c4 c5 c6 c7 c8 c9 c10 c11 c12 c13 c14 c15=>.nd c0 c1 c2 c3 (f c4) c5 c6 c7 c8 c9 c10 c11 c12 c13 c14 c15) t)
  (fun f t=>H2.rec (motive:=fun _=>H2) (.nd H1.nil H1.nil H1.nil H1.nil H1.nil (f H1.nil) H1.nil H1.nil H1.nil H1.nil H1.nil H1.nil H1.nil H1.nil H1.nil H1.nil) (fun c0 c1 c2 c3 c4 c5 c6 c7 c8 c9 c10 c11 c12 c13 c14 c15=>.nd c0 c1 c2 c3 c4 (f c5) c6 c7 c8 c9 c10 c11 c12 c13 c14 c15) t)
  (fun f t=>H2.rec (motive:=fun _=>H2) (.nd H1.nil H1.nil H1.nil H1.nil H1.nil H1.nil (f H1.nil) H1.nil H1.nil H1.nil H1.nil H1.nil H1.nil H1.nil H1.nil H1.nil) (fun c0 c1 c2 c3 c4 c5 c6 c7 c8 c9 c10 c11 c12 c13 c14 c15=>.nd c0 c1 c2 c3 c4 c5 (f c6) c7 c8 c9 c10 c11 c12 c13 c14 c15) t)
  (fun f t=>H2.rec (motive:=fun _=>H2) (.nd H1.nil H1.nil H1.nil H1.nil H1.nil H1.nil H1.nil (f H1.nil) H1.nil H1.nil H1.nil H1.nil H1.nil H1.nil H1.nil H1.nil) (fun c0 c1 c2 c3 c4 c5 c6 c7 c8 c9 c10 c11 c12 c13 c14 c15=>.nd c0 c1 c2 c3 c4 c5 c6 (f c7) c8 c9 c10 c11 c12 c13 c14 c15) t)
  (fun f t=>H2.rec (motive:=fun _=>H2) (.nd H1.nil H1.nil H1.nil H1.nil H1.nil H1.nil H1.nil H1.nil (f H1.nil) H1.nil H1.nil H1.nil H1.nil H1.nil H1.nil H1.nil) (fun c0 c1 c2 c3 c4 c5 c6 c7 c8 c9 c10 c11 c12 c13 c14 c15=>.nd c0 c1 c2 c3 c4 c5 c6 c7 (f c8) c9 c10 c11 c12 c13 c14 c15) t)
  (fun f t=>H2.rec (motive:=fun _=>H2) (.nd H1.nil H1.nil H1.nil H1.nil H1.nil H1.nil H1.nil H1.nil H1.nil (f H1.nil) H1.nil H1.nil H1.nil H1.nil H1.nil H1.nil) (fun c0 c1 c2 c3 c4 c5 c6 c7 c8 c9 c10 c11 c12 c13 c14 c15=>.nd c0 c1 c2 c3 c4 c5 c6 c7 c8 (f c9) c10 c11 c12 c13 c14 c15) t)
  (fun f t=>H2.rec (motive:=fun _=>H2) (.nd H1.nil H1.nil H1.nil H1.nil H1.nil H1.nil H1.nil H1.nil H1.nil H1.nil (f H1.nil) H1.nil H1.nil H1.nil H1.nil H1.nil) (fun c0 c1 c2 c3 c4 c5 c6 c7 c8 c9 c10 c11 c12 c13 c14 c15=>.nd c0 c1 c2 c3 c4 c5 c6 c7 c8 c9 (f c10) c11 c12 c13 c14 c15) t)
  (fun f t=>H2.rec (motive:=fun _=>H2) (.nd H1.nil H1.nil H1.nil H1.nil H1.nil H1.nil H1.nil H1.nil H1.nil H1.nil H1.nil (f H1.nil) H1.nil H1.nil H1.nil H1.nil) (fun c0 c1 c2 c3 c4 c5 c6 c7 c8 c9 c10 c11 c12 c13 c14 c15=>.nd c0 c1 c2 c3 c4 c5 c6 c7 c8 c9 c10 (f c11) c12 c13 c14 c15) t)
  (fun f t=>H2.rec (motive:=fun _=>H2) (.nd H1.nil H1.nil H1.nil H1.nil H1.nil H1.nil H1.nil H1.nil H1.nil H1.nil H1.nil H1.nil (f H1.nil) H1.nil H1.nil H1.nil) (fun c0 c1 c2 c3 c4 c5 c6 c7 c8 c9 c10 c11 c12 c13 c14 c15=>.nd c0 c1 c2 c3 c4 c5 c6 c7 c8 c9 c10 c11 (f c12) c13 c14 c15) t)
  (fun f t=>H2.rec (motive:=fun _=>H2) (.nd H1.nil H1.nil H1.nil H1.nil H1.nil H1.nil H1.nil H1.nil H1.nil H1.nil H1.nil H1.nil H1.nil (f H1.nil) H1.nil H1.nil) (fun c0 c1 c2 c3 c4 c5 c6 c7 c8 c9 c10 c11 c12 c13 c14 c15=>.nd c0 c1 c2 c3 c4 c5 c6 c7 c8 c9 c10 c11 c12 (f c13) c14 c15) t)
  (fun f t=>H2.rec (motive:=fun _=>H2) (.nd H1.nil H1.nil H1.nil H1.nil H1.nil H1.nil H1.nil H1.nil H1.nil H1.nil H1.nil H1.nil H1.nil H1.nil (f H1.nil) H1.nil) (fun c0 c1 c2 c3 c4 c5 c6 c7 c8 c9 c10 c11 c12 c13 c14 c15=>.nd c0 c1 c2 c3 c4 c5 c6 c7 c8 c9 c10 c11 c12 c13 (f c14) c15) t)
  (fun f t=>H2.rec (motive:=fun _=>H2) (.nd H1.nil H1.nil H1.nil H1.nil H1.nil H1.nil H1.nil H1.nil H1.nil H1.nil H1.nil H1.nil H1.nil H1.nil H1.nil (f H1.nil)) (fun c0 c1 c2 c3 c4 c5 c6 c7 c8 c9 c10 c11 c12 c13 c14 c15=>.nd c0 c1 c2 c3 c4 c5 c6 c7 c8 c9 c10 c11 c12 c13 c14 (f c15)) t) d f t
inductive H3 where
 | nil
 | nd (c0 c1 c2 c3 c4 c5 c6 c7 c8 c9 c10 c11 c12 c13 c14 c15:H2)
def H3.get (d:Dg) (t:H3):H2:=
 Dg.rec (motive:=fun _=>H3→H2)
  (fun t=>H3.rec (motive:=fun _=>H2) H2.nil (fun c0 _ _ _ _ _ _ _ _ _ _ _ _ _ _ _=>c0) t)
  (fun t=>H3.rec (motive:=fun _=>H2) H2.nil (fun _ c1 _ _ _ _ _ _ _ _ _ _ _ _ _ _=>c1) t)
  (fun t=>H3.rec (motive:=fun _=>H2) H2.nil (fun _ _ c2 _ _ _ _ _ _ _ _ _ _ _ _ _=>c2) t)
  (fun t=>H3.rec (motive:=fun _=>H2) H2.nil (fun _ _ _ c3 _ _ _ _ _ _ _ _ _ _ _ _=>c3) t)
  (fun t=>H3.rec (motive:=fun _=>H2) H2.nil (fun _ _ _ _ c4 _ _ _ _ _ _ _ _ _ _ _=>c4) t)
  (fun t=>H3.rec (motive:=fun _=>H2) H2.nil (fun _ _ _ _ _ c5 _ _ _ _ _ _ _ _ _ _=>c5) t)
  (fun t=>H3.rec (motive:=fun _=>H2) H2.nil (fun _ _ _ _ _ _ c6 _ _ _ _ _ _ _ _ _=>c6) t)
  (fun t=>H3.rec (motive:=fun _=>H2) H2.nil (fun _ _ _ _ _ _ _ c7 _ _ _ _ _ _ _ _=>c7) t)
  (fun t=>H3.rec (motive:=fun _=>H2) H2.nil (fun _ _ _ _ _ _ _ _ c8 _ _ _ _ _ _ _=>c8) t)
  (fun t=>H3.rec (motive:=fun _=>H2) H2.nil (fun _ _ _ _ _ _ _ _ _ c9 _ _ _ _ _ _=>c9) t)
  (fun t=>H3.rec (motive:=fun _=>H2) H2.nil (fun _ _ _ _ _ _ _ _ _ _ c10 _ _ _ _ _=>c10) t)
  (fun t=>H3.rec (motive:=fun _=>H2) H2.nil (fun _ _ _ _ _ _ _ _ _ _ _ c11 _ _ _ _=>c11) t)
  (fun t=>H3.rec (motive:=fun _=>H2) H2.nil (fun _ _ _ _ _ _ _ _ _ _ _ _ c12 _ _ _=>c12) t)
  (fun t=>H3.rec (motive:=fun _=>H2) H2.nil (fun _ _ _ _ _ _ _ _ _ _ _ _ _ c13 _ _=>c13) t)
  (fun t=>H3.rec (motive:=fun _=>H2) H2.nil (fun _ _ _ _ _ _ _ _ _ _ _ _ _ _ c14 _=>c14) t)
  (fun t=>H3.rec (motive:=fun _=>H2) H2.nil (fun _ _ _ _ _ _ _ _ _ _ _ _ _ _ _ c15=>c15) t) d t
def H3.upd (f:H2→H2) (d:Dg) (t:H3):H3:=
 Dg.rec (motive:=fun _=>(H2→H2)→H3→H3)
  (fun f t=>H3.rec (motive:=fun _=>H3) (.nd (f H2.nil) H2.nil H2.nil H2.nil H2.nil H2.nil H2.nil H2.nil H2.nil H2.nil H2.nil H2.nil H2.nil H2.nil H2.nil H2.nil) (fun c0 c1 c2 c3 c4 c5 c6 c7 c8 c9 c10 c11 c12 c13 c14 c15=>.nd (f c0) c1 c2 c3 c4 c5 c6 c7 c8 c9 c10 c11 c12 c13 c14 c15) t)
  (fun f t=>H3.rec (motive:=fun _=>H3) (.nd H2.nil (f H2.nil) H2.nil H2.nil H2.nil H2.nil H2.nil H2.nil H2.nil H2.nil H2.nil H2.nil H2.nil H2.nil H2.nil H2.nil) (fun c0 c1 c2 c3 c4 c5 c6 c7 c8 c9 c10 c11 c12 c13 c14 c15=>.nd c0 (f c1) c2 c3 c4 c5 c6 c7 c8 c9 c10 c11 c12 c13 c14 c15) t)
  (fun f t=>H3.rec (motive:=fun _=>H3) (.nd H2.nil H2.nil (f H2.nil) H2.nil H2.nil H2.nil H2.nil H2.nil H2.nil H2.nil H2.nil H2.nil H2.nil H2.nil H2.nil H2.nil) (fun c0 c1 c2 c3 c4 c5 c6 c7 c8 c9 c10 c11 c12 c13 c14 c15=>.nd c0 c1 (f c2) c3 c4 c5 c6 c7 c8 c9 c10 c11 c12 c13 c14 c15) t)
  (fun f t=>H3.rec (motive:=fun _=>H3) (.nd H2.nil H2.nil H2.nil (f H2.nil) H2.nil H2.nil H2.nil H2.nil H2.nil H2.nil H2.nil H2.nil H2.nil H2.nil H2.nil H2.nil) (fun c0 c1 c2 c3 c4 c5 c6 c7 c8 c9 c10 c11 c12 c13 c14 c15=>.nd c0 c1 c2 (f c3) c4 c5 c6 c7 c8 c9 c10 c11 c12 c13 c14 c15) t)
  (fun f t=>H3.rec (motive:=fun _=>H3) (.nd H2.nil H2.nil H2.nil H2.nil (f H2.nil) H2.nil H2.nil H2.nil H2.nil H2.nil H2.nil H2.nil H2.nil H2.nil H2.nil H2.nil) (fun c0 c1 c2 c3 c4 c5 c6 c7 c8 c9 c10 c11 c12 c13 c14 c15=>.nd c0 c1 c2 c3 (f c4) c5 c6 c7 c8 c9 c10 c11 c12 c13 c14 c15) t)
  (fun f t=>H3.rec (motive:=fun _=>H3) (.nd H2.nil H2.nil H2.nil H2.nil H2.nil (f H2.nil) H2.nil H2.nil H2.nil H2.nil H2.nil H2.nil H2.nil H2.nil H2.nil H2.nil) (fun c0 c1 c2 c3 c4 c5 c6 c7 c8 c9 c10 c11 c12 c13 c14 c15=>.nd c0 c1 c2 c3 c4 (f c5) c6 c7 c8 c9 c10 c11 c12 c13 c14 c15) t)
  (fun f t=>H3.rec (motive:=fun _=>H3) (.nd H2.nil H2.nil H2.nil H2.nil H2.nil H2.nil (f H2.nil) H2.nil H2.nil H2.nil H2.nil H2.nil H2.nil H2.nil H2.nil H2.nil) (fun c0 c1 c2 c3 c4 c5 c6 c7 c8 c9 c10 c11 c12 c13 c14 c15=>.nd c0 c1 c2 c3 c4 c5 (f c6) c7 c8 c9 c10 c11 c12 c13 c14 c15) t)
  (fun f t=>H3.rec (motive:=fun _=>H3) (.nd H2.nil H2.nil H2.nil H2.nil H2.nil H2.nil H2.nil (f H2.nil) H2.nil H2.nil H2.nil H2.nil H2.nil H2.nil H2.nil H2.nil) (fun c0 c1 c2 c3 c4 c5 c6 c7 c8 c9 c10 c11 c12 c13 c14 c15=>.nd c0 c1 c2 c3 c4 c5 c6 (f c7) c8 c9 c10 c11 c12 c13 c14 c15) t)
  (fun f t=>H3.rec (motive:=fun _=>H3) (.nd H2.nil H2.nil H2.nil H2.nil H2.nil H2.nil H2.nil H2.nil (f H2.nil) H2.nil H2.nil H2.nil H2.nil H2.nil H2.nil H2.nil) (fun c0 c1 c2 c3 c4 c5 c6 c7 c8 c9 c10 c11 c12 c13 c14 c15=>.nd c0 c1 c2 c3 c4 c5 c6 c7 (f c8) c9 c10 c11 c12 c13 c14 c15) t)
  (fun f t=>H3.rec (motive:=fun _=>H3) (.nd H2.nil H2.nil H2.nil H2.nil H2.nil H2.nil H2.nil H2.nil H2.nil (f H2.nil) H2.nil H2.nil H2.nil H2.nil H2.nil H2.nil) (fun c0 c1 c2 c3 c4 c5 c6 c7 c8 c9 c10 c11 c12 c13 c14 c15=>.nd c0 c1 c2 c3 c4 c5 c6 c7 c8 (f c9) c10 c11 c12 c13 c14 c15) t)
  (fun f t=>H3.rec (motive:=fun _=>H3) (.nd H2.nil H2.nil H2.nil H2.nil H2.nil H2.nil H2.nil H2.nil H2.nil H2.nil (f H2.nil) H2.nil H2.nil H2.nil H2.nil H2.nil) (fun c0 c1 c2 c3 c4 c5 c6 c7 c8 c9 c10 c11 c12 c13 c14 c15=>.nd c0 c1 c2 c3 c4 c5 c6 c7 c8 c9 (f c10) c11 c12 c13 c14 c15) t)
  (fun f t=>H3.rec (motive:=fun _=>H3) (.nd H2.nil H2.nil H2.nil H2.nil H2.nil H2.nil H2.nil H2.nil H2.nil H2.nil H2.nil (f H2.nil) H2.nil H2.nil H2.nil H2.nil) (fun c0 c1 c2 c3 c4 c5 c6 c7 c8 c9 c10 c11 c12 c13 c14 c15=>.nd c0 c1 c2 c3 c4 c5 c6 c7 c8 c9 c10 (f c11) c12 c13 c14 c15) t)
  (fun f t=>H3.rec (motive:=fun _=>H3) (.nd H2.nil H2.nil H2.nil H2.nil H2.nil H2.nil H2.nil H2.nil H2.nil H2.nil H2.nil H2.nil (f H2.nil) H2.nil H2.nil H2.nil) (fun c0 c1 c2 c3 c4 c5 c6 c7 c8 c9 c10 c11 c12 c13 c14 c15=>.nd c0 c1 c2 c3 c4 c5 c6 c7 c8 c9 c10 c11 (f c12) c13 c14 c15) t)
  (fun f t=>H3.rec (motive:=fun _=>H3) (.nd H2.nil H2.nil H2.nil H2.nil H2.nil H2.nil H2.nil H2.nil H2.nil H2.nil H2.nil H2.nil H2.nil (f H2.nil) H2.nil H2.nil) (fun c0 c1 c2 c3 c4 c5 c6 c7 c8 c9 c10 c11 c12 c13 c14 c15=>.nd c0 c1 c2 c3 c4 c5 c6 c7 c8 c9 c10 c11 c12 (f c13) c14 c15) t)
  (fun f t=>H3.rec (motive:=fun _=>H3) (.nd H2.nil H2.nil H2.nil H2.nil H2.nil H2.nil H2.nil H2.nil H2.nil H2.nil H2.nil H2.nil H2.nil H2.nil (f H2.nil) H2.nil) (fun c0 c1 c2 c3 c4 c5 c6 c7 c8 c9 c10 c11 c12 c13 c14 c15=>.nd c0 c1 c2 c3 c4 c5 c6 c7 c8 c9 c10 c11 c12 c13 (f c14) c15) t)
  (fun f t=>H3.rec (motive:=fun _=>H3) (.nd H2.nil H2.nil H2.nil H2.nil H2.nil H2.nil H2.nil H2.nil H2.nil H2.nil H2.nil H2.nil H2.nil H2.nil H2.nil (f H2.nil)) (fun c0 c1 c2 c3 c4 c5 c6 c7 c8 c9 c10 c11 c12 c13 c14 c15=>.nd c0 c1 c2 c3 c4 c5 c6 c7 c8 c9 c10 c11 c12 c13 c14 (f c15)) t) d f t
end
inductive Tm where
 | mk (s:LV) (w:L1)
def Tm.nil:Tm:=.mk .nil .nil
abbrev zC:=H3
noncomputable section
def x7 (p:Loc) (t:Tm):CV:=
 Loc.rec (motive:=fun _=>Tm→CV) (fun d t=>Tm.rec (motive:=fun _=>CV) (fun s _=>LV.get d s) t) (fun c d t=>Tm.rec (motive:=fun _=>CV) (fun _ w=>LV.get d (L1.get c w)) t) p t
def wF (v:CV) (p:Loc) (t:Tm):Tm:=
 Loc.rec (motive:=fun _=>CV→Tm→Tm) (fun d v t=>Tm.rec (motive:=fun _=>Tm) (fun s w=>.mk (LV.upd (fun _=>v) d s) w) t)
  (fun c d v t=>Tm.rec (motive:=fun _=>Tm) (fun s w=>.mk s (L1.upd (LV.upd (fun _=>v) d) c w)) t) p v t
def ze (k:Key) (h:zC):Option CObj:=Key.rec (motive:=fun _=>zC→Option CObj) (fun a b c d t=>((H3.get a t |>.get b).get c).get d) k h
def yj (o:Option CObj) (k:Key) (h:zC):zC:=
 Key.rec (motive:=fun _=>Option CObj→zC→zC) (fun a b c d o h=>H3.upd (H2.upd (H1.upd (HV.upd (fun _=>o) d) c) b) a h) k o h
end
def yn {α β:Type} (f:α→Option β):List α→Option (List β)
 | []=>some []
 | x::xs=>match f x with
  | none=>none
  | some y=>match yn f xs with
   | none=>none
   | some ys=>some (y::ys)
def zp (s:ByteArray):List Nat:=s.data.toList.map UInt8.toNat
def uj:Nat→Value→Option CV
 | 0,_=>none
 | d+1,v=>match v with
  | .bool b=>some (.bool b)
  | .int k n=>some (match k,n with | .i64,.ofNat m=>.nat m | k,n=>.int k n)
  | .string s=>some (.str (zp s))
  | .pointer none=>some .nilptr
  | .slice none 0 0=>some .nilsl
  | .map none=>some .nilmap
  | .nilFunc=>some .nilfunc
  | .func fn a b=>if a.size=0∧b.size=0 then some (.func fn [] []) else none
  | .nilIface=>some .niliface
  | .iface t v=>(uj d v).map (.iface t)
  | .agg cs=>(yn (uj d) cs.toList).map .agg
  | .tuple cs=>(yn (uj d) cs.toList).map .tup
  | _=>none
def CV.cells:CV→List CV
 | .agg cs=>cs
 | v=>[v]
def CV.single:CV→Bool
 | .agg _=>false
 | .tup _=>false
 | .any=>false
 | _=>true
noncomputable section
def xJ (l:List CV):Bool:=List.rec (motive:=fun _=>Bool) true (fun v _ ih=>Bool.rec (motive:=fun _=>Bool) false ih v.single) l
def vg (l:List CV):Nat:=List.rec (motive:=fun _=>Nat) 0 (fun _ _ ih=>Nat.succ ih) l
def zCj (l:List Nat):Nat:=List.rec (motive:=fun _=>Nat) 0 (fun _ _ ih=>Nat.succ ih) l
def zOd (l:List CE):Nat:=List.rec (motive:=fun _=>Nat) 0 (fun _ _ ih=>Nat.succ ih) l
end
def nth {α:Type}:List α→Nat→Option α
 | [],_=>none
 | x::_,0=>some x
 | _::xs,k+1=>nth xs k
noncomputable section
def zCP (l:List CV) (k:Nat):Option CV:=
 List.rec (motive:=fun _=>Nat→Option CV) (fun _=>none) (fun x _ ih k=>Nat.rec (motive:=fun _=>Option CV) (some x) (fun k _=>ih k) k) l k
def zS9 (l:List Nat) (k:Nat):Option Nat:=
 List.rec (motive:=fun _=>Nat→Option Nat) (fun _=>none) (fun x _ ih k=>Nat.rec (motive:=fun _=>Option Nat) (some x) (fun k _=>ih k) k) l k
def zMi (l:List CV) (k:Nat):List CV:=
 List.rec (motive:=fun _=>Nat→List CV) (fun _=>[]) (fun x xs ih k=>Nat.rec (motive:=fun _=>List CV) (x::xs) (fun k _=>ih k) k) l k
def zMR (l:List Nat) (k:Nat):List Nat:=
 List.rec (motive:=fun _=>Nat→List Nat) (fun _=>[]) (fun x xs ih k=>Nat.rec (motive:=fun _=>List Nat) (x::xs) (fun k _=>ih k) k) l k
def zHB (x:CV) (r:Option (List CV)):Option (List CV):=Option.rec (motive:=fun _=>CV→Option (List CV)) (fun _=>none) (fun l x=>some (x::l)) r x
def zMA (x:Nat) (r:Option (List Nat)):Option (List Nat):=Option.rec (motive:=fun _=>Nat→Option (List Nat)) (fun _=>none) (fun l x=>some (x::l)) r x
def zJX (l:List CV) (k:Nat):Option (List CV):=
 List.rec (motive:=fun _=>Nat→Option (List CV)) (fun k=>Nat.rec (motive:=fun _=>Option (List CV)) (some []) (fun _ _=>none) k)
  (fun x _ ih k=>Nat.rec (motive:=fun _=>Option (List CV)) (some []) (fun k _=>zHB x (ih k)) k) l k
def zJG (l:List Nat) (k:Nat):Option (List Nat):=
 List.rec (motive:=fun _=>Nat→Option (List Nat)) (fun k=>Nat.rec (motive:=fun _=>Option (List Nat)) (some []) (fun _ _=>none) k)
  (fun x _ ih k=>Nat.rec (motive:=fun _=>Option (List Nat)) (some []) (fun k _=>zMA x (ih k)) k) l k
def up (l:List CV) (off n:Nat):Option (List CV):=zJX (zMi l off) n
def zTq (l:List Nat) (off n:Nat):Option (List Nat):=zJG (zMR l off) n
def zDS (xs:List CV) (s:Nat) (l:List CV):Option (List CV):=
 List.rec (motive:=fun _=>Nat→List CV→Option (List CV)) (fun s l=>Nat.rec (motive:=fun _=>Option (List CV)) (some l) (fun _ _=>none) s)
  (fun x _ ih s l=>Nat.rec (motive:=fun _=>Option (List CV)) none (fun s _=>List.rec (motive:=fun _=>Option (List CV)) none (fun _ l _=>zHB x (ih s l)) l) s) xs s l
def jG (xs:List CV) (s:Nat) (l:List CV) (k:Nat):Option (List CV):=
 List.rec (motive:=fun _=>Nat→List CV→Nat→Option (List CV)) (fun k xs s=>Nat.rec (motive:=fun _=>Option (List CV)) (zDS xs s []) (fun _ _=>none) k)
  (fun y l ih k xs s=>Nat.rec (motive:=fun _=>Option (List CV)) (zDS xs s (y::l)) (fun k _=>zHB y (ih k xs s)) k) l k xs s
end
def kU (x:List CV):Nat→List CV
 | 0=>[]
 | n+1=>x++kU x n
noncomputable section
def vc {β:Type} (n:Nat) (k:Nat→β):β:=Nat.rec (motive:=fun _=>(Nat→β)→β) (fun k=>k 0) (fun m _ k=>k (Nat.succ m)) n k
def kS (n:Nat):CV:=Nat.rec (motive:=fun _=>CV) (.nat 0) (fun m _=>.nat (Nat.succ m)) n
def jP (k:IntKind) (n:Nat):CV:=IntKind.rec (motive:=fun _=>Nat→CV) (fun n=>.int .i8 (.ofNat n)) (fun n=>.int .i16 (.ofNat n)) (fun n=>.int .i32 (.ofNat n)) kS
 (fun n=>.int .u8 (.ofNat n)) (fun n=>.int .u16 (.ofNat n)) (fun n=>.int .u32 (.ofNat n)) (fun n=>.int .u64 (.ofNat n)) k n
def mkInt (k:IntKind) (n:Int):CV:=
 Int.rec (motive:=fun _=>IntKind→CV) (fun m k=>Nat.rec (motive:=fun _=>CV) (jP k 0) (fun m _=>jP k (Nat.succ m)) m)
  (fun m k=>Nat.rec (motive:=fun _=>CV) (.int k (.negSucc 0)) (fun m _=>.int k (.negSucc (Nat.succ m))) m) n k
def kNo (k:IntKind):Nat:=IntKind.rec (motive:=fun _=>Nat) 0 1 2 3 4 5 6 7 k
def kEq (j k:IntKind):Bool:=Nat.beq (kNo j) (kNo k)
def zNh (n:Int):Int:=
 Int.rec (motive:=fun _=>Int) (fun m=>Bool.rec (motive:=fun _=>Int) (IntKind.i64.wrap (.ofNat m)) (.ofNat m) (Nat.ble m 9223372036854775807))
  (fun m=>Bool.rec (motive:=fun _=>Int) (IntKind.i64.wrap (.negSucc m)) (.negSucc m) (Nat.ble m 9223372036854775807)) n
def zTt (n:Int):Int:=Int.rec (motive:=fun _=>Int) (fun m=>.ofNat (Nat.mod m 256)) (fun m=>IntKind.u8.wrap (.negSucc m)) n
def yf (k:IntKind) (n:Int):Int:=
 IntKind.rec (motive:=fun _=>Int→Int) IntKind.i8.wrap IntKind.i16.wrap IntKind.i32.wrap zNh zTt IntKind.u16.wrap IntKind.u32.wrap IntKind.u64.wrap k n
def yA (a b:Int):Bool:=
 Int.rec (motive:=fun _=>Int→Bool) (fun a b=>Int.rec (motive:=fun _=>Bool) (fun b=>Nat.beq a b) (fun _=>false) b)
  (fun a b=>Int.rec (motive:=fun _=>Bool) (fun _=>false) (fun b=>Nat.beq a b) b) a b
def wM (a b:Int):Bool:=
 Int.rec (motive:=fun _=>Int→Bool) (fun a b=>Int.rec (motive:=fun _=>Bool) (fun b=>Nat.ble (Nat.succ a) b) (fun _=>false) b)
  (fun a b=>Int.rec (motive:=fun _=>Bool) (fun _=>true) (fun b=>Nat.ble (Nat.succ b) a) b) a b
def toU (k:IntKind) (n:Int):Nat:=match n with
 | .ofNat m=>Nat.mod m (Nat.pow 2 k.bits)
 | .negSucc m=>Nat.sub (Nat.sub (Nat.pow 2 k.bits) 1) (Nat.mod m (Nat.pow 2 k.bits))
def zB7 (b:Bool):Bool:=Bool.rec (motive:=fun _=>Bool) true false b
abbrev AOp:=IntKind→Int→Int→Option CV
def zU2:AOp:=fun k a b=>some (mkInt k (yf k (Int.add a b)))
def zU7:AOp:=fun k a b=>some (mkInt k (yf k (Int.sub a b)))
def zUX:AOp:=fun k a b=>some (mkInt k (yf k (Int.mul a b)))
def zUQ:AOp:=fun k a b=>Bool.rec (motive:=fun _=>Option CV) (some (mkInt k (yf k (a.tdiv b)))) none (yA b (.ofNat 0))
def zUY:AOp:=fun k a b=>Bool.rec (motive:=fun _=>Option CV) (some (mkInt k (a.tmod b))) none (yA b (.ofNat 0))
def zUL:AOp:=fun k a b=>some (mkInt k (yf k (.ofNat (Nat.land (toU k a) (toU k b)))))
def aOr:AOp:=fun k a b=>some (mkInt k (yf k (.ofNat (Nat.lor (toU k a) (toU k b)))))
def zTb:AOp:=fun k a b=>some (mkInt k (yf k (.ofNat (Nat.xor (toU k a) (toU k b)))))
def zSB:AOp:=fun k a b=>some (mkInt k (yf k (.ofNat (Nat.land (toU k a) (Nat.sub (Nat.sub (Nat.pow 2 k.bits) 1) (toU k b))))))
def zU8:AOp:=fun _ a b=>some (.bool (yA a b))
def zVb:AOp:=fun _ a b=>some (.bool (zB7 (yA a b)))
def zUJ:AOp:=fun _ a b=>some (.bool (wM a b))
def zUG:AOp:=fun _ a b=>some (.bool (zB7 (wM b a)))
def zUA:AOp:=fun _ a b=>some (.bool (wM b a))
def zU6:AOp:=fun _ a b=>some (.bool (zB7 (wM a b)))
def zUI:AOp:=fun k a b=>match b with
 | .ofNat m=>some (mkInt k (yf k (Int.mul a (.ofNat (Nat.pow 2 (min m k.bits))))))
 | .negSucc _=>none
def zUN:AOp:=fun k a b=>match b with
 | .ofNat m=>match a with
  | .ofNat a=>some (jP k (Nat.div a (Nat.pow 2 (min m k.bits))))
  | .negSucc a=>some (mkInt k ((Int.negSucc a).fdiv (.ofNat (Nat.pow 2 (min m k.bits)))))
 | .negSucc _=>none
def yP (op:BinOp):AOp:=
 BinOp.rec (motive:=fun _=>AOp) zU2 zU7 zUX zUQ zUY zUL aOr zTb zUI zUN zSB zU8 zVb zUJ zUG zUA zU6 op
def yu (op:BinOp):Bool:=match op with
 | .shl=>true
 | .shr=>true
 | _=>false
abbrev NOp:=Nat→Nat→Option CV
def okN (n:Nat):Option CV:=Bool.rec (motive:=fun _=>Option CV) none (some (kS n)) (Nat.ble n 9223372036854775807)
def zU5:NOp:=fun a b=>okN (Nat.add a b)
def zUS:NOp:=fun a b=>Bool.rec (motive:=fun _=>Option CV) none (Bool.rec (motive:=fun _=>Option CV) none (some (kS (Nat.sub a b))) (Nat.ble a 9223372036854775807)) (Nat.ble b a)
def zU9:NOp:=fun a b=>okN (Nat.mul a b)
def nNo:NOp:=fun _ _=>none
def zUH:NOp:=fun a b=>Bool.rec (motive:=fun _=>Option CV) none (Bool.rec (motive:=fun _=>Option CV) none (some (kS (Nat.land a b))) (Nat.ble b 9223372036854775807)) (Nat.ble a 9223372036854775807)
def zUE:NOp:=fun a b=>some (.bool (Nat.beq a b))
def zUU:NOp:=fun a b=>some (.bool (zB7 (Nat.beq a b)))
def zUC:NOp:=fun a b=>some (.bool (Nat.ble (Nat.succ a) b))
def zU4:NOp:=fun a b=>some (.bool (Nat.ble a b))
def zUB:NOp:=fun a b=>some (.bool (Nat.ble (Nat.succ b) a))
def zUZ:NOp:=fun a b=>some (.bool (Nat.ble b a))
def zGT (op:BinOp):NOp:=BinOp.rec (motive:=fun _=>NOp) zU5 zUS zU9 nNo nNo zUH nNo nNo nNo nNo nNo zUE zUU zUC zU4 zUB zUZ op
def zAf (a b:List Nat):Bool:=
 List.rec (motive:=fun _=>List Nat→Bool) (fun b=>List.rec (motive:=fun _=>Bool) false (fun _ _ _=>true) b)
  (fun x _ ih b=>List.rec (motive:=fun _=>Bool) false (fun y r _=>Bool.rec (motive:=fun _=>Bool) (Bool.rec (motive:=fun _=>Bool) false (ih r) (Nat.beq x y)) true (Nat.ble (Nat.succ x) y)) b) a b
def xu (a b:List Nat):Bool:=
 List.rec (motive:=fun _=>List Nat→Bool) (fun b=>List.rec (motive:=fun _=>Bool) true (fun _ _ _=>false) b)
  (fun x _ ih b=>List.rec (motive:=fun _=>Bool) false (fun y r _=>Bool.rec (motive:=fun _=>Bool) false (ih r) (Nat.beq x y)) b) a b
def zTG (a b:List Nat):List Nat:=List.rec (motive:=fun _=>List Nat) b (fun x _ ih=>x::ih) a
def zCV (a b:List CV):List CV:=List.rec (motive:=fun _=>List CV) b (fun x _ ih=>x::ih) a
abbrev SOp:=List Nat→List Nat→Option CV
def zUV:SOp:=fun a b=>Bool.rec (motive:=fun _=>Option CV) none (some (.str (zTG a b))) (Nat.ble (Nat.add (zCj a) (zCj b)) 1000000)
def zVd:SOp:=fun a b=>some (.bool (xu a b))
def zUR:SOp:=fun a b=>some (.bool (zB7 (xu a b)))
def zUz:SOp:=fun a b=>some (.bool (zAf a b))
def zUM:SOp:=fun a b=>some (.bool (zAf a b || xu a b))
def zUP:SOp:=fun a b=>some (.bool (zB7 (zAf a b || xu a b)))
def zU1:SOp:=fun a b=>some (.bool (zB7 (zAf a b)))
def zGj:SOp:=fun _ _=>none
def zRo (op:BinOp):SOp:=BinOp.rec (motive:=fun _=>SOp) zUV zGj zGj zGj zGj zGj zGj zGj zGj zGj zGj zVd zUR zUz zUM zUP zU1 op
end
inductive zU where
 | e (i:Nat)
 | l (p:Loc)
 | k (v:CV)
structure zH5 where
 off:Nat
 size:Nat
 arg:zU
inductive EqK where
 | bool | pointer | iface | slice | map | func | int | str
 | struct (fs:List (Nat × EqK))
inductive jq where
 | int | str | bool
 | ints (n:Nat)
inductive Ext where
 | count | indexByte | index | mapsClone | overlaps | cmp
inductive COp where
 | mv (x:zU)
 | pick (c a b:zU)
 | alloc (cs:List CV)
 | box (x:zU)
 | build (zero:List CV) (ps:List zH5)
 | bslice (zero:List CV) (len esz:Nat) (ps:List zH5)
 | load1 (x:zU)
 | loadN (s:Nat) (x:zU)
 | store (s:Nat) (a x:zU)
 | nilck (x:zU)
 | arith (op:BinOp) (x y:zU)
 | eq (neg:Bool) (k:EqK) (cst:Bool) (x y:zU)
 | un (op:UnOp) (x:zU)
 | cvInt (k:IntKind) (x:zU)
 | cvStr (x:zU)
 | cvSB (x:zU)
 | cvMark (x:zU)
 | cvBS (x:zU)
 | iface (t:TypeId) (x:zU)
 | mkfn (fn:Fn) (first captured:List zU)
 | mkmap
 | mkslice (zero:List CV) (esz bytes:Nat) (l c:zU)
 | slArr (len esz:Nat) (x:zU) (lo hi mx:Option zU)
 | slSl (esz:Nat) (x:zU) (lo hi mx:Option zU)
 | slStr (x:zU) (lo hi:Option zU)
 | addOff (k:Nat) (x:zU)
 | part (agg:Bool) (off size:Nat) (x:zU)
 | ixArr (len esz:Nat) (x i:zU)
 | ixSl (esz:Nat) (x i:zU)
 | ixAgg (len esz:Nat) (agg:Bool) (x i:zU)
 | ixStr (x i:zU)
 | lookup (kk:jq) (z:CV) (ok:Bool) (x k:zU)
 | mapupd (kk:jq) (m k v:zU)
 | rangeStr (x:zU)
 | rangeMap (x:zU)
 | next (s:Bool) (x:zU)
 | entry (x:zU)
 | tassert (t:TypeId) (z:Option CV) (ok:Bool) (x:zU)
 | tiface (t:TypeId) (z:Option CV) (ok:Bool) (x:zU)
 | extract (i:Nat) (x:zU)
 | call (f:FuncId) (args:List zU)
 | ext (e:Ext) (args:List zU)
 | callv (f:zU) (args:List zU)
 | invoke (recv:zU) (name:String) (args:List zU)
 | append (esz bytes:Nat) (s x:zU)
 | appz (zero:List CV) (esz:Nat) (s x:zU)
 | copy (esz:Nat) (d x:zU)
 | lenStr (x:zU)
 | lenSl (x:zU)
 | lenMap (x:zU)
 | capSl (x:zU)
 | delete (kk:jq) (m k:zU)
 | clearMap (x:zU)
 | clearSl (zero:List CV) (esz:Nat) (x:zU)
 | minmax (mx:Bool) (x:zU) (r:List zU)
 | defer (f:zU) (args:List zU)
 | recov
 | bad (c:Nat)
inductive qU where
 | i (op:COp)
 | o (op:COp) (d:Loc)
 | g (x:zU) (w:Bool) (op:COp) (d:Option Loc)
structure zOB where
 ins:qU
 eff:Bool
 chk:Nat
inductive CCode where
 | skip
 | region (ops:List qU)
 | dregion (ops:List zOB)
 | seq (a b:CCode)
 | cond (x:zU) (a b:CCode)
 | block (id:Nat) (b:CCode)
 | loop (b:CCode)
 | exit (id:Nat)
 | ret
 | scope (b:CCode)
 | bad (c:Nat)
inductive CRes where
 | tmp (p:zU)
 | cell1 (p:zU)
 | cellN (p:zU) (s:Nat)
inductive CFn where
 | mk (body:CCode) (res:List CRes)
 | mkD (ops:List qU) (body:CCode) (res:List CRes)
 | ext (e:Ext)
 | bad (c:Nat)
section
variable (P:Program)
def und (t:TypeId):Option TypeDesc:=P.underlying t
def xk (t:TypeId):Option Nat:=(P.info? t).map (·.size)
def uT (t:TypeId):Option Nat:=(P.info? t).map (·.bytes)
def xy (t:TypeId):Option Bool:=match P.underlying t with
 | some (.struct _)=>some true
 | some (.array _ _)=>some true
 | some _=>some false
 | none=>none
def wK (t:TypeId):Option CV:=match (P.info? t).bind (·.zero) with
 | some v=>uj 20 v
 | none=>none
def cellsOf (v:CV):Option (List CV):=match v with
 | .agg cs=>some cs
 | .tup _=>none
 | .any=>none
 | v=>some [v]
def qz (t:TypeId):Option (List CV):=(wK P t).bind cellsOf
def jK (fs:List Field):Bool:=match fs with
 | []=>true
 | f::r=>(xk P f.type).isSome&&jK r
def xF (t:Nat):List (Option Nat)→Nat→Option Nat
 | [],_=>none
 | d::r,i=>match d with
  | some u=>match Nat.beq u t with
   | true=>some i
   | false=>xF t r (i+1)
  | none=>xF t r (i+1)
structure Env where
 F:Nat
 N:Nat
 ds:List (Option Nat)
def zr (F t:Nat):Bool:=Nat.beq (Nat.mod (Nat.shiftRight F t) 2) 1
def zg (E:Env):Operand→Option zU
 | .tmp t=>match xF t E.ds 0 with
  | some i=>some (.e i)
  | none=>match zr E.F t&&Nat.ble t 271&&Nat.ble (Nat.succ t) E.N with
   | true=>some (.l (Loc.ofNat t))
   | false=>none
 | .const v=>(uj 20 v).map .k
 | .global g=>match Nat.ble (Nat.succ g) P.globals.size&&Nat.ble g 4095 with
  | true=>some (.k (.ptr (Key.ofNat g) 0))
  | false=>none
 | .func f=>some (.k (.func (.func f) [] []))
variable (E:Env)
def xD (f:zU→COp) (x:Operand):COp:=match zg P E x with
 | some x=>f x
 | none=>.bad 1
def qr (f:zU→zU→COp) (x y:Operand):COp:=match zg P E x,zg P E y with
 | some x,some y=>f x y
 | _,_=>.bad 1
def vX (place:Nat→Option (Nat × Nat)) (l:List (Nat × Operand)):Option (List zH5):=
 yn (fun (i,x)=>match place i,zg P E x with
  | some (o,s),some x=>some ⟨o,s,x⟩
  | _,_=>none) l
def zAg (fs:List Field) (i:Nat):Option (Nat × Nat):=match nth fs i with
 | none=>none
 | some f=>match xk P f.type with
  | none=>none
  | some s=>some (f.offset,s)
def kx:List Field→Option (List (Nat × EqK))
 | []=>some []
 | f::r=>if f.name == "_" then none else
  match kx r with
  | none=>none
  | some l=>match und P f.type with
   | some .bool=>some ((f.offset,.bool)::l)
   | some (.int _)=>some ((f.offset,.int)::l)
   | some .string=>some ((f.offset,.str)::l)
   | _=>none
def zIw (t:TypeId):Option EqK:=match und P t with
 | some .bool=>some .bool
 | some (.pointer _)=>some .pointer
 | some (.interface _)=>some .iface
 | some (.slice _)=>some .slice
 | some (.map _ _)=>some .map
 | some (.func _ _ _)=>some .func
 | some (.struct fs)=>if P.eqGuardType P.depth t || P.stoodInHeld t then none else (kx P fs.toList).map .struct
 | _=>none
def zFU:List Field→Nat→Bool
 | [],_=>true
 | f::r,i=>!(f.name == "_")&&Nat.beq f.offset i&&(match und P f.type with
  | some (.int _)=>true
  | _=>false)&&zFU r (i+1)
def xe (t:TypeId):Option jq:=match und P t with
 | some (.int _)=>some .int
 | some .string=>some .str
 | some .bool=>some .bool
 | some (.struct fs)=>if P.stoodInHeld t then none else if zFU P fs.toList 0 then some (.ints fs.size) else none
 | _=>none
def xr:Operand→Bool
 | .const _=>true
 | _=>false
def zNe (op:BinOp) (t:TypeId) (x y:Operand):COp:=match und P t with
 | some (.int _)=>qr P E (.arith op) x y
 | some .string=>qr P E (.arith op) x y
 | _=>match op,zIw P t with
  | .eql,some k=>qr P E (.eq false k (xr x || xr y)) x y
  | .neq,some k=>qr P E (.eq true k (xr x || xr y)) x y
  | _,_=>.bad 2
def zJy (s d:TypeId) (x:Operand):COp:=match und P s,und P d with
 | some (.int _),some (.int k)=>xD P E (.cvInt k) x
 | some .string,some .string=>xD P E .cvStr x
 | some .string,some (.slice e)=>match und P e with
  | some (.int .u8)=>xD P E .cvSB x
  | _=>.bad 3
 | some (.slice _),some (.slice e)=>match Nat.beq s d,und P e with
  | true,some (.int .u8)=>xD P E .cvMark x
  | _,_=>.bad 3
 | some (.slice e),some .string=>match und P e with
  | some (.int .u8)=>xD P E .cvBS x
  | _=>.bad 3
 | _,_=>.bad 3
def qS (l:List Operand):Option (List zU):=yn (zg P E) l
def xw (b:Builtin) (ts:List TypeId) (args:List Operand):COp:=match b,ts,args with
 | .append,t::u::_,[s,x]=>match und P t,und P u with
  | some (.slice e),some ud=>match ud with
   | .int _=>match xk P e,uT P e,qz P e with
    | some (sz+1),some b,some z=>if Nat.ble b 100000&&Nat.beq z.length (sz+1) then qr P E (.appz z (sz+1)) s x else .bad 4
    | _,_,_=>.bad 4
   | _=>match xk P e,uT P e,qz P e with
    | some (sz+1),some b,some z=>if Nat.ble b 100000&&Nat.beq z.length (sz+1) then qr P E (.append (sz+1) b) s x else .bad 4
    | _,_,_=>.bad 4
  | _,_=>.bad 4
 | .copy,t::_,[d,x]=>match und P t with
  | some (.slice e)=>match xk P e with
   | some s=>qr P E (.copy s) d x
   | none=>.bad 5
  | _=>.bad 5
 | .len,t::_,[x]=>match und P t with
  | some .string=>xD P E .lenStr x
  | some (.array k _)=>.mv (.k (.nat k))
  | some (.pointer a)=>match und P a with
   | some (.array k _)=>.mv (.k (.nat k))
   | _=>.bad 6
  | some (.slice _)=>xD P E .lenSl x
  | some (.map _ _)=>xD P E .lenMap x
  | _=>.bad 6
 | .cap,t::_,[x]=>match und P t with
  | some (.slice _)=>xD P E .capSl x
  | some (.array k _)=>.mv (.k (.nat k))
  | _=>.bad 7
 | .delete,t::_,[m,k]=>match und P t with
  | some (.map kt _)=>match xe P kt with
   | some kk=>qr P E (.delete kk) m k
   | none=>.bad 8
  | _=>.bad 8
 | .clear,t::_,[x]=>match und P t with
  | some (.map _ _)=>xD P E .clearMap x
  | some (.slice e)=>match qz P e,xk P e with
   | some z,some s=>xD P E (.clearSl z s) x
   | _,_=>.bad 9
  | _=>.bad 9
 | .min,_,x::r=>match zg P E x,qS P E r with
  | some x,some r=>.minmax false x r
  | _,_=>.bad 10
 | .max,_,x::r=>match zg P E x,qS P E r with
  | some x,some r=>.minmax true x r
  | _,_=>.bad 10
 | .recover,_,[]=>.recov
 | _,_,_=>.bad 11
def zU3 (a b:String):String:=String.append (String.append a (String.singleton (Char.ofNat 47))) b
def zG8 (s:String):String:=zU3 "internal" s
def zKy (n:String):Bool:=(Extern.allNextRows.lookup n).isNone&&(Extern.allGenericRows.lookup n).isNone&&(Extern.allTypedRows.lookup n).isNone&&(Extern.allRows.lookup n).isNone
def zA1 (fn:Func):Bool:=(!(fn.name == "runtime.NumGoroutine")&&zKy fn.name)&&match fn.params.toList with
 | t::_=>match und P t with
  | some (.slice e)=>(xk P e).isSome
  | _=>false
 | []=>false
def zCC (fn:Func):Option Ext:=
 if fn.origin == "" then
  if fn.name == zG8 "bytealg.CountString" then some .count
  else if fn.name == zG8 "bytealg.IndexByteString" then some .indexByte
  else if fn.name == zG8 "bytealg.abigen_runtime_cmpstring" then some .cmp
  else if fn.name == "maps.clone" then some .mapsClone
  else none
 else if fn.origin == "slices.overlaps" && zA1 P fn then some .overlaps
 else none
def zFN (c:Call):COp:=match c.callee with
 | .builtin b=>xw P E b c.argTypes.toList c.args.toList
 | .invoke r name=>match zg P E r,qS P E c.args.toList with
  | some r,some args=>.invoke r name args
  | _,_=>.bad 13
 | .value f=>match qS P E c.args.toList with
  | none=>.bad 12
  | some args=>match f with
   | .func f=>match nth P.funcs.toList f with
    | none=>.bad (10000+f)
    | some fn=>if fn.body.isSome then .call f args else match zCC P fn with
     | some e=>.ext e args
     | none=>.bad (10000+f)
   | f=>match zg P E f with
    | some f=>.callv f args
    | none=>.bad 14
def zJK (y:Option Operand):Option (Option zU):=match y with
 | none=>some none
 | some y=>(zg P E y).map some
def zHG (t:TypeId) (x:Operand) (lo hi mx:Option Operand):COp:=
 if mx.isSome&&hi.isNone then .bad 15 else match zg P E x,zJK P E lo,zJK P E hi,zJK P E mx with
 | some x,some lo,some hi,some mx=>match und P t with
  | some (.array k e)=>match xk P e with
   | some (s+1)=>.slArr k (s+1) x lo hi mx
   | _=>.bad 15
  | some (.slice e)=>match xk P e with
   | some (s+1)=>.slSl (s+1) x lo hi mx
   | _=>.bad 15
  | some .string=>match mx with
   | none=>.slStr x lo hi
   | some _=>.bad 15
  | _=>.bad 15
 | _,_,_,_=>.bad 15
def zc (o:Op):COp:=match o with
 | .move x=>xD P E .mv x
 | .assign x=>xD P E .mv x
 | .pick c a b=>match zg P E c,zg P E a,zg P E b with
  | some c,some a,some b=>.pick c a b
  | _,_,_=>.bad 20
 | .alloc t=>match qz P t with
  | some z=>.alloc z
  | none=>.bad 21
 | .box _ x=>xD P E .box x
 | .build t ps=>match qz P t,und P t with
  | some z,some (.struct fs)=>if jK P fs.toList then
   match vX P E (zAg P fs.toList) ps.toList with
   | some l=>.build z l
   | none=>.bad 22
   else .bad 22
  | some z,some (.array _ e)=>match xk P e with
   | none=>.bad 22
   | some s=>match vX P E (fun i=>some (i*s,s)) ps.toList with
    | some l=>.build z l
    | none=>.bad 22
  | _,_=>.bad 22
 | .buildSlice t len ps=>match und P t with
  | some (.slice e)=>match xk P e,qz P e with
   | some (s+1),some z=>if Nat.ble (len*(s+1)) 100000&&Nat.beq z.length (s+1) then
    match vX P E (fun i=>some (i*(s+1),s+1)) ps.toList with
    | some l=>.bslice (kU z len) len (s+1) l
    | none=>.bad 23
    else .bad 23
   | _,_=>.bad 23
  | _=>.bad 23
 | .load t a=>match xy P t,xk P t with
  | some true,some s=>xD P E (.loadN s) a
  | some false,some _=>xD P E .load1 a
  | _,_=>.bad 24
 | .store t a x=>match xk P t with
  | some s=>qr P E (.store s) a x
  | none=>.bad 25
 | .nilCheck x=>xD P E .nilck x
 | .binOp op t x y _=>zNe P E op t x y
 | .unOp op _ x=>xD P E (.un op) x
 | .convert s d x=>zJy P E s d x
 | .makeInterface t x=>match und P t with
  | some (.interface _)=>.bad 26
  | some _=>xD P E (.iface t) x
  | none=>.bad 26
 | .makeFunc fn a b=>match qS P E a.toList,qS P E b.toList with
  | some a,some b=>.mkfn fn a b
  | _,_=>.bad 27
 | .makeMap t r=>match und P t,r with
  | some (.map _ _),none=>.mkmap
  | some (.map _ _),some (.const (.int _ _))=>.mkmap
  | _,_=>.bad 28
 | .makeSlice t l c=>match und P t with
  | some (.slice e)=>match xk P e,qz P e,uT P e with
   | some (s+1),some z,some b=>if Nat.beq z.length (s+1) then qr P E (.mkslice z (s+1) b) l c else .bad 29
   | _,_,_=>.bad 29
  | _=>.bad 29
 | .slice t x lo hi mx=>zHG P E t x lo hi mx
 | .fieldAddr t x f=>match und P t with
  | some (.struct fs)=>match nth fs.toList f with
   | some fd=>match xk P fd.type with
    | some (_+1)=>xD P E (.addOff fd.offset) x
    | _=>.bad 30
   | none=>.bad 30
  | _=>.bad 30
 | .field t x f=>match und P t with
  | some (.struct fs)=>match nth fs.toList f with
   | some fd=>match xy P fd.type,xk P fd.type with
    | some a,some s=>xD P E (.part a fd.offset s) x
    | _,_=>.bad 31
   | none=>.bad 31
  | _=>.bad 31
 | .indexAddr t x i=>match und P t with
  | some (.array len e)=>match xk P e with
   | some s=>qr P E (.ixArr len s) x i
   | none=>.bad 32
  | some (.slice e)=>match xk P e with
   | some s=>qr P E (.ixSl s) x i
   | none=>.bad 32
  | _=>.bad 32
 | .index t x i=>match und P t with
  | some (.array len e)=>match xk P e,xy P e with
   | some s,some a=>qr P E (.ixAgg len s a) x i
   | _,_=>.bad 33
  | some .string=>qr P E .ixStr x i
  | _=>.bad 33
 | .lookup t x i ok=>match und P t with
  | some (.map kt et)=>match xe P kt,wK P et with
   | some kk,some z=>qr P E (.lookup kk z ok) x i
   | _,_=>.bad 34
  | _=>.bad 34
 | .mapUpdate t m k x=>match und P t with
  | some (.map kt _)=>match xe P kt,zg P E m,zg P E k,zg P E x with
   | some kk,some m,some k,some x=>.mapupd kk m k x
   | _,_,_,_=>.bad 35
  | _=>.bad 35
 | .insert t m k x=>match und P t with
  | some (.map kt _)=>match xe P kt,zg P E m,zg P E k,zg P E x with
   | some kk,some m,some k,some x=>.mapupd kk m k x
   | _,_,_,_=>.bad 35
  | _=>.bad 35
 | .range t x=>match und P t with
  | some .string=>xD P E .rangeStr x
  | some (.map _ _)=>xD P E .rangeMap x
  | _=>.bad 36
 | .next it s=>xD P E (.next s) it
 | .entry it=>xD P E .entry it
 | .typeAssert x _ t ok=>match und P t with
  | some (.interface _)=>xD P E (.tiface t (wK P t) ok) x
  | some _=>xD P E (.tassert t (wK P t) ok) x
  | none=>.bad 37
 | .extract t i=>xD P E (.extract i) t
 | .call c=>zFN P E c
 | .defer c=>match c.callee with
  | .value f=>match zg P E f,qS P E c.args.toList with
   | some f,some args=>.defer f args
   | _,_=>.bad 38
  | _=>.bad 38
 | _=>.bad 39
def xL (F N:Nat) (d:Option Nat):Option (Option Loc):=match d with
 | none=>some none
 | some t=>match Nat.ble (Nat.succ t) N with
  | false=>none
  | true=>match zr F t with
   | false=>some none
   | true=>match Nat.ble t 271 with
    | true=>some (some (Loc.ofNat t))
    | false=>none
def ue (F N:Nat) (all:List Oper) (ds:List (Option Nat)) (o:Oper):qU:=match xL F N o.dst with
 | none=>.i (.bad 40)
 | some d=>match o.guard with
  | none=>match d with
   | none=>.i (zc P ⟨F,N,ds⟩ o.op)
   | some d=>.o (zc P ⟨F,N,ds⟩ o.op) d
  | some (j,w)=>match (nth all j).bind (·.dst) with
   | some t=>match zg P ⟨F,N,ds⟩ (.tmp t) with
    | some x=>.g x w (zc P ⟨F,N,ds⟩ o.op) d
    | none=>.i (.bad 41)
   | none=>.i (.bad 42)
def qw (F N:Nat) (all:List Oper):List (Option Nat)→List Oper→List qU
 | _,[]=>[]
 | ds,o::r=>ue P F N all ds o::qw F N all (o.dst::ds) r
def zDr (o:Op):Bool:=match o with
 | .call c=>match c.callee with
  | .builtin .recover=>true
  | _=>false
 | _=>false
def qF (o:Op):Bool:=match o with
 | .store ..=>true
 | .mapUpdate ..=>true
 | .insert ..=>true
 | .next ..=>true
 | .range ..=>true
 | .defer _=>true
 | .convert s d _=>match und P s,und P d with
  | some (.slice _),some (.slice _)=>true
  | _,_=>false
 | .call c=>match c.callee with
  | .builtin b=>match b with
   | .len=>false
   | .cap=>false
   | .min=>false
   | .max=>false
   | _=>true
  | _=>true
 | _=>false
def zAi (acc:List Nat):List Edge→Nat
 | []=>0
 | e::r=>if Region.binds .any e then Nat.lor (Nat.lor (Nat.shiftLeft 1 e.on) ((nth acc e.on).getD 0)) (zAi acc r) else zAi acc r
def wc:List Nat→List Oper→List Nat
 | acc,[]=>acc
 | acc,o::r=>wc (acc++[zAi acc o.after.toList]) r
def yH (m:Nat) (done:List Nat):List Nat→List Nat
 | []=>[]
 | i::r=>if zr m i && !done.contains i then i::yH m done r else yH m done r
def zHL (anc:List Nat) (all:List Nat):List Nat→List Nat→List Nat
 | [],done=>done++yH (Nat.sub (Nat.shiftLeft 1 all.length) 1) done all
 | e::es,done=>zHL anc all es (done++yH ((nth anc e).getD 0) done all++(if done.contains e then [] else [e]))
def zDP (m:Nat):List Nat→Nat
 | []=>0
 | e::es=>if zr m e then 0 else Nat.succ (zDP m es)
def zTs (p:Oper→Bool):List Oper→Nat→List Nat
 | [],_=>[]
 | o::r,i=>if p o then i::zTs p r (i+1) else zTs p r (i+1)
def jo (F N:Nat) (ops:List Oper) (anc:List Nat):List (Option Nat)→List Nat→List Nat→List zOB
 | _,_,[]=>[]
 | ds,effs,i::r=>match nth ops i with
  | none=>[⟨.i (.bad 47),false,0⟩]
  | some o=>⟨ue P F N ops ds o,qF P o.op,zDP ((nth anc i).getD 0) effs⟩ ::
   jo F N ops anc (o.dst::ds) (if qF P o.op then i::effs else effs) r
def zNo (ops:List Oper) (anc:List Nat):List Nat:=zHL anc (List.range ops.length) (zTs (fun o=>qF P o.op) ops 0) []
def zFj (m:Nat):List Nat→List Nat→Bool
 | done,[]=>Nat.beq done.length m
 | done,i::r=>!done.contains i&&Nat.ble (Nat.succ i) m&&zFj m (i::done) r
def zNn (ops:List Oper) (anc:List Nat):List Nat→List Nat→Bool
 | _,[]=>true
 | done,i::r=>(match nth ops i with
  | some o=>if qF P o.op then done.all fun j=>zr ((nth anc i).getD 0) j else true
  | none=>false)&&zNn ops anc (i::done) r
def zMr (anc:List Nat) (m:Nat):List Nat→List Nat→Bool
 | _,[]=>true
 | done,i::r=>((List.range m).all fun j=>!zr ((nth anc i).getD 0) j || done.contains j)&&zMr anc m (i::done) r
def uG (ops:List Oper) (o:Oper):List Nat:=
 (o.op.operands.toList.filterMap fun | .tmp t=>some t | _=>none)++(match o.guard with
   | some (j,_)=>match (nth ops j).bind (·.dst) with
    | some t=>[t]
    | none=>[]
   | none=>[])
def zLF (ops:List Oper) (anc:List Nat) (m:Nat):Bool:=
 (List.range m).all fun i=>(List.range m).all fun j=>match nth ops i,nth ops j with
   | some x,some y=>match x.dst with
    | some t=>(Nat.beq i j || !(decide (y.dst=some t)))&&(!(uG ops y).contains t || (!Nat.beq i j&&(zr ((nth anc j).getD 0) i || zr ((nth anc i).getD 0) j)))
    | none=>true
   | _,_=>false
def zBP:List Oper→Nat→Bool
 | [],_=>true
 | o::r,i=>(o.after.toList.all fun e=>!Region.binds .any e || Nat.ble (Nat.succ e.on) i)&&zBP r (i+1)
def zCL (ops:List Oper) (anc:List Nat) (order:List Nat):Bool:=
 zFj ops.length [] order&&zNn P ops anc [] order&&zMr anc ops.length [] order&&zLF ops anc ops.length&&zBP ops 0
def zIk (F N:Nat) (ops:List Oper):CCode:=
 let anc:=wc [] ops
 let order:=zNo P ops anc
 if zCL P ops anc order then .dregion (jo P F N ops anc [] [] order) else .bad 48
def zR (F N:Nat):Code→CCode
 | .skip=>.skip
 | .label _=>.skip
 | .region _ ops dr=>match dr with
  | false=>.region (qw P F N ops.toList [] ops.toList)
  | true=>zIk P F N ops.toList
 | .seq a b=>.seq (zR F N a) (zR F N b)
 | .cond x a b=>match zg P ⟨F,N,[]⟩ x with
  | some x=>.cond x (zR F N a) (zR F N b)
  | none=>.bad 43
 | .block id b=>.block id (zR F N b)
 | .loop b=>.loop (zR F N b)
 | .exit id=>.exit id
 | .ret=>.ret
 | .scope b=>.scope (zR F N b)
 | _=>.bad 44
def bit (t:Nat):Nat:=Nat.shiftLeft 1 t
def zBw:List Operand→Nat
 | []=>0
 | .tmp t::r=>Nat.lor (bit t) (zBw r)
 | _::r=>zBw r
def zIc (all:List Oper):List Oper→Nat
 | []=>0
 | o::r=>Nat.lor (zBw o.op.operands.toList) (Nat.lor (match o.guard with | some (j,_)=>zBw [.tmp ((((nth all j).bind (·.dst))).getD 4095)] | none=>0) (zIc all r))
def zH8:List Oper→Nat
 | []=>0
 | o::r=>match o.dst with
  | some t=>Nat.lor (bit t) (zH8 r)
  | none=>zH8 r
def zDG (c:Code) (x:Nat × Nat):Nat × Nat:=match c with
 | .region _ ops _=>let u:=zIc ops.toList ops.toList; (Nat.lor x.1 u,Nat.lor x.2 (Nat.land x.1 u))
 | .seq a b=>zDG b (zDG a x)
 | .cond y a b=>let u:=zBw [y]; zDG b (zDG a (Nat.lor x.1 u,Nat.lor x.2 (Nat.land x.1 u)))
 | .block _ b=>zDG b x
 | .loop b=>zDG b x
 | .scope b=>zDG b x
 | _=>x
def wy (once:Nat):Code→Nat
 | .region _ ops _=>Nat.land (zH8 ops.toList) (Nat.xor once (Nat.land once (zIc ops.toList ops.toList)))
 | .seq a b=>Nat.lor (wy once a) (wy once b)
 | .cond _ a b=>Nat.lor (wy once a) (wy once b)
 | .block _ b=>wy once b
 | .loop b=>wy once b
 | .scope b=>wy once b
 | _=>0
def zIO:List ResultVar→Nat
 | []=>0
 | .tmp t::r=>Nat.lor (bit t) (zIO r)
 | .cell t _::r=>Nat.lor (bit t) (zIO r)
def frameBits (fn:Func) (c:Code):Nat:=
 let res:=zIO fn.results.toList
 let u:=zDG c (res,0)
 Nat.lor (Nat.lor (Nat.lor u.2 (wy u.1 c)) res) (Nat.sub (bit (Nat.add fn.params.size fn.nfree)) 1)
def xI (F N:Nat) (r:ResultVar):Option CRes:=match r with
 | .tmp t=>(zg P ⟨F,N,[]⟩ (.tmp t)).map .tmp
 | .cell a t=>match xy P t,xk P t,zg P ⟨F,N,[]⟩ (.tmp a) with
  | some true,some s,some x=>some (.cellN x s)
  | some false,some _,some x=>some (.cell1 x)
  | _,_,_=>none
def zFC (l:List Oper):Bool:=match l with
 | []=>true
 | o::r=>!zDr o.op&&zFC r
def zu:Code→Bool
 | .region _ ops _=>zFC ops.toList
 | .seq a b=>zu a&&zu b
 | .cond _ a b=>zu a&&zu b
 | .block _ b=>zu b
 | .loop b=>zu b
 | .scope b=>zu b
 | _=>true
def zBt (F N:Nat) (fn:Func) (c:Code):CFn:=match yn (xI P F N) fn.results.toList with
 | some rs=>if zu c then .mk (zR P F N c) rs else match c with
  | .seq (.region _ ops false) r=>if zu r then .mkD (qw P F N ops.toList [] ops.toList) (zR P F N r) rs else .bad 50
  | _=>.bad 50
 | none=>.bad 45
def compFn (f:FuncId):CFn:=match nth P.funcs.toList f with
 | none=>.bad 46
 | some fn=>match fn.body with
  | none=>match zCC P fn with
   | some e=>.ext e
   | none=>.bad (20000+f)
  | some c=>if fn.name == "runtime.NumGoroutine" then .bad 49 else zBt P (frameBits fn c) fn.ntmps fn c
end
end Go.Ev
namespace Go.Ev
noncomputable section
inductive OR where
 | val (v:CV)
 | read (v:CV)
 | alloc (o:CObj) (v:CV)
 | eff (v:CV) (h:zC) (n:Key)
 | call (f:FuncId) (args:List CV)
 | dfr (f:FuncId) (args:List CV)
 | recov
 | err (c:Nat)
 | fork (a b:OR)
def zDZ (v:Option CV) (c:Nat):OR:=Option.rec (motive:=fun _=>Nat→OR) (fun c=>.err c) (fun v _=>.val v) v c
def zOY (v:Option CV) (c:Nat):OR:=Option.rec (motive:=fun _=>Nat→OR) (fun c=>.err c) (fun v _=>.read v) v c
def zTz (v:Option (List CV)) (c:Nat):OR:=Option.rec (motive:=fun _=>Nat→OR) (fun c=>.err c) (fun v _=>.val (.agg v)) v c
def zSL (v:Option (List CV)) (c:Nat):OR:=Option.rec (motive:=fun _=>Nat→OR) (fun c=>.err c) (fun v _=>.read (.agg v)) v c
def onL (v:Option (List CV)) (k:List CV→OR) (c:Nat):OR:=Option.rec (motive:=fun _=>(List CV→OR)→Nat→OR) (fun _ c=>.err c) (fun v k _=>k v) v k c
def onN (v:Option Nat) (k:Nat→OR) (c:Nat):OR:=Option.rec (motive:=fun _=>(Nat→OR)→Nat→OR) (fun _ c=>.err c) (fun v k _=>k v) v k c
def yb (b:Bool) (k:OR) (c:Nat):OR:=Bool.rec (motive:=fun _=>OR→Nat→OR) (fun _ c=>.err c) (fun k _=>k) b k c
def ifB (b:Bool) (t f:OR):OR:=Bool.rec (motive:=fun _=>OR→OR→OR) (fun _ f=>f) (fun t _=>t) b t f
def wR (n:Nat) (k:Nat→OR):OR:=Nat.rec (motive:=fun _=>(Nat→OR)→OR) (fun k=>k 0) (fun m _ k=>k (Nat.succ m)) n k
def zDB (v:CV) (k:Key→Nat→OR) (e:Nat):OR:=
 CV.rec (motive_1:=fun _=>(Key→Nat→OR)→Nat→OR) (motive_2:=fun _=>Unit)
  (fun _ _ e=>.err e) (fun _ _ e=>.err e) (fun _ _ _ e=>.err e) (fun _ _ e=>.err e) (fun _ _ e=>.err e) (fun _ e=>.err e) (fun x0 x1 k _=>k x0 x1) (fun _ e=>.err e) (fun _ _ _ _ _ _ _ e=>.err e) (fun _ e=>.err e) (fun _ _ e=>.err e) (fun _ _ _ _ _ _ e=>.err e) (fun _ e=>.err e) (fun _ _ _ _ e=>.err e) (fun _ e=>.err e) (fun _ _ _ e=>.err e) (fun _ _ _ e=>.err e) (fun _ _ e=>.err e) (fun _ _ _ _ _ e=>.err e) (fun _ _ _ e=>.err e) (fun _ _ e=>.err e) (fun _ _ _ e=>.err e) (fun _ _ _ _ _ e=>.err e) (fun _ e=>.err e) () (fun _ _ _ _=>()) v k e
def zRe (v:CV) (k:IntKind→Int→OR) (e:Nat):OR:=
 CV.rec (motive_1:=fun _=>(IntKind→Int→OR)→Nat→OR) (motive_2:=fun _=>Unit)
  (fun _ _ e=>.err e) (fun x0 k _=>k .i64 (.ofNat x0)) (fun x0 x1 k _=>k x0 x1) (fun _ _ e=>.err e) (fun _ _ e=>.err e) (fun _ e=>.err e) (fun _ _ _ e=>.err e) (fun _ e=>.err e) (fun _ _ _ _ _ _ _ e=>.err e) (fun _ e=>.err e) (fun _ _ e=>.err e) (fun _ _ _ _ _ _ e=>.err e) (fun _ e=>.err e) (fun _ _ _ _ e=>.err e) (fun _ e=>.err e) (fun _ _ _ e=>.err e) (fun _ _ _ e=>.err e) (fun _ _ e=>.err e) (fun _ _ _ _ _ e=>.err e) (fun _ _ _ e=>.err e) (fun _ _ e=>.err e) (fun _ _ _ e=>.err e) (fun _ _ _ _ _ e=>.err e) (fun _ e=>.err e) () (fun _ _ _ _=>()) v k e
def zUa (v:CV) (k:Nat→OR) (j:IntKind→Int→OR) (e:Nat):OR:=
 CV.rec (motive_1:=fun _=>(Nat→OR)→(IntKind→Int→OR)→Nat→OR) (motive_2:=fun _=>Unit)
  (fun _ _ _ e=>.err e) (fun x0 k _ _=>k x0) (fun x0 x1 _ j _=>j x0 x1) (fun _ _ _ e=>.err e) (fun _ _ _ e=>.err e) (fun _ _ e=>.err e) (fun _ _ _ _ e=>.err e) (fun _ _ e=>.err e) (fun _ _ _ _ _ _ _ _ e=>.err e) (fun _ _ e=>.err e) (fun _ _ _ e=>.err e) (fun _ _ _ _ _ _ _ e=>.err e) (fun _ _ e=>.err e) (fun _ _ _ _ _ e=>.err e) (fun _ _ e=>.err e) (fun _ _ _ _ e=>.err e) (fun _ _ _ _ e=>.err e) (fun _ _ _ e=>.err e) (fun _ _ _ _ _ _ e=>.err e) (fun _ _ _ _ e=>.err e) (fun _ _ _ e=>.err e) (fun _ _ _ _ e=>.err e) (fun _ _ _ _ _ _ e=>.err e) (fun _ _ e=>.err e) () (fun _ _ _ _=>()) v k j e
def ug (v:CV) (k:List Nat→OR) (e:Nat):OR:=
 CV.rec (motive_1:=fun _=>(List Nat→OR)→Nat→OR) (motive_2:=fun _=>Unit)
  (fun _ _ e=>.err e) (fun _ _ e=>.err e) (fun _ _ _ e=>.err e) (fun _ _ e=>.err e) (fun x0 k _=>k x0) (fun _ e=>.err e) (fun _ _ _ e=>.err e) (fun _ e=>.err e) (fun _ _ _ _ _ _ _ e=>.err e) (fun _ e=>.err e) (fun _ _ e=>.err e) (fun _ _ _ _ _ _ e=>.err e) (fun _ e=>.err e) (fun _ _ _ _ e=>.err e) (fun _ e=>.err e) (fun _ _ _ e=>.err e) (fun _ _ _ e=>.err e) (fun _ _ e=>.err e) (fun _ _ _ _ _ e=>.err e) (fun _ _ _ e=>.err e) (fun _ _ e=>.err e) (fun _ _ _ e=>.err e) (fun _ _ _ _ _ e=>.err e) (fun _ e=>.err e) () (fun _ _ _ _=>()) v k e
def zKQ (v:CV) (k:Bool→OR) (e:Nat):OR:=
 CV.rec (motive_1:=fun _=>(Bool→OR)→Nat→OR) (motive_2:=fun _=>Unit)
  (fun x0 k _=>k x0) (fun _ _ e=>.err e) (fun _ _ _ e=>.err e) (fun _ _ e=>.err e) (fun _ _ e=>.err e) (fun _ e=>.err e) (fun _ _ _ e=>.err e) (fun _ e=>.err e) (fun _ _ _ _ _ _ _ e=>.err e) (fun _ e=>.err e) (fun _ _ e=>.err e) (fun _ _ _ _ _ _ e=>.err e) (fun _ e=>.err e) (fun _ _ _ _ e=>.err e) (fun _ e=>.err e) (fun _ _ _ e=>.err e) (fun _ _ _ e=>.err e) (fun _ _ e=>.err e) (fun _ _ _ _ _ e=>.err e) (fun _ _ _ e=>.err e) (fun _ _ e=>.err e) (fun _ _ _ e=>.err e) (fun _ _ _ _ _ e=>.err e) (fun _ e=>.err e) () (fun _ _ _ _=>()) v k e
def um (v:CV) (z:OR) (k:Key→Nat→Nat→Nat→Nat→Bool→OR) (e:Nat):OR:=
 CV.rec (motive_1:=fun _=>(OR)→(Key→Nat→Nat→Nat→Nat→Bool→OR)→Nat→OR) (motive_2:=fun _=>Unit)
  (fun _ _ _ e=>.err e) (fun _ _ _ e=>.err e) (fun _ _ _ _ e=>.err e) (fun _ _ _ e=>.err e) (fun _ _ _ e=>.err e) (fun _ _ e=>.err e) (fun _ _ _ _ e=>.err e) (fun z _ _=>z) (fun x0 x1 x2 x3 x4 x5 _ k _=>k x0 x1 x2 x3 x4 x5) (fun _ _ e=>.err e) (fun _ _ _ e=>.err e) (fun _ _ _ _ _ _ _ e=>.err e) (fun _ _ e=>.err e) (fun _ _ _ _ _ e=>.err e) (fun _ _ e=>.err e) (fun _ _ _ _ e=>.err e) (fun _ _ _ _ e=>.err e) (fun _ _ _ e=>.err e) (fun _ _ _ _ _ _ e=>.err e) (fun _ _ _ _ e=>.err e) (fun _ _ _ e=>.err e) (fun _ _ _ _ e=>.err e) (fun _ _ _ _ _ _ e=>.err e) (fun _ _ e=>.err e) () (fun _ _ _ _=>()) v z k e
def zDu (v:CV) (z:OR) (k:Key→OR) (e:Nat):OR:=
 CV.rec (motive_1:=fun _=>(OR)→(Key→OR)→Nat→OR) (motive_2:=fun _=>Unit)
  (fun _ _ _ e=>.err e) (fun _ _ _ e=>.err e) (fun _ _ _ _ e=>.err e) (fun _ _ _ e=>.err e) (fun _ _ _ e=>.err e) (fun _ _ e=>.err e) (fun _ _ _ _ e=>.err e) (fun _ _ e=>.err e) (fun _ _ _ _ _ _ _ _ e=>.err e) (fun z _ _=>z) (fun x0 _ k _=>k x0) (fun _ _ _ _ _ _ _ e=>.err e) (fun _ _ e=>.err e) (fun _ _ _ _ _ e=>.err e) (fun _ _ e=>.err e) (fun _ _ _ _ e=>.err e) (fun _ _ _ _ e=>.err e) (fun _ _ _ e=>.err e) (fun _ _ _ _ _ _ e=>.err e) (fun _ _ _ _ e=>.err e) (fun _ _ _ e=>.err e) (fun _ _ _ _ e=>.err e) (fun _ _ _ _ _ _ e=>.err e) (fun _ _ e=>.err e) () (fun _ _ _ _=>()) v z k e
def zQ6 (v:CV) (k:List CV→OR) (e:Nat):OR:=
 CV.rec (motive_1:=fun _=>(List CV→OR)→Nat→OR) (motive_2:=fun _=>Unit)
  (fun _ _ e=>.err e) (fun _ _ e=>.err e) (fun _ _ _ e=>.err e) (fun _ _ e=>.err e) (fun _ _ e=>.err e) (fun _ e=>.err e) (fun _ _ _ e=>.err e) (fun _ e=>.err e) (fun _ _ _ _ _ _ _ e=>.err e) (fun _ e=>.err e) (fun _ _ e=>.err e) (fun _ _ _ _ _ _ e=>.err e) (fun _ e=>.err e) (fun _ _ _ _ e=>.err e) (fun _ e=>.err e) (fun x0 _ k _=>k x0) (fun _ _ _ e=>.err e) (fun _ _ e=>.err e) (fun _ _ _ _ _ e=>.err e) (fun _ _ _ e=>.err e) (fun _ _ e=>.err e) (fun _ _ _ e=>.err e) (fun _ _ _ _ _ e=>.err e) (fun _ e=>.err e) () (fun _ _ _ _=>()) v k e
def zSO (v:CV) (k:List CV→OR) (e:Nat):OR:=
 CV.rec (motive_1:=fun _=>(List CV→OR)→Nat→OR) (motive_2:=fun _=>Unit)
  (fun _ _ e=>.err e) (fun _ _ e=>.err e) (fun _ _ _ e=>.err e) (fun _ _ e=>.err e) (fun _ _ e=>.err e) (fun _ e=>.err e) (fun _ _ _ e=>.err e) (fun _ e=>.err e) (fun _ _ _ _ _ _ _ e=>.err e) (fun _ e=>.err e) (fun _ _ e=>.err e) (fun _ _ _ _ _ _ e=>.err e) (fun _ e=>.err e) (fun _ _ _ _ e=>.err e) (fun _ e=>.err e) (fun _ _ _ e=>.err e) (fun x0 _ k _=>k x0) (fun _ _ e=>.err e) (fun _ _ _ _ _ e=>.err e) (fun _ _ _ e=>.err e) (fun _ _ e=>.err e) (fun _ _ _ e=>.err e) (fun _ _ _ _ _ e=>.err e) (fun _ e=>.err e) () (fun _ _ _ _=>()) v k e
def zLh (v:CV) (k:Fn→List CV→List CV→OR) (e:Nat):OR:=
 CV.rec (motive_1:=fun _=>(Fn→List CV→List CV→OR)→Nat→OR) (motive_2:=fun _=>Unit)
  (fun _ _ e=>.err e) (fun _ _ e=>.err e) (fun _ _ _ e=>.err e) (fun _ _ e=>.err e) (fun _ _ e=>.err e) (fun _ e=>.err e) (fun _ _ _ e=>.err e) (fun _ e=>.err e) (fun _ _ _ _ _ _ _ e=>.err e) (fun _ e=>.err e) (fun _ _ e=>.err e) (fun x0 x1 x2 _ _ k _=>k x0 x1 x2) (fun _ e=>.err e) (fun _ _ _ _ e=>.err e) (fun _ e=>.err e) (fun _ _ _ e=>.err e) (fun _ _ _ e=>.err e) (fun _ _ e=>.err e) (fun _ _ _ _ _ e=>.err e) (fun _ _ _ e=>.err e) (fun _ _ e=>.err e) (fun _ _ _ e=>.err e) (fun _ _ _ _ _ e=>.err e) (fun _ e=>.err e) () (fun _ _ _ _=>()) v k e
def zB1 (v:CV) (k:TypeId→CV→OR) (z:OR) (e:Nat):OR:=
 CV.rec (motive_1:=fun _=>(TypeId→CV→OR)→(OR)→Nat→OR) (motive_2:=fun _=>Unit)
  (fun _ _ _ e=>.err e) (fun _ _ _ e=>.err e) (fun _ _ _ _ e=>.err e) (fun _ _ _ e=>.err e) (fun _ _ _ e=>.err e) (fun _ _ e=>.err e) (fun _ _ _ _ e=>.err e) (fun _ _ e=>.err e) (fun _ _ _ _ _ _ _ _ e=>.err e) (fun _ _ e=>.err e) (fun _ _ _ e=>.err e) (fun _ _ _ _ _ _ _ e=>.err e) (fun _ _ e=>.err e) (fun x0 x1 _ k _ _=>k x0 x1) (fun _ z _=>z) (fun _ _ _ _ e=>.err e) (fun _ _ _ _ e=>.err e) (fun _ _ _ e=>.err e) (fun _ _ _ _ _ _ e=>.err e) (fun _ _ _ _ e=>.err e) (fun _ _ _ e=>.err e) (fun _ _ _ _ e=>.err e) (fun _ _ _ _ _ _ e=>.err e) (fun _ _ e=>.err e) () (fun _ _ _ _=>()) v k z e
def zT3 (v:CV) (k:IntKind→Int→OR) (u:IntKind→OR) (s:List Nat→OR) (e:Nat):OR:=
 CV.rec (motive_1:=fun _=>(IntKind→Int→OR)→(IntKind→OR)→(List Nat→OR)→Nat→OR) (motive_2:=fun _=>Unit)
  (fun _ _ _ _ e=>.err e) (fun x0 k _ _ _=>k .i64 (.ofNat x0)) (fun x0 x1 k _ _ _=>k x0 x1) (fun x0 _ u _ _=>u x0) (fun x0 _ _ s _=>s x0) (fun _ _ _ e=>.err e) (fun _ _ _ _ _ e=>.err e) (fun _ _ _ e=>.err e) (fun _ _ _ _ _ _ _ _ _ e=>.err e) (fun _ _ _ e=>.err e) (fun _ _ _ _ e=>.err e) (fun _ _ _ _ _ _ _ _ e=>.err e) (fun _ _ _ e=>.err e) (fun _ _ _ _ _ _ e=>.err e) (fun _ _ _ e=>.err e) (fun _ _ _ _ _ e=>.err e) (fun _ _ _ _ _ e=>.err e) (fun _ _ _ _ e=>.err e) (fun _ _ _ _ _ _ _ e=>.err e) (fun _ _ _ _ _ e=>.err e) (fun _ _ _ _ e=>.err e) (fun _ _ _ _ _ e=>.err e) (fun _ _ _ _ _ _ _ e=>.err e) (fun _ _ _ e=>.err e) () (fun _ _ _ _=>()) v k u s e
def zRk (v:CV) (k:IntKind→Int→OR) (u:IntKind→OR) (e:Nat):OR:=
 CV.rec (motive_1:=fun _=>(IntKind→Int→OR)→(IntKind→OR)→Nat→OR) (motive_2:=fun _=>Unit)
  (fun _ _ _ e=>.err e) (fun x0 k _ _=>k .i64 (.ofNat x0)) (fun x0 x1 k _ _=>k x0 x1) (fun x0 _ u _=>u x0) (fun _ _ _ e=>.err e) (fun _ _ e=>.err e) (fun _ _ _ _ e=>.err e) (fun _ _ e=>.err e) (fun _ _ _ _ _ _ _ _ e=>.err e) (fun _ _ e=>.err e) (fun _ _ _ e=>.err e) (fun _ _ _ _ _ _ _ e=>.err e) (fun _ _ e=>.err e) (fun _ _ _ _ _ e=>.err e) (fun _ _ e=>.err e) (fun _ _ _ _ e=>.err e) (fun _ _ _ _ e=>.err e) (fun _ _ _ e=>.err e) (fun _ _ _ _ _ _ e=>.err e) (fun _ _ _ _ e=>.err e) (fun _ _ _ e=>.err e) (fun _ _ _ _ e=>.err e) (fun _ _ _ _ _ _ e=>.err e) (fun _ _ e=>.err e) () (fun _ _ _ _=>()) v k u e
def zTx (v:CV) (k:Key→Nat→OR) (z:OR):OR:=
 CV.rec (motive_1:=fun _=>(Key→Nat→OR)→OR→OR) (motive_2:=fun _=>Unit)
  (fun _ _ z=>z) (fun _ _ z=>z) (fun _ _ _ z=>z) (fun _ _ z=>z) (fun _ _ z=>z) (fun _ z=>z) (fun x0 x1 k _=>k x0 x1) (fun _ z=>z) (fun _ _ _ _ _ _ _ z=>z) (fun _ z=>z) (fun _ _ z=>z) (fun _ _ _ _ _ _ z=>z) (fun _ z=>z) (fun _ _ _ _ z=>z) (fun _ z=>z) (fun _ _ _ z=>z) (fun _ _ _ z=>z) (fun _ _ z=>z) (fun _ _ _ _ _ z=>z) (fun _ _ _ z=>z) (fun _ _ z=>z) (fun _ _ _ z=>z) (fun _ _ _ _ _ z=>z) (fun _ z=>z) () (fun _ _ _ _=>()) v k z
def zKz (v:CV) (k:Key→Nat→SE→SE→OR) (z:OR):OR:=
 CV.rec (motive_1:=fun _=>(Key→Nat→SE→SE→OR)→OR→OR) (motive_2:=fun _=>Unit)
  (fun _ _ z=>z) (fun _ _ z=>z) (fun _ _ _ z=>z) (fun _ _ z=>z) (fun _ _ z=>z) (fun _ z=>z) (fun _ _ _ z=>z) (fun _ z=>z) (fun _ _ _ _ _ _ _ z=>z) (fun _ z=>z) (fun _ _ z=>z) (fun _ _ _ _ _ _ z=>z) (fun _ z=>z) (fun _ _ _ _ z=>z) (fun _ z=>z) (fun _ _ _ z=>z) (fun _ _ _ z=>z) (fun _ _ z=>z) (fun x0 x1 x2 x3 k _=>k x0 x1 x2 x3) (fun _ _ _ z=>z) (fun _ _ z=>z) (fun _ _ _ z=>z) (fun _ _ _ _ _ z=>z) (fun _ z=>z) () (fun _ _ _ _=>()) v k z
def zGL (v:CV) (k:List CV→OR) (z:OR):OR:=
 CV.rec (motive_1:=fun _=>(List CV→OR)→OR→OR) (motive_2:=fun _=>Unit)
  (fun _ _ z=>z) (fun _ _ z=>z) (fun _ _ _ z=>z) (fun _ _ z=>z) (fun _ _ z=>z) (fun _ z=>z) (fun _ _ _ z=>z) (fun _ z=>z) (fun _ _ _ _ _ _ _ z=>z) (fun _ z=>z) (fun _ _ z=>z) (fun _ _ _ _ _ _ z=>z) (fun _ z=>z) (fun _ _ _ _ z=>z) (fun _ z=>z) (fun _ _ _ z=>z) (fun _ _ _ z=>z) (fun _ _ z=>z) (fun _ _ _ _ _ z=>z) (fun x0 _ k _=>k x0) (fun _ _ z=>z) (fun _ _ _ z=>z) (fun _ _ _ _ _ z=>z) (fun _ z=>z) () (fun _ _ _ _=>()) v k z
def zOS (v:CV) (k:Nat→OR) (z:OR):OR:=
 CV.rec (motive_1:=fun _=>(Nat→OR)→OR→OR) (motive_2:=fun _=>Unit)
  (fun _ _ z=>z) (fun x0 k _=>k x0) (fun _ _ _ z=>z) (fun _ _ z=>z) (fun _ _ z=>z) (fun _ z=>z) (fun _ _ _ z=>z) (fun _ z=>z) (fun _ _ _ _ _ _ _ z=>z) (fun _ z=>z) (fun _ _ z=>z) (fun _ _ _ _ _ _ z=>z) (fun _ z=>z) (fun _ _ _ _ z=>z) (fun _ z=>z) (fun _ _ _ z=>z) (fun _ _ _ z=>z) (fun _ _ z=>z) (fun _ _ _ _ _ z=>z) (fun _ _ _ z=>z) (fun _ _ z=>z) (fun _ _ _ z=>z) (fun _ _ _ _ _ z=>z) (fun _ z=>z) () (fun _ _ _ _=>()) v k z
def vb (v:CV) (k:Nat→OR) (e:Nat):OR:=
 zUa v k (fun _ n=>Int.rec (motive:=fun _=>(Nat→OR)→Nat→OR) (fun m k _=>k m) (fun _ _ e=>.err e) n k e) e
def kH (o:Option CObj) (k:List CV→OR) (e:Nat):OR:=
 Option.rec (motive:=fun _=>(List CV→OR)→Nat→OR) (fun _ e=>.err e)
  (fun o=>CObj.rec (motive:=fun _=>(List CV→OR)→Nat→OR) (fun vs k _=>k vs) (fun _ _ e=>.err e) (fun _ _ _ e=>.err e) (fun _ _ _ e=>.err e) (fun _ _ _ _ _ e=>.err e) (fun _ _ _ e=>.err e) (fun _ _ e=>.err e) o) o k e
def vp (o:Option CObj) (k:List CV→OR) (e:Nat):OR:=
 Option.rec (motive:=fun _=>(List CV→OR)→Nat→OR) (fun _ e=>.err e)
  (fun o=>CObj.rec (motive:=fun _=>(List CV→OR)→Nat→OR) (fun vs k _=>k vs) (fun vs k _=>k vs) (fun _ _ _ e=>.err e) (fun _ _ _ e=>.err e) (fun _ _ _ _ _ e=>.err e) (fun _ vs k _=>k vs) (fun _ _ e=>.err e) o) o k e
def vF (o:Option CObj) (k:List CE→Nat→OR) (e:Nat):OR:=
 Option.rec (motive:=fun _=>(List CE→Nat→OR)→Nat→OR) (fun _ e=>.err e)
  (fun o=>CObj.rec (motive:=fun _=>(List CE→Nat→OR)→Nat→OR) (fun _ _ e=>.err e) (fun _ _ e=>.err e) (fun es c k _=>k es c) (fun _ _ _ e=>.err e) (fun _ _ _ _ _ e=>.err e) (fun _ _ _ e=>.err e) (fun _ _ e=>.err e) o) o k e
def zID (o:Option CObj) (k:Bool→List CV→OR) (z:OR):OR:=match o with
 | some (.full u vs)=>k u vs
 | _=>z
def zIQ (o:Option CObj) (k:List (CV × CV)→OR) (z:OR):OR:=match o with
 | some (.mapz es)=>k es
 | _=>z
def zSs (l:List CV) (k:Nat):CV:=List.rec (motive:=fun _=>Nat→CV) (fun _=>.any) (fun x _ ih k=>Nat.rec (motive:=fun _=>CV) x (fun k _=>ih k) k) l k
def aE (i:Nat):List CV→Tm→CV:=fun es _=>zSs es i
def aL (p:Loc):List CV→Tm→CV:=fun _ tm=>x7 p tm
def aK (v:CV):List CV→Tm→CV:=fun _ _=>v
def aV (es:List CV) (tm:Tm) (x:zU):CV:=zU.rec (motive:=fun _=>List CV→Tm→CV) aE aL aK x es tm
def aVs (es:List CV) (tm:Tm) (l:List zU):List CV:=List.rec (motive:=fun _=>List CV) [] (fun x _ ih=>aV es tm x::ih) l
abbrev X:=List CV→Tm→zC→Key→OR
def xMv (x:zU):X:=fun es tm _ _=>.val (aV es tm x)
def zSU (c a b:zU):X:=fun es tm _ _=>zKQ (aV es tm c) (fun t=>ifB t (.val (aV es tm a)) (.val (aV es tm b))) 100
def zPy (cs:List CV):X:=fun _ _ _ n=>.alloc (.cells cs) (.ptr n 0)
def zTT (x:zU):X:=fun es tm _ n=>onL (cellsOf (aV es tm x)) (fun cs=>.alloc (.cells cs) (.ptr n 0)) 101
def zCu (s off:Nat) (cells:List CV) (v:Option (List CV)):Option (List CV):=
 Option.rec (motive:=fun _=>Nat→List CV→Nat→Option (List CV)) (fun _ _ _=>none) (fun xs s cells off=>jG xs s cells off) v s cells off
def zAn (es:List CV) (tm:Tm) (ps:List zH5) (cells:List CV):Option (List CV):=
 List.rec (motive:=fun _=>List CV→Option (List CV)) (fun cells=>some cells)
  (fun p _ ih cells=>Option.rec (motive:=fun _=>Option (List CV)) none ih (zCu p.size p.off cells (cellsOf (aV es tm p.arg)))) ps cells
def zOW (zero:List CV) (ps:List zH5):X:=fun es tm _ _=>zTz (zAn es tm ps zero) 102
def ifO (b:Bool) (t f:CObj):CObj:=Bool.rec (motive:=fun _=>CObj→CObj→CObj) (fun _ f=>f) (fun t _=>t) b t f
def zMw (zero:List CV) (len esz:Nat) (ps:List zH5):X:=fun es tm _ n=>onL (zAn es tm ps zero) (fun cs=>.alloc (ifO (Nat.beq len 1&&Nat.beq esz 6) (.full true cs) (.cells cs)) (.sl n 0 len len esz true)) 103
def zMF:List CV→Option (List (List Nat))
 | []=>some []
 | .str s::r=>match zMF r with
  | some t=>some (s::t)
  | none=>none
 | _::_=>none
def zUf (vs:List CV) (off i m:Nat):Option CV:=match up vs off (Nat.succ m) with
 | some l=>match zMF l with
  | some t=>some (.few i t)
  | none=>none
 | none=>none
def zS7 (v:CV) (h:zC):OR:=match v with
 | .elt b off i m=>vp (ze b h) (fun vs=>zOY (zUf vs off i m) 104) 105
 | _=>.err 106
def zQN (x:zU):X:=fun es tm h _=>zTx (aV es tm x) (fun b off=>vp (ze b h) (fun vs=>zOY (zCP vs off) 104) 105) (zS7 (aV es tm x) h)
def zQr (s:Nat) (x:zU):X:=fun es tm h _=>zDB (aV es tm x) (fun b off=>vp (ze b h) (fun vs=>zSL (up vs off s) 107) 108) 109
def zP6 (s:Nat) (a x:zU):X:=fun es tm h n=>zDB (aV es tm a) (fun b off=>kH (ze b h) (fun vs=>
 onL (cellsOf (aV es tm x)) (fun cs=>yb (xJ cs) (onL (jG cs s vs off) (fun l=>.eff .undef (yj (some (.cells l)) b h) n) 110) 111) 112) 113) 114
def zFx (v:CV):OR:=match v with
 | .nilptr=>.err 115
 | .niliface=>.err 115
 | .nilfunc=>.err 115
 | .func (.method _) _ _=>.err 116
 | .any=>.err 116
 | v=>.val v
def zPc (x:zU):X:=fun es tm _ _=>zTx (aV es tm x) (fun b o=>.val (.ptr b o)) (zFx (aV es tm x))
class Sym where
 val:SE→Value
 one:∀ e,(∃ k n,val e=.int k n)∨∃ s,val e=.string s
 bin:BinOp→CV→CV→Option (List CV)
 cv:IntKind→CV→Option (List CV)
 arg:Key→Option Value
 kb:List (Int × Int):=[]
variable [Sym]
def forkL (c:CV) (l:List CV):OR:=List.rec (motive:=fun _=>CV→OR) (fun c=>.val c) (fun d _ ih c=>.fork (.val c) (ih d)) l c
def zSh (o:Option (List CV)) (e:Nat):OR:=match o with
 | none=>.err e
 | some l=>match l with
  | []=>.err e
  | c::cs=>forkL c cs
def zPm (v:CV):Bool:=match v with
 | .sym _=>true
 | .sst _=>true
 | .few _ _=>true
 | _=>false
def vh:OR:=.fork (.val (.bool true)) (.val (.bool false))
def zLR (k:IntKind) (m:Nat):OR:=Nat.rec (motive:=fun _=>OR) (.val (jP k 0)) (fun i ih=>.fork ih (.val (jP k (Nat.succ i)))) m
def zK4 (k:IntKind) (m:Nat):OR:=Nat.rec (motive:=fun _=>OR) (.val (jP k 0)) (fun i ih=>.fork ih (.fork (.val (jP k (Nat.succ i))) (.val (.int k (.negSucc i))))) m
def qt (op:BinOp) (j k:IntKind):OR:=yb (kEq j k) (match op with
 | .add=>.val (.anyi k)
 | .sub=>.val (.anyi k)
 | .mul=>.val (.anyi k)
 | .and=>.val (.anyi k)
 | .or=>.val (.anyi k)
 | .xor=>.val (.anyi k)
 | .andNot=>.val (.anyi k)
 | .eql=>vh
 | .neq=>vh
 | .lss=>vh
 | .leq=>vh
 | .gtr=>vh
 | .geq=>vh
 | _=>.err 117) 118
def zF2 (op:BinOp) (k:IntKind) (b:Int):OR:=match op with
 | .and=>match b with
  | .ofNat m=>yb (Nat.ble m 127) (zLR k m) 117
  | .negSucc _=>.val (.anyi k)
 | .rem=>match b with
  | .ofNat m=>match m with
   | 0=>.err 117
   | m+1=>yb (Nat.ble m 127) (match k.signed with
    | true=>zK4 k m
    | false=>.val (.anyi k)) 117
  | .negSucc _=>.err 117
 | .quo=>match b with
  | .ofNat m=>match m with
   | 0=>.err 117
   | _+1=>.val (.anyi k)
  | .negSucc _=>.val (.anyi k)
 | .shl=>match b with
  | .ofNat _=>.val (.anyi k)
  | .negSucc _=>.err 117
 | .shr=>match b with
  | .ofNat _=>.val (.anyi k)
  | .negSucc _=>.err 117
 | op=>qt op k k
def zK5 (op:BinOp) (x y:CV):OR:=zT3 x
 (fun k a=>zRk y (fun j b=>yb (kEq k j || yu op) (zDZ (yP op k a b) 117) 118) (fun j=>qt op j k) 119)
 (fun k=>zRk y (fun j b=>yb (kEq k j || yu op) (zF2 op k b) 118) (fun j=>qt op j k) 119)
 (fun a=>ug y (fun b=>zDZ (zRo op a b) 120) 121) 122
def zQw (op:BinOp) (a m:Nat):OR:=match op with
 | .gtr=>ifB (Nat.ble a m) (.val (.bool false)) vh
 | .leq=>ifB (Nat.ble a m) (.val (.bool true)) vh
 | .lss=>ifB (Nat.ble (Nat.succ a) m) (.val (.bool true)) vh
 | .geq=>ifB (Nat.ble (Nat.succ a) m) (.val (.bool false)) vh
 | _=>.err 119
def j8 (op:BinOp) (x y:CV):OR:=match x,y with
 | .nat a,.big m=>zQw op a m
 | x,y=>match zPm x || zPm y with
  | true=>zSh (Sym.bin op x y) 117
  | false=>zK5 op x y
def zLP (op:BinOp) (a b:Nat) (x y:CV):OR:=Option.rec (motive:=fun _=>BinOp→CV→CV→OR) (fun op x y=>j8 op x y) (fun v _ _ _=>.val v) (zGT op a b) op x y
def zQl (op:BinOp) (x y:zU):X:=fun es tm _ _=>
 zOS (aV es tm x) (fun a=>zOS (aV es tm y) (fun b=>zLP op a b (aV es tm x) (aV es tm y)) (j8 op (aV es tm x) (aV es tm y))) (j8 op (aV es tm x) (aV es tm y))
def zAh:EqK→CV→CV→Option Bool
 | .bool,.bool a,.bool b=>some (a == b)
 | .int,.nat a,.nat b=>some (Nat.beq a b)
 | .int,.int k a,.int j b=>match kEq k j with
  | true=>some (yA a b)
  | false=>none
 | .int,.nat _,.int .i64 (.negSucc _)=>some false
 | .int,.int .i64 (.negSucc _),.nat _=>some false
 | .str,.str a,.str b=>some (xu a b)
 | _,_,_=>none
def eqFields (xs ys:List CV):List (Nat × EqK)→Option Bool
 | []=>some true
 | (o,k)::r=>match zCP xs o,zCP ys o with
  | some x,some y=>match zAh k x y with
   | some true=>eqFields xs ys r
   | some false=>some false
   | none=>none
  | _,_=>none
def eqC (k:EqK) (cst:Bool) (x y:CV):Option Bool:=match k with
 | .bool=>zAh .bool x y
 | .int=>none
 | .str=>none
 | .pointer=>match x,y with
  | .nilptr,.nilptr=>some true
  | .nilptr,.ptr _ _=>some false
  | .ptr _ _,.nilptr=>some false
  | _,_=>none
 | .iface=>match x,y with
  | .niliface,.niliface=>if cst then some true else none
  | .niliface,.iface _ _=>some false
  | .iface _ _,.niliface=>some false
  | _,_=>none
 | .slice=>match x,y with
  | .nilsl,.nilsl=>some true
  | .nilsl,.sl ..=>some false
  | .sl ..,.nilsl=>some false
  | _,_=>none
 | .map=>match x,y with
  | .nilmap,.nilmap=>some true
  | .nilmap,.map _=>some false
  | .map _,.nilmap=>some false
  | _,_=>none
 | .func=>match x,y with
  | .nilfunc,.nilfunc=>some true
  | .nilfunc,.func ..=>some false
  | .func ..,.nilfunc=>some false
  | _,_=>none
 | .struct fs=>match x,y with
  | .agg xs,.agg ys=>eqFields xs ys fs
  | _,_=>none
def xEq (neg:Bool) (k:EqK) (cst:Bool) (x y:zU):X:=fun es tm _ _=>match eqC k cst (aV es tm x) (aV es tm y) with
 | some b=>.val (.bool (xor neg b))
 | none=>.err 123
def xUn (op:UnOp) (x:zU):X:=fun es tm _ _=>match op with
 | .neg=>zRe (aV es tm x) (fun k n=>.val (mkInt k (yf k (Int.sub (.ofNat 0) n)))) 124
 | .xor=>zRe (aV es tm x) (fun k n=>zDZ (zTb k (if k.signed then -1 else k.max) n) 125) 126
 | .not=>zKQ (aV es tm x) (fun b=>.val (.bool (zB7 b))) 127
 | .plus=>.err 128
def zF4 (k:IntKind) (v:CV):OR:=match zPm v with
 | true=>zSh (Sym.cv k v) 129
 | false=>zRk v (fun _ a=>.val (mkInt k (yf k a))) (fun _=>.val (.anyi k)) 129
def zOZ (k:IntKind) (x:zU):X:=fun es tm _ _=>zF4 k (aV es tm x)
def zQD (x:zU):X:=fun es tm _ _=>ug (aV es tm x) (fun s=>.val (.str s)) 130
def xo (s:List Nat):List CV:=List.rec (motive:=fun _=>List CV) [] (fun b _ ih=>.int .u8 (.ofNat b)::ih) s
def wz (v:CV):Option Nat:=match v with
 | .int .u8 (.ofNat b)=>match Nat.ble b 255 with
  | true=>some b
  | false=>none
 | _=>none
def jV (l:List CV):Option (List Nat):=
 List.rec (motive:=fun _=>Option (List Nat)) (some []) (fun v _ ih=>Option.rec (motive:=fun _=>Option (List Nat)→Option (List Nat)) (fun _=>none) (fun b r=>zMA b r) (wz v) ih) l
def zNJ (l:List CV):CV:=match jV l with
 | some r=>.str r
 | none=>.sst l
def zSS (x:zU):X:=fun es tm _ n=>zGL (aV es tm x) (fun l=>wR (vg l) fun k=>.alloc (.cells l) (.sl n 0 k k 1 false)) <| ug (aV es tm x) (fun l=>wR (zCj l) fun k=>.alloc (.cells (xo l)) (.sl n 0 k k 1 false)) 131
def zMz (x:zU):X:=fun es tm h n=>um (aV es tm x) (.err 132) (fun b off len cap esz ex=>kH (ze b h) (fun _=>.eff (.sl b off len cap esz ex) h n) 133) 134
def zT2 (v:Option (List Nat)) (c:Nat):OR:=Option.rec (motive:=fun _=>Nat→OR) (fun c=>.err c) (fun v _=>.val (.str v)) v c
def zIH (v:CV):Bool:=match v with
 | .int k (.ofNat b)=>kEq k .u8&&Nat.ble b 255
 | .sym e=>kEq e.k .u8&&(match Sym.bin .leq (.sym e) (.int .u8 (.ofNat 255)),Sym.bin .geq (.sym e) (.int .u8 (.ofNat 0)) with
  | some [.bool true],some [.bool true]=>true
  | _,_=>false)
 | _=>false
def zCr:List CV→Bool
 | []=>true
 | v::r=>zIH v&&zCr r
def zK0 (cs:List CV):OR:=match jV cs with
 | some r=>.read (.str r)
 | none=>match zCr cs with
  | true=>.read (.sst cs)
  | false=>.err 135
def zR5 (m:SE):Bool:=match Sym.bin .leq (.sym m) (.nat 0) with
 | some [.bool true]=>true
 | _=>false
def zSZ (x:zU):X:=fun es tm h _=>zKz (aV es tm x) (fun _ _ _ m=>yb (zR5 m) (.val (.str [])) 138) <| um (aV es tm x) (.val (.str [])) (fun b off len _ _ _=>vp (ze b h) (fun vs=>
 onL (up vs off len) zK0 136) 137) 138
def zO7 (t:TypeId) (x:zU):X:=fun es tm _ _=>.val (.iface t (aV es tm x))
def zS2 (fn:Fn) (a b:List zU):X:=fun es tm _ _=>.val (.func fn (aVs es tm a) (aVs es tm b))
def zRr:X:=fun _ _ _ n=>.alloc (.map [] 0) (.map n)
def zJN (zero:List CV) (esz bytes:Nat) (l c:zU):X:=fun es tm _ n=>vb (aV es tm l) (fun l=>vb (aV es tm c) (fun c=>
 yb (Nat.ble l c&&Nat.ble (Nat.mul c esz) 100000&&Nat.ble (Nat.mul bytes c) 1000000)
  (wR l fun l=>wR c fun c=>.alloc (.cells (kU zero c)) (.sl n 0 l c esz true)) 139) 140) 141
def zBi (es:List CV) (tm:Tm) (x:Option zU) (y d:Nat) (k:Nat→OR) (e:Nat):OR:=
 Option.rec (motive:=fun _=>Nat→(Nat→OR)→OR) (fun d k=>k d) (fun x _ k=>vb (aV es tm x) (fun i=>yb (Nat.ble i y) (k i) e) e) x d k
def qi (es:List CV) (tm:Tm) (len cap:Nat) (lo hi mx:Option zU) (k:Nat→Nat→Nat→OR) (e:Nat):OR:=
 zBi es tm mx cap cap (fun m=>zBi es tm hi m len (fun h=>zBi es tm lo h 0 (fun l=>k l h m) e) e) e
def zMW (b:Key) (off esz:Nat) (ex:Bool):Nat→Nat→Nat→OR:=fun l h m=>
 yb (Nat.ble h m&&Nat.ble l h) (wR (Nat.add off (Nat.mul l esz)) fun o=>wR (Nat.sub h l) fun hl=>wR (Nat.sub m l) fun ml=>.val (.sl b o hl ml esz ex)) 142
def zP7 (len esz:Nat) (x:zU) (lo hi mx:Option zU):X:=fun es tm _ _=>zDB (aV es tm x) (fun b off=>
 qi es tm len len lo hi mx (zMW b off esz true) 143) 144
def zAH (es:List CV) (tm:Tm) (h:zC) (b:Key) (off cap esz:Nat) (ex:Bool) (lo hi mx:Option zU) (k0:OR):OR:=match ex,lo,mx,hi with
 | false,none,none,some y=>match aV es tm y with
  | .nat m=>match Nat.ble m cap,cap with
   | false,_+1=>kH (ze b h) (fun vs=>yb (Nat.ble (Nat.add off (Nat.mul m esz)) (vg vs)) (wR m fun m=>.read (.sl b off m m esz false)) 146) 146
   | _,_=>k0
  | _=>k0
 | _,_,_,_=>k0
def zGH (es:List CV) (tm:Tm) (b:Key) (z:Nat) (e n:SE) (esz:Nat) (lo hi mx:Option zU):OR:=match lo,mx,hi with
 | none,none,some y=>match aV es tm y with
  | .nat m=>match Nat.beq z esz&&Nat.ble 1 m,Sym.bin .leq (.nat m) (.sym n),Sym.bin .leq (.nat 0) (.sym e),Sym.bin .leq (.sym e) (.nat 0) with
   | true,some [.bool true],some [.bool true],some [.bool true]=>wR m fun m=>.val (.sl b 0 m m esz false)
   | _,_,_,_=>.err 325
  | _=>.err 325
 | _,_,_=>.err 325
def zSP (esz:Nat) (x:zU) (lo hi mx:Option zU):X:=fun es tm h _=>zKz (aV es tm x) (fun b z e n=>zGH es tm b z e n esz lo hi mx) <| um (aV es tm x)
 (qi es tm 0 0 lo hi mx (fun _ _ _=>.val .nilsl) 145)
 (fun b off len cap s ex=>yb (Nat.beq s esz) (zAH es tm h b off cap esz ex lo hi mx (qi es tm len cap lo hi mx (zMW b off esz (ex || mx.isSome)) 146)) 147) 148
def zQV (x:zU) (lo hi:Option zU):X:=fun es tm _ _=>zGL (aV es tm x) (fun s=>
 wR (vg s) fun n=>qi es tm n n lo hi none (fun l h _=>yb (Nat.ble l h) (onL (up s l (Nat.sub h l)) (fun r=>.val (zNJ r)) 149) 149) 150) <| ug (aV es tm x) (fun s=>
 wR (zCj s) fun n=>qi es tm n n lo hi none (fun l h _=>yb (Nat.ble l h) (zT2 (zTq s l (Nat.sub h l)) 149) 149) 150) 151
def zNm (k:Nat) (x:zU):X:=fun es tm _ _=>zDB (aV es tm x) (fun b off=>wR (Nat.add off k) fun o=>.val (.ptr b o)) 152
def zRn (agg:Bool) (s:Nat) (cs:List CV) (off:Nat) (e:Nat):OR:=Bool.rec (motive:=fun _=>OR) (zDZ (zCP cs off) e) (zTz (up cs off s) e) agg
def zSQ (agg:Bool) (off s:Nat) (x:zU):X:=fun es tm _ _=>zQ6 (aV es tm x) (fun cs=>zRn agg s cs off 153) 154
def zQm (len esz:Nat) (x i:zU):X:=fun es tm _ _=>zDB (aV es tm x) (fun b off=>vb (aV es tm i) (fun i=>
 yb (Nat.ble (Nat.succ i) len) (wR (Nat.add off (Nat.mul i esz)) fun o=>.val (.ptr b o)) 155) 156) 157
def vQ:List (Nat × Int)→List (Nat × Int)→Bool
 | [],[]=>true
 | (i,a)::l,(j,b)::m=>Nat.beq i j&&yA a b&&vQ l m
 | _,_=>false
def zJ2 (a b:SE):Bool:=kEq a.k b.k&&yA a.c b.c&&vQ a.l b.l
def zK3 (b:Key) (s:Nat) (e n:SE) (esz:Nat) (i:CV):OR:=match i with
 | .nat k=>match Nat.beq s esz,Sym.bin .lss (.nat k) (.sym n),Sym.bin .leq (.nat 0) (.sym e),Sym.bin .leq (.sym e) (.nat 0) with
  | true,some [.bool true],some [.bool true],some [.bool true]=>wR (Nat.mul k esz) fun o=>.val (.ptr b o)
  | _,_,_,_=>.err 320
 | _=>.err 322
def zPt (b:Key) (s:Nat) (e n:SE) (esz:Nat) (i:CV):OR:=match i with
 | .sym j=>match zJ2 j e&&Nat.beq s esz with
  | true=>match Sym.bin .leq (.nat 0) (.sym e),Sym.bin .lss (.sym e) (.sym n) with
   | some [.bool true],some [.bool true]=>.val (.ptr b 0)
   | _,_=>.err 320
  | false=>.err 321
 | i=>zK3 b s e n esz i
def zFv (x y:CV):Option Bool:=match Sym.cv .i64 x,Sym.bin .leq x y,Sym.bin .geq x y with
 | some _,some [.bool a],some [.bool b]=>some (a&&b)
 | _,_,_=>none
def zJu (i:CV):CV:=match i with
 | .sym j=>match Sym.bin .andNot (.sym j) (.nat 0) with
  | some [.nat k]=>match zFv (.sym j) (.nat k) with
   | some true=>.nat k
   | _=>.sym j
  | _=>.sym j
 | i=>i
def zTp (v:CV):CV:=match v with
 | .few i t=>match zJu (.sym ⟨.i64,0,[(i,1)]⟩) with
  | .nat k=>match nth t k with
   | some s=>.str s
   | none=>v
  | _=>v
 | v=>v
def zRg (esz:Nat) (b:Key) (off len:Nat) (v:CV) (z:OR):OR:=match v with
 | .sym e=>match e.l with
  | [(i,a)]=>match kEq e.k .i64&&yA e.c 0&&yA a 1&&Nat.beq esz 1,Sym.bin .geq (.sym e) (.nat 0),Sym.bin .leq (.sym e) (.nat (Nat.sub len 1)),len with
   | true,some [.bool true],some [.bool true],m+1=>.val (.elt b off i m)
   | _,_,_,_=>z
  | _=>z
 | _=>z
def zSY (esz:Nat) (x i:zU):X:=fun es tm _ _=>zKz (aV es tm x) (fun b s e n=>zPt b s e n esz (aV es tm i)) <| um (aV es tm x) (.err 158) (fun b off len _ _ _=>zRg esz b off len (zJu (aV es tm i)) <| vb (zJu (aV es tm i)) (fun i=>
 yb (Nat.ble (Nat.succ i) len) (wR (Nat.add off (Nat.mul i esz)) fun o=>.val (.ptr b o)) 159) 160) 161
def zO5 (len esz:Nat) (agg:Bool) (x i:zU):X:=fun es tm _ _=>zQ6 (aV es tm x) (fun cs=>vb (aV es tm i) (fun i=>
 yb (Nat.ble (Nat.succ i) len) (zRn agg esz cs (Nat.mul i esz) 162) 163) 164) 165
def zRb (x i:zU):X:=fun es tm _ _=>zGL (aV es tm x) (fun s=>vb (aV es tm i) (fun i=>zDZ (zCP s i) 166) 167) <| ug (aV es tm x) (fun s=>vb (aV es tm i) (fun i=>onN (zS9 s i) (fun b=>.val (.int .u8 (.ofNat b))) 166) 167) 168
def zCm:List CV→Bool
 | []=>true
 | .nat _::r=>zCm r
 | .int _ _::r=>zCm r
 | _=>false
def zC0:List CV→List CV→Nat→Option Bool
 | [],[],0=>some true
 | x::a,y::b,n+1=>match zAh .int x y with
  | some true=>zC0 a b n
  | some false=>some false
  | none=>none
 | _,_,_=>none
def zAT:jq→CV→Bool
 | .ints n,.agg cs=>Nat.beq (vg cs) n&&zCm cs
 | .int,.nat _=>true
 | .int,.int _ _=>true
 | .str,.str _=>true
 | .bool,.bool _=>true
 | .int,.sym e=>(Sym.cv .i64 (.sym e)).isSome
 | _,_=>false
def jW:jq→CV→CV→Option Bool
 | .ints n,.agg a,.agg b=>zC0 a b n
 | .int,.nat a,.nat b=>some (Nat.beq a b)
 | .int,.int j a,.int k b=>match kEq j k with
  | true=>some (yA a b)
  | false=>none
 | .str,.str a,.str b=>some (xu a b)
 | .bool,.bool a,.bool b=>some (a == b)
 | .int,.sym e,y=>zFv (.sym e) y
 | .int,.nat a,.sym e=>zFv (.nat a) (.sym e)
 | .int,.int k a,.sym e=>zFv (.int k a) (.sym e)
 | _,_,_=>none
def vZ (kk:jq) (k:CV):List CE→Option (Option CV)
 | []=>some none
 | e::es=>match jW kk k e.key with
  | some true=>match vZ kk k es with
   | some none=>some (some e.val)
   | _=>none
  | some false=>vZ kk k es
  | none=>none
def zJV (kk:jq) (k v:CV):List CE→Option (List CE)
 | []=>none
 | e::es=>match jW kk k e.key with
  | some true=>some (⟨k,v,e.born⟩::es)
  | some false=>match zJV kk k v es with
   | none=>none
   | some r=>some (e::r)
  | none=>none
def zJU (kk:jq) (k:CV):List CE→Option (List CE)
 | []=>none
 | e::es=>match jW kk k e.key with
  | some true=>some es
  | some false=>match zJU kk k es with
   | none=>none
   | some r=>some (e::r)
  | none=>none
def okV (ok:Bool) (v:CV):CV:=match ok with
 | true=>.tup [v,.bool true]
 | false=>v
def zCg (kk:jq) (z:CV) (ok:Bool) (k:CV) (es:List CE):OR:=yb (zAT kk k) (match vZ kk k es with
 | some (some v)=>.read (okV ok v)
 | some none=>.read (match ok with | true=>.tup [z,.bool false] | false=>z)
 | none=>.err 169) 170
def noZ (kk:jq) (k:CV):List (CV × CV)→Bool
 | []=>true
 | q::r=>match jW kk k q.1 with
  | some false=>noZ kk k r
  | _=>false
def zHd (kk:jq) (k:CV):List (CV × CV)→Option CV
 | []=>none
 | q::r=>match jW kk k q.1 with
  | some true=>match noZ kk k r with
   | true=>some q.2
   | false=>none
  | some false=>zHd kk k r
  | none=>none
def zD4 (kk:jq) (k v:CV):List (CV × CV)→List (CV × CV)
 | []=>[]
 | q::r=>match jW kk k q.1 with
  | some true=>(k,v)::r
  | _=>q::zD4 kk k v r
def zKk:CV→Bool
 | .str []=>true
 | _=>false
def zSm (kk:jq) (z:CV) (ok:Bool) (k:CV) (es:List (CV × CV)):OR:=yb (!ok&&zKk z&&zAT kk k) (match zHd kk k es with
 | some v=>.read (zTp v)
 | none=>.err 234) 235
def zMC (kk:jq) (z:CV) (ok:Bool) (x k:zU):X:=fun es tm h _=>zDu (aV es tm x) (zCg kk z ok (aV es tm k) [])
 (fun b=>zIQ (ze b h) (fun l=>zSm kk z ok (aV es tm k) l) <| vF (ze b h) (fun l _=>zCg kk z ok (aV es tm k) l) 171) 172
def zMm (kk:jq) (m k v:zU):X:=fun es tm h n=>zDu (aV es tm m) (.err 173) (fun b=>zIQ (ze b h) (fun l=>yb (zAT kk (aV es tm k)) (match zHd kk (aV es tm k) l with
 | some _=>.eff .undef (yj (some (.mapz (zD4 kk (aV es tm k) (aV es tm v) l))) b h) n
 | none=>.err 236) 237) <| vF (ze b h) (fun l clock=>
 yb (zAT kk (aV es tm k)) (match vZ kk (aV es tm k) l with
  | some (some _)=>match zJV kk (aV es tm k) (aV es tm v) l with
   | some l'=>.eff .undef (yj (some (.map l' clock)) b h) n
   | none=>.err 174
  | some none=>wR (Nat.succ clock) fun c=>.eff .undef (yj (some (.map (l++[⟨aV es tm k,aV es tm v,clock⟩]) c)) b h) n
  | none=>.err 175) 176) 177) 178
def zGA (x:zU):X:=fun es tm _ n=>zGL (aV es tm x) (fun s=>.alloc (.striter s 0) (.ptr n 0)) <| ug (aV es tm x) (fun s=>.alloc (.striter (xo s) 0) (.ptr n 0)) 179
def zHS (x:zU):X:=fun es tm h n=>zDu (aV es tm x) (.alloc (.mapiter none 0 [] 0) (.ptr n 0)) (fun b=>vF (ze b h) (fun _ clock=>
 .eff (.ptr n 0) (yj (some (.mapiter (some b) clock [] clock)) n h) n.succ) 180) 181
def zLp (x:Nat) (l:List Nat):Bool:=List.rec (motive:=fun _=>Bool) false (fun y _ ih=>Bool.rec (motive:=fun _=>Bool) ih true (Nat.beq x y)) l
def zHU (seen:List Nat):List CE→List CE
 | []=>[]
 | e::es=>match zLp e.born seen with
  | true=>zHU seen es
  | false=>e::zHU seen es
def zCz (last:Nat):List CE→Bool
 | []=>true
 | e::es=>Nat.ble last e.born&&zCz last es
def zPa (l:List Nat):Bool:=match l with
 | []=>true
 | _=>false
def zLN (l:List CE):Bool:=match l with
 | []=>true
 | _=>false
def zF3 (since:Nat):List CE→Bool
 | []=>true
 | e::es=>Nat.ble (Nat.succ e.born) since&&zF3 since es
def zD6 (f:CE→OR):CE→List CE→OR
 | e,[]=>f e
 | e,e'::l=>.fork (f e) (zD6 f e' l)
def zPg (v:CV):Option CV:=match v with
 | .int k (.ofNat b)=>match kEq k .u8&&Nat.ble b 127 with
  | true=>some (.int .i32 (.ofNat b))
  | false=>none
 | .sym e=>match kEq e.k .u8,Sym.bin .leq (.sym e) (.int .u8 (.ofNat 127)),Sym.bin .geq (.sym e) (.int .u8 (.ofNat 0)),Sym.cv .i32 (.sym e) with
  | true,some [.bool true],some [.bool true],some [c]=>some c
  | _,_,_,_=>none
 | _=>none
def zId (b:Key) (h:zC) (n:Key) (s:List CV) (pos:Nat):OR:=match zCP s pos with
 | none=>.eff (.tup [.bool false]) h n
 | some c=>match zPg c with
  | some r=>wR (Nat.succ pos) fun p=>.eff (.tup [.bool true,.nat pos,r]) (yj (some (.striter s p)) b h) n
  | none=>.err 182
def zRu (b:Key) (h:zC) (n:Key) (m:Key) (since:Nat) (seen:List Nat) (last:Nat):OR:=vF (ze m h) (fun es clock=>
 match !zPa seen && !zLN es&&zCz last es with
 | true=>.err 183
 | false=>match zHU seen es with
  | []=>.eff (.tup [.bool false]) h n
  | e::l=>yb (zF3 since (e::l)) (zD6 (fun e=>.eff (.tup [.bool true,e.key,e.val]) (yj (some (.mapiter (some m) since (seen++[e.born]) clock)) b h) n) e l) 184) 186
def zRp (s:Bool) (b:Key) (h:zC) (n:Key) (o:Option CObj):OR:=match o,s with
 | some (.striter s pos),true=>zId b h n s pos
 | some (.mapiter none _ _ _),false=>.eff (.tup [.bool false]) h n
 | some (.mapiter (some m) since seen last),false=>zRu b h n m since seen last
 | _,_=>.err 187
def zS1 (s:Bool) (x:zU):X:=fun es tm h n=>zDB (aV es tm x) (fun b off=>yb (Nat.beq off 0) (zRp s b h n (ze b h)) 188) 189
def zMt:List Nat→Option Nat
 | []=>none
 | [x]=>some x
 | _::y::r=>zMt (y::r)
def zIW (b:Nat):List CE→Bool
 | []=>true
 | e::es=>match Nat.beq e.born b with
  | true=>false
  | false=>zIW b es
def zJs (b:Nat):List CE→Option CE
 | []=>none
 | e::es=>match Nat.beq e.born b with
  | true=>match zIW b es with
   | true=>some e
   | false=>none
  | false=>zJs b es
def zKR (h:zC) (o:Option CObj):OR:=match o with
 | some (.mapiter (some m) _ seen stepped)=>match zMt seen with
  | some st=>vF (ze m h) (fun es clock=>match Nat.beq clock stepped,zJs st es with
   | true,some e=>.read (.tup [e.key,e.val])
   | _,_=>.err 190) 191
  | none=>.err 192
 | _=>.err 193
def zPz (x:zU):X:=fun es tm h _=>zDB (aV es tm x) (fun b off=>yb (Nat.beq off 0) (zKR h (ze b h)) 194) 195
def noV (ok:Bool) (z:Option CV):OR:=match ok,z with
 | true,some z=>.val (.tup [z,.bool false])
 | _,_=>.err 196
def zJ6 (t:TypeId) (z:Option CV) (ok:Bool) (x:zU):X:=fun es tm _ _=>zB1 (aV es tm x)
 (fun d v=>ifB (Nat.beq d t) (.val (okV ok v)) (noV ok z)) (noV ok z) 197
def zQ3 (P:Program) (t d:TypeId):Option Bool:=match und P t,P.info? d with
 | some (.interface want),some i=>some (Instr.missingMethod want i.methods).isNone
 | _,_=>none
def zM2 (P:Program) (t:TypeId) (z:Option CV) (ok:Bool) (x:zU):X:=fun es tm _ _=>zB1 (aV es tm x)
 (fun d v=>match zQ3 P t d with
   | some true=>.val (okV ok (.iface d v))
   | some false=>noV ok z
   | none=>.err 198) (noV ok z) 199
def zKH (i:Nat) (x:zU):X:=fun es tm _ _=>zSO (aV es tm x) (fun vs=>zDZ (zCP vs i) 200) 201
inductive v7 where
 | val (v:CV)
 | var (b:Key) (off:Nat)
def zAF (h:zC) (b:Key):Option (List CV):=match ze b h with
 | some (.cells vs)=>some vs
 | some (.ro vs)=>some vs
 | _=>none
def zNx (agg:Bool) (s:Nat) (cs:List CV) (off:Nat):Option CV:=match agg with
 | true=>(up cs off s).map .agg
 | false=>zCP cs off
section
variable (P:Program)
def zNy (h:zC) (t:TypeId) (b:Key) (off:Nat):Option CV:=match xy P t,xk P t,zAF h b with
 | some a,some s,some vs=>zNx a s vs off
 | _,_,_=>none
def v7.get (h:zC) (t:TypeId):v7→Option CV
 | .val v=>some v
 | .var b off=>zNy P h t b off
def zII (s:FieldStep):Option Field:=match und P s.struct with
 | some (.struct fs)=>match nth fs.toList s.index with
  | some f=>match xk P f.type with
   | some (_+1)=>some f
   | _=>none
  | none=>none
 | _=>none
def wv (h:zC):List FieldStep→TypeId→v7→Option (TypeId × v7)
 | [],t,x=>some (t,x)
 | s::rest,t,x=>match zII P s with
  | none=>none
  | some f=>match s.deref with
   | true=>match x.get P h t with
    | some (.ptr b off)=>wv h rest f.type (.var b (Nat.add off f.offset))
    | _=>none
   | false=>match x with
    | .var b off=>wv h rest f.type (.var b (Nat.add off f.offset))
    | .val (.agg cs)=>match xy P f.type,xk P f.type with
     | some a,some s=>match zNx a s cs f.offset with
      | some v=>wv h rest f.type (.val v)
      | none=>none
     | _,_=>none
    | .val _=>none
def zAB (h:zC) (xt:TypeId) (x:v7) (pr:Bool):Option CV:=match und P xt,pr,x with
 | some (.pointer _),true,x=>x.get P h xt
 | some (.pointer e),false,x=>match x.get P h xt with
  | some (.ptr b off)=>zNy P h e b off
  | _=>none
 | some _,true,.var b off=>some (.ptr b off)
 | some _,true,.val _=>none
 | some _,false,x=>x.get P h xt
 | none,_,_=>none
def uD (name:String):List Method→Option Method
 | []=>none
 | m::r=>if m.name == name then some m else uD name r
def zIf (t:TypeId) (name:String):Option Method:=(P.info? t).bind fun i=>uD name i.methods.toList
def zEf (h:zC):Nat→TypeId→CV→String→Option (FuncId × CV)
 | 0,_,_,_=>none
 | d+1,t,v,name=>match zIf P t name with
  | none=>none
  | some m=>match wv P h m.path.toList t (.val v) with
   | none=>none
   | some (xt,x)=>match m.func with
    | none=>match x.get P h xt with
     | some (.iface t' v')=>zEf h d t' v' name
     | _=>none
    | some (f,pr)=>match zAB P h xt x pr with
     | some r=>some (f,r)
     | none=>none
def zHc (h:zC) (recv:CV) (name:String) (args:List CV):OR:=zB1 recv
 (fun t v=>match zEf P h 8 t v name with
   | some (f,r)=>.call f (r::args)
   | none=>.err 202) (.err 203) 204
def zQa (h:zC) (f:CV) (args:List CV):OR:=zLh f (fun fn first captured=>match fn with
 | .func g=>.call g (zCV first (zCV args captured))
 | .method name=>match zCV first args with
  | recv::rest=>zHc P h recv name rest
  | []=>.err 205
 | .methodOf t name=>match zCV first args with
  | recv::rest=>match und P t with
   | some (.interface _)=>zHc P h recv name rest
   | some _=>zHc P h (.iface t recv) name rest
   | none=>.err 206
  | []=>.err 207
 | .via t path g pr=>match zCV first args with
  | recv::rest=>match wv P h path.toList t (.val recv) with
   | some (xt,x)=>match zAB P h xt x pr with
    | some r=>.call g (r::rest)
    | none=>.err 208
   | none=>.err 209
  | []=>.err 210
 | _=>.err 211) 212
end
def zIU (c:Nat) (l:List Nat):Nat:=List.rec (motive:=fun _=>Nat) 0 (fun x _ ih=>Bool.rec (motive:=fun _=>Nat) ih (Nat.succ ih) (Nat.beq x c)) l
def zC8 (c:Nat):List Nat→Nat→Option Nat
 | [],_=>none
 | x::r,i=>match Nat.beq x c with
  | true=>some i
  | false=>zC8 c r (Nat.succ i)
def zB8 (e:Ext) (args:List CV) (h:zC) (n:Key):OR:=match e,args with
 | .count,[a,b]=>ug a (fun s=>onN (wz b) (fun c=>.val (kS (zIU c s))) 213) 214
 | .indexByte,[a,b]=>ug a (fun s=>onN (wz b) (fun c=>match zC8 c s 0 with
  | some i=>.val (kS i)
  | none=>.val (.int .i64 (.negSucc 0))) 215) 216
 | .cmp,[a,b]=>ug a (fun s=>ug b (fun t=>ifB (xu s t) (.val (.nat 0)) (ifB (zAf s t) (.val (.int .i64 (.negSucc 0))) (.val (.nat 1)))) 223) 224
 | .overlaps,[a,b]=>um a (.err 225) (fun k _ l _ _ _=>um b (.err 226) (fun j _ m _ _ _=>yb (!decide (j=k)) (zID (ze k h) (fun u _=>yb u (kH (ze j h) (fun vs=>yb (Nat.ble 1 (vg vs)) (.eff (.bool false) h n) 227) 228) 233) (.err 229)) 230) 231) 232
 | .mapsClone,[a]=>zB1 a (fun t v=>zDu v (.err 217) (fun b=>vF (ze b h) (fun es clock=>
  .eff (.iface t (.map n)) (yj (some (.map es clock)) n h) n.succ) 218) 219) (.err 220) 221
 | _,_=>.err 222
def zS4 (f:FuncId) (args:List zU):X:=fun es tm _ _=>.call f (aVs es tm args)
def zSM (e:Ext) (args:List zU):X:=fun es tm h n=>zB8 e (aVs es tm args) h n
def zQ8 (P:Program) (f:zU) (args:List zU):X:=fun es tm h _=>zQa P h (aV es tm f) (aVs es tm args)
def zMO (P:Program) (r:zU) (name:String) (args:List zU):X:=fun es tm h _=>zHc P h (aV es tm r) name (aVs es tm args)
def zLG (h:zC) (s:Nat) (x:CV) (k:Nat→List CV→OR) (n:Nat→Nat) (e:Nat):OR:=match x with
 | .str l=>yb (Nat.beq s 1) (onL ((zJG l (n (zCj l))).map xo) (fun cs=>k (n (zCj l)) cs) e) e
 | .sst l=>yb (Nat.beq s 1) (onL (zJX l (n (vg l))) (fun cs=>k (n (vg l)) cs) e) e
 | .win _ _ _ m=>yb (zR5 m) (k (n 0) []) e
 | x=>um x (k 0 []) (fun b off len _ _ _=>vp (ze b h) (fun vs=>onL (up vs off (Nat.mul (n len) s)) (fun cs=>k (n len) cs) e) e) e
def zGK (esz k:Nat) (xs:List CV) (sv:CV) (h:zC) (n:Key):OR:=um sv
 (match k with
  | 0=>.eff .nilsl h n
  | k+1=>yb (Nat.ble k 99999) (wR k fun k=>.eff (.sl n 0 (Nat.succ k) (Nat.succ k) esz false) (yj (some (.cells xs)) n h) n.succ) 223)
 (fun b off len cap s ex=>yb (Nat.beq s esz) (zID (ze b h) (fun _ vs=>wR (Nat.add len k) fun need=>
   yb ((match ex with | true=>Nat.ble (Nat.succ cap) need | false=>Nat.ble 1 need&&Nat.ble (Nat.succ (vg vs)) (Nat.add off (Nat.mul need esz)))&&Nat.ble need 100000) (onL (up vs off (Nat.mul len esz)) (fun old=>
    .eff (.sl n 0 need need esz false) (yj (some (.cells (zCV old xs))) n h) n.succ) 225) 226) <| kH (ze b h) (fun vs=>wR (Nat.add len k) fun need=>
   ifB (Nat.ble need cap)
    (onL (jG xs (Nat.mul k esz) vs (Nat.add off (Nat.mul len esz))) (fun l=>.eff (.sl b off need cap esz ex) (yj (some (.cells l)) b h) n) 224)
    (yb (Nat.ble need 100000) (onL (up vs off (Nat.mul len esz)) (fun old=>
      .eff (.sl n 0 need need esz false) (yj (some (.cells (zCV old xs))) n (Bool.rec (motive:=fun _=>zC) (yj none b h) h ex)) n.succ) 225) 226)) 227) 228) 229
def zAK (esz _bytes:Nat) (s x:zU):X:=fun es tm h n=>zLG h esz (aV es tm x) (fun k xs=>yb (xJ xs) (zGK esz k xs (aV es tm s) h n) 230)
 (fun k=>k) 231
def zNg (zero:List CV) (esz:Nat) (s x:zU):X:=fun es tm h n=>vb (aV es tm x) (fun k=>yb (Nat.ble k 1000) (wR k fun k=>yb (xJ (kU zero k)) (zGK esz k (kU zero k) (aV es tm s) h n) 234) 234) 234
def zQZ (x:CV) (k:Nat→OR) (e:Nat):OR:=match x with
 | .str l=>k (zCj l)
 | x=>um x (k 0) (fun _ _ len _ _ _=>k len) e
def zHh (esz:Nat) (d x:zU):X:=fun es tm h n=>zQZ (aV es tm d) (fun dl=>zLG h esz (aV es tm x) (fun k xs=>um (aV es tm d)
 (.eff (.nat 0) h n)
 (fun b off _ _ _ _=>kH (ze b h) (fun vs=>yb (xJ xs) (onL (jG xs (Nat.mul k esz) vs off) (fun l=>.eff (kS k) (yj (some (.cells l)) b h) n) 232) 233) 234) 235)
 (fun xl=>Nat.min xl dl) 236) 237
def zMD (x:zU):X:=fun es tm _ _=>zGL (aV es tm x) (fun l=>.val (kS (vg l))) <| ug (aV es tm x) (fun s=>.val (kS (zCj s))) 238
def zRh (x:zU):X:=fun es tm _ _=>zKz (aV es tm x) (fun _ _ _ n=>.val (.sym n)) <| um (aV es tm x) (.val (.nat 0)) (fun _ _ len _ _ _=>.val (.nat len)) 239
def zNp (x:zU):X:=fun es tm h _=>zDu (aV es tm x) (.val (.nat 0)) (fun b=>vF (ze b h) (fun l _=>.read (kS (zOd l))) 240) 241
def zPe (vs:List CV) (k:Nat):List CV:=zCV vs (kU [.any] (Nat.sub k (vg vs)))
def zQ5 (b:Key) (off len cap esz:Nat) (h:zC) (n:Key):OR:=ifB (Nat.ble (Nat.succ len) cap) (.val (.big cap))
 (kH (ze b h) (fun vs=>yb (Nat.ble 1 cap) (.fork (.eff (.nat cap) (yj (some (.full false (zPe vs (Nat.add off (Nat.mul cap esz))))) b h) n)
   (.eff (.big (Nat.succ cap)) (yj (some (.cells (zPe vs (Nat.add off (Nat.mul (Nat.succ cap) esz))))) b h) n)) 242) 242)
def zOX (x:zU):X:=fun es tm h n=>um (aV es tm x) (.val (.nat 0)) (fun b off len cap esz ex=>ifB ex (.val (.nat cap)) (zQ5 b off len cap esz h n)) 243
def zMb (kk:jq) (m k:zU):X:=fun es tm h n=>yb (zAT kk (aV es tm k)) (zDu (aV es tm m) (.eff (.tup []) h n) (fun b=>vF (ze b h) (fun l clock=>
 match vZ kk (aV es tm k) l with
 | some (some _)=>match zJU kk (aV es tm k) l with
  | some l'=>.eff (.tup []) (yj (some (.map l' clock)) b h) n
  | none=>.err 244
 | some none=>.eff (.tup []) h n
 | none=>.err 245) 246) 247) 248
def zHC (x:zU):X:=fun es tm h n=>zDu (aV es tm x) (.eff (.tup []) h n) (fun b=>vF (ze b h) (fun _ clock=>.eff (.tup []) (yj (some (.map [] clock)) b h) n) 249) 250
def zKj (zero:List CV) (esz:Nat) (x:zU):X:=fun es tm h n=>um (aV es tm x) (.eff (.tup []) h n) (fun b off len _ _ _=>kH (ze b h) (fun vs=>
 yb (xJ zero) (onL (jG (kU zero len) (Nat.mul len esz) vs off) (fun l=>.eff (.tup []) (yj (some (.cells l)) b h) n) 251) 252) 253) 254
def intOf:CV→Option (IntKind × Int)
 | .nat n=>some (.i64,.ofNat n)
 | .int k n=>some (k,n)
 | _=>none
def zRG (mx:Bool) (k:IntKind):Int→List CV→Option CV
 | a,[]=>some (mkInt k a)
 | a,v::r=>match intOf v with
  | some (j,b)=>match kEq k j with
   | true=>zRG mx k (match mx with
    | true=>(match wM a b with | true=>b | false=>a)
    | false=>(match wM b a with | true=>b | false=>a)) r
   | false=>none
  | none=>none
def zKT (mx:Bool):CV→List CV→Option CV
 | x,[]=>some x
 | x,v::r=>match Sym.cv .i64 x,Sym.bin .lss (Bool.rec (motive:=fun _=>CV) v x mx) (Bool.rec (motive:=fun _=>CV) x v mx) with
  | some _,some [.bool b]=>zKT mx (Bool.rec (motive:=fun _=>CV) x v b) r
  | some _,_=>match Sym.bin .leq (Bool.rec (motive:=fun _=>CV) v x mx) (Bool.rec (motive:=fun _=>CV) x v mx) with
   | some [.bool true]=>zKT mx v r
   | _=>none
  | none,_=>none
def zTU (mx:Bool) (x:CV) (r:List CV):Option CV:=match intOf x with
 | some (k,a)=>match zRG mx k a r with
  | some v=>some v
  | none=>zKT mx x r
 | none=>zKT mx x r
def zML (mx:Bool) (x:zU) (r:List zU):X:=fun es tm _ _=>zDZ (zTU mx (aV es tm x) (aVs es tm r)) 255
def zPA (f:zU) (args:List zU):X:=fun es tm _ _=>zLh (aV es tm f) (fun fn first captured=>match fn with
 | .func g=>.dfr g (zCV first (zCV (aVs es tm args) captured))
 | _=>.err 256) 257
def zO6:X:=fun _ _ _ _=>.recov
def zT8 (c:Nat):X:=fun _ _ _ _=>.err (Nat.add 1000 c)
def yI (P:Program) (op:COp):X:=
 COp.rec (motive:=fun _=>X) xMv zSU zPy zTT zOW zMw zQN zQr zP6 zPc zQl xEq xUn zOZ zQD zSS zMz zSZ
  zO7 zS2 zRr zJN zP7 zSP zQV zNm zSQ zQm zSY zO5 zRb zMC zMm zGA zHS zS1 zPz
  zJ6 (zM2 P) zKH zS4 zSM (zQ8 P) (zMO P) zAK zNg zHh zMD zRh zNp zOX zMb zHC zKj zML
  zPA zO6 zT8 op
inductive CX where
 | normal
 | exit (id:Nat)
 | ret
abbrev xP:=List (FuncId × List CV)
inductive R where
 | ok (e:CX) (tm:Tm) (ds:xP) (h:zC) (n:Key)
 | ret (v:CV) (h:zC) (n:Key)
 | err (c:Nat)
 | fork (a b:R)
abbrev yX:=Bool→FuncId→List CV→zC→Key→R
abbrev K:=Tm→xP→zC→Key→R
abbrev KE:=List CV→K
def yD (d:Option Loc) (v:CV) (tm:Tm) (k:Tm→R):R:=Option.rec (motive:=fun _=>CV→Tm→(Tm→R)→R) (fun _ tm k=>k tm) (fun p v tm k=>k (wF v p tm)) d v tm k
abbrev zAk:=yX→KE→Option Loc→List CV→K
def zTV (v:CV):zAk:=fun _ k d es tm ds h n=>yD d v tm fun tm=>k (v::es) tm ds h n
def zTB (o:CObj) (v:CV):zAk:=fun _ k d es tm ds h n=>yD d v tm fun tm=>k (v::es) tm ds (yj (some o) n h) n.succ
def zVc (v:CV) (h:zC) (n:Key):zAk:=fun _ k d es tm ds _ _=>yD d v tm fun tm=>k (v::es) tm ds h n
def zUp (f:FuncId) (args:List CV):zAk:=fun call k d es tm ds h n=>
 R.rec (motive:=fun _=>R) (fun _ _ _ _ _=>.err 300) (fun v h n=>yD d v tm fun tm=>k (v::es) tm ds h n) (fun c=>.err c) (fun _ _ a b=>.fork a b) (call false f args h n)
def zUK (f:FuncId) (args:List CV):zAk:=fun _ k d es tm ds h n=>yD d .undef tm fun tm=>k (.undef::es) tm ((f,args)::ds) h n
def zTN:zAk:=fun _ k d es tm ds h n=>yD d .niliface tm fun tm=>k (.niliface::es) tm ds h n
def zVa (c:Nat):zAk:=fun _ _ _ _ _ _ _ _=>.err c
def zTY (_ _:OR) (a b:zAk):zAk:=fun call k d es tm ds h n=>.fork (a call k d es tm ds h n) (b call k d es tm ds h n)
def after (r:OR):zAk:=OR.rec (motive:=fun _=>zAk) zTV zTV zTB zVc zUp zUK zTN zVa zTY r
def jd (w:Bool) (v:CV):Bool:=match v with
 | .bool b=>match b,w with
  | true,true=>true
  | false,false=>true
  | _,_=>false
 | _=>false
def kc (v:CV):Bool:=match v with
 | .any=>false
 | _=>true
def iI (P:Program) (call:yX) (op:COp) (k:KE):KE:=fun es tm ds h n=>after (yI P op es tm h n) call k none es tm ds h n
def iO (P:Program) (call:yX) (op:COp) (d:Loc) (k:KE):KE:=fun es tm ds h n=>after (yI P op es tm h n) call k (some d) es tm ds h n
def iG (P:Program) (call:yX) (x:zU) (w:Bool) (op:COp) (d:Option Loc) (k:KE):KE:=fun es tm ds h n=>
 Bool.rec (motive:=fun _=>R)
  (Bool.rec (motive:=fun _=>R) (.err 299) (yD d .undef tm fun tm=>k (.undef::es) tm ds h n) (kc (aV es tm x)))
  (after (yI P op es tm h n) call k d es tm ds h n) (jd w (aV es tm x))
def zTH (P:Program) (call:yX) (i:qU):KE→KE:=qU.rec (motive:=fun _=>KE→KE) (iI P call) (iO P call) (iG P call) i
def yg (P:Program) (call:yX) (l:List qU):KE:=
 List.rec (motive:=fun _=>KE) (fun _ tm ds h n=>.ok .normal tm ds h n) (fun i _ ih=>zTH P call i ih) l
mutual
def CV.beq:CV→CV→Bool
 | .bool a,.bool b=>a == b
 | .nat a,.nat b=>Nat.beq a b
 | .int k a,.int j b=>kEq k j&&yA a b
 | .sym a,.sym b=>kEq a.k b.k&&yA a.c b.c&&vQ a.l b.l
 | .str a,.str b=>xu a b
 | .nilptr,.nilptr=>true
 | .ptr a b,.ptr c d=>decide (a=c)&&Nat.beq b d
 | .nilsl,.nilsl=>true
 | .sl a b c d e f,.sl a' b' c' d' e' f'=>decide (a=a')&&Nat.beq b b'&&Nat.beq c c'&&Nat.beq d d'&&Nat.beq e e'&&f == f'
 | .nilmap,.nilmap=>true
 | .map a,.map b=>decide (a=b)
 | .func f a b,.func g c d=>decide (f=g)&&CV.beqs a c&&CV.beqs b d
 | .nilfunc,.nilfunc=>true
 | .iface t v,.iface u w=>Nat.beq t u&&CV.beq v w
 | .niliface,.niliface=>true
 | .agg a,.agg b=>CV.beqs a b
 | .tup a,.tup b=>CV.beqs a b
 | .sst a,.sst b=>CV.beqs a b
 | _,_=>false
def CV.beqs:List CV→List CV→Bool
 | [],[]=>true
 | a::as,b::bs=>CV.beq a b&&CV.beqs as bs
 | _,_=>false
end
abbrev KD:=List CV→List zC→K
def qp (P:Program) (op:COp) (es:List CV) (tm:Tm) (n:Key) (v:CV):Nat→List zC→Bool
 | 0,_=>true
 | _+1,[]=>true
 | c+1,h::hs=>match yI P op es tm h n with
  | .read w=>CV.beq v w&&qp P op es tm n v c hs
  | _=>false
def zLD (call:yX) (d:Option Loc) (k:KD) (r:OR):KD:=fun es hs tm ds h n=>match r with
 | .val v=>yD d v tm fun tm=>k (v::es) (h::hs) tm ds h n
 | .read v=>yD d v tm fun tm=>k (v::es) (h::hs) tm ds h n
 | .alloc o v=>yD d v tm fun tm=>k (v::es) (h::hs) tm ds (yj (some o) n h) n.succ
 | .eff v h' n'=>yD d v tm fun tm=>k (v::es) (h::hs) tm ds h' n'
 | .call f args=>R.rec (motive:=fun _=>R) (fun _ _ _ _ _=>.err 300) (fun v h' n'=>yD d v tm fun tm=>k (v::es) (h::hs) tm ds h' n') (fun c=>.err c)
  (fun _ _ a b=>.fork a b) (call false f args h n)
 | .err c=>.err c
 | _=>.err 312
def dNo (P:Program) (op:COp) (d:Option Loc) (chk:Nat) (k:KD) (r:OR):KD:=fun es hs tm ds h n=>match r with
 | .val v=>yD d v tm fun tm=>k (v::es) hs tm ds h n
 | .read v=>match qp P op es tm n v chk hs with
  | true=>yD d v tm fun tm=>k (v::es) hs tm ds h n
  | false=>.err 311
 | .alloc o v=>yD d v tm fun tm=>k (v::es) hs tm ds (yj (some o) n h) n.succ
 | .err c=>.err c
 | _=>.err 313
def dOp (P:Program) (call:yX) (op:COp) (d:Option Loc) (e:Bool) (chk:Nat) (k:KD):KD:=fun es hs tm ds h n=>match e with
 | true=>zLD call d k (yI P op es tm h n) es hs tm ds h n
 | false=>dNo P op d chk k (yI P op es tm h n) es hs tm ds h n
def zEA (d:Option Loc) (e:Bool) (k:KD):KD:=fun es hs tm ds h n=>yD d .undef tm fun tm=>k (.undef::es) (match e with | true=>h::hs | false=>hs) tm ds h n
def evD (P:Program) (call:yX):List zOB→KD
 | [],_,_,tm,ds,h,n=>.ok .normal tm ds h n
 | i::r,es,hs,tm,ds,h,n=>match i.ins with
  | .i op=>dOp P call op none i.eff i.chk (evD P call r) es hs tm ds h n
  | .o op d=>dOp P call op (some d) i.eff i.chk (evD P call r) es hs tm ds h n
  | .g x w op d=>match jd w (aV es tm x) with
   | true=>dOp P call op d i.eff i.chk (evD P call r) es hs tm ds h n
   | false=>match kc (aV es tm x) with
    | true=>zEA d i.eff (evD P call r) es hs tm ds h n
    | false=>.err 299
def x8 (k:K) (r:R):R:=R.rec (motive:=fun _=>R) (fun e tm ds h n=>CX.rec (motive:=fun _=>R) (k tm ds h n) (fun id=>.ok (.exit id) tm ds h n) (.ok .ret tm ds h n) e)
 (fun _ _ _=>.err 301) (fun c=>.err c) (fun _ _ a b=>.fork a b) r
def uc (id:Nat) (r:R):R:=R.rec (motive:=fun _=>R) (fun e tm ds h n=>CX.rec (motive:=fun _=>R) (.ok .normal tm ds h n)
 (fun i=>Bool.rec (motive:=fun _=>R) (.ok (.exit i) tm ds h n) (.ok .normal tm ds h n) (Nat.beq i id)) (.ok .ret tm ds h n) e)
 (fun _ _ _=>.err 301) (fun c=>.err c) (fun _ _ a b=>.fork a b) r
def zGy (a b:K) (v:CV):K:=match v with
 | .bool true=>a
 | .bool false=>b
 | _=>fun _ _ _ _=>.err 302
def zAW (fuel:Nat) (b:K):K:=Nat.rec (motive:=fun _=>K) (fun _ _ _ _=>.err 303) (fun _ ih tm ds h n=>x8 ih (b tm ds h n)) fuel
def uu:Nat:=100000
def zi (P:Program) (call:yX) (c:CCode):K:=
 CCode.rec (motive:=fun _=>K)
  (fun tm ds h n=>.ok .normal tm ds h n)
  (fun ops=>yg P call ops [])
  (fun ops=>evD P call ops [] [])
  (fun _ _ a b tm ds h n=>x8 b (a tm ds h n))
  (fun x _ _ a b tm ds h n=>zGy a b (aV [] tm x) tm ds h n)
  (fun id _ b tm ds h n=>uc id (b tm ds h n))
  (fun _ b=>zAW uu b)
  (fun id tm ds h n=>.ok (.exit id) tm ds h n)
  (fun tm ds h n=>.ok .ret tm ds h n)
  (fun _ b=>b)
  (fun c _ _ _ _=>.err (Nat.add 2000 c)) c
def zPH (h:zC) (tm:Tm) (r:CRes):Option CV:=match r with
 | .tmp x=>some (aV [] tm x)
 | .cell1 x=>match aV [] tm x with
  | .ptr b off=>match zAF h b with
   | some cs=>zCP cs off
   | none=>none
  | _=>none
 | .cellN x s=>match aV [] tm x with
  | .ptr b off=>match zAF h b with
   | some cs=>(up cs off s).map .agg
   | none=>none
  | _=>none
def zCq (h:zC) (tm:Tm):List CRes→Option (List CV)
 | []=>some []
 | r::rs=>match zPH h tm r with
  | none=>none
  | some v=>match zCq h tm rs with
   | none=>none
   | some vs=>some (v::vs)
def zCt (h:zC) (tm:Tm) (rs:List CRes):Option CV:=match zCq h tm rs with
 | some [v]=>some v
 | some vs=>some (.tup vs)
 | none=>none
def qQ:List CV→Nat→Tm→Tm
 | [],_,t=>t
 | v::vs,i,t=>match Nat.ble i 271 with
  | true=>qQ vs (Nat.succ i) (wF v (Loc.ofNat i) t)
  | false=>t
def wl (call:yX) (k:zC→Key→R):xP→zC→Key→R
 | [],h,n=>k h n
 | (f,args)::r,h,n=>R.rec (motive:=fun _=>R) (fun _ _ _ _ _=>.err 300) (fun _ h n=>wl call k r h n) (fun c=>.err c) (fun _ _ a b=>.fork a b) (call true f args h n)
def zC1 (rs:List CRes) (tm:Tm) (h:zC) (n:Key):R:=match zCt h tm rs with
 | some v=>.ret v h n
 | none=>.err 305
def jf (d:Bool) (call:yX) (rs:List CRes) (tm:Tm) (ds:xP) (h:zC) (n:Key):R:=match ds with
 | []=>zC1 rs tm h n
 | f::ds=>match d with
  | false=>wl call (fun h n=>zC1 rs tm h n) (f::ds) h n
  | true=>.err 306
def yk (d:Bool) (call:yX) (rs:List CRes) (r:R):R:=R.rec (motive:=fun _=>R)
 (fun e tm ds h n=>CX.rec (motive:=fun _=>R) (jf d call rs tm ds h n) (fun _=>.err 307) (jf d call rs tm ds h n) e) (fun _ _ _=>.err 308) (fun c=>.err c) (fun _ _ a b=>.fork a b) r
abbrev NatF:=Sym→Bool→List CV→zC→Key→R
abbrev Nats:=FuncId→Option NatF
def zQF (r:OR) (h:zC) (n:Key):R:=match r with
 | .val v=>.ret v h n
 | .eff v h n=>.ret v h n
 | .err c=>.err c
 | _=>.err 309
def zAV (P:Program) (d:Bool) (call:yX) (fn:CFn) (args:List CV) (h:zC) (n:Key):R:=
 CFn.rec (motive:=fun _=>R) (fun body res=>yk d call res (zi P call body (qQ args 0 .nil) [] h n))
  (fun ops body res=>match d with
    | true=>yk true call res (x8 (zi P call body) (yg P call ops [] (qQ args 0 .nil) [] h n))
    | false=>.err 311)
  (fun e=>match d with
    | true=>.err 313
    | false=>zQF (zB8 e args h n) h n) (fun c=>.err (Nat.add 3000 c)) fn
def ev (P:Program) (code:FuncId→CFn) (nat:Nats) (fuel:Nat):yX:=
 Nat.rec (motive:=fun _=>yX) (fun _ _ _ _ _=>.err 310)
  (fun _ ih d f args h n=>Option.rec (motive:=fun _=>R) (zAV P d ih (code f) args h n) (fun g=>g ‹Sym› d args h n) (nat f)) fuel
end
end Go.Ev
