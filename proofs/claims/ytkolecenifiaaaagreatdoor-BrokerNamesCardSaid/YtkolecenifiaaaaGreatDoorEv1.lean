/- A verified evaluator for the model's code: EvA, EvB. -/
import GoSem.Dispatch
import GoSem.Core.Made
set_option linter.unusedSectionVars false
set_option linter.unusedVariables false
set_option linter.unusedSimpArgs false
namespace Go.Ev
inductive Dg where
 | d0 | d1 | d2 | d3 | d4 | d5 | d6 | d7 | d8 | d9 | d10 | d11 | d12 | d13 | d14 | d15
 deriving DecidableEq,Inhabited
noncomputable def Dg.succ (d:Dg):Option Dg:=Dg.rec (motive:=fun _=>Option Dg) (some .d1) (some .d2) (some .d3) (some .d4) (some .d5) (some .d6) (some .d7) (some .d8) (some .d9) (some .d10) (some .d11) (some .d12) (some .d13) (some .d14) (some .d15) none d
noncomputable def Dg.ix (d:Dg):Nat:=Dg.rec (motive:=fun _=>Nat) 0 1 2 3 4 5 6 7 8 9 10 11 12 13 14 15 d
def Dg.ofN:Nat→Dg
 | 0=>.d0
 | 1=>.d1
 | 2=>.d2
 | 3=>.d3
 | 4=>.d4
 | 5=>.d5
 | 6=>.d6
 | 7=>.d7
 | 8=>.d8
 | 9=>.d9
 | 10=>.d10
 | 11=>.d11
 | 12=>.d12
 | 13=>.d13
 | 14=>.d14
 | _=>.d15
inductive Key where
 | mk (a b c d:Dg)
 deriving DecidableEq,Inhabited
def Key.zero:Key:=.mk .d0 .d0 .d0 .d0
noncomputable def Key.succ (k:Key):Key:=
 Key.rec (motive:=fun _=>Key) (fun a b c d=>
  Option.rec (motive:=fun _=>Key)
   (Option.rec (motive:=fun _=>Key)
     (Option.rec (motive:=fun _=>Key)
       (Option.rec (motive:=fun _=>Key) (.mk .d15 .d15 .d15 .d15) (fun a=>.mk a .d0 .d0 .d0) a.succ)
       (fun b=>.mk a b .d0 .d0) b.succ)
     (fun c=>.mk a b c .d0) c.succ)
   (fun d=>.mk a b c d) d.succ) k
noncomputable def Key.ix:Key→Nat
 | .mk a b c d=>((a.ix*16+b.ix)*16+c.ix)*16+d.ix
def Key.ofNat (n:Nat):Key:=.mk (.ofN (n / 4096 % 16)) (.ofN (n / 256 % 16)) (.ofN (n / 16 % 16)) (.ofN (n % 16))
inductive Loc where
 | s (d:Dg)
 | w (c d:Dg)
 deriving DecidableEq,Inhabited
def Loc.ofNat (n:Nat):Loc:=match Nat.ble n 15 with
 | true=>.s (.ofN n)
 | false=>.w (.ofN ((n - 16) / 16)) (.ofN ((n - 16) % 16))
structure SE where
 k:IntKind
 c:Int
 l:List (Nat × Int)
inductive CV where
 | bool (b:Bool)
 | nat (n:Nat)
 | int (k:IntKind) (n:Int)
 | anyi (k:IntKind)
 | str (s:List Nat)
 | nilptr
 | ptr (b:Key) (off:Nat)
 | nilsl
 | sl (b:Key) (off len cap esz:Nat) (exact:Bool)
 | nilmap
 | map (b:Key)
 | func (fn:Fn) (first captured:List CV)
 | nilfunc
 | iface (t:TypeId) (v:CV)
 | niliface
 | agg (cs:List CV)
 | tup (vs:List CV)
 | sym (e:SE)
 | win (b:Key) (esz:Nat) (e n:SE)
 | sst (l:List CV)
 | big (n:Nat)
 | few (i:Nat) (t:List (List Nat))
 | elt (b:Key) (off i m:Nat)
 | any
 deriving Inhabited
def CV.undef:CV:=.tup []
structure CE where
 key:CV
 val:CV
 born:Nat
inductive CObj where
 | cells (vs:List CV)
 | ro (vs:List CV)
 | map (es:List CE) (clock:Nat)
 | striter (s:List CV) (pos:Nat)
 | mapiter (m:Option Key) (since:Nat) (seen:List Nat) (stepped:Nat)
 | full (u:Bool) (vs:List CV)
 | mapz (es:List (CV × CV))
 | seen (b:Key)
 | hid
 | bag (ks:List CV)
noncomputable section
inductive LV where
 | nil
 | nd (c0 c1 c2 c3 c4 c5 c6 c7 c8 c9 c10 c11 c12 c13 c14 c15:CV)
def LV.get (d:Dg) (t:LV):CV:=
 Dg.rec (motive:=fun _=>LV→CV)
  (fun t=>LV.rec (motive:=fun _=>CV) CV.any (fun c0 _ _ _ _ _ _ _ _ _ _ _ _ _ _ _=>c0) t)
  (fun t=>LV.rec (motive:=fun _=>CV) CV.any (fun _ c1 _ _ _ _ _ _ _ _ _ _ _ _ _ _=>c1) t)
  (fun t=>LV.rec (motive:=fun _=>CV) CV.any (fun _ _ c2 _ _ _ _ _ _ _ _ _ _ _ _ _=>c2) t)
  (fun t=>LV.rec (motive:=fun _=>CV) CV.any (fun _ _ _ c3 _ _ _ _ _ _ _ _ _ _ _ _=>c3) t)
  (fun t=>LV.rec (motive:=fun _=>CV) CV.any (fun _ _ _ _ c4 _ _ _ _ _ _ _ _ _ _ _=>c4) t)
  (fun t=>LV.rec (motive:=fun _=>CV) CV.any (fun _ _ _ _ _ c5 _ _ _ _ _ _ _ _ _ _=>c5) t)
  (fun t=>LV.rec (motive:=fun _=>CV) CV.any (fun _ _ _ _ _ _ c6 _ _ _ _ _ _ _ _ _=>c6) t)
  (fun t=>LV.rec (motive:=fun _=>CV) CV.any (fun _ _ _ _ _ _ _ c7 _ _ _ _ _ _ _ _=>c7) t)
  (fun t=>LV.rec (motive:=fun _=>CV) CV.any (fun _ _ _ _ _ _ _ _ c8 _ _ _ _ _ _ _=>c8) t)
  (fun t=>LV.rec (motive:=fun _=>CV) CV.any (fun _ _ _ _ _ _ _ _ _ c9 _ _ _ _ _ _=>c9) t)
  (fun t=>LV.rec (motive:=fun _=>CV) CV.any (fun _ _ _ _ _ _ _ _ _ _ c10 _ _ _ _ _=>c10) t)
  (fun t=>LV.rec (motive:=fun _=>CV) CV.any (fun _ _ _ _ _ _ _ _ _ _ _ c11 _ _ _ _=>c11) t)
  (fun t=>LV.rec (motive:=fun _=>CV) CV.any (fun _ _ _ _ _ _ _ _ _ _ _ _ c12 _ _ _=>c12) t)
  (fun t=>LV.rec (motive:=fun _=>CV) CV.any (fun _ _ _ _ _ _ _ _ _ _ _ _ _ c13 _ _=>c13) t)
  (fun t=>LV.rec (motive:=fun _=>CV) CV.any (fun _ _ _ _ _ _ _ _ _ _ _ _ _ _ c14 _=>c14) t)
  (fun t=>LV.rec (motive:=fun _=>CV) CV.any (fun _ _ _ _ _ _ _ _ _ _ _ _ _ _ _ c15=>c15) t) d t
def LV.upd (f:CV→CV) (d:Dg) (t:LV):LV:=
 Dg.rec (motive:=fun _=>(CV→CV)→LV→LV)
  (fun f t=>LV.rec (motive:=fun _=>LV) (.nd (f CV.any) CV.any CV.any CV.any CV.any CV.any CV.any CV.any CV.any CV.any CV.any CV.any CV.any CV.any CV.any CV.any) (fun c0 c1 c2 c3 c4 c5 c6 c7 c8 c9 c10 c11 c12 c13 c14 c15=>.nd (f c0) c1 c2 c3 c4 c5 c6 c7 c8 c9 c10 c11 c12 c13 c14 c15) t)
  (fun f t=>LV.rec (motive:=fun _=>LV) (.nd CV.any (f CV.any) CV.any CV.any CV.any CV.any CV.any CV.any CV.any CV.any CV.any CV.any CV.any CV.any CV.any CV.any) (fun c0 c1 c2 c3 c4 c5 c6 c7 c8 c9 c10 c11 c12 c13 c14 c15=>.nd c0 (f c1) c2 c3 c4 c5 c6 c7 c8 c9 c10 c11 c12 c13 c14 c15) t)
  (fun f t=>LV.rec (motive:=fun _=>LV) (.nd CV.any CV.any (f CV.any) CV.any CV.any CV.any CV.any CV.any CV.any CV.any CV.any CV.any CV.any CV.any CV.any CV.any) (fun c0 c1 c2 c3 c4 c5 c6 c7 c8 c9 c10 c11 c12 c13 c14 c15=>.nd c0 c1 (f c2) c3 c4 c5 c6 c7 c8 c9 c10 c11 c12 c13 c14 c15) t)
  (fun f t=>LV.rec (motive:=fun _=>LV) (.nd CV.any CV.any CV.any (f CV.any) CV.any CV.any CV.any CV.any CV.any CV.any CV.any CV.any CV.any CV.any CV.any CV.any) (fun c0 c1 c2 c3 c4 c5 c6 c7 c8 c9 c10 c11 c12 c13 c14 c15=>.nd c0 c1 c2 (f c3) c4 c5 c6 c7 c8 c9 c10 c11 c12 c13 c14 c15) t)
  (fun f t=>LV.rec (motive:=fun _=>LV) (.nd CV.any CV.any CV.any CV.any (f CV.any) CV.any CV.any CV.any CV.any CV.any CV.any CV.any CV.any CV.any CV.any CV.any) (fun c0 c1 c2 c3 c4 c5 c6 c7 c8 c9 c10 c11 c12 c13 c14 c15=>.nd c0 c1 c2 c3 (f c4) c5 c6 c7 c8 c9 c10 c11 c12 c13 c14 c15) t)
  (fun f t=>LV.rec (motive:=fun _=>LV) (.nd CV.any CV.any CV.any CV.any CV.any (f CV.any) CV.any CV.any CV.any CV.any CV.any CV.any CV.any CV.any CV.any CV.any) (fun c0 c1 c2 c3 c4 c5 c6 c7 c8 c9 c10 c11 c12 c13 c14 c15=>.nd c0 c1 c2 c3 c4 (f c5) c6 c7 c8 c9 c10 c11 c12 c13 c14 c15) t)
  (fun f t=>LV.rec (motive:=fun _=>LV) (.nd CV.any CV.any CV.any CV.any CV.any CV.any (f CV.any) CV.any CV.any CV.any CV.any CV.any CV.any CV.any CV.any CV.any) (fun c0 c1 c2 c3 c4 c5 c6 c7 c8 c9 c10 c11 c12 c13 c14 c15=>.nd c0 c1 c2 c3 c4 c5 (f c6) c7 c8 c9 c10 c11 c12 c13 c14 c15) t)
  (fun f t=>LV.rec (motive:=fun _=>LV) (.nd CV.any CV.any CV.any CV.any CV.any CV.any CV.any (f CV.any) CV.any CV.any CV.any CV.any CV.any CV.any CV.any CV.any) (fun c0 c1 c2 c3 c4 c5 c6 c7 c8 c9 c10 c11 c12 c13 c14 c15=>.nd c0 c1 c2 c3 c4 c5 c6 (f c7) c8 c9 c10 c11 c12 c13 c14 c15) t)
  (fun f t=>LV.rec (motive:=fun _=>LV) (.nd CV.any CV.any CV.any CV.any CV.any CV.any CV.any CV.any (f CV.any) CV.any CV.any CV.any CV.any CV.any CV.any CV.any) (fun c0 c1 c2 c3 c4 c5 c6 c7 c8 c9 c10 c11 c12 c13 c14 c15=>.nd c0 c1 c2 c3 c4 c5 c6 c7 (f c8) c9 c10 c11 c12 c13 c14 c15) t)
  (fun f t=>LV.rec (motive:=fun _=>LV) (.nd CV.any CV.any CV.any CV.any CV.any CV.any CV.any CV.any CV.any (f CV.any) CV.any CV.any CV.any CV.any CV.any CV.any) (fun c0 c1 c2 c3 c4 c5 c6 c7 c8 c9 c10 c11 c12 c13 c14 c15=>.nd c0 c1 c2 c3 c4 c5 c6 c7 c8 (f c9) c10 c11 c12 c13 c14 c15) t)
  (fun f t=>LV.rec (motive:=fun _=>LV) (.nd CV.any CV.any CV.any CV.any CV.any CV.any CV.any CV.any CV.any CV.any (f CV.any) CV.any CV.any CV.any CV.any CV.any) (fun c0 c1 c2 c3 c4 c5 c6 c7 c8 c9 c10 c11 c12 c13 c14 c15=>.nd c0 c1 c2 c3 c4 c5 c6 c7 c8 c9 (f c10) c11 c12 c13 c14 c15) t)
  (fun f t=>LV.rec (motive:=fun _=>LV) (.nd CV.any CV.any CV.any CV.any CV.any CV.any CV.any CV.any CV.any CV.any CV.any (f CV.any) CV.any CV.any CV.any CV.any) (fun c0 c1 c2 c3 c4 c5 c6 c7 c8 c9 c10 c11 c12 c13 c14 c15=>.nd c0 c1 c2 c3 c4 c5 c6 c7 c8 c9 c10 (f c11) c12 c13 c14 c15) t)
  (fun f t=>LV.rec (motive:=fun _=>LV) (.nd CV.any CV.any CV.any CV.any CV.any CV.any CV.any CV.any CV.any CV.any CV.any CV.any (f CV.any) CV.any CV.any CV.any) (fun c0 c1 c2 c3 c4 c5 c6 c7 c8 c9 c10 c11 c12 c13 c14 c15=>.nd c0 c1 c2 c3 c4 c5 c6 c7 c8 c9 c10 c11 (f c12) c13 c14 c15) t)
  (fun f t=>LV.rec (motive:=fun _=>LV) (.nd CV.any CV.any CV.any CV.any CV.any CV.any CV.any CV.any CV.any CV.any CV.any CV.any CV.any (f CV.any) CV.any CV.any) (fun c0 c1 c2 c3 c4 c5 c6 c7 c8 c9 c10 c11 c12 c13 c14 c15=>.nd c0 c1 c2 c3 c4 c5 c6 c7 c8 c9 c10 c11 c12 (f c13) c14 c15) t)
  (fun f t=>LV.rec (motive:=fun _=>LV) (.nd CV.any CV.any CV.any CV.any CV.any CV.any CV.any CV.any CV.any CV.any CV.any CV.any CV.any CV.any (f CV.any) CV.any) (fun c0 c1 c2 c3 c4 c5 c6 c7 c8 c9 c10 c11 c12 c13 c14 c15=>.nd c0 c1 c2 c3 c4 c5 c6 c7 c8 c9 c10 c11 c12 c13 (f c14) c15) t)
  (fun f t=>LV.rec (motive:=fun _=>LV) (.nd CV.any CV.any CV.any CV.any CV.any CV.any CV.any CV.any CV.any CV.any CV.any CV.any CV.any CV.any CV.any (f CV.any)) (fun c0 c1 c2 c3 c4 c5 c6 c7 c8 c9 c10 c11 c12 c13 c14 c15=>.nd c0 c1 c2 c3 c4 c5 c6 c7 c8 c9 c10 c11 c12 c13 c14 (f c15)) t) d f t
inductive L1 where
 | nil
 | nd (c0 c1 c2 c3 c4 c5 c6 c7 c8 c9 c10 c11 c12 c13 c14 c15:LV)
def L1.get (d:Dg) (t:L1):LV:=
 Dg.rec (motive:=fun _=>L1→LV)
  (fun t=>L1.rec (motive:=fun _=>LV) LV.nil (fun c0 _ _ _ _ _ _ _ _ _ _ _ _ _ _ _=>c0) t)
  (fun t=>L1.rec (motive:=fun _=>LV) LV.nil (fun _ c1 _ _ _ _ _ _ _ _ _ _ _ _ _ _=>c1) t)
  (fun t=>L1.rec (motive:=fun _=>LV) LV.nil (fun _ _ c2 _ _ _ _ _ _ _ _ _ _ _ _ _=>c2) t)
  (fun t=>L1.rec (motive:=fun _=>LV) LV.nil (fun _ _ _ c3 _ _ _ _ _ _ _ _ _ _ _ _=>c3) t)
  (fun t=>L1.rec (motive:=fun _=>LV) LV.nil (fun _ _ _ _ c4 _ _ _ _ _ _ _ _ _ _ _=>c4) t)
  (fun t=>L1.rec (motive:=fun _=>LV) LV.nil (fun _ _ _ _ _ c5 _ _ _ _ _ _ _ _ _ _=>c5) t)
  (fun t=>L1.rec (motive:=fun _=>LV) LV.nil (fun _ _ _ _ _ _ c6 _ _ _ _ _ _ _ _ _=>c6) t)
  (fun t=>L1.rec (motive:=fun _=>LV) LV.nil (fun _ _ _ _ _ _ _ c7 _ _ _ _ _ _ _ _=>c7) t)
  (fun t=>L1.rec (motive:=fun _=>LV) LV.nil (fun _ _ _ _ _ _ _ _ c8 _ _ _ _ _ _ _=>c8) t)
  (fun t=>L1.rec (motive:=fun _=>LV) LV.nil (fun _ _ _ _ _ _ _ _ _ c9 _ _ _ _ _ _=>c9) t)
  (fun t=>L1.rec (motive:=fun _=>LV) LV.nil (fun _ _ _ _ _ _ _ _ _ _ c10 _ _ _ _ _=>c10) t)
  (fun t=>L1.rec (motive:=fun _=>LV) LV.nil (fun _ _ _ _ _ _ _ _ _ _ _ c11 _ _ _ _=>c11) t)
  (fun t=>L1.rec (motive:=fun _=>LV) LV.nil (fun _ _ _ _ _ _ _ _ _ _ _ _ c12 _ _ _=>c12) t)
  (fun t=>L1.rec (motive:=fun _=>LV) LV.nil (fun _ _ _ _ _ _ _ _ _ _ _ _ _ c13 _ _=>c13) t)
  (fun t=>L1.rec (motive:=fun _=>LV) LV.nil (fun _ _ _ _ _ _ _ _ _ _ _ _ _ _ c14 _=>c14) t)
  (fun t=>L1.rec (motive:=fun _=>LV) LV.nil (fun _ _ _ _ _ _ _ _ _ _ _ _ _ _ _ c15=>c15) t) d t
def L1.upd (f:LV→LV) (d:Dg) (t:L1):L1:=
 Dg.rec (motive:=fun _=>(LV→LV)→L1→L1)
  (fun f t=>L1.rec (motive:=fun _=>L1) (.nd (f LV.nil) LV.nil LV.nil LV.nil LV.nil LV.nil LV.nil LV.nil LV.nil LV.nil LV.nil LV.nil LV.nil LV.nil LV.nil LV.nil) (fun c0 c1 c2 c3 c4 c5 c6 c7 c8 c9 c10 c11 c12 c13 c14 c15=>.nd (f c0) c1 c2 c3 c4 c5 c6 c7 c8 c9 c10 c11 c12 c13 c14 c15) t)
  (fun f t=>L1.rec (motive:=fun _=>L1) (.nd LV.nil (f LV.nil) LV.nil LV.nil LV.nil LV.nil LV.nil LV.nil LV.nil LV.nil LV.nil LV.nil LV.nil LV.nil LV.nil LV.nil) (fun c0 c1 c2 c3 c4 c5 c6 c7 c8 c9 c10 c11 c12 c13 c14 c15=>.nd c0 (f c1) c2 c3 c4 c5 c6 c7 c8 c9 c10 c11 c12 c13 c14 c15) t)
  (fun f t=>L1.rec (motive:=fun _=>L1) (.nd LV.nil LV.nil (f LV.nil) LV.nil LV.nil LV.nil LV.nil LV.nil LV.nil LV.nil LV.nil LV.nil LV.nil LV.nil LV.nil LV.nil) (fun c0 c1 c2 c3 c4 c5 c6 c7 c8 c9 c10 c11 c12 c13 c14 c15=>.nd c0 c1 (f c2) c3 c4 c5 c6 c7 c8 c9 c10 c11 c12 c13 c14 c15) t)
  (fun f t=>L1.rec (motive:=fun _=>L1) (.nd LV.nil LV.nil LV.nil (f LV.nil) LV.nil LV.nil LV.nil LV.nil LV.nil LV.nil LV.nil LV.nil LV.nil LV.nil LV.nil LV.nil) (fun c0 c1 c2 c3 c4 c5 c6 c7 c8 c9 c10 c11 c12 c13 c14 c15=>.nd c0 c1 c2 (f c3) c4 c5 c6 c7 c8 c9 c10 c11 c12 c13 c14 c15) t)
  (fun f t=>L1.rec (motive:=fun _=>L1) (.nd LV.nil LV.nil LV.nil LV.nil (f LV.nil) LV.nil LV.nil LV.nil LV.nil LV.nil LV.nil LV.nil LV.nil LV.nil LV.nil LV.nil) (fun c0 c1 c2 c3 c4 c5 c6 c7 c8 c9 c10 c11 c12 c13 c14 c15=>.nd c0 c1 c2 c3 (f c4) c5 c6 c7 c8 c9 c10 c11 c12 c13 c14 c15) t)
  (fun f t=>L1.rec (motive:=fun _=>L1) (.nd LV.nil LV.nil LV.nil LV.nil LV.nil (f LV.nil) LV.nil LV.nil LV.nil LV.nil LV.nil LV.nil LV.nil LV.nil LV.nil LV.nil) (fun c0 c1 c2 c3 c4 c5 c6 c7 c8 c9 c10 c11 c12 c13 c14 c15=>.nd c0 c1 c2 c3 c4 (f c5) c6 c7 c8 c9 c10 c11 c12 c13 c14 c15) t)
  (fun f t=>L1.rec (motive:=fun _=>L1) (.nd LV.nil LV.nil LV.nil LV.nil LV.nil LV.nil (f LV.nil) LV.nil LV.nil LV.nil LV.nil LV.nil LV.nil LV.nil LV.nil LV.nil) (fun c0 c1 c2 c3 c4 c5 c6 c7 c8 c9 c10 c11 c12 c13 c14 c15=>.nd c0 c1 c2 c3 c4 c5 (f c6) c7 c8 c9 c10 c11 c12 c13 c14 c15) t)
  (fun f t=>L1.rec (motive:=fun _=>L1) (.nd LV.nil LV.nil LV.nil LV.nil LV.nil LV.nil LV.nil (f LV.nil) LV.nil LV.nil LV.nil LV.nil LV.nil LV.nil LV.nil LV.nil) (fun c0 c1 c2 c3 c4 c5 c6 c7 c8 c9 c10 c11 c12 c13 c14 c15=>.nd c0 c1 c2 c3 c4 c5 c6 (f c7) c8 c9 c10 c11 c12 c13 c14 c15) t)
  (fun f t=>L1.rec (motive:=fun _=>L1) (.nd LV.nil LV.nil LV.nil LV.nil LV.nil LV.nil LV.nil LV.nil (f LV.nil) LV.nil LV.nil LV.nil LV.nil LV.nil LV.nil LV.nil) (fun c0 c1 c2 c3 c4 c5 c6 c7 c8 c9 c10 c11 c12 c13 c14 c15=>.nd c0 c1 c2 c3 c4 c5 c6 c7 (f c8) c9 c10 c11 c12 c13 c14 c15) t)
  (fun f t=>L1.rec (motive:=fun _=>L1) (.nd LV.nil LV.nil LV.nil LV.nil LV.nil LV.nil LV.nil LV.nil LV.nil (f LV.nil) LV.nil LV.nil LV.nil LV.nil LV.nil LV.nil) (fun c0 c1 c2 c3 c4 c5 c6 c7 c8 c9 c10 c11 c12 c13 c14 c15=>.nd c0 c1 c2 c3 c4 c5 c6 c7 c8 (f c9) c10 c11 c12 c13 c14 c15) t)
  (fun f t=>L1.rec (motive:=fun _=>L1) (.nd LV.nil LV.nil LV.nil LV.nil LV.nil LV.nil LV.nil LV.nil LV.nil LV.nil (f LV.nil) LV.nil LV.nil LV.nil LV.nil LV.nil) (fun c0 c1 c2 c3 c4 c5 c6 c7 c8 c9 c10 c11 c12 c13 c14 c15=>.nd c0 c1 c2 c3 c4 c5 c6 c7 c8 c9 (f c10) c11 c12 c13 c14 c15) t)
  (fun f t=>L1.rec (motive:=fun _=>L1) (.nd LV.nil LV.nil LV.nil LV.nil LV.nil LV.nil LV.nil LV.nil LV.nil LV.nil LV.nil (f LV.nil) LV.nil LV.nil LV.nil LV.nil) (fun c0 c1 c2 c3 c4 c5 c6 c7 c8 c9 c10 c11 c12 c13 c14 c15=>.nd c0 c1 c2 c3 c4 c5 c6 c7 c8 c9 c10 (f c11) c12 c13 c14 c15) t)
  (fun f t=>L1.rec (motive:=fun _=>L1) (.nd LV.nil LV.nil LV.nil LV.nil LV.nil LV.nil LV.nil LV.nil LV.nil LV.nil LV.nil LV.nil (f LV.nil) LV.nil LV.nil LV.nil) (fun c0 c1 c2 c3 c4 c5 c6 c7 c8 c9 c10 c11 c12 c13 c14 c15=>.nd c0 c1 c2 c3 c4 c5 c6 c7 c8 c9 c10 c11 (f c12) c13 c14 c15) t)
  (fun f t=>L1.rec (motive:=fun _=>L1) (.nd LV.nil LV.nil LV.nil LV.nil LV.nil LV.nil LV.nil LV.nil LV.nil LV.nil LV.nil LV.nil LV.nil (f LV.nil) LV.nil LV.nil) (fun c0 c1 c2 c3 c4 c5 c6 c7 c8 c9 c10 c11 c12 c13 c14 c15=>.nd c0 c1 c2 c3 c4 c5 c6 c7 c8 c9 c10 c11 c12 (f c13) c14 c15) t)
  (fun f t=>L1.rec (motive:=fun _=>L1) (.nd LV.nil LV.nil LV.nil LV.nil LV.nil LV.nil LV.nil LV.nil LV.nil LV.nil LV.nil LV.nil LV.nil LV.nil (f LV.nil) LV.nil) (fun c0 c1 c2 c3 c4 c5 c6 c7 c8 c9 c10 c11 c12 c13 c14 c15=>.nd c0 c1 c2 c3 c4 c5 c6 c7 c8 c9 c10 c11 c12 c13 (f c14) c15) t)
  (fun f t=>L1.rec (motive:=fun _=>L1) (.nd LV.nil LV.nil LV.nil LV.nil LV.nil LV.nil LV.nil LV.nil LV.nil LV.nil LV.nil LV.nil LV.nil LV.nil LV.nil (f LV.nil)) (fun c0 c1 c2 c3 c4 c5 c6 c7 c8 c9 c10 c11 c12 c13 c14 c15=>.nd c0 c1 c2 c3 c4 c5 c6 c7 c8 c9 c10 c11 c12 c13 c14 (f c15)) t) d f t
inductive HV where
 | nil
 | nd (c0 c1 c2 c3 c4 c5 c6 c7 c8 c9 c10 c11 c12 c13 c14 c15:Option CObj)
def HV.get (d:Dg) (t:HV):Option CObj:=
 Dg.rec (motive:=fun _=>HV→Option CObj)
  (fun t=>HV.rec (motive:=fun _=>Option CObj) none (fun c0 _ _ _ _ _ _ _ _ _ _ _ _ _ _ _=>c0) t)
  (fun t=>HV.rec (motive:=fun _=>Option CObj) none (fun _ c1 _ _ _ _ _ _ _ _ _ _ _ _ _ _=>c1) t)
  (fun t=>HV.rec (motive:=fun _=>Option CObj) none (fun _ _ c2 _ _ _ _ _ _ _ _ _ _ _ _ _=>c2) t)
  (fun t=>HV.rec (motive:=fun _=>Option CObj) none (fun _ _ _ c3 _ _ _ _ _ _ _ _ _ _ _ _=>c3) t)
  (fun t=>HV.rec (motive:=fun _=>Option CObj) none (fun _ _ _ _ c4 _ _ _ _ _ _ _ _ _ _ _=>c4) t)
  (fun t=>HV.rec (motive:=fun _=>Option CObj) none (fun _ _ _ _ _ c5 _ _ _ _ _ _ _ _ _ _=>c5) t)
  (fun t=>HV.rec (motive:=fun _=>Option CObj) none (fun _ _ _ _ _ _ c6 _ _ _ _ _ _ _ _ _=>c6) t)
  (fun t=>HV.rec (motive:=fun _=>Option CObj) none (fun _ _ _ _ _ _ _ c7 _ _ _ _ _ _ _ _=>c7) t)
  (fun t=>HV.rec (motive:=fun _=>Option CObj) none (fun _ _ _ _ _ _ _ _ c8 _ _ _ _ _ _ _=>c8) t)
  (fun t=>HV.rec (motive:=fun _=>Option CObj) none (fun _ _ _ _ _ _ _ _ _ c9 _ _ _ _ _ _=>c9) t)
  (fun t=>HV.rec (motive:=fun _=>Option CObj) none (fun _ _ _ _ _ _ _ _ _ _ c10 _ _ _ _ _=>c10) t)
  (fun t=>HV.rec (motive:=fun _=>Option CObj) none (fun _ _ _ _ _ _ _ _ _ _ _ c11 _ _ _ _=>c11) t)
  (fun t=>HV.rec (motive:=fun _=>Option CObj) none (fun _ _ _ _ _ _ _ _ _ _ _ _ c12 _ _ _=>c12) t)
  (fun t=>HV.rec (motive:=fun _=>Option CObj) none (fun _ _ _ _ _ _ _ _ _ _ _ _ _ c13 _ _=>c13) t)
  (fun t=>HV.rec (motive:=fun _=>Option CObj) none (fun _ _ _ _ _ _ _ _ _ _ _ _ _ _ c14 _=>c14) t)
  (fun t=>HV.rec (motive:=fun _=>Option CObj) none (fun _ _ _ _ _ _ _ _ _ _ _ _ _ _ _ c15=>c15) t) d t
def HV.upd (f:Option CObj→Option CObj) (d:Dg) (t:HV):HV:=
 Dg.rec (motive:=fun _=>(Option CObj→Option CObj)→HV→HV)
  (fun f t=>HV.rec (motive:=fun _=>HV) (.nd (f none) none none none none none none none none none none none none none none none) (fun c0 c1 c2 c3 c4 c5 c6 c7 c8 c9 c10 c11 c12 c13 c14 c15=>.nd (f c0) c1 c2 c3 c4 c5 c6 c7 c8 c9 c10 c11 c12 c13 c14 c15) t)
  (fun f t=>HV.rec (motive:=fun _=>HV) (.nd none (f none) none none none none none none none none none none none none none none) (fun c0 c1 c2 c3 c4 c5 c6 c7 c8 c9 c10 c11 c12 c13 c14 c15=>.nd c0 (f c1) c2 c3 c4 c5 c6 c7 c8 c9 c10 c11 c12 c13 c14 c15) t)
  (fun f t=>HV.rec (motive:=fun _=>HV) (.nd none none (f none) none none none none none none none none none none none none none) (fun c0 c1 c2 c3 c4 c5 c6 c7 c8 c9 c10 c11 c12 c13 c14 c15=>.nd c0 c1 (f c2) c3 c4 c5 c6 c7 c8 c9 c10 c11 c12 c13 c14 c15) t)
  (fun f t=>HV.rec (motive:=fun _=>HV) (.nd none none none (f none) none none none none none none none none none none none none) (fun c0 c1 c2 c3 c4 c5 c6 c7 c8 c9 c10 c11 c12 c13 c14 c15=>.nd c0 c1 c2 (f c3) c4 c5 c6 c7 c8 c9 c10 c11 c12 c13 c14 c15) t)
  (fun f t=>HV.rec (motive:=fun _=>HV) (.nd none none none none (f none) none none none none none none none none none none none) (fun c0 c1 c2 c3 c4 c5 c6 c7 c8 c9 c10 c11 c12 c13 c14 c15=>.nd c0 c1 c2 c3 (f c4) c5 c6 c7 c8 c9 c10 c11 c12 c13 c14 c15) t)
  (fun f t=>HV.rec (motive:=fun _=>HV) (.nd none none none none none (f none) none none none none none none none none none none) (fun c0 c1 c2 c3 c4 c5 c6 c7 c8 c9 c10 c11 c12 c13 c14 c15=>.nd c0 c1 c2 c3 c4 (f c5) c6 c7 c8 c9 c10 c11 c12 c13 c14 c15) t)
  (fun f t=>HV.rec (motive:=fun _=>HV) (.nd none none none none none none (f none) none none none none none none none none none) (fun c0 c1 c2 c3 c4 c5 c6 c7 c8 c9 c10 c11 c12 c13 c14 c15=>.nd c0 c1 c2 c3 c4 c5 (f c6) c7 c8 c9 c10 c11 c12 c13 c14 c15) t)
  (fun f t=>HV.rec (motive:=fun _=>HV) (.nd none none none none none none none (f none) none none none none none none none none) (fun c0 c1 c2 c3 c4 c5 c6 c7 c8 c9 c10 c11 c12 c13 c14 c15=>.nd c0 c1 c2 c3 c4 c5 c6 (f c7) c8 c9 c10 c11 c12 c13 c14 c15) t)
  (fun f t=>HV.rec (motive:=fun _=>HV) (.nd none none none none none none none none (f none) none none none none none none none) (fun c0 c1 c2 c3 c4 c5 c6 c7 c8 c9 c10 c11 c12 c13 c14 c15=>.nd c0 c1 c2 c3 c4 c5 c6 c7 (f c8) c9 c10 c11 c12 c13 c14 c15) t)
  (fun f t=>HV.rec (motive:=fun _=>HV) (.nd none none none none none none none none none (f none) none none none none none none) (fun c0 c1 c2 c3 c4 c5 c6 c7 c8 c9 c10 c11 c12 c13 c14 c15=>.nd c0 c1 c2 c3 c4 c5 c6 c7 c8 (f c9) c10 c11 c12 c13 c14 c15) t)
  (fun f t=>HV.rec (motive:=fun _=>HV) (.nd none none none none none none none none none none (f none) none none none none none) (fun c0 c1 c2 c3 c4 c5 c6 c7 c8 c9 c10 c11 c12 c13 c14 c15=>.nd c0 c1 c2 c3 c4 c5 c6 c7 c8 c9 (f c10) c11 c12 c13 c14 c15) t)
  (fun f t=>HV.rec (motive:=fun _=>HV) (.nd none none none none none none none none none none none (f none) none none none none) (fun c0 c1 c2 c3 c4 c5 c6 c7 c8 c9 c10 c11 c12 c13 c14 c15=>.nd c0 c1 c2 c3 c4 c5 c6 c7 c8 c9 c10 (f c11) c12 c13 c14 c15) t)
  (fun f t=>HV.rec (motive:=fun _=>HV) (.nd none none none none none none none none none none none none (f none) none none none) (fun c0 c1 c2 c3 c4 c5 c6 c7 c8 c9 c10 c11 c12 c13 c14 c15=>.nd c0 c1 c2 c3 c4 c5 c6 c7 c8 c9 c10 c11 (f c12) c13 c14 c15) t)
  (fun f t=>HV.rec (motive:=fun _=>HV) (.nd none none none none none none none none none none none none none (f none) none none) (fun c0 c1 c2 c3 c4 c5 c6 c7 c8 c9 c10 c11 c12 c13 c14 c15=>.nd c0 c1 c2 c3 c4 c5 c6 c7 c8 c9 c10 c11 c12 (f c13) c14 c15) t)
  (fun f t=>HV.rec (motive:=fun _=>HV) (.nd none none none none none none none none none none none none none none (f none) none) (fun c0 c1 c2 c3 c4 c5 c6 c7 c8 c9 c10 c11 c12 c13 c14 c15=>.nd c0 c1 c2 c3 c4 c5 c6 c7 c8 c9 c10 c11 c12 c13 (f c14) c15) t)
  (fun f t=>HV.rec (motive:=fun _=>HV) (.nd none none none none none none none none none none none none none none none (f none)) (fun c0 c1 c2 c3 c4 c5 c6 c7 c8 c9 c10 c11 c12 c13 c14 c15=>.nd c0 c1 c2 c3 c4 c5 c6 c7 c8 c9 c10 c11 c12 c13 c14 (f c15)) t) d f t
inductive H1 where
 | nil
 | nd (c0 c1 c2 c3 c4 c5 c6 c7 c8 c9 c10 c11 c12 c13 c14 c15:HV)
def H1.get (d:Dg) (t:H1):HV:=
 Dg.rec (motive:=fun _=>H1→HV)
  (fun t=>H1.rec (motive:=fun _=>HV) HV.nil (fun c0 _ _ _ _ _ _ _ _ _ _ _ _ _ _ _=>c0) t)
  (fun t=>H1.rec (motive:=fun _=>HV) HV.nil (fun _ c1 _ _ _ _ _ _ _ _ _ _ _ _ _ _=>c1) t)
  (fun t=>H1.rec (motive:=fun _=>HV) HV.nil (fun _ _ c2 _ _ _ _ _ _ _ _ _ _ _ _ _=>c2) t)
  (fun t=>H1.rec (motive:=fun _=>HV) HV.nil (fun _ _ _ c3 _ _ _ _ _ _ _ _ _ _ _ _=>c3) t)
  (fun t=>H1.rec (motive:=fun _=>HV) HV.nil (fun _ _ _ _ c4 _ _ _ _ _ _ _ _ _ _ _=>c4) t)
  (fun t=>H1.rec (motive:=fun _=>HV) HV.nil (fun _ _ _ _ _ c5 _ _ _ _ _ _ _ _ _ _=>c5) t)
  (fun t=>H1.rec (motive:=fun _=>HV) HV.nil (fun _ _ _ _ _ _ c6 _ _ _ _ _ _ _ _ _=>c6) t)
  (fun t=>H1.rec (motive:=fun _=>HV) HV.nil (fun _ _ _ _ _ _ _ c7 _ _ _ _ _ _ _ _=>c7) t)
  (fun t=>H1.rec (motive:=fun _=>HV) HV.nil (fun _ _ _ _ _ _ _ _ c8 _ _ _ _ _ _ _=>c8) t)
  (fun t=>H1.rec (motive:=fun _=>HV) HV.nil (fun _ _ _ _ _ _ _ _ _ c9 _ _ _ _ _ _=>c9) t)
  (fun t=>H1.rec (motive:=fun _=>HV) HV.nil (fun _ _ _ _ _ _ _ _ _ _ c10 _ _ _ _ _=>c10) t)
  (fun t=>H1.rec (motive:=fun _=>HV) HV.nil (fun _ _ _ _ _ _ _ _ _ _ _ c11 _ _ _ _=>c11) t)
  (fun t=>H1.rec (motive:=fun _=>HV) HV.nil (fun _ _ _ _ _ _ _ _ _ _ _ _ c12 _ _ _=>c12) t)
  (fun t=>H1.rec (motive:=fun _=>HV) HV.nil (fun _ _ _ _ _ _ _ _ _ _ _ _ _ c13 _ _=>c13) t)
  (fun t=>H1.rec (motive:=fun _=>HV) HV.nil (fun _ _ _ _ _ _ _ _ _ _ _ _ _ _ c14 _=>c14) t)
  (fun t=>H1.rec (motive:=fun _=>HV) HV.nil (fun _ _ _ _ _ _ _ _ _ _ _ _ _ _ _ c15=>c15) t) d t
def H1.upd (f:HV→HV) (d:Dg) (t:H1):H1:=
 Dg.rec (motive:=fun _=>(HV→HV)→H1→H1)
  (fun f t=>H1.rec (motive:=fun _=>H1) (.nd (f HV.nil) HV.nil HV.nil HV.nil HV.nil HV.nil HV.nil HV.nil HV.nil HV.nil HV.nil HV.nil HV.nil HV.nil HV.nil HV.nil) (fun c0 c1 c2 c3 c4 c5 c6 c7 c8 c9 c10 c11 c12 c13 c14 c15=>.nd (f c0) c1 c2 c3 c4 c5 c6 c7 c8 c9 c10 c11 c12 c13 c14 c15) t)
  (fun f t=>H1.rec (motive:=fun _=>H1) (.nd HV.nil (f HV.nil) HV.nil HV.nil HV.nil HV.nil HV.nil HV.nil HV.nil HV.nil HV.nil HV.nil HV.nil HV.nil HV.nil HV.nil) (fun c0 c1 c2 c3 c4 c5 c6 c7 c8 c9 c10 c11 c12 c13 c14 c15=>.nd c0 (f c1) c2 c3 c4 c5 c6 c7 c8 c9 c10 c11 c12 c13 c14 c15) t)
  (fun f t=>H1.rec (motive:=fun _=>H1) (.nd HV.nil HV.nil (f HV.nil) HV.nil HV.nil HV.nil HV.nil HV.nil HV.nil HV.nil HV.nil HV.nil HV.nil HV.nil HV.nil HV.nil) (fun c0 c1 c2 c3 c4 c5 c6 c7 c8 c9 c10 c11 c12 c13 c14 c15=>.nd c0 c1 (f c2) c3 c4 c5 c6 c7 c8 c9 c10 c11 c12 c13 c14 c15) t)
  (fun f t=>H1.rec (motive:=fun _=>H1) (.nd HV.nil HV.nil HV.nil (f HV.nil) HV.nil HV.nil HV.nil HV.nil HV.nil HV.nil HV.nil HV.nil HV.nil HV.nil HV.nil HV.nil) (fun c0 c1 c2 c3 c4 c5 c6 c7 c8 c9 c10 c11 c12 c13 c14 c15=>.nd c0 c1 c2 (f c3) c4 c5 c6 c7 c8 c9 c10 c11 c12 c13 c14 c15) t)
  (fun f t=>H1.rec (motive:=fun _=>H1) (.nd HV.nil HV.nil HV.nil HV.nil (f HV.nil) HV.nil HV.nil HV.nil HV.nil HV.nil HV.nil HV.nil HV.nil HV.nil HV.nil HV.nil) (fun c0 c1 c2 c3 c4 c5 c6 c7 c8 c9 c10 c11 c12 c13 c14 c15=>.nd c0 c1 c2 c3 (f c4) c5 c6 c7 c8 c9 c10 c11 c12 c13 c14 c15) t)
  (fun f t=>H1.rec (motive:=fun _=>H1) (.nd HV.nil HV.nil HV.nil HV.nil HV.nil (f HV.nil) HV.nil HV.nil HV.nil HV.nil HV.nil HV.nil HV.nil HV.nil HV.nil HV.nil) (fun c0 c1 c2 c3 c4 c5 c6 c7 c8 c9 c10 c11 c12 c13 c14 c15=>.nd c0 c1 c2 c3 c4 (f c5) c6 c7 c8 c9 c10 c11 c12 c13 c14 c15) t)
  (fun f t=>H1.rec (motive:=fun _=>H1) (.nd HV.nil HV.nil HV.nil HV.nil HV.nil HV.nil (f HV.nil) HV.nil HV.nil HV.nil HV.nil HV.nil HV.nil HV.nil HV.nil HV.nil) (fun c0 c1 c2 c3 c4 c5 c6 c7 c8 c9 c10 c11 c12 c13 c14 c15=>.nd c0 c1 c2 c3 c4 c5 (f c6) c7 c8 c9 c10 c11 c12 c13 c14 c15) t)
  (fun f t=>H1.rec (motive:=fun _=>H1) (.nd HV.nil HV.nil HV.nil HV.nil HV.nil HV.nil HV.nil (f HV.nil) HV.nil HV.nil HV.nil HV.nil HV.nil HV.nil HV.nil HV.nil) (fun c0 c1 c2 c3 c4 c5 c6 c7 c8 c9 c10 c11 c12 c13 c14 c15=>.nd c0 c1 c2 c3 c4 c5 c6 (f c7) c8 c9 c10 c11 c12 c13 c14 c15) t)
  (fun f t=>H1.rec (motive:=fun _=>H1) (.nd HV.nil HV.nil HV.nil HV.nil HV.nil HV.nil HV.nil HV.nil (f HV.nil) HV.nil HV.nil HV.nil HV.nil HV.nil HV.nil HV.nil) (fun c0 c1 c2 c3 c4 c5 c6 c7 c8 c9 c10 c11 c12 c13 c14 c15=>.nd c0 c1 c2 c3 c4 c5 c6 c7 (f c8) c9 c10 c11 c12 c13 c14 c15) t)
  (fun f t=>H1.rec (motive:=fun _=>H1) (.nd HV.nil HV.nil HV.nil HV.nil HV.nil HV.nil HV.nil HV.nil HV.nil (f HV.nil) HV.nil HV.nil HV.nil HV.nil HV.nil HV.nil) (fun c0 c1 c2 c3 c4 c5 c6 c7 c8 c9 c10 c11 c12 c13 c14 c15=>.nd c0 c1 c2 c3 c4 c5 c6 c7 c8 (f c9) c10 c11 c12 c13 c14 c15) t)
  (fun f t=>H1.rec (motive:=fun _=>H1) (.nd HV.nil HV.nil HV.nil HV.nil HV.nil HV.nil HV.nil HV.nil HV.nil HV.nil (f HV.nil) HV.nil HV.nil HV.nil HV.nil HV.nil) (fun c0 c1 c2 c3 c4 c5 c6 c7 c8 c9 c10 c11 c12 c13 c14 c15=>.nd c0 c1 c2 c3 c4 c5 c6 c7 c8 c9 (f c10) c11 c12 c13 c14 c15) t)
  (fun f t=>H1.rec (motive:=fun _=>H1) (.nd HV.nil HV.nil HV.nil HV.nil HV.nil HV.nil HV.nil HV.nil HV.nil HV.nil HV.nil (f HV.nil) HV.nil HV.nil HV.nil HV.nil) (fun c0 c1 c2 c3 c4 c5 c6 c7 c8 c9 c10 c11 c12 c13 c14 c15=>.nd c0 c1 c2 c3 c4 c5 c6 c7 c8 c9 c10 (f c11) c12 c13 c14 c15) t)
  (fun f t=>H1.rec (motive:=fun _=>H1) (.nd HV.nil HV.nil HV.nil HV.nil HV.nil HV.nil HV.nil HV.nil HV.nil HV.nil HV.nil HV.nil (f HV.nil) HV.nil HV.nil HV.nil) (fun c0 c1 c2 c3 c4 c5 c6 c7 c8 c9 c10 c11 c12 c13 c14 c15=>.nd c0 c1 c2 c3 c4 c5 c6 c7 c8 c9 c10 c11 (f c12) c13 c14 c15) t)
  (fun f t=>H1.rec (motive:=fun _=>H1) (.nd HV.nil HV.nil HV.nil HV.nil HV.nil HV.nil HV.nil HV.nil HV.nil HV.nil HV.nil HV.nil HV.nil (f HV.nil) HV.nil HV.nil) (fun c0 c1 c2 c3 c4 c5 c6 c7 c8 c9 c10 c11 c12 c13 c14 c15=>.nd c0 c1 c2 c3 c4 c5 c6 c7 c8 c9 c10 c11 c12 (f c13) c14 c15) t)
  (fun f t=>H1.rec (motive:=fun _=>H1) (.nd HV.nil HV.nil HV.nil HV.nil HV.nil HV.nil HV.nil HV.nil HV.nil HV.nil HV.nil HV.nil HV.nil HV.nil (f HV.nil) HV.nil) (fun c0 c1 c2 c3 c4 c5 c6 c7 c8 c9 c10 c11 c12 c13 c14 c15=>.nd c0 c1 c2 c3 c4 c5 c6 c7 c8 c9 c10 c11 c12 c13 (f c14) c15) t)
  (fun f t=>H1.rec (motive:=fun _=>H1) (.nd HV.nil HV.nil HV.nil HV.nil HV.nil HV.nil HV.nil HV.nil HV.nil HV.nil HV.nil HV.nil HV.nil HV.nil HV.nil (f HV.nil)) (fun c0 c1 c2 c3 c4 c5 c6 c7 c8 c9 c10 c11 c12 c13 c14 c15=>.nd c0 c1 c2 c3 c4 c5 c6 c7 c8 c9 c10 c11 c12 c13 c14 (f c15)) t) d f t
inductive H2 where
 | nil
 | nd (c0 c1 c2 c3 c4 c5 c6 c7 c8 c9 c10 c11 c12 c13 c14 c15:H1)
def H2.get (d:Dg) (t:H2):H1:=
 Dg.rec (motive:=fun _=>H2→H1)
  (fun t=>H2.rec (motive:=fun _=>H1) H1.nil (fun c0 _ _ _ _ _ _ _ _ _ _ _ _ _ _ _=>c0) t)
  (fun t=>H2.rec (motive:=fun _=>H1) H1.nil (fun _ c1 _ _ _ _ _ _ _ _ _ _ _ _ _ _=>c1) t)
  (fun t=>H2.rec (motive:=fun _=>H1) H1.nil (fun _ _ c2 _ _ _ _ _ _ _ _ _ _ _ _ _=>c2) t)
  (fun t=>H2.rec (motive:=fun _=>H1) H1.nil (fun _ _ _ c3 _ _ _ _ _ _ _ _ _ _ _ _=>c3) t)
  (fun t=>H2.rec (motive:=fun _=>H1) H1.nil (fun _ _ _ _ c4 _ _ _ _ _ _ _ _ _ _ _=>c4) t)
  (fun t=>H2.rec (motive:=fun _=>H1) H1.nil (fun _ _ _ _ _ c5 _ _ _ _ _ _ _ _ _ _=>c5) t)
  (fun t=>H2.rec (motive:=fun _=>H1) H1.nil (fun _ _ _ _ _ _ c6 _ _ _ _ _ _ _ _ _=>c6) t)
  (fun t=>H2.rec (motive:=fun _=>H1) H1.nil (fun _ _ _ _ _ _ _ c7 _ _ _ _ _ _ _ _=>c7) t)
  (fun t=>H2.rec (motive:=fun _=>H1) H1.nil (fun _ _ _ _ _ _ _ _ c8 _ _ _ _ _ _ _=>c8) t)
  (fun t=>H2.rec (motive:=fun _=>H1) H1.nil (fun _ _ _ _ _ _ _ _ _ c9 _ _ _ _ _ _=>c9) t)
  (fun t=>H2.rec (motive:=fun _=>H1) H1.nil (fun _ _ _ _ _ _ _ _ _ _ c10 _ _ _ _ _=>c10) t)
  (fun t=>H2.rec (motive:=fun _=>H1) H1.nil (fun _ _ _ _ _ _ _ _ _ _ _ c11 _ _ _ _=>c11) t)
  (fun t=>H2.rec (motive:=fun _=>H1) H1.nil (fun _ _ _ _ _ _ _ _ _ _ _ _ c12 _ _ _=>c12) t)
  (fun t=>H2.rec (motive:=fun _=>H1) H1.nil (fun _ _ _ _ _ _ _ _ _ _ _ _ _ c13 _ _=>c13) t)
  (fun t=>H2.rec (motive:=fun _=>H1) H1.nil (fun _ _ _ _ _ _ _ _ _ _ _ _ _ _ c14 _=>c14) t)
  (fun t=>H2.rec (motive:=fun _=>H1) H1.nil (fun _ _ _ _ _ _ _ _ _ _ _ _ _ _ _ c15=>c15) t) d t
def H2.upd (f:H1→H1) (d:Dg) (t:H2):H2:=
 Dg.rec (motive:=fun _=>(H1→H1)→H2→H2)
  (fun f t=>H2.rec (motive:=fun _=>H2) (.nd (f H1.nil) H1.nil H1.nil H1.nil H1.nil H1.nil H1.nil H1.nil H1.nil H1.nil H1.nil H1.nil H1.nil H1.nil H1.nil H1.nil) (fun c0 c1 c2 c3 c4 c5 c6 c7 c8 c9 c10 c11 c12 c13 c14 c15=>.nd (f c0) c1 c2 c3 c4 c5 c6 c7 c8 c9 c10 c11 c12 c13 c14 c15) t)
  (fun f t=>H2.rec (motive:=fun _=>H2) (.nd H1.nil (f H1.nil) H1.nil H1.nil H1.nil H1.nil H1.nil H1.nil H1.nil H1.nil H1.nil H1.nil H1.nil H1.nil H1.nil H1.nil) (fun c0 c1 c2 c3 c4 c5 c6 c7 c8 c9 c10 c11 c12 c13 c14 c15=>.nd c0 (f c1) c2 c3 c4 c5 c6 c7 c8 c9 c10 c11 c12 c13 c14 c15) t)
  (fun f t=>H2.rec (motive:=fun _=>H2) (.nd H1.nil H1.nil (f H1.nil) H1.nil H1.nil H1.nil H1.nil H1.nil H1.nil H1.nil H1.nil H1.nil H1.nil H1.nil H1.nil H1.nil) (fun c0 c1 c2 c3 c4 c5 c6 c7 c8 c9 c10 c11 c12 c13 c14 c15=>.nd c0 c1 (f c2) c3 c4 c5 c6 c7 c8 c9 c10 c11 c12 c13 c14 c15) t)
  (fun f t=>H2.rec (motive:=fun _=>H2) (.nd H1.nil H1.nil H1.nil (f H1.nil) H1.nil H1.nil H1.nil H1.nil H1.nil H1.nil H1.nil H1.nil H1.nil H1.nil H1.nil H1.nil) (fun c0 c1 c2 c3 c4 c5 c6 c7 c8 c9 c10 c11 c12 c13 c14 c15=>.nd c0 c1 c2 (f c3) c4 c5 c6 c7 c8 c9 c10 c11 c12 c13 c14 c15) t)
  (fun f t=>H2.rec (motive:=fun _=>H2) (.nd H1.nil H1.nil H1.nil H1.nil (f H1.nil) H1.nil H1.nil H1.nil H1.nil H1.nil H1.nil H1.nil H1.nil H1.nil H1.nil H1.nil) (fun c0 c1 c2 c3 c4 c5 c6 c7 c8 c9 c10 c11 c12 c13 c14 c15=>.nd c0 c1 c2 c3 (f c4) c5 c6 c7 c8 c9 c10 c11 c12 c13 c14 c15) t)
  (fun f t=>H2.rec (motive:=fun _=>H2) (.nd H1.nil H1.nil H1.nil H1.nil H1.nil (f H1.nil) H1.nil H1.nil H1.nil H1.nil H1.nil H1.nil H1.nil H1.nil H1.nil H1.nil) (fun c0 c1 c2 c3 c4 c5 c6 c7 c8 c9 c10 c11 c12 c13 c14 c15=>.nd c0 c1 c2 c3 c4 (f c5) c6 c7 c8 c9 c10 c11 c12 c13 c14 c15) t)
  (fun f t=>H2.rec (motive:=fun _=>H2) (.nd H1.nil H1.nil H1.nil H1.nil H1.nil H1.nil (f H1.nil) H1.nil H1.nil H1.nil H1.nil H1.nil H1.nil H1.nil H1.nil H1.nil) (fun c0 c1 c2 c3 c4 c5 c6 c7 c8 c9 c10 c11 c12 c13 c14 c15=>.nd c0 c1 c2 c3 c4 c5 (f c6) c7 c8 c9 c10 c11 c12 c13 c14 c15) t)
  (fun f t=>H2.rec (motive:=fun _=>H2) (.nd H1.nil H1.nil H1.nil H1.nil H1.nil H1.nil H1.nil (f H1.nil) H1.nil H1.nil H1.nil H1.nil H1.nil H1.nil H1.nil H1.nil) (fun c0 c1 c2 c3 c4 c5 c6 c7 c8 c9 c10 c11 c12 c13 c14 c15=>.nd c0 c1 c2 c3 c4 c5 c6 (f c7) c8 c9 c10 c11 c12 c13 c14 c15) t)
  (fun f t=>H2.rec (motive:=fun _=>H2) (.nd H1.nil H1.nil H1.nil H1.nil H1.nil H1.nil H1.nil H1.nil (f H1.nil) H1.nil H1.nil H1.nil H1.nil H1.nil H1.nil H1.nil) (fun c0 c1 c2 c3 c4 c5 c6 c7 c8 c9 c10 c11 c12 c13 c14 c15=>.nd c0 c1 c2 c3 c4 c5 c6 c7 (f c8) c9 c10 c11 c12 c13 c14 c15) t)
  (fun f t=>H2.rec (motive:=fun _=>H2) (.nd H1.nil H1.nil H1.nil H1.nil H1.nil H1.nil H1.nil H1.nil H1.nil (f H1.nil) H1.nil H1.nil H1.nil H1.nil H1.nil H1.nil) (fun c0 c1 c2 c3 c4 c5 c6 c7 c8 c9 c10 c11 c12 c13 c14 c15=>.nd c0 c1 c2 c3 c4 c5 c6 c7 c8 (f c9) c10 c11 c12 c13 c14 c15) t)
  (fun f t=>H2.rec (motive:=fun _=>H2) (.nd H1.nil H1.nil H1.nil H1.nil H1.nil H1.nil H1.nil H1.nil H1.nil H1.nil (f H1.nil) H1.nil H1.nil H1.nil H1.nil H1.nil) (fun c0 c1 c2 c3 c4 c5 c6 c7 c8 c9 c10 c11 c12 c13 c14 c15=>.nd c0 c1 c2 c3 c4 c5 c6 c7 c8 c9 (f c10) c11 c12 c13 c14 c15) t)
  (fun f t=>H2.rec (motive:=fun _=>H2) (.nd H1.nil H1.nil H1.nil H1.nil H1.nil H1.nil H1.nil H1.nil H1.nil H1.nil H1.nil (f H1.nil) H1.nil H1.nil H1.nil H1.nil) (fun c0 c1 c2 c3 c4 c5 c6 c7 c8 c9 c10 c11 c12 c13 c14 c15=>.nd c0 c1 c2 c3 c4 c5 c6 c7 c8 c9 c10 (f c11) c12 c13 c14 c15) t)
  (fun f t=>H2.rec (motive:=fun _=>H2) (.nd H1.nil H1.nil H1.nil H1.nil H1.nil H1.nil H1.nil H1.nil H1.nil H1.nil H1.nil H1.nil (f H1.nil) H1.nil H1.nil H1.nil) (fun c0 c1 c2 c3 c4 c5 c6 c7 c8 c9 c10 c11 c12 c13 c14 c15=>.nd c0 c1 c2 c3 c4 c5 c6 c7 c8 c9 c10 c11 (f c12) c13 c14 c15) t)
  (fun f t=>H2.rec (motive:=fun _=>H2) (.nd H1.nil H1.nil H1.nil H1.nil H1.nil H1.nil H1.nil H1.nil H1.nil H1.nil H1.nil H1.nil H1.nil (f H1.nil) H1.nil H1.nil) (fun c0 c1 c2 c3 c4 c5 c6 c7 c8 c9 c10 c11 c12 c13 c14 c15=>.nd c0 c1 c2 c3 c4 c5 c6 c7 c8 c9 c10 c11 c12 (f c13) c14 c15) t)
  (fun f t=>H2.rec (motive:=fun _=>H2) (.nd H1.nil H1.nil H1.nil H1.nil H1.nil H1.nil H1.nil H1.nil H1.nil H1.nil H1.nil H1.nil H1.nil H1.nil (f H1.nil) H1.nil) (fun c0 c1 c2 c3 c4 c5 c6 c7 c8 c9 c10 c11 c12 c13 c14 c15=>.nd c0 c1 c2 c3 c4 c5 c6 c7 c8 c9 c10 c11 c12 c13 (f c14) c15) t)
  (fun f t=>H2.rec (motive:=fun _=>H2) (.nd H1.nil H1.nil H1.nil H1.nil H1.nil H1.nil H1.nil H1.nil H1.nil H1.nil H1.nil H1.nil H1.nil H1.nil H1.nil (f H1.nil)) (fun c0 c1 c2 c3 c4 c5 c6 c7 c8 c9 c10 c11 c12 c13 c14 c15=>.nd c0 c1 c2 c3 c4 c5 c6 c7 c8 c9 c10 c11 c12 c13 c14 (f c15)) t) d f t
inductive H3 where
 | nil
 | nd (c0 c1 c2 c3 c4 c5 c6 c7 c8 c9 c10 c11 c12 c13 c14 c15:H2)
def H3.get (d:Dg) (t:H3):H2:=
 Dg.rec (motive:=fun _=>H3→H2)
  (fun t=>H3.rec (motive:=fun _=>H2) H2.nil (fun c0 _ _ _ _ _ _ _ _ _ _ _ _ _ _ _=>c0) t)
  (fun t=>H3.rec (motive:=fun _=>H2) H2.nil (fun _ c1 _ _ _ _ _ _ _ _ _ _ _ _ _ _=>c1) t)
  (fun t=>H3.rec (motive:=fun _=>H2) H2.nil (fun _ _ c2 _ _ _ _ _ _ _ _ _ _ _ _ _=>c2) t)
  (fun t=>H3.rec (motive:=fun _=>H2) H2.nil (fun _ _ _ c3 _ _ _ _ _ _ _ _ _ _ _ _=>c3) t)
  (fun t=>H3.rec (motive:=fun _=>H2) H2.nil (fun _ _ _ _ c4 _ _ _ _ _ _ _ _ _ _ _=>c4) t)
  (fun t=>H3.rec (motive:=fun _=>H2) H2.nil (fun _ _ _ _ _ c5 _ _ _ _ _ _ _ _ _ _=>c5) t)
  (fun t=>H3.rec (motive:=fun _=>H2) H2.nil (fun _ _ _ _ _ _ c6 _ _ _ _ _ _ _ _ _=>c6) t)
  (fun t=>H3.rec (motive:=fun _=>H2) H2.nil (fun _ _ _ _ _ _ _ c7 _ _ _ _ _ _ _ _=>c7) t)
  (fun t=>H3.rec (motive:=fun _=>H2) H2.nil (fun _ _ _ _ _ _ _ _ c8 _ _ _ _ _ _ _=>c8) t)
  (fun t=>H3.rec (motive:=fun _=>H2) H2.nil (fun _ _ _ _ _ _ _ _ _ c9 _ _ _ _ _ _=>c9) t)
  (fun t=>H3.rec (motive:=fun _=>H2) H2.nil (fun _ _ _ _ _ _ _ _ _ _ c10 _ _ _ _ _=>c10) t)
  (fun t=>H3.rec (motive:=fun _=>H2) H2.nil (fun _ _ _ _ _ _ _ _ _ _ _ c11 _ _ _ _=>c11) t)
  (fun t=>H3.rec (motive:=fun _=>H2) H2.nil (fun _ _ _ _ _ _ _ _ _ _ _ _ c12 _ _ _=>c12) t)
  (fun t=>H3.rec (motive:=fun _=>H2) H2.nil (fun _ _ _ _ _ _ _ _ _ _ _ _ _ c13 _ _=>c13) t)
  (fun t=>H3.rec (motive:=fun _=>H2) H2.nil (fun _ _ _ _ _ _ _ _ _ _ _ _ _ _ c14 _=>c14) t)
  (fun t=>H3.rec (motive:=fun _=>H2) H2.nil (fun _ _ _ _ _ _ _ _ _ _ _ _ _ _ _ c15=>c15) t) d t
def H3.upd (f:H2→H2) (d:Dg) (t:H3):H3:=
 Dg.rec (motive:=fun _=>(H2→H2)→H3→H3)
  (fun f t=>H3.rec (motive:=fun _=>H3) (.nd (f H2.nil) H2.nil H2.nil H2.nil H2.nil H2.nil H2.nil H2.nil H2.nil H2.nil H2.nil H2.nil H2.nil H2.nil H2.nil H2.nil) (fun c0 c1 c2 c3 c4 c5 c6 c7 c8 c9 c10 c11 c12 c13 c14 c15=>.nd (f c0) c1 c2 c3 c4 c5 c6 c7 c8 c9 c10 c11 c12 c13 c14 c15) t)
  (fun f t=>H3.rec (motive:=fun _=>H3) (.nd H2.nil (f H2.nil) H2.nil H2.nil H2.nil H2.nil H2.nil H2.nil H2.nil H2.nil H2.nil H2.nil H2.nil H2.nil H2.nil H2.nil) (fun c0 c1 c2 c3 c4 c5 c6 c7 c8 c9 c10 c11 c12 c13 c14 c15=>.nd c0 (f c1) c2 c3 c4 c5 c6 c7 c8 c9 c10 c11 c12 c13 c14 c15) t)
  (fun f t=>H3.rec (motive:=fun _=>H3) (.nd H2.nil H2.nil (f H2.nil) H2.nil H2.nil H2.nil H2.nil H2.nil H2.nil H2.nil H2.nil H2.nil H2.nil H2.nil H2.nil H2.nil) (fun c0 c1 c2 c3 c4 c5 c6 c7 c8 c9 c10 c11 c12 c13 c14 c15=>.nd c0 c1 (f c2) c3 c4 c5 c6 c7 c8 c9 c10 c11 c12 c13 c14 c15) t)
  (fun f t=>H3.rec (motive:=fun _=>H3) (.nd H2.nil H2.nil H2.nil (f H2.nil) H2.nil H2.nil H2.nil H2.nil H2.nil H2.nil H2.nil H2.nil H2.nil H2.nil H2.nil H2.nil) (fun c0 c1 c2 c3 c4 c5 c6 c7 c8 c9 c10 c11 c12 c13 c14 c15=>.nd c0 c1 c2 (f c3) c4 c5 c6 c7 c8 c9 c10 c11 c12 c13 c14 c15) t)
  (fun f t=>H3.rec (motive:=fun _=>H3) (.nd H2.nil H2.nil H2.nil H2.nil (f H2.nil) H2.nil H2.nil H2.nil H2.nil H2.nil H2.nil H2.nil H2.nil H2.nil H2.nil H2.nil) (fun c0 c1 c2 c3 c4 c5 c6 c7 c8 c9 c10 c11 c12 c13 c14 c15=>.nd c0 c1 c2 c3 (f c4) c5 c6 c7 c8 c9 c10 c11 c12 c13 c14 c15) t)
  (fun f t=>H3.rec (motive:=fun _=>H3) (.nd H2.nil H2.nil H2.nil H2.nil H2.nil (f H2.nil) H2.nil H2.nil H2.nil H2.nil H2.nil H2.nil H2.nil H2.nil H2.nil H2.nil) (fun c0 c1 c2 c3 c4 c5 c6 c7 c8 c9 c10 c11 c12 c13 c14 c15=>.nd c0 c1 c2 c3 c4 (f c5) c6 c7 c8 c9 c10 c11 c12 c13 c14 c15) t)
  (fun f t=>H3.rec (motive:=fun _=>H3) (.nd H2.nil H2.nil H2.nil H2.nil H2.nil H2.nil (f H2.nil) H2.nil H2.nil H2.nil H2.nil H2.nil H2.nil H2.nil H2.nil H2.nil) (fun c0 c1 c2 c3 c4 c5 c6 c7 c8 c9 c10 c11 c12 c13 c14 c15=>.nd c0 c1 c2 c3 c4 c5 (f c6) c7 c8 c9 c10 c11 c12 c13 c14 c15) t)
  (fun f t=>H3.rec (motive:=fun _=>H3) (.nd H2.nil H2.nil H2.nil H2.nil H2.nil H2.nil H2.nil (f H2.nil) H2.nil H2.nil H2.nil H2.nil H2.nil H2.nil H2.nil H2.nil) (fun c0 c1 c2 c3 c4 c5 c6 c7 c8 c9 c10 c11 c12 c13 c14 c15=>.nd c0 c1 c2 c3 c4 c5 c6 (f c7) c8 c9 c10 c11 c12 c13 c14 c15) t)
  (fun f t=>H3.rec (motive:=fun _=>H3) (.nd H2.nil H2.nil H2.nil H2.nil H2.nil H2.nil H2.nil H2.nil (f H2.nil) H2.nil H2.nil H2.nil H2.nil H2.nil H2.nil H2.nil) (fun c0 c1 c2 c3 c4 c5 c6 c7 c8 c9 c10 c11 c12 c13 c14 c15=>.nd c0 c1 c2 c3 c4 c5 c6 c7 (f c8) c9 c10 c11 c12 c13 c14 c15) t)
  (fun f t=>H3.rec (motive:=fun _=>H3) (.nd H2.nil H2.nil H2.nil H2.nil H2.nil H2.nil H2.nil H2.nil H2.nil (f H2.nil) H2.nil H2.nil H2.nil H2.nil H2.nil H2.nil) (fun c0 c1 c2 c3 c4 c5 c6 c7 c8 c9 c10 c11 c12 c13 c14 c15=>.nd c0 c1 c2 c3 c4 c5 c6 c7 c8 (f c9) c10 c11 c12 c13 c14 c15) t)
  (fun f t=>H3.rec (motive:=fun _=>H3) (.nd H2.nil H2.nil H2.nil H2.nil H2.nil H2.nil H2.nil H2.nil H2.nil H2.nil (f H2.nil) H2.nil H2.nil H2.nil H2.nil H2.nil) (fun c0 c1 c2 c3 c4 c5 c6 c7 c8 c9 c10 c11 c12 c13 c14 c15=>.nd c0 c1 c2 c3 c4 c5 c6 c7 c8 c9 (f c10) c11 c12 c13 c14 c15) t)
  (fun f t=>H3.rec (motive:=fun _=>H3) (.nd H2.nil H2.nil H2.nil H2.nil H2.nil H2.nil H2.nil H2.nil H2.nil H2.nil H2.nil (f H2.nil) H2.nil H2.nil H2.nil H2.nil) (fun c0 c1 c2 c3 c4 c5 c6 c7 c8 c9 c10 c11 c12 c13 c14 c15=>.nd c0 c1 c2 c3 c4 c5 c6 c7 c8 c9 c10 (f c11) c12 c13 c14 c15) t)
  (fun f t=>H3.rec (motive:=fun _=>H3) (.nd H2.nil H2.nil H2.nil H2.nil H2.nil H2.nil H2.nil H2.nil H2.nil H2.nil H2.nil H2.nil (f H2.nil) H2.nil H2.nil H2.nil) (fun c0 c1 c2 c3 c4 c5 c6 c7 c8 c9 c10 c11 c12 c13 c14 c15=>.nd c0 c1 c2 c3 c4 c5 c6 c7 c8 c9 c10 c11 (f c12) c13 c14 c15) t)
  (fun f t=>H3.rec (motive:=fun _=>H3) (.nd H2.nil H2.nil H2.nil H2.nil H2.nil H2.nil H2.nil H2.nil H2.nil H2.nil H2.nil H2.nil H2.nil (f H2.nil) H2.nil H2.nil) (fun c0 c1 c2 c3 c4 c5 c6 c7 c8 c9 c10 c11 c12 c13 c14 c15=>.nd c0 c1 c2 c3 c4 c5 c6 c7 c8 c9 c10 c11 c12 (f c13) c14 c15) t)
  (fun f t=>H3.rec (motive:=fun _=>H3) (.nd H2.nil H2.nil H2.nil H2.nil H2.nil H2.nil H2.nil H2.nil H2.nil H2.nil H2.nil H2.nil H2.nil H2.nil (f H2.nil) H2.nil) (fun c0 c1 c2 c3 c4 c5 c6 c7 c8 c9 c10 c11 c12 c13 c14 c15=>.nd c0 c1 c2 c3 c4 c5 c6 c7 c8 c9 c10 c11 c12 c13 (f c14) c15) t)
  (fun f t=>H3.rec (motive:=fun _=>H3) (.nd H2.nil H2.nil H2.nil H2.nil H2.nil H2.nil H2.nil H2.nil H2.nil H2.nil H2.nil H2.nil H2.nil H2.nil H2.nil (f H2.nil)) (fun c0 c1 c2 c3 c4 c5 c6 c7 c8 c9 c10 c11 c12 c13 c14 c15=>.nd c0 c1 c2 c3 c4 c5 c6 c7 c8 c9 c10 c11 c12 c13 c14 (f c15)) t) d f t
end
inductive Tm where
 | mk (s:LV) (w:L1)
def Tm.nil:Tm:=.mk .nil .nil
abbrev zC:=H3
noncomputable section
def qZ (p:Loc) (t:Tm):CV:=
 Loc.rec (motive:=fun _=>Tm→CV) (fun d t=>Tm.rec (motive:=fun _=>CV) (fun s _=>LV.get d s) t) (fun c d t=>Tm.rec (motive:=fun _=>CV) (fun _ w=>LV.get d (L1.get c w)) t) p t
def ko (v:CV) (p:Loc) (t:Tm):Tm:=
 Loc.rec (motive:=fun _=>CV→Tm→Tm) (fun d v t=>Tm.rec (motive:=fun _=>Tm) (fun s w=>.mk (LV.upd (fun _=>v) d s) w) t)
  (fun c d v t=>Tm.rec (motive:=fun _=>Tm) (fun s w=>.mk s (L1.upd (LV.upd (fun _=>v) d) c w)) t) p v t
def zn (k:Key) (h:zC):Option CObj:=Key.rec (motive:=fun _=>zC→Option CObj) (fun a b c d t=>((H3.get a t |>.get b).get c).get d) k h
def yu (o:Option CObj) (k:Key) (h:zC):zC:=
 Key.rec (motive:=fun _=>Option CObj→zC→zC) (fun a b c d o h=>H3.upd (H2.upd (H1.upd (HV.upd (fun _=>o) d) c) b) a h) k o h
end
def xD {α β:Type} (f:α→Option β):List α→Option (List β)
 | []=>some []
 | x::xs=>match f x with
  | none=>none
  | some y=>match xD f xs with
   | none=>none
   | some ys=>some (y::ys)
def zo (s:ByteArray):List Nat:=s.data.toList.map UInt8.toNat
def u4:Nat→Value→Option CV
 | 0,_=>none
 | d+1,v=>match v with
  | .bool b=>some (.bool b)
  | .int k n=>some (match k,n with | .i64,.ofNat m=>.nat m | k,n=>.int k n)
  | .string s=>some (.str (zo s))
  | .pointer none=>some .nilptr
  | .slice none 0 0=>some .nilsl
  | .map none=>some .nilmap
  | .nilFunc=>some .nilfunc
  | .func fn a b=>if a.size=0∧b.size=0 then some (.func fn [] []) else none
  | .nilIface=>some .niliface
  | .iface t v=>(u4 d v).map (.iface t)
  | .agg cs=>(xD (u4 d) cs.toList).map .agg
  | .tuple cs=>(xD (u4 d) cs.toList).map .tup
  | _=>none
def CV.cells:CV→List CV
 | .agg cs=>cs
 | v=>[v]
def CV.single:CV→Bool
 | .agg _=>false
 | .tup _=>false
 | .any=>false
 | _=>true
noncomputable section
def xQ (l:List CV):Bool:=List.rec (motive:=fun _=>Bool) true (fun v _ ih=>Bool.rec (motive:=fun _=>Bool) false ih v.single) l
def wz (l:List CV):Nat:=List.rec (motive:=fun _=>Nat) 0 (fun _ _ ih=>Nat.succ ih) l
def zBM (l:List Nat):Nat:=List.rec (motive:=fun _=>Nat) 0 (fun _ _ ih=>Nat.succ ih) l
def zMi (l:List CE):Nat:=List.rec (motive:=fun _=>Nat) 0 (fun _ _ ih=>Nat.succ ih) l
end
def nth {α:Type}:List α→Nat→Option α
 | [],_=>none
 | x::_,0=>some x
 | _::xs,k+1=>nth xs k
noncomputable section
def zAj (l:List CV) (k:Nat):Option CV:=
 List.rec (motive:=fun _=>Nat→Option CV) (fun _=>none) (fun x _ ih k=>Nat.rec (motive:=fun _=>Option CV) (some x) (fun k _=>ih k) k) l k
def zUK (l:List Nat) (k:Nat):Option Nat:=
 List.rec (motive:=fun _=>Nat→Option Nat) (fun _=>none) (fun x _ ih k=>Nat.rec (motive:=fun _=>Option Nat) (some x) (fun k _=>ih k) k) l k
def zNj (l:List CV) (k:Nat):List CV:=
 List.rec (motive:=fun _=>Nat→List CV) (fun _=>[]) (fun x xs ih k=>Nat.rec (motive:=fun _=>List CV) (x::xs) (fun k _=>ih k) k) l k
def zNU (l:List Nat) (k:Nat):List Nat:=
 List.rec (motive:=fun _=>Nat→List Nat) (fun _=>[]) (fun x xs ih k=>Nat.rec (motive:=fun _=>List Nat) (x::xs) (fun k _=>ih k) k) l k
def zHY (x:CV) (r:Option (List CV)):Option (List CV):=Option.rec (motive:=fun _=>CV→Option (List CV)) (fun _=>none) (fun l x=>some (x::l)) r x
def zNB (x:Nat) (r:Option (List Nat)):Option (List Nat):=Option.rec (motive:=fun _=>Nat→Option (List Nat)) (fun _=>none) (fun l x=>some (x::l)) r x
def zKD (l:List CV) (k:Nat):Option (List CV):=
 List.rec (motive:=fun _=>Nat→Option (List CV)) (fun k=>Nat.rec (motive:=fun _=>Option (List CV)) (some []) (fun _ _=>none) k)
  (fun x _ ih k=>Nat.rec (motive:=fun _=>Option (List CV)) (some []) (fun k _=>zHY x (ih k)) k) l k
def zKk (l:List Nat) (k:Nat):Option (List Nat):=
 List.rec (motive:=fun _=>Nat→Option (List Nat)) (fun k=>Nat.rec (motive:=fun _=>Option (List Nat)) (some []) (fun _ _=>none) k)
  (fun x _ ih k=>Nat.rec (motive:=fun _=>Option (List Nat)) (some []) (fun k _=>zNB x (ih k)) k) l k
def zAa (l:List CV) (off n:Nat):Option (List CV):=zKD (zNj l off) n
def zU1 (l:List Nat) (off n:Nat):Option (List Nat):=zKk (zNU l off) n
def zD9 (xs:List CV) (s:Nat) (l:List CV):Option (List CV):=
 List.rec (motive:=fun _=>Nat→List CV→Option (List CV)) (fun s l=>Nat.rec (motive:=fun _=>Option (List CV)) (some l) (fun _ _=>none) s)
  (fun x _ ih s l=>Nat.rec (motive:=fun _=>Option (List CV)) none (fun s _=>List.rec (motive:=fun _=>Option (List CV)) none (fun _ l _=>zHY x (ih s l)) l) s) xs s l
def jY (xs:List CV) (s:Nat) (l:List CV) (k:Nat):Option (List CV):=
 List.rec (motive:=fun _=>Nat→List CV→Nat→Option (List CV)) (fun k xs s=>Nat.rec (motive:=fun _=>Option (List CV)) (zD9 xs s []) (fun _ _=>none) k)
  (fun y l ih k xs s=>Nat.rec (motive:=fun _=>Option (List CV)) (zD9 xs s (y::l)) (fun k _=>zHY y (ih k xs s)) k) l k xs s
end
def k8 (x:List CV):Nat→List CV
 | 0=>[]
 | n+1=>x++k8 x n
noncomputable section
def jr {β:Type} (n:Nat) (k:Nat→β):β:=Nat.rec (motive:=fun _=>(Nat→β)→β) (fun k=>k 0) (fun m _ k=>k (Nat.succ m)) n k
def kz (n:Nat):CV:=Nat.rec (motive:=fun _=>CV) (.nat 0) (fun m _=>.nat (Nat.succ m)) n
def ji (k:IntKind) (n:Nat):CV:=IntKind.rec (motive:=fun _=>Nat→CV) (fun n=>.int .i8 (.ofNat n)) (fun n=>.int .i16 (.ofNat n)) (fun n=>.int .i32 (.ofNat n)) kz
 (fun n=>.int .u8 (.ofNat n)) (fun n=>.int .u16 (.ofNat n)) (fun n=>.int .u32 (.ofNat n)) (fun n=>.int .u64 (.ofNat n)) k n
def zb (k:IntKind) (n:Int):CV:=
 Int.rec (motive:=fun _=>IntKind→CV) (fun m k=>Nat.rec (motive:=fun _=>CV) (ji k 0) (fun m _=>ji k (Nat.succ m)) m)
  (fun m k=>Nat.rec (motive:=fun _=>CV) (.int k (.negSucc 0)) (fun m _=>.int k (.negSucc (Nat.succ m))) m) n k
def kNo (k:IntKind):Nat:=IntKind.rec (motive:=fun _=>Nat) 0 1 2 3 4 5 6 7 k
def kEq (j k:IntKind):Bool:=Nat.beq (kNo j) (kNo k)
def zOo (n:Int):Int:=
 Int.rec (motive:=fun _=>Int) (fun m=>Bool.rec (motive:=fun _=>Int) (IntKind.i64.wrap (.ofNat m)) (.ofNat m) (Nat.ble m 9223372036854775807))
  (fun m=>Bool.rec (motive:=fun _=>Int) (IntKind.i64.wrap (.negSucc m)) (.negSucc m) (Nat.ble m 9223372036854775807)) n
def zU4 (n:Int):Int:=Int.rec (motive:=fun _=>Int) (fun m=>.ofNat (Nat.mod m 256)) (fun m=>IntKind.u8.wrap (.negSucc m)) n
def yr (k:IntKind) (n:Int):Int:=
 IntKind.rec (motive:=fun _=>Int→Int) IntKind.i8.wrap IntKind.i16.wrap IntKind.i32.wrap zOo zU4 IntKind.u16.wrap IntKind.u32.wrap IntKind.u64.wrap k n
def zj (a b:Int):Bool:=
 Int.rec (motive:=fun _=>Int→Bool) (fun a b=>Int.rec (motive:=fun _=>Bool) (fun b=>Nat.beq a b) (fun _=>false) b)
  (fun a b=>Int.rec (motive:=fun _=>Bool) (fun _=>false) (fun b=>Nat.beq a b) b) a b
def wg (a b:Int):Bool:=
 Int.rec (motive:=fun _=>Int→Bool) (fun a b=>Int.rec (motive:=fun _=>Bool) (fun b=>Nat.ble (Nat.succ a) b) (fun _=>false) b)
  (fun a b=>Int.rec (motive:=fun _=>Bool) (fun _=>true) (fun b=>Nat.ble (Nat.succ b) a) b) a b
def toU (k:IntKind) (n:Int):Nat:=match n with
 | .ofNat m=>Nat.mod m (Nat.pow 2 k.bits)
 | .negSucc m=>Nat.sub (Nat.sub (Nat.pow 2 k.bits) 1) (Nat.mod m (Nat.pow 2 k.bits))
def u9 (b:Bool):Bool:=Bool.rec (motive:=fun _=>Bool) true false b
abbrev AOp:=IntKind→Int→Int→Option CV
def zWQ:AOp:=fun k a b=>some (zb k (yr k (Int.add a b)))
def zWW:AOp:=fun k a b=>some (zb k (yr k (Int.sub a b)))
def zWK:AOp:=fun k a b=>some (zb k (yr k (Int.mul a b)))
def zWC:AOp:=fun k a b=>Bool.rec (motive:=fun _=>Option CV) (some (zb k (yr k (a.tdiv b)))) none (zj b (.ofNat 0))
def zWL:AOp:=fun k a b=>Bool.rec (motive:=fun _=>Option CV) (some (zb k (a.tmod b))) none (zj b (.ofNat 0))
def zWx:AOp:=fun k a b=>some (zb k (yr k (.ofNat (Nat.land (toU k a) (toU k b)))))
def aOr:AOp:=fun k a b=>some (zb k (yr k (.ofNat (Nat.lor (toU k a) (toU k b)))))
def zUM:AOp:=fun k a b=>some (zb k (yr k (.ofNat (Nat.xor (toU k a) (toU k b)))))
def zT6:AOp:=fun k a b=>some (zb k (yr k (.ofNat (Nat.land (toU k a) (Nat.sub (Nat.sub (Nat.pow 2 k.bits) 1) (toU k b))))))
def zWX:AOp:=fun _ a b=>some (.bool (zj a b))
def zW0:AOp:=fun _ a b=>some (.bool (u9 (zj a b)))
def zWv:AOp:=fun _ a b=>some (.bool (wg a b))
def zWs:AOp:=fun _ a b=>some (.bool (u9 (wg b a)))
def zWl:AOp:=fun _ a b=>some (.bool (wg b a))
def zWV:AOp:=fun _ a b=>some (.bool (u9 (wg a b)))
def zWu:AOp:=fun k a b=>match b with
 | .ofNat m=>some (zb k (yr k (Int.mul a (.ofNat (Nat.pow 2 (min m k.bits))))))
 | .negSucc _=>none
def zWz:AOp:=fun k a b=>match b with
 | .ofNat m=>match a with
  | .ofNat a=>some (ji k (Nat.div a (Nat.pow 2 (min m k.bits))))
  | .negSucc a=>some (zb k ((Int.negSucc a).fdiv (.ofNat (Nat.pow 2 (min m k.bits)))))
 | .negSucc _=>none
def yQ (op:BinOp):AOp:=
 BinOp.rec (motive:=fun _=>AOp) zWQ zWW zWK zWC zWL zWx aOr zUM zWu zWz zT6 zWX zW0 zWv zWs zWl zWV op
def yv (op:BinOp):Bool:=match op with
 | .shl=>true
 | .shr=>true
 | _=>false
abbrev NOp:=Nat→Nat→Option CV
def okN (n:Nat):Option CV:=Bool.rec (motive:=fun _=>Option CV) none (some (kz n)) (Nat.ble n 9223372036854775807)
def zWT:NOp:=fun a b=>okN (Nat.add a b)
def zWF:NOp:=fun a b=>Bool.rec (motive:=fun _=>Option CV) none (Bool.rec (motive:=fun _=>Option CV) none (some (kz (Nat.sub a b))) (Nat.ble a 9223372036854775807)) (Nat.ble b a)
def zWY:NOp:=fun a b=>okN (Nat.mul a b)
def nNo:NOp:=fun _ _=>none
def zWt:NOp:=fun a b=>Bool.rec (motive:=fun _=>Option CV) none (Bool.rec (motive:=fun _=>Option CV) none (some (kz (Nat.land a b))) (Nat.ble b 9223372036854775807)) (Nat.ble a 9223372036854775807)
def zWp:NOp:=fun a b=>some (.bool (Nat.beq a b))
def zWH:NOp:=fun a b=>some (.bool (u9 (Nat.beq a b)))
def zWn:NOp:=fun a b=>some (.bool (Nat.ble (Nat.succ a) b))
def zWS:NOp:=fun a b=>some (.bool (Nat.ble a b))
def zWm:NOp:=fun a b=>some (.bool (Nat.ble (Nat.succ b) a))
def zWN:NOp:=fun a b=>some (.bool (Nat.ble b a))
def zHb (op:BinOp):NOp:=BinOp.rec (motive:=fun _=>NOp) zWT zWF zWY nNo nNo zWt nNo nNo nNo nNo nNo zWp zWH zWn zWS zWm zWN op
def zAw (a b:List Nat):Bool:=
 List.rec (motive:=fun _=>List Nat→Bool) (fun b=>List.rec (motive:=fun _=>Bool) false (fun _ _ _=>true) b)
  (fun x _ ih b=>List.rec (motive:=fun _=>Bool) false (fun y r _=>Bool.rec (motive:=fun _=>Bool) (Bool.rec (motive:=fun _=>Bool) false (ih r) (Nat.beq x y)) true (Nat.ble (Nat.succ x) y)) b) a b
def qC (a b:List Nat):Bool:=
 List.rec (motive:=fun _=>List Nat→Bool) (fun b=>List.rec (motive:=fun _=>Bool) true (fun _ _ _=>false) b)
  (fun x _ ih b=>List.rec (motive:=fun _=>Bool) false (fun y r _=>Bool.rec (motive:=fun _=>Bool) false (ih r) (Nat.beq x y)) b) a b
def zVp (a b:List Nat):List Nat:=List.rec (motive:=fun _=>List Nat) b (fun x _ ih=>x::ih) a
def zC9 (a b:List CV):List CV:=List.rec (motive:=fun _=>List CV) b (fun x _ ih=>x::ih) a
abbrev SOp:=List Nat→List Nat→Option CV
def zWI:SOp:=fun a b=>Bool.rec (motive:=fun _=>Option CV) none (some (.str (zVp a b))) (Nat.ble (Nat.add (zBM a) (zBM b)) 1000000)
def zW3:SOp:=fun a b=>some (.bool (qC a b))
def zWE:SOp:=fun a b=>some (.bool (u9 (qC a b)))
def zWk:SOp:=fun a b=>some (.bool (zAw a b))
def zWy:SOp:=fun a b=>some (.bool (zAw a b || qC a b))
def zWB:SOp:=fun a b=>some (.bool (u9 (zAw a b || qC a b)))
def zWP:SOp:=fun a b=>some (.bool (u9 (zAw a b)))
def zGD:SOp:=fun _ _=>none
def zSG (op:BinOp):SOp:=BinOp.rec (motive:=fun _=>SOp) zWI zGD zGD zGD zGD zGD zGD zGD zGD zGD zGD zW3 zWE zWk zWy zWB zWP op
end
inductive zT where
 | e (i:Nat)
 | l (p:Loc)
 | k (v:CV)
structure zIA where
 off:Nat
 size:Nat
 arg:zT
inductive EqK where
 | bool | pointer | iface | slice | map | func | int | str
 | struct (fs:List (Nat × EqK))
inductive j7 where
 | int | str | bool
 | ints (n:Nat)
inductive Ext where
 | count | indexByte | index | mapsClone | overlaps | cmp
inductive COp where
 | mv (x:zT)
 | pick (c a b:zT)
 | alloc (cs:List CV)
 | box (x:zT)
 | build (zero:List CV) (ps:List zIA)
 | bslice (zero:List CV) (len esz:Nat) (ps:List zIA)
 | load1 (x:zT)
 | loadN (s:Nat) (x:zT)
 | store (s:Nat) (a x:zT)
 | nilck (x:zT)
 | arith (op:BinOp) (x y:zT)
 | eq (neg:Bool) (k:EqK) (cst:Bool) (x y:zT)
 | un (op:UnOp) (x:zT)
 | cvInt (k:IntKind) (x:zT)
 | cvStr (x:zT)
 | cvSB (x:zT)
 | cvMark (x:zT)
 | cvBS (x:zT)
 | iface (t:TypeId) (x:zT)
 | mkfn (fn:Fn) (first captured:List zT)
 | mkmap
 | mkslice (zero:List CV) (esz bytes:Nat) (l c:zT)
 | slArr (len esz:Nat) (x:zT) (lo hi mx:Option zT)
 | slSl (esz:Nat) (x:zT) (lo hi mx:Option zT)
 | slStr (x:zT) (lo hi:Option zT)
 | addOff (k:Nat) (x:zT)
 | part (agg:Bool) (off size:Nat) (x:zT)
 | ixArr (len esz:Nat) (x i:zT)
 | ixSl (esz:Nat) (x i:zT)
 | ixAgg (len esz:Nat) (agg:Bool) (x i:zT)
 | ixStr (x i:zT)
 | lookup (kk:j7) (z:CV) (ok:Bool) (x k:zT)
 | mapupd (kk:j7) (m k v:zT)
 | rangeStr (x:zT)
 | rangeMap (x:zT)
 | next (s:Bool) (x:zT)
 | entry (x:zT)
 | tassert (t:TypeId) (z:Option CV) (ok:Bool) (x:zT)
 | tiface (t:TypeId) (z:Option CV) (ok:Bool) (x:zT)
 | extract (i:Nat) (x:zT)
 | call (f:FuncId) (args:List zT)
 | ext (e:Ext) (args:List zT)
 | callv (f:zT) (args:List zT)
 | invoke (recv:zT) (name:String) (args:List zT)
 | append (esz bytes:Nat) (s x:zT)
 | appz (zero:List CV) (esz:Nat) (s x:zT)
 | copy (esz:Nat) (d x:zT)
 | lenStr (x:zT)
 | lenSl (x:zT)
 | lenMap (x:zT)
 | capSl (x:zT)
 | delete (kk:j7) (m k:zT)
 | clearMap (x:zT)
 | clearSl (zero:List CV) (esz:Nat) (x:zT)
 | minmax (mx:Bool) (x:zT) (r:List zT)
 | defer (f:zT) (args:List zT)
 | recov
 | bad (c:Nat)
inductive ql where
 | i (op:COp)
 | o (op:COp) (d:Loc)
 | g (x:zT) (w:Bool) (op:COp) (d:Option Loc)
structure zPL where
 ins:ql
 eff:Bool
 chk:Nat
inductive CCode where
 | skip
 | region (ops:List ql)
 | dregion (ops:List zPL)
 | seq (a b:CCode)
 | cond (x:zT) (a b:CCode)
 | block (id:Nat) (b:CCode)
 | loop (b:CCode)
 | exit (id:Nat)
 | ret
 | scope (b:CCode)
 | bad (c:Nat)
inductive CRes where
 | tmp (p:zT)
 | cell1 (p:zT)
 | cellN (p:zT) (s:Nat)
inductive CFn where
 | mk (body:CCode) (res:List CRes)
 | mkD (ops:List ql) (body:CCode) (res:List CRes)
 | ext (e:Ext)
 | bad (c:Nat)
section
variable (P:Program)
def und (t:TypeId):Option TypeDesc:=P.underlying t
def x6 (t:TypeId):Option Nat:=(P.info? t).map (·.size)
def ug (t:TypeId):Option Nat:=(P.info? t).map (·.bytes)
def qG (t:TypeId):Option Bool:=match P.underlying t with
 | some (.struct _)=>some true
 | some (.array _ _)=>some true
 | some _=>some false
 | none=>none
def wd (t:TypeId):Option CV:=match (P.info? t).bind (·.zero) with
 | some v=>u4 20 v
 | none=>none
def cellsOf (v:CV):Option (List CV):=match v with
 | .agg cs=>some cs
 | .tup _=>none
 | .any=>none
 | v=>some [v]
def jR (t:TypeId):Option (List CV):=(wd P t).bind cellsOf
def jc (fs:List Field):Bool:=match fs with
 | []=>true
 | f::r=>(x6 P f.type).isSome&&jc r
def xL (t:Nat):List (Option Nat)→Nat→Option Nat
 | [],_=>none
 | d::r,i=>match d with
  | some u=>match Nat.beq u t with
   | true=>some i
   | false=>xL t r (i+1)
  | none=>xL t r (i+1)
structure Env where
 F:Nat
 N:Nat
 ds:List (Option Nat)
def z8 (F t:Nat):Bool:=Nat.beq (Nat.mod (Nat.shiftRight F t) 2) 1
def zi (E:Env):Operand→Option zT
 | .tmp t=>match xL t E.ds 0 with
  | some i=>some (.e i)
  | none=>match z8 E.F t&&Nat.ble t 271&&Nat.ble (Nat.succ t) E.N with
   | true=>some (.l (Loc.ofNat t))
   | false=>none
 | .const v=>(u4 20 v).map .k
 | .global g=>match Nat.ble (Nat.succ g) P.globals.size&&Nat.ble g 4095 with
  | true=>some (.k (.ptr (Key.ofNat g) 0))
  | false=>none
 | .func f=>some (.k (.func (.func f) [] []))
variable (E:Env)
def xI (f:zT→COp) (x:Operand):COp:=match zi P E x with
 | some x=>f x
 | none=>.bad 1
def jM (f:zT→zT→COp) (x y:Operand):COp:=match zi P E x,zi P E y with
 | some x,some y=>f x y
 | _,_=>.bad 1
def vk (place:Nat→Option (Nat × Nat)) (l:List (Nat × Operand)):Option (List zIA):=
 xD (fun (i,x)=>match place i,zi P E x with
  | some (o,s),some x=>some ⟨o,s,x⟩
  | _,_=>none) l
def zAx (fs:List Field) (i:Nat):Option (Nat × Nat):=match nth fs i with
 | none=>none
 | some f=>match x6 P f.type with
  | none=>none
  | some s=>some (f.offset,s)
def wR:List Field→Option (List (Nat × EqK))
 | []=>some []
 | f::r=>if f.name == "_" then none else
  match wR r with
  | none=>none
  | some l=>match und P f.type with
   | some .bool=>some ((f.offset,.bool)::l)
   | some (.int _)=>some ((f.offset,.int)::l)
   | some .string=>some ((f.offset,.str)::l)
   | _=>none
def zI4 (t:TypeId):Option EqK:=match und P t with
 | some .bool=>some .bool
 | some (.pointer _)=>some .pointer
 | some (.interface _)=>some .iface
 | some (.slice _)=>some .slice
 | some (.map _ _)=>some .map
 | some (.func _ _ _)=>some .func
 | some (.struct fs)=>if P.eqGuardType P.depth t || P.stoodInHeld t then none else (wR P fs.toList).map .struct
 | _=>none
def zGg:List Field→Nat→Bool
 | [],_=>true
 | f::r,i=>!(f.name == "_")&&Nat.beq f.offset i&&(match und P f.type with
  | some (.int _)=>true
  | _=>false)&&zGg r (i+1)
def xU (t:TypeId):Option j7:=match und P t with
 | some (.int _)=>some .int
 | some .string=>some .str
 | some .bool=>some .bool
 | some (.struct fs)=>if P.stoodInHeld t then none else if zGg P fs.toList 0 then some (.ints fs.size) else none
 | _=>none
def xO:Operand→Bool
 | .const _=>true
 | _=>false
def zOl (op:BinOp) (t:TypeId) (x y:Operand):COp:=match und P t with
 | some (.int _)=>jM P E (.arith op) x y
 | some .string=>jM P E (.arith op) x y
 | _=>match op,zI4 P t with
  | .eql,some k=>jM P E (.eq false k (xO x || xO y)) x y
  | .neq,some k=>jM P E (.eq true k (xO x || xO y)) x y
  | _,_=>.bad 2
def zKc (s d:TypeId) (x:Operand):COp:=match und P s,und P d with
 | some (.int _),some (.int k)=>xI P E (.cvInt k) x
 | some .string,some .string=>xI P E .cvStr x
 | some .string,some (.slice e)=>match und P e with
  | some (.int .u8)=>xI P E .cvSB x
  | _=>.bad 3
 | some (.slice _),some (.slice e)=>match Nat.beq s d,und P e with
  | true,some (.int .u8)=>xI P E .cvMark x
  | _,_=>.bad 3
 | some (.slice e),some .string=>match und P e with
  | some (.int .u8)=>xI P E .cvBS x
  | _=>.bad 3
 | _,_=>.bad 3
def qi (l:List Operand):Option (List zT):=xD (zi P E) l
def qE (b:Builtin) (ts:List TypeId) (args:List Operand):COp:=match b,ts,args with
 | .append,t::u::_,[s,x]=>match und P t,und P u with
  | some (.slice e),some ud=>match ud with
   | .int _=>match x6 P e,ug P e,jR P e with
    | some (sz+1),some b,some z=>if Nat.ble b 100000&&Nat.beq z.length (sz+1) then jM P E (.appz z (sz+1)) s x else .bad 4
    | _,_,_=>.bad 4
   | _=>match x6 P e,ug P e,jR P e with
    | some (sz+1),some b,some z=>if Nat.ble b 100000&&Nat.beq z.length (sz+1) then jM P E (.append (sz+1) b) s x else .bad 4
    | _,_,_=>.bad 4
  | _,_=>.bad 4
 | .copy,t::_,[d,x]=>match und P t with
  | some (.slice e)=>match x6 P e with
   | some s=>jM P E (.copy s) d x
   | none=>.bad 5
  | _=>.bad 5
 | .len,t::_,[x]=>match und P t with
  | some .string=>xI P E .lenStr x
  | some (.array k _)=>.mv (.k (.nat k))
  | some (.pointer a)=>match und P a with
   | some (.array k _)=>.mv (.k (.nat k))
   | _=>.bad 6
  | some (.slice _)=>xI P E .lenSl x
  | some (.map _ _)=>xI P E .lenMap x
  | _=>.bad 6
 | .cap,t::_,[x]=>match und P t with
  | some (.slice _)=>xI P E .capSl x
  | some (.array k _)=>.mv (.k (.nat k))
  | _=>.bad 7
 | .delete,t::_,[m,k]=>match und P t with
  | some (.map kt _)=>match xU P kt with
   | some kk=>jM P E (.delete kk) m k
   | none=>.bad 8
  | _=>.bad 8
 | .clear,t::_,[x]=>match und P t with
  | some (.map _ _)=>xI P E .clearMap x
  | some (.slice e)=>match jR P e,x6 P e with
   | some z,some s=>xI P E (.clearSl z s) x
   | _,_=>.bad 9
  | _=>.bad 9
 | .min,_,x::r=>match zi P E x,qi P E r with
  | some x,some r=>.minmax false x r
  | _,_=>.bad 10
 | .max,_,x::r=>match zi P E x,qi P E r with
  | some x,some r=>.minmax true x r
  | _,_=>.bad 10
 | .recover,_,[]=>.recov
 | _,_,_=>.bad 11
def zWR (a b:String):String:=String.append (String.append a (String.singleton (Char.ofNat 47))) b
def zHr (s:String):String:=zWR "internal" s
def zLi (n:String):Bool:=(Extern.allNextRows.lookup n).isNone&&(Extern.allGenericRows.lookup n).isNone&&(Extern.allTypedRows.lookup n).isNone&&(Extern.allRows.lookup n).isNone
def zBl (fn:Func):Bool:=(!(fn.name == "runtime.NumGoroutine")&&zLi fn.name)&&match fn.params.toList with
 | t::_=>match und P t with
  | some (.slice e)=>(x6 P e).isSome
  | _=>false
 | []=>false
def zCS (fn:Func):Option Ext:=
 if fn.origin == "" then
  if fn.name == zHr "bytealg.CountString" then some .count
  else if fn.name == zHr "bytealg.IndexByteString" then some .indexByte
  else if fn.name == zHr "bytealg.abigen_runtime_cmpstring" then some .cmp
  else if fn.name == "maps.clone" then some .mapsClone
  else none
 else if fn.origin == "slices.overlaps" && zBl P fn then some .overlaps
 else none
def zGa (c:Call):COp:=match c.callee with
 | .builtin b=>qE P E b c.argTypes.toList c.args.toList
 | .invoke r name=>match zi P E r,qi P E c.args.toList with
  | some r,some args=>.invoke r name args
  | _,_=>.bad 13
 | .value f=>match qi P E c.args.toList with
  | none=>.bad 12
  | some args=>match f with
   | .func f=>match nth P.funcs.toList f with
    | none=>.bad (10000+f)
    | some fn=>if fn.body.isSome then .call f args else match zCS P fn with
     | some e=>.ext e args
     | none=>.bad (10000+f)
   | f=>match zi P E f with
    | some f=>.callv f args
    | none=>.bad 14
def zKp (y:Option Operand):Option (Option zT):=match y with
 | none=>some none
 | some y=>(zi P E y).map some
def zH3 (t:TypeId) (x:Operand) (lo hi mx:Option Operand):COp:=
 if mx.isSome&&hi.isNone then .bad 15 else match zi P E x,zKp P E lo,zKp P E hi,zKp P E mx with
 | some x,some lo,some hi,some mx=>match und P t with
  | some (.array k e)=>match x6 P e with
   | some (s+1)=>.slArr k (s+1) x lo hi mx
   | _=>.bad 15
  | some (.slice e)=>match x6 P e with
   | some (s+1)=>.slSl (s+1) x lo hi mx
   | _=>.bad 15
  | some .string=>match mx with
   | none=>.slStr x lo hi
   | some _=>.bad 15
  | _=>.bad 15
 | _,_,_,_=>.bad 15
def zh (o:Op):COp:=match o with
 | .move x=>xI P E .mv x
 | .assign x=>xI P E .mv x
 | .pick c a b=>match zi P E c,zi P E a,zi P E b with
  | some c,some a,some b=>.pick c a b
  | _,_,_=>.bad 20
 | .alloc t=>match jR P t with
  | some z=>.alloc z
  | none=>.bad 21
 | .box _ x=>xI P E .box x
 | .build t ps=>match jR P t,und P t with
  | some z,some (.struct fs)=>if jc P fs.toList then
   match vk P E (zAx P fs.toList) ps.toList with
   | some l=>.build z l
   | none=>.bad 22
   else .bad 22
  | some z,some (.array _ e)=>match x6 P e with
   | none=>.bad 22
   | some s=>match vk P E (fun i=>some (i*s,s)) ps.toList with
    | some l=>.build z l
    | none=>.bad 22
  | _,_=>.bad 22
 | .buildSlice t len ps=>match und P t with
  | some (.slice e)=>match x6 P e,jR P e with
   | some (s+1),some z=>if Nat.ble (len*(s+1)) 100000&&Nat.beq z.length (s+1) then
    match vk P E (fun i=>some (i*(s+1),s+1)) ps.toList with
    | some l=>.bslice (k8 z len) len (s+1) l
    | none=>.bad 23
    else .bad 23
   | _,_=>.bad 23
  | _=>.bad 23
 | .load t a=>match qG P t,x6 P t with
  | some true,some s=>xI P E (.loadN s) a
  | some false,some _=>xI P E .load1 a
  | _,_=>.bad 24
 | .store t a x=>match x6 P t with
  | some s=>jM P E (.store s) a x
  | none=>.bad 25
 | .nilCheck x=>xI P E .nilck x
 | .binOp op t x y _=>zOl P E op t x y
 | .unOp op _ x=>xI P E (.un op) x
 | .convert s d x=>zKc P E s d x
 | .makeInterface t x=>match und P t with
  | some (.interface _)=>.bad 26
  | some _=>xI P E (.iface t) x
  | none=>.bad 26
 | .makeFunc fn a b=>match qi P E a.toList,qi P E b.toList with
  | some a,some b=>.mkfn fn a b
  | _,_=>.bad 27
 | .makeMap t r=>match und P t,r with
  | some (.map _ _),none=>.mkmap
  | some (.map _ _),some (.const (.int _ _))=>.mkmap
  | _,_=>.bad 28
 | .makeSlice t l c=>match und P t with
  | some (.slice e)=>match x6 P e,jR P e,ug P e with
   | some (s+1),some z,some b=>if Nat.beq z.length (s+1) then jM P E (.mkslice z (s+1) b) l c else .bad 29
   | _,_,_=>.bad 29
  | _=>.bad 29
 | .slice t x lo hi mx=>zH3 P E t x lo hi mx
 | .fieldAddr t x f=>match und P t with
  | some (.struct fs)=>match nth fs.toList f with
   | some fd=>match x6 P fd.type with
    | some (_+1)=>xI P E (.addOff fd.offset) x
    | _=>.bad 30
   | none=>.bad 30
  | _=>.bad 30
 | .field t x f=>match und P t with
  | some (.struct fs)=>match nth fs.toList f with
   | some fd=>match qG P fd.type,x6 P fd.type with
    | some a,some s=>xI P E (.part a fd.offset s) x
    | _,_=>.bad 31
   | none=>.bad 31
  | _=>.bad 31
 | .indexAddr t x i=>match und P t with
  | some (.array len e)=>match x6 P e with
   | some s=>jM P E (.ixArr len s) x i
   | none=>.bad 32
  | some (.slice e)=>match x6 P e with
   | some s=>jM P E (.ixSl s) x i
   | none=>.bad 32
  | _=>.bad 32
 | .index t x i=>match und P t with
  | some (.array len e)=>match x6 P e,qG P e with
   | some s,some a=>jM P E (.ixAgg len s a) x i
   | _,_=>.bad 33
  | some .string=>jM P E .ixStr x i
  | _=>.bad 33
 | .lookup t x i ok=>match und P t with
  | some (.map kt et)=>match xU P kt,wd P et with
   | some kk,some z=>jM P E (.lookup kk z ok) x i
   | _,_=>.bad 34
  | _=>.bad 34
 | .mapUpdate t m k x=>match und P t with
  | some (.map kt _)=>match xU P kt,zi P E m,zi P E k,zi P E x with
   | some kk,some m,some k,some x=>.mapupd kk m k x
   | _,_,_,_=>.bad 35
  | _=>.bad 35
 | .insert t m k x=>match und P t with
  | some (.map kt _)=>match xU P kt,zi P E m,zi P E k,zi P E x with
   | some kk,some m,some k,some x=>.mapupd kk m k x
   | _,_,_,_=>.bad 35
  | _=>.bad 35
 | .range t x=>match und P t with
  | some .string=>xI P E .rangeStr x
  | some (.map _ _)=>xI P E .rangeMap x
  | _=>.bad 36
 | .next it s=>xI P E (.next s) it
 | .entry it=>xI P E .entry it
 | .typeAssert x _ t ok=>match und P t with
  | some (.interface _)=>xI P E (.tiface t (wd P t) ok) x
  | some _=>xI P E (.tassert t (wd P t) ok) x
  | none=>.bad 37
 | .extract t i=>xI P E (.extract i) t
 | .call c=>zGa P E c
 | .defer c=>match c.callee with
  | .value f=>match zi P E f,qi P E c.args.toList with
   | some f,some args=>.defer f args
   | _,_=>.bad 38
  | _=>.bad 38
 | _=>.bad 39
def xT (F N:Nat) (d:Option Nat):Option (Option Loc):=match d with
 | none=>some none
 | some t=>match Nat.ble (Nat.succ t) N with
  | false=>none
  | true=>match z8 F t with
   | false=>some none
   | true=>match Nat.ble t 271 with
    | true=>some (some (Loc.ofNat t))
    | false=>none
def ut (F N:Nat) (all:List Oper) (ds:List (Option Nat)) (o:Oper):ql:=match xT F N o.dst with
 | none=>.i (.bad 40)
 | some d=>match o.guard with
  | none=>match d with
   | none=>.i (zh P ⟨F,N,ds⟩ o.op)
   | some d=>.o (zh P ⟨F,N,ds⟩ o.op) d
  | some (j,w)=>match (nth all j).bind (·.dst) with
   | some t=>match zi P ⟨F,N,ds⟩ (.tmp t) with
    | some x=>.g x w (zh P ⟨F,N,ds⟩ o.op) d
    | none=>.i (.bad 41)
   | none=>.i (.bad 42)
def jP (F N:Nat) (all:List Oper):List (Option Nat)→List Oper→List ql
 | _,[]=>[]
 | ds,o::r=>ut P F N all ds o::jP F N all (o.dst::ds) r
def zDG (o:Op):Bool:=match o with
 | .call c=>match c.callee with
  | .builtin .recover=>true
  | _=>false
 | _=>false
def qR (o:Op):Bool:=match o with
 | .store ..=>true
 | .mapUpdate ..=>true
 | .insert ..=>true
 | .next ..=>true
 | .range ..=>true
 | .defer _=>true
 | .convert s d _=>match und P s,und P d with
  | some (.slice _),some (.slice _)=>true
  | _,_=>false
 | .call c=>match c.callee with
  | .builtin b=>match b with
   | .len=>false
   | .cap=>false
   | .min=>false
   | .max=>false
   | _=>true
  | _=>true
 | _=>false
def zAz (acc:List Nat):List Edge→Nat
 | []=>0
 | e::r=>if Region.binds .any e then Nat.lor (Nat.lor (Nat.shiftLeft 1 e.on) ((nth acc e.on).getD 0)) (zAz acc r) else zAz acc r
def wx:List Nat→List Oper→List Nat
 | acc,[]=>acc
 | acc,o::r=>wx (acc++[zAz acc o.after.toList]) r
def yT (m:Nat) (done:List Nat):List Nat→List Nat
 | []=>[]
 | i::r=>if z8 m i && !done.contains i then i::yT m done r else yT m done r
def zIa (anc:List Nat) (all:List Nat):List Nat→List Nat→List Nat
 | [],done=>done++yT (Nat.sub (Nat.shiftLeft 1 all.length) 1) done all
 | e::es,done=>zIa anc all es (done++yT ((nth anc e).getD 0) done all++(if done.contains e then [] else [e]))
def zD6 (m:Nat):List Nat→Nat
 | []=>0
 | e::es=>if z8 m e then 0 else Nat.succ (zD6 m es)
def zU3 (p:Oper→Bool):List Oper→Nat→List Nat
 | [],_=>[]
 | o::r,i=>if p o then i::zU3 p r (i+1) else zU3 p r (i+1)
def kC (F N:Nat) (ops:List Oper) (anc:List Nat):List (Option Nat)→List Nat→List Nat→List zPL
 | _,_,[]=>[]
 | ds,effs,i::r=>match nth ops i with
  | none=>[⟨.i (.bad 47),false,0⟩]
  | some o=>⟨ut P F N ops ds o,qR P o.op,zD6 ((nth anc i).getD 0) effs⟩ ::
   kC F N ops anc (o.dst::ds) (if qR P o.op then i::effs else effs) r
def zOA (ops:List Oper) (anc:List Nat):List Nat:=zIa anc (List.range ops.length) (zU3 (fun o=>qR P o.op) ops 0) []
def zFE (m:Nat):List Nat→List Nat→Bool
 | done,[]=>Nat.beq done.length m
 | done,i::r=>!done.contains i&&Nat.ble (Nat.succ i) m&&zFE m (i::done) r
def zOz (ops:List Oper) (anc:List Nat):List Nat→List Nat→Bool
 | _,[]=>true
 | done,i::r=>(match nth ops i with
  | some o=>if qR P o.op then done.all fun j=>z8 ((nth anc i).getD 0) j else true
  | none=>false)&&zOz ops anc (i::done) r
def zNs (anc:List Nat) (m:Nat):List Nat→List Nat→Bool
 | _,[]=>true
 | done,i::r=>((List.range m).all fun j=>!z8 ((nth anc i).getD 0) j || done.contains j)&&zNs anc m (i::done) r
def uU (ops:List Oper) (o:Oper):List Nat:=
 (o.op.operands.toList.filterMap fun | .tmp t=>some t | _=>none)++(match o.guard with
   | some (j,_)=>match (nth ops j).bind (·.dst) with
    | some t=>[t]
    | none=>[]
   | none=>[])
def zME (ops:List Oper) (anc:List Nat) (m:Nat):Bool:=
 (List.range m).all fun i=>(List.range m).all fun j=>match nth ops i,nth ops j with
   | some x,some y=>match x.dst with
    | some t=>(Nat.beq i j || !(decide (y.dst=some t)))&&(!(uU ops y).contains t || (!Nat.beq i j&&(z8 ((nth anc j).getD 0) i || z8 ((nth anc i).getD 0) j)))
    | none=>true
   | _,_=>false
def zCa:List Oper→Nat→Bool
 | [],_=>true
 | o::r,i=>(o.after.toList.all fun e=>!Region.binds .any e || Nat.ble (Nat.succ e.on) i)&&zCa r (i+1)
def zC0 (ops:List Oper) (anc:List Nat) (order:List Nat):Bool:=
 zFE ops.length [] order&&zOz P ops anc [] order&&zNs anc ops.length [] order&&zME ops anc ops.length&&zCa ops 0
def zIQ (F N:Nat) (ops:List Oper):CCode:=
 let anc:=wx [] ops
 let order:=zOA P ops anc
 if zC0 P ops anc order then .dregion (kC P F N ops anc [] [] order) else .bad 48
def zU (F N:Nat):Code→CCode
 | .skip=>.skip
 | .label _=>.skip
 | .region _ ops dr=>match dr with
  | false=>.region (jP P F N ops.toList [] ops.toList)
  | true=>zIQ P F N ops.toList
 | .seq a b=>.seq (zU F N a) (zU F N b)
 | .cond x a b=>match zi P ⟨F,N,[]⟩ x with
  | some x=>.cond x (zU F N a) (zU F N b)
  | none=>.bad 43
 | .block id b=>.block id (zU F N b)
 | .loop b=>.loop (zU F N b)
 | .exit id=>.exit id
 | .ret=>.ret
 | .scope b=>.scope (zU F N b)
 | _=>.bad 44
def bit (t:Nat):Nat:=Nat.shiftLeft 1 t
def zBT:List Operand→Nat
 | []=>0
 | .tmp t::r=>Nat.lor (bit t) (zBT r)
 | _::r=>zBT r
def zIG (all:List Oper):List Oper→Nat
 | []=>0
 | o::r=>Nat.lor (zBT o.op.operands.toList) (Nat.lor (match o.guard with | some (j,_)=>zBT [.tmp ((((nth all j).bind (·.dst))).getD 4095)] | none=>0) (zIG all r))
def zID:List Oper→Nat
 | []=>0
 | o::r=>match o.dst with
  | some t=>Nat.lor (bit t) (zID r)
  | none=>zID r
def zDW (c:Code) (x:Nat × Nat):Nat × Nat:=match c with
 | .region _ ops _=>let u:=zIG ops.toList ops.toList; (Nat.lor x.1 u,Nat.lor x.2 (Nat.land x.1 u))
 | .seq a b=>zDW b (zDW a x)
 | .cond y a b=>let u:=zBT [y]; zDW b (zDW a (Nat.lor x.1 u,Nat.lor x.2 (Nat.land x.1 u)))
 | .block _ b=>zDW b x
 | .loop b=>zDW b x
 | .scope b=>zDW b x
 | _=>x
def vI (once:Nat):Code→Nat
 | .region _ ops _=>Nat.land (zID ops.toList) (Nat.xor once (Nat.land once (zIG ops.toList ops.toList)))
 | .seq a b=>Nat.lor (vI once a) (vI once b)
 | .cond _ a b=>Nat.lor (vI once a) (vI once b)
 | .block _ b=>vI once b
 | .loop b=>vI once b
 | .scope b=>vI once b
 | _=>0
def zJo:List ResultVar→Nat
 | []=>0
 | .tmp t::r=>Nat.lor (bit t) (zJo r)
 | .cell t _::r=>Nat.lor (bit t) (zJo r)
def frameBits (fn:Func) (c:Code):Nat:=
 let res:=zJo fn.results.toList
 let u:=zDW c (res,0)
 Nat.lor (Nat.lor (Nat.lor u.2 (vI u.1 c)) res) (Nat.sub (bit (Nat.add fn.params.size fn.nfree)) 1)
def xd (F N:Nat) (r:ResultVar):Option CRes:=match r with
 | .tmp t=>(zi P ⟨F,N,[]⟩ (.tmp t)).map .tmp
 | .cell a t=>match qG P t,x6 P t,zi P ⟨F,N,[]⟩ (.tmp a) with
  | some true,some s,some x=>some (.cellN x s)
  | some false,some _,some x=>some (.cell1 x)
  | _,_,_=>none
def zFZ (l:List Oper):Bool:=match l with
 | []=>true
 | o::r=>!zDG o.op&&zFZ r
def yY:Code→Bool
 | .region _ ops _=>zFZ ops.toList
 | .seq a b=>yY a&&yY b
 | .cond _ a b=>yY a&&yY b
 | .block _ b=>yY b
 | .loop b=>yY b
 | .scope b=>yY b
 | _=>true
def zBR (F N:Nat) (fn:Func) (c:Code):CFn:=match xD (xd P F N) fn.results.toList with
 | some rs=>if yY c then .mk (zU P F N c) rs else match c with
  | .seq (.region _ ops false) r=>if yY r then .mkD (jP P F N ops.toList [] ops.toList) (zU P F N r) rs else .bad 50
  | _=>.bad 50
 | none=>.bad 45
def compFn (f:FuncId):CFn:=match nth P.funcs.toList f with
 | none=>.bad 46
 | some fn=>match fn.body with
  | none=>match zCS P fn with
   | some e=>.ext e
   | none=>.bad (20000+f)
  | some c=>if fn.name == "runtime.NumGoroutine" then .bad 49 else zBR P (frameBits fn c) fn.ntmps fn c
end
end Go.Ev
namespace Go.Ev
noncomputable section
inductive OR where
 | val (v:CV)
 | read (v:CV)
 | alloc (o:CObj) (v:CV)
 | eff (v:CV) (h:zC) (n:Key)
 | call (f:FuncId) (args:List CV)
 | dfr (f:FuncId) (args:List CV)
 | recov
 | err (c:Nat)
 | fork (a b:OR)
def zEf (v:Option CV) (c:Nat):OR:=Option.rec (motive:=fun _=>Nat→OR) (fun c=>.err c) (fun v _=>.val v) v c
def zQa (v:Option CV) (c:Nat):OR:=Option.rec (motive:=fun _=>Nat→OR) (fun c=>.err c) (fun v _=>.read v) v c
def zVc (v:Option (List CV)) (c:Nat):OR:=Option.rec (motive:=fun _=>Nat→OR) (fun c=>.err c) (fun v _=>.val (.agg v)) v c
def zUk (v:Option (List CV)) (c:Nat):OR:=Option.rec (motive:=fun _=>Nat→OR) (fun c=>.err c) (fun v _=>.read (.agg v)) v c
def onL (v:Option (List CV)) (k:List CV→OR) (c:Nat):OR:=Option.rec (motive:=fun _=>(List CV→OR)→Nat→OR) (fun _ c=>.err c) (fun v k _=>k v) v k c
def onN (v:Option Nat) (k:Nat→OR) (c:Nat):OR:=Option.rec (motive:=fun _=>(Nat→OR)→Nat→OR) (fun _ c=>.err c) (fun v k _=>k v) v k c
def yl (b:Bool) (k:OR) (c:Nat):OR:=Bool.rec (motive:=fun _=>OR→Nat→OR) (fun _ c=>.err c) (fun k _=>k) b k c
def ifB (b:Bool) (t f:OR):OR:=Bool.rec (motive:=fun _=>OR→OR→OR) (fun _ f=>f) (fun t _=>t) b t f
def wl (n:Nat) (k:Nat→OR):OR:=Nat.rec (motive:=fun _=>(Nat→OR)→OR) (fun k=>k 0) (fun m _ k=>k (Nat.succ m)) n k
def zDR (v:CV) (k:Key→Nat→OR) (e:Nat):OR:=
 CV.rec (motive_1:=fun _=>(Key→Nat→OR)→Nat→OR) (motive_2:=fun _=>Unit)
  (fun _ _ e=>.err e) (fun _ _ e=>.err e) (fun _ _ _ e=>.err e) (fun _ _ e=>.err e) (fun _ _ e=>.err e) (fun _ e=>.err e) (fun x0 x1 k _=>k x0 x1) (fun _ e=>.err e) (fun _ _ _ _ _ _ _ e=>.err e) (fun _ e=>.err e) (fun _ _ e=>.err e) (fun _ _ _ _ _ _ e=>.err e) (fun _ e=>.err e) (fun _ _ _ _ e=>.err e) (fun _ e=>.err e) (fun _ _ _ e=>.err e) (fun _ _ _ e=>.err e) (fun _ _ e=>.err e) (fun _ _ _ _ _ e=>.err e) (fun _ _ _ e=>.err e) (fun _ _ e=>.err e) (fun _ _ _ e=>.err e) (fun _ _ _ _ _ e=>.err e) (fun _ e=>.err e) () (fun _ _ _ _=>()) v k e
def zSt (v:CV) (k:IntKind→Int→OR) (e:Nat):OR:=
 CV.rec (motive_1:=fun _=>(IntKind→Int→OR)→Nat→OR) (motive_2:=fun _=>Unit)
  (fun _ _ e=>.err e) (fun x0 k _=>k .i64 (.ofNat x0)) (fun x0 x1 k _=>k x0 x1) (fun _ _ e=>.err e) (fun _ _ e=>.err e) (fun _ e=>.err e) (fun _ _ _ e=>.err e) (fun _ e=>.err e) (fun _ _ _ _ _ _ _ e=>.err e) (fun _ e=>.err e) (fun _ _ e=>.err e) (fun _ _ _ _ _ _ e=>.err e) (fun _ e=>.err e) (fun _ _ _ _ e=>.err e) (fun _ e=>.err e) (fun _ _ _ e=>.err e) (fun _ _ _ e=>.err e) (fun _ _ e=>.err e) (fun _ _ _ _ _ e=>.err e) (fun _ _ _ e=>.err e) (fun _ _ e=>.err e) (fun _ _ _ e=>.err e) (fun _ _ _ _ _ e=>.err e) (fun _ e=>.err e) () (fun _ _ _ _=>()) v k e
def zVW (v:CV) (k:Nat→OR) (j:IntKind→Int→OR) (e:Nat):OR:=
 CV.rec (motive_1:=fun _=>(Nat→OR)→(IntKind→Int→OR)→Nat→OR) (motive_2:=fun _=>Unit)
  (fun _ _ _ e=>.err e) (fun x0 k _ _=>k x0) (fun x0 x1 _ j _=>j x0 x1) (fun _ _ _ e=>.err e) (fun _ _ _ e=>.err e) (fun _ _ e=>.err e) (fun _ _ _ _ e=>.err e) (fun _ _ e=>.err e) (fun _ _ _ _ _ _ _ _ e=>.err e) (fun _ _ e=>.err e) (fun _ _ _ e=>.err e) (fun _ _ _ _ _ _ _ e=>.err e) (fun _ _ e=>.err e) (fun _ _ _ _ _ e=>.err e) (fun _ _ e=>.err e) (fun _ _ _ _ e=>.err e) (fun _ _ _ _ e=>.err e) (fun _ _ _ e=>.err e) (fun _ _ _ _ _ _ e=>.err e) (fun _ _ _ _ e=>.err e) (fun _ _ _ e=>.err e) (fun _ _ _ _ e=>.err e) (fun _ _ _ _ _ _ e=>.err e) (fun _ _ e=>.err e) () (fun _ _ _ _=>()) v k j e
def ux (v:CV) (k:List Nat→OR) (e:Nat):OR:=
 CV.rec (motive_1:=fun _=>(List Nat→OR)→Nat→OR) (motive_2:=fun _=>Unit)
  (fun _ _ e=>.err e) (fun _ _ e=>.err e) (fun _ _ _ e=>.err e) (fun _ _ e=>.err e) (fun x0 k _=>k x0) (fun _ e=>.err e) (fun _ _ _ e=>.err e) (fun _ e=>.err e) (fun _ _ _ _ _ _ _ e=>.err e) (fun _ e=>.err e) (fun _ _ e=>.err e) (fun _ _ _ _ _ _ e=>.err e) (fun _ e=>.err e) (fun _ _ _ _ e=>.err e) (fun _ e=>.err e) (fun _ _ _ e=>.err e) (fun _ _ _ e=>.err e) (fun _ _ e=>.err e) (fun _ _ _ _ _ e=>.err e) (fun _ _ _ e=>.err e) (fun _ _ e=>.err e) (fun _ _ _ e=>.err e) (fun _ _ _ _ _ e=>.err e) (fun _ e=>.err e) () (fun _ _ _ _=>()) v k e
def zLD (v:CV) (k:Bool→OR) (e:Nat):OR:=
 CV.rec (motive_1:=fun _=>(Bool→OR)→Nat→OR) (motive_2:=fun _=>Unit)
  (fun x0 k _=>k x0) (fun _ _ e=>.err e) (fun _ _ _ e=>.err e) (fun _ _ e=>.err e) (fun _ _ e=>.err e) (fun _ e=>.err e) (fun _ _ _ e=>.err e) (fun _ e=>.err e) (fun _ _ _ _ _ _ _ e=>.err e) (fun _ e=>.err e) (fun _ _ e=>.err e) (fun _ _ _ _ _ _ e=>.err e) (fun _ e=>.err e) (fun _ _ _ _ e=>.err e) (fun _ e=>.err e) (fun _ _ _ e=>.err e) (fun _ _ _ e=>.err e) (fun _ _ e=>.err e) (fun _ _ _ _ _ e=>.err e) (fun _ _ _ e=>.err e) (fun _ _ e=>.err e) (fun _ _ _ e=>.err e) (fun _ _ _ _ _ e=>.err e) (fun _ e=>.err e) () (fun _ _ _ _=>()) v k e
def u7 (v:CV) (z:OR) (k:Key→Nat→Nat→Nat→Nat→Bool→OR) (e:Nat):OR:=
 CV.rec (motive_1:=fun _=>(OR)→(Key→Nat→Nat→Nat→Nat→Bool→OR)→Nat→OR) (motive_2:=fun _=>Unit)
  (fun _ _ _ e=>.err e) (fun _ _ _ e=>.err e) (fun _ _ _ _ e=>.err e) (fun _ _ _ e=>.err e) (fun _ _ _ e=>.err e) (fun _ _ e=>.err e) (fun _ _ _ _ e=>.err e) (fun z _ _=>z) (fun x0 x1 x2 x3 x4 x5 _ k _=>k x0 x1 x2 x3 x4 x5) (fun _ _ e=>.err e) (fun _ _ _ e=>.err e) (fun _ _ _ _ _ _ _ e=>.err e) (fun _ _ e=>.err e) (fun _ _ _ _ _ e=>.err e) (fun _ _ e=>.err e) (fun _ _ _ _ e=>.err e) (fun _ _ _ _ e=>.err e) (fun _ _ _ e=>.err e) (fun _ _ _ _ _ _ e=>.err e) (fun _ _ _ _ e=>.err e) (fun _ _ _ e=>.err e) (fun _ _ _ _ e=>.err e) (fun _ _ _ _ _ _ e=>.err e) (fun _ _ e=>.err e) () (fun _ _ _ _=>()) v z k e
def zDJ (v:CV) (z:OR) (k:Key→OR) (e:Nat):OR:=
 CV.rec (motive_1:=fun _=>(OR)→(Key→OR)→Nat→OR) (motive_2:=fun _=>Unit)
  (fun _ _ _ e=>.err e) (fun _ _ _ e=>.err e) (fun _ _ _ _ e=>.err e) (fun _ _ _ e=>.err e) (fun _ _ _ e=>.err e) (fun _ _ e=>.err e) (fun _ _ _ _ e=>.err e) (fun _ _ e=>.err e) (fun _ _ _ _ _ _ _ _ e=>.err e) (fun z _ _=>z) (fun x0 _ k _=>k x0) (fun _ _ _ _ _ _ _ e=>.err e) (fun _ _ e=>.err e) (fun _ _ _ _ _ e=>.err e) (fun _ _ e=>.err e) (fun _ _ _ _ e=>.err e) (fun _ _ _ _ e=>.err e) (fun _ _ _ e=>.err e) (fun _ _ _ _ _ _ e=>.err e) (fun _ _ _ _ e=>.err e) (fun _ _ _ e=>.err e) (fun _ _ _ _ e=>.err e) (fun _ _ _ _ _ _ e=>.err e) (fun _ _ e=>.err e) () (fun _ _ _ _=>()) v z k e
def zSl (v:CV) (k:List CV→OR) (e:Nat):OR:=
 CV.rec (motive_1:=fun _=>(List CV→OR)→Nat→OR) (motive_2:=fun _=>Unit)
  (fun _ _ e=>.err e) (fun _ _ e=>.err e) (fun _ _ _ e=>.err e) (fun _ _ e=>.err e) (fun _ _ e=>.err e) (fun _ e=>.err e) (fun _ _ _ e=>.err e) (fun _ e=>.err e) (fun _ _ _ _ _ _ _ e=>.err e) (fun _ e=>.err e) (fun _ _ e=>.err e) (fun _ _ _ _ _ _ e=>.err e) (fun _ e=>.err e) (fun _ _ _ _ e=>.err e) (fun _ e=>.err e) (fun x0 _ k _=>k x0) (fun _ _ _ e=>.err e) (fun _ _ e=>.err e) (fun _ _ _ _ _ e=>.err e) (fun _ _ _ e=>.err e) (fun _ _ e=>.err e) (fun _ _ _ e=>.err e) (fun _ _ _ _ _ e=>.err e) (fun _ e=>.err e) () (fun _ _ _ _=>()) v k e
def zUn (v:CV) (k:List CV→OR) (e:Nat):OR:=
 CV.rec (motive_1:=fun _=>(List CV→OR)→Nat→OR) (motive_2:=fun _=>Unit)
  (fun _ _ e=>.err e) (fun _ _ e=>.err e) (fun _ _ _ e=>.err e) (fun _ _ e=>.err e) (fun _ _ e=>.err e) (fun _ e=>.err e) (fun _ _ _ e=>.err e) (fun _ e=>.err e) (fun _ _ _ _ _ _ _ e=>.err e) (fun _ e=>.err e) (fun _ _ e=>.err e) (fun _ _ _ _ _ _ e=>.err e) (fun _ e=>.err e) (fun _ _ _ _ e=>.err e) (fun _ e=>.err e) (fun _ _ _ e=>.err e) (fun x0 _ k _=>k x0) (fun _ _ e=>.err e) (fun _ _ _ _ _ e=>.err e) (fun _ _ _ e=>.err e) (fun _ _ e=>.err e) (fun _ _ _ e=>.err e) (fun _ _ _ _ _ e=>.err e) (fun _ e=>.err e) () (fun _ _ _ _=>()) v k e
def zMe (v:CV) (k:Fn→List CV→List CV→OR) (e:Nat):OR:=
 CV.rec (motive_1:=fun _=>(Fn→List CV→List CV→OR)→Nat→OR) (motive_2:=fun _=>Unit)
  (fun _ _ e=>.err e) (fun _ _ e=>.err e) (fun _ _ _ e=>.err e) (fun _ _ e=>.err e) (fun _ _ e=>.err e) (fun _ e=>.err e) (fun _ _ _ e=>.err e) (fun _ e=>.err e) (fun _ _ _ _ _ _ _ e=>.err e) (fun _ e=>.err e) (fun _ _ e=>.err e) (fun x0 x1 x2 _ _ k _=>k x0 x1 x2) (fun _ e=>.err e) (fun _ _ _ _ e=>.err e) (fun _ e=>.err e) (fun _ _ _ e=>.err e) (fun _ _ _ e=>.err e) (fun _ _ e=>.err e) (fun _ _ _ _ _ e=>.err e) (fun _ _ _ e=>.err e) (fun _ _ e=>.err e) (fun _ _ _ e=>.err e) (fun _ _ _ _ _ e=>.err e) (fun _ e=>.err e) () (fun _ _ _ _=>()) v k e
def zCl (v:CV) (k:TypeId→CV→OR) (z:OR) (e:Nat):OR:=
 CV.rec (motive_1:=fun _=>(TypeId→CV→OR)→(OR)→Nat→OR) (motive_2:=fun _=>Unit)
  (fun _ _ _ e=>.err e) (fun _ _ _ e=>.err e) (fun _ _ _ _ e=>.err e) (fun _ _ _ e=>.err e) (fun _ _ _ e=>.err e) (fun _ _ e=>.err e) (fun _ _ _ _ e=>.err e) (fun _ _ e=>.err e) (fun _ _ _ _ _ _ _ _ e=>.err e) (fun _ _ e=>.err e) (fun _ _ _ e=>.err e) (fun _ _ _ _ _ _ _ e=>.err e) (fun _ _ e=>.err e) (fun x0 x1 _ k _ _=>k x0 x1) (fun _ z _=>z) (fun _ _ _ _ e=>.err e) (fun _ _ _ _ e=>.err e) (fun _ _ _ e=>.err e) (fun _ _ _ _ _ _ e=>.err e) (fun _ _ _ _ e=>.err e) (fun _ _ _ e=>.err e) (fun _ _ _ _ e=>.err e) (fun _ _ _ _ _ _ e=>.err e) (fun _ _ e=>.err e) () (fun _ _ _ _=>()) v k z e
def zVQ (v:CV) (k:IntKind→Int→OR) (u:IntKind→OR) (s:List Nat→OR) (e:Nat):OR:=
 CV.rec (motive_1:=fun _=>(IntKind→Int→OR)→(IntKind→OR)→(List Nat→OR)→Nat→OR) (motive_2:=fun _=>Unit)
  (fun _ _ _ _ e=>.err e) (fun x0 k _ _ _=>k .i64 (.ofNat x0)) (fun x0 x1 k _ _ _=>k x0 x1) (fun x0 _ u _ _=>u x0) (fun x0 _ _ s _=>s x0) (fun _ _ _ e=>.err e) (fun _ _ _ _ _ e=>.err e) (fun _ _ _ e=>.err e) (fun _ _ _ _ _ _ _ _ _ e=>.err e) (fun _ _ _ e=>.err e) (fun _ _ _ _ e=>.err e) (fun _ _ _ _ _ _ _ _ e=>.err e) (fun _ _ _ e=>.err e) (fun _ _ _ _ _ _ e=>.err e) (fun _ _ _ e=>.err e) (fun _ _ _ _ _ e=>.err e) (fun _ _ _ _ _ e=>.err e) (fun _ _ _ _ e=>.err e) (fun _ _ _ _ _ _ _ e=>.err e) (fun _ _ _ _ _ e=>.err e) (fun _ _ _ _ e=>.err e) (fun _ _ _ _ _ e=>.err e) (fun _ _ _ _ _ _ _ e=>.err e) (fun _ _ _ e=>.err e) () (fun _ _ _ _=>()) v k u s e
def zSz (v:CV) (k:IntKind→Int→OR) (u:IntKind→OR) (e:Nat):OR:=
 CV.rec (motive_1:=fun _=>(IntKind→Int→OR)→(IntKind→OR)→Nat→OR) (motive_2:=fun _=>Unit)
  (fun _ _ _ e=>.err e) (fun x0 k _ _=>k .i64 (.ofNat x0)) (fun x0 x1 k _ _=>k x0 x1) (fun x0 _ u _=>u x0) (fun _ _ _ e=>.err e) (fun _ _ e=>.err e) (fun _ _ _ _ e=>.err e) (fun _ _ e=>.err e) (fun _ _ _ _ _ _ _ _ e=>.err e) (fun _ _ e=>.err e) (fun _ _ _ e=>.err e) (fun _ _ _ _ _ _ _ e=>.err e) (fun _ _ e=>.err e) (fun _ _ _ _ _ e=>.err e) (fun _ _ e=>.err e) (fun _ _ _ _ e=>.err e) (fun _ _ _ _ e=>.err e) (fun _ _ _ e=>.err e) (fun _ _ _ _ _ _ e=>.err e) (fun _ _ _ _ e=>.err e) (fun _ _ _ e=>.err e) (fun _ _ _ _ e=>.err e) (fun _ _ _ _ _ _ e=>.err e) (fun _ _ e=>.err e) () (fun _ _ _ _=>()) v k u e
def zU8 (v:CV) (k:Key→Nat→OR) (z:OR):OR:=
 CV.rec (motive_1:=fun _=>(Key→Nat→OR)→OR→OR) (motive_2:=fun _=>Unit)
  (fun _ _ z=>z) (fun _ _ z=>z) (fun _ _ _ z=>z) (fun _ _ z=>z) (fun _ _ z=>z) (fun _ z=>z) (fun x0 x1 k _=>k x0 x1) (fun _ z=>z) (fun _ _ _ _ _ _ _ z=>z) (fun _ z=>z) (fun _ _ z=>z) (fun _ _ _ _ _ _ z=>z) (fun _ z=>z) (fun _ _ _ _ z=>z) (fun _ z=>z) (fun _ _ _ z=>z) (fun _ _ _ z=>z) (fun _ _ z=>z) (fun _ _ _ _ _ z=>z) (fun _ _ _ z=>z) (fun _ _ z=>z) (fun _ _ _ z=>z) (fun _ _ _ _ _ z=>z) (fun _ z=>z) () (fun _ _ _ _=>()) v k z
def zLk (v:CV) (k:Key→Nat→SE→SE→OR) (z:OR):OR:=
 CV.rec (motive_1:=fun _=>(Key→Nat→SE→SE→OR)→OR→OR) (motive_2:=fun _=>Unit)
  (fun _ _ z=>z) (fun _ _ z=>z) (fun _ _ _ z=>z) (fun _ _ z=>z) (fun _ _ z=>z) (fun _ z=>z) (fun _ _ _ z=>z) (fun _ z=>z) (fun _ _ _ _ _ _ _ z=>z) (fun _ z=>z) (fun _ _ z=>z) (fun _ _ _ _ _ _ z=>z) (fun _ z=>z) (fun _ _ _ _ z=>z) (fun _ z=>z) (fun _ _ _ z=>z) (fun _ _ _ z=>z) (fun _ _ z=>z) (fun x0 x1 x2 x3 k _=>k x0 x1 x2 x3) (fun _ _ _ z=>z) (fun _ _ z=>z) (fun _ _ _ z=>z) (fun _ _ _ _ _ z=>z) (fun _ z=>z) () (fun _ _ _ _=>()) v k z
def zG4 (v:CV) (k:List CV→OR) (z:OR):OR:=
 CV.rec (motive_1:=fun _=>(List CV→OR)→OR→OR) (motive_2:=fun _=>Unit)
  (fun _ _ z=>z) (fun _ _ z=>z) (fun _ _ _ z=>z) (fun _ _ z=>z) (fun _ _ z=>z) (fun _ z=>z) (fun _ _ _ z=>z) (fun _ z=>z) (fun _ _ _ _ _ _ _ z=>z) (fun _ z=>z) (fun _ _ z=>z) (fun _ _ _ _ _ _ z=>z) (fun _ z=>z) (fun _ _ _ _ z=>z) (fun _ z=>z) (fun _ _ _ z=>z) (fun _ _ _ z=>z) (fun _ _ z=>z) (fun _ _ _ _ _ z=>z) (fun x0 _ k _=>k x0) (fun _ _ z=>z) (fun _ _ _ z=>z) (fun _ _ _ _ _ z=>z) (fun _ z=>z) () (fun _ _ _ _=>()) v k z
def zP3 (v:CV) (k:Nat→OR) (z:OR):OR:=
 CV.rec (motive_1:=fun _=>(Nat→OR)→OR→OR) (motive_2:=fun _=>Unit)
  (fun _ _ z=>z) (fun x0 k _=>k x0) (fun _ _ _ z=>z) (fun _ _ z=>z) (fun _ _ z=>z) (fun _ z=>z) (fun _ _ _ z=>z) (fun _ z=>z) (fun _ _ _ _ _ _ _ z=>z) (fun _ z=>z) (fun _ _ z=>z) (fun _ _ _ _ _ _ z=>z) (fun _ z=>z) (fun _ _ _ _ z=>z) (fun _ z=>z) (fun _ _ _ z=>z) (fun _ _ _ z=>z) (fun _ _ z=>z) (fun _ _ _ _ _ z=>z) (fun _ _ _ z=>z) (fun _ _ z=>z) (fun _ _ _ z=>z) (fun _ _ _ _ _ z=>z) (fun _ z=>z) () (fun _ _ _ _=>()) v k z
def vp (v:CV) (k:Nat→OR) (e:Nat):OR:=
 zVW v k (fun _ n=>Int.rec (motive:=fun _=>(Nat→OR)→Nat→OR) (fun m k _=>k m) (fun _ _ e=>.err e) n k e) e
def kf (o:Option CObj) (k:List CV→OR) (e:Nat):OR:=
 Option.rec (motive:=fun _=>(List CV→OR)→Nat→OR) (fun _ e=>.err e)
  (fun o=>CObj.rec (motive:=fun _=>(List CV→OR)→Nat→OR) (fun vs k _=>k vs) (fun _ _ e=>.err e) (fun _ _ _ e=>.err e) (fun _ _ _ e=>.err e) (fun _ _ _ _ _ e=>.err e) (fun _ _ _ e=>.err e) (fun _ _ e=>.err e) (fun _ _ e=>.err e) (fun _ e=>.err e) (fun _ _ e=>.err e) o) o k e
def uD (o:Option CObj) (k:List CV→OR) (e:Nat):OR:=
 Option.rec (motive:=fun _=>(List CV→OR)→Nat→OR) (fun _ e=>.err e)
  (fun o=>CObj.rec (motive:=fun _=>(List CV→OR)→Nat→OR) (fun vs k _=>k vs) (fun vs k _=>k vs) (fun _ _ _ e=>.err e) (fun _ _ _ e=>.err e) (fun _ _ _ _ _ e=>.err e) (fun _ vs k _=>k vs) (fun _ _ e=>.err e) (fun _ _ e=>.err e) (fun _ e=>.err e) (fun _ _ e=>.err e) o) o k e
def vX (o:Option CObj) (k:List CE→Nat→OR) (e:Nat):OR:=
 Option.rec (motive:=fun _=>(List CE→Nat→OR)→Nat→OR) (fun _ e=>.err e)
  (fun o=>CObj.rec (motive:=fun _=>(List CE→Nat→OR)→Nat→OR) (fun _ _ e=>.err e) (fun _ _ e=>.err e) (fun es c k _=>k es c) (fun _ _ _ e=>.err e) (fun _ _ _ _ _ e=>.err e) (fun _ _ _ e=>.err e) (fun _ _ e=>.err e) (fun _ _ e=>.err e) (fun _ e=>.err e) (fun _ _ e=>.err e) o) o k e
def zJc (o:Option CObj) (k:Bool→List CV→OR) (z:OR):OR:=match o with
 | some (.full u vs)=>k u vs
 | _=>z
def zJp (o:Option CObj) (k:List (CV × CV)→OR) (z:OR):OR:=match o with
 | some (.mapz es)=>k es
 | _=>z
def zTX (l:List CV) (k:Nat):CV:=List.rec (motive:=fun _=>Nat→CV) (fun _=>.any) (fun x _ ih k=>Nat.rec (motive:=fun _=>CV) x (fun k _=>ih k) k) l k
def aE (i:Nat):List CV→Tm→CV:=fun es _=>zTX es i
def aL (p:Loc):List CV→Tm→CV:=fun _ tm=>qZ p tm
def aK (v:CV):List CV→Tm→CV:=fun _ _=>v
def aV (es:List CV) (tm:Tm) (x:zT):CV:=zT.rec (motive:=fun _=>List CV→Tm→CV) aE aL aK x es tm
def aVs (es:List CV) (tm:Tm) (l:List zT):List CV:=List.rec (motive:=fun _=>List CV) [] (fun x _ ih=>aV es tm x::ih) l
abbrev X:=List CV→Tm→zC→Key→OR
def xMv (x:zT):X:=fun es tm _ _=>.val (aV es tm x)
def zUu (c a b:zT):X:=fun es tm _ _=>zLD (aV es tm c) (fun t=>ifB t (.val (aV es tm a)) (.val (aV es tm b))) 100
def zQJ (cs:List CV):X:=fun _ _ _ n=>.alloc (.cells cs) (.ptr n 0)
def zVG (x:zT):X:=fun es tm _ n=>onL (cellsOf (aV es tm x)) (fun cs=>.alloc (.cells cs) (.ptr n 0)) 101
def zCL (s off:Nat) (cells:List CV) (v:Option (List CV)):Option (List CV):=
 Option.rec (motive:=fun _=>Nat→List CV→Nat→Option (List CV)) (fun _ _ _=>none) (fun xs s cells off=>jY xs s cells off) v s cells off
def zAF (es:List CV) (tm:Tm) (ps:List zIA) (cells:List CV):Option (List CV):=
 List.rec (motive:=fun _=>List CV→Option (List CV)) (fun cells=>some cells)
  (fun p _ ih cells=>Option.rec (motive:=fun _=>Option (List CV)) none ih (zCL p.size p.off cells (cellsOf (aV es tm p.arg)))) ps cells
def zP8 (zero:List CV) (ps:List zIA):X:=fun es tm _ _=>zVc (zAF es tm ps zero) 102
def ifO (b:Bool) (t f:CObj):CObj:=Bool.rec (motive:=fun _=>CObj→CObj→CObj) (fun _ f=>f) (fun t _=>t) b t f
def zNx (zero:List CV) (len esz:Nat) (ps:List zIA):X:=fun es tm _ n=>onL (zAF es tm ps zero) (fun cs=>.alloc (ifO (Nat.beq len 1&&Nat.beq esz 6) (.full true cs) (.cells cs)) (.sl n 0 len len esz true)) 103
def zNG:List CV→Option (List (List Nat))
 | []=>some []
 | .str s::r=>match zNG r with
  | some t=>some (s::t)
  | none=>none
 | _::_=>none
def zV1 (vs:List CV) (off i m:Nat):Option CV:=match zAa vs off (Nat.succ m) with
 | some l=>match zNG l with
  | some t=>some (.few i t)
  | none=>none
 | none=>none
def zUI (v:CV) (h:zC):OR:=match v with
 | .elt b off i m=>uD (zn b h) (fun vs=>zQa (zV1 vs off i m) 104) 105
 | _=>.err 106
def zR3 (x:zT):X:=fun es tm h _=>zU8 (aV es tm x) (fun b off=>uD (zn b h) (fun vs=>zQa (zAj vs off) 104) 105) (zUI (aV es tm x) h)
def zRJ (s:Nat) (x:zT):X:=fun es tm h _=>zDR (aV es tm x) (fun b off=>uD (zn b h) (fun vs=>zUk (zAa vs off s) 107) 108) 109
def zRl (s:Nat) (a x:zT):X:=fun es tm h n=>zDR (aV es tm a) (fun b off=>kf (zn b h) (fun vs=>
 onL (cellsOf (aV es tm x)) (fun cs=>yl (xQ cs) (onL (jY cs s vs off) (fun l=>.eff .undef (yu (some (.cells l)) b h) n) 110) 111) 112) 113) 114
def zFU (v:CV):OR:=match v with
 | .nilptr=>.err 115
 | .niliface=>.err 115
 | .nilfunc=>.err 115
 | .func (.method _) _ _=>.err 116
 | .any=>.err 116
 | v=>.val v
def zQo (x:zT):X:=fun es tm _ _=>zU8 (aV es tm x) (fun b o=>.val (.ptr b o)) (zFU (aV es tm x))
class Sym where
 val:SE→Value
 one:∀ e,(∃ k n,val e=.int k n)∨∃ s,val e=.string s
 bin:BinOp→CV→CV→Option (List CV)
 cv:IntKind→CV→Option (List CV)
 arg:Key→Option Value
 kb:List (Int × Int):=[]
 inn:CV→List CV→Bool:=fun _ _=>false
variable [Sym]
def forkL (c:CV) (l:List CV):OR:=List.rec (motive:=fun _=>CV→OR) (fun c=>.val c) (fun d _ ih c=>.fork (.val c) (ih d)) l c
def zTL (o:Option (List CV)) (e:Nat):OR:=match o with
 | none=>.err e
 | some l=>match l with
  | []=>.err e
  | c::cs=>forkL c cs
def zQx (v:CV):Bool:=match v with
 | .sym _=>true
 | .sst _=>true
 | .few _ _=>true
 | _=>false
def kw:OR:=.fork (.val (.bool true)) (.val (.bool false))
def zMR (k:IntKind) (m:Nat):OR:=Nat.rec (motive:=fun _=>OR) (.val (ji k 0)) (fun i ih=>.fork ih (.val (ji k (Nat.succ i)))) m
def zLY (k:IntKind) (m:Nat):OR:=Nat.rec (motive:=fun _=>OR) (.val (ji k 0)) (fun i ih=>.fork ih (.fork (.val (ji k (Nat.succ i))) (.val (.int k (.negSucc i))))) m
def jN (op:BinOp) (j k:IntKind):OR:=yl (kEq j k) (match op with
 | .add=>.val (.anyi k)
 | .sub=>.val (.anyi k)
 | .mul=>.val (.anyi k)
 | .and=>.val (.anyi k)
 | .or=>.val (.anyi k)
 | .xor=>.val (.anyi k)
 | .andNot=>.val (.anyi k)
 | .eql=>kw
 | .neq=>kw
 | .lss=>kw
 | .leq=>kw
 | .gtr=>kw
 | .geq=>kw
 | _=>.err 117) 118
def zGn (op:BinOp) (k:IntKind) (b:Int):OR:=match op with
 | .and=>match b with
  | .ofNat m=>yl (Nat.ble m 127) (zMR k m) 117
  | .negSucc _=>.val (.anyi k)
 | .rem=>match b with
  | .ofNat m=>match m with
   | 0=>.err 117
   | m+1=>yl (Nat.ble m 127) (match k.signed with
    | true=>zLY k m
    | false=>.val (.anyi k)) 117
  | .negSucc _=>.err 117
 | .quo=>match b with
  | .ofNat m=>match m with
   | 0=>.err 117
   | _+1=>.val (.anyi k)
  | .negSucc _=>.val (.anyi k)
 | .shl=>match b with
  | .ofNat _=>.val (.anyi k)
  | .negSucc _=>.err 117
 | .shr=>match b with
  | .ofNat _=>.val (.anyi k)
  | .negSucc _=>.err 117
 | op=>jN op k k
def zLZ (op:BinOp) (x y:CV):OR:=zVQ x
 (fun k a=>zSz y (fun j b=>yl (kEq k j || yv op) (zEf (yQ op k a b) 117) 118) (fun j=>jN op j k) 119)
 (fun k=>zSz y (fun j b=>yl (kEq k j || yv op) (zGn op k b) 118) (fun j=>jN op j k) 119)
 (fun a=>ux y (fun b=>zEf (zSG op a b) 120) 121) 122
def zRO (op:BinOp) (a m:Nat):OR:=match op with
 | .gtr=>ifB (Nat.ble a m) (.val (.bool false)) kw
 | .leq=>ifB (Nat.ble a m) (.val (.bool true)) kw
 | .lss=>ifB (Nat.ble (Nat.succ a) m) (.val (.bool true)) kw
 | .geq=>ifB (Nat.ble (Nat.succ a) m) (.val (.bool false)) kw
 | _=>.err 119
def kV (op:BinOp) (x y:CV):OR:=match x,y with
 | .nat a,.big m=>zRO op a m
 | x,y=>match zQx x || zQx y with
  | true=>zTL (Sym.bin op x y) 117
  | false=>zLZ op x y
def zMO (op:BinOp) (a b:Nat) (x y:CV):OR:=Option.rec (motive:=fun _=>BinOp→CV→CV→OR) (fun op x y=>kV op x y) (fun v _ _ _=>.val v) (zHb op a b) op x y
def zRC (op:BinOp) (x y:zT):X:=fun es tm _ _=>
 zP3 (aV es tm x) (fun a=>zP3 (aV es tm y) (fun b=>zMO op a b (aV es tm x) (aV es tm y)) (kV op (aV es tm x) (aV es tm y))) (kV op (aV es tm x) (aV es tm y))
def ul:EqK→CV→CV→Option Bool
 | .bool,.bool a,.bool b=>some (a == b)
 | .int,.nat a,.nat b=>some (Nat.beq a b)
 | .int,.int k a,.int j b=>match kEq k j with
  | true=>some (zj a b)
  | false=>none
 | .int,.nat _,.int .i64 (.negSucc _)=>some false
 | .int,.int .i64 (.negSucc _),.nat _=>some false
 | .str,.str a,.str b=>some (qC a b)
 | _,_,_=>none
def eqFields (xs ys:List CV):List (Nat × EqK)→Option Bool
 | []=>some true
 | (o,k)::r=>match zAj xs o,zAj ys o with
  | some x,some y=>match ul k x y with
   | some true=>eqFields xs ys r
   | some false=>some false
   | none=>none
  | _,_=>none
def eqC (k:EqK) (cst:Bool) (x y:CV):Option Bool:=match k with
 | .bool=>ul .bool x y
 | .int=>none
 | .str=>none
 | .pointer=>match x,y with
  | .nilptr,.nilptr=>some true
  | .nilptr,.ptr _ _=>some false
  | .ptr _ _,.nilptr=>some false
  | _,_=>none
 | .iface=>match x,y with
  | .niliface,.niliface=>if cst then some true else none
  | .niliface,.iface _ _=>some false
  | .iface _ _,.niliface=>some false
  | _,_=>none
 | .slice=>match x,y with
  | .nilsl,.nilsl=>some true
  | .nilsl,.sl ..=>some false
  | .sl ..,.nilsl=>some false
  | _,_=>none
 | .map=>match x,y with
  | .nilmap,.nilmap=>some true
  | .nilmap,.map _=>some false
  | .map _,.nilmap=>some false
  | _,_=>none
 | .func=>match x,y with
  | .nilfunc,.nilfunc=>some true
  | .nilfunc,.func ..=>some false
  | .func ..,.nilfunc=>some false
  | _,_=>none
 | .struct fs=>match x,y with
  | .agg xs,.agg ys=>eqFields xs ys fs
  | _,_=>none
def zNW (v:CV):Option IntKind:=match v with
 | .nat _=>some .i64
 | .int k _=>some k
 | .anyi k=>some k
 | _=>none
def zAH (xs ys:List CV):List (Nat × EqK)→Bool
 | []=>true
 | (o,k)::r=>(match k with
  | .int=>true
  | _=>false)&&(match zAj xs o,zAj ys o with
  | some x,some y=>match zNW x,zNW y with
   | some a,some b=>kEq a b
   | _,_=>false
  | _,_=>false)&&zAH xs ys r
def zHD (k:EqK) (x y:CV):Bool:=match k,x,y with
 | .struct fs,.agg xs,.agg ys=>zAH xs ys fs
 | _,_,_=>false
def xEq (neg:Bool) (k:EqK) (cst:Bool) (x y:zT):X:=fun es tm _ _=>match eqC k cst (aV es tm x) (aV es tm y) with
 | some b=>.val (.bool (xor neg b))
 | none=>match zHD k (aV es tm x) (aV es tm y) with
  | true=>kw
  | false=>.err 123
def xUn (op:UnOp) (x:zT):X:=fun es tm _ _=>match op with
 | .neg=>zSt (aV es tm x) (fun k n=>.val (zb k (yr k (Int.sub (.ofNat 0) n)))) 124
 | .xor=>zSt (aV es tm x) (fun k n=>zEf (zUM k (if k.signed then -1 else k.max) n) 125) 126
 | .not=>zLD (aV es tm x) (fun b=>.val (.bool (u9 b))) 127
 | .plus=>.err 128
def zGp (k:IntKind) (v:CV):OR:=match zQx v with
 | true=>zTL (Sym.cv k v) 129
 | false=>zSz v (fun _ a=>.val (zb k (yr k a))) (fun _=>.val (.anyi k)) 129
def zQb (k:IntKind) (x:zT):X:=fun es tm _ _=>zGp k (aV es tm x)
def zRT (x:zT):X:=fun es tm _ _=>ux (aV es tm x) (fun s=>.val (.str s)) 130
def x8 (s:List Nat):List CV:=List.rec (motive:=fun _=>List CV) [] (fun b _ ih=>.int .u8 (.ofNat b)::ih) s
def vJ (v:CV):Option Nat:=match v with
 | .int .u8 (.ofNat b)=>match Nat.ble b 255 with
  | true=>some b
  | false=>none
 | _=>none
def jt (l:List CV):Option (List Nat):=
 List.rec (motive:=fun _=>Option (List Nat)) (some []) (fun v _ ih=>Option.rec (motive:=fun _=>Option (List Nat)→Option (List Nat)) (fun _=>none) (fun b r=>zNB b r) (vJ v) ih) l
def zOZ (l:List CV):CV:=match jt l with
 | some r=>.str r
 | none=>.sst l
def zUs (x:zT):X:=fun es tm _ n=>zG4 (aV es tm x) (fun l=>wl (wz l) fun k=>.alloc (.cells l) (.sl n 0 k k 1 false)) <| ux (aV es tm x) (fun l=>wl (zBM l) fun k=>.alloc (.cells (x8 l)) (.sl n 0 k k 1 false)) 131
def zNA (x:zT):X:=fun es tm h n=>u7 (aV es tm x) (.err 132) (fun b off len cap esz ex=>kf (zn b h) (fun _=>.eff (.sl b off len cap esz ex) h n) 133) 134
def zVP (v:Option (List Nat)) (c:Nat):OR:=Option.rec (motive:=fun _=>Nat→OR) (fun c=>.err c) (fun v _=>.val (.str v)) v c
def zJh (v:CV):Bool:=match v with
 | .int k (.ofNat b)=>kEq k .u8&&Nat.ble b 255
 | .sym e=>kEq e.k .u8&&(match Sym.bin .leq (.sym e) (.int .u8 (.ofNat 255)),Sym.bin .geq (.sym e) (.int .u8 (.ofNat 0)) with
  | some [.bool true],some [.bool true]=>true
  | _,_=>false)
 | _=>false
def zCI:List CV→Bool
 | []=>true
 | v::r=>zJh v&&zCI r
def zLS (cs:List CV):OR:=match jt cs with
 | some r=>.read (.str r)
 | none=>match zCI cs with
  | true=>.read (.sst cs)
  | false=>.err 135
def zTB (m:SE):Bool:=match Sym.bin .leq (.sym m) (.nat 0) with
 | some [.bool true]=>true
 | _=>false
def zUz (x:zT):X:=fun es tm h _=>zLk (aV es tm x) (fun _ _ _ m=>yl (zTB m) (.val (.str [])) 138) <| u7 (aV es tm x) (.val (.str [])) (fun b off len _ _ _=>uD (zn b h) (fun vs=>
 onL (zAa vs off len) zLS 136) 137) 138
def zQk (t:TypeId) (x:zT):X:=fun es tm _ _=>.val (.iface t (aV es tm x))
def zUD (fn:Fn) (a b:List zT):X:=fun es tm _ _=>.val (.func fn (aVs es tm a) (aVs es tm b))
def zSK:X:=fun _ _ _ n=>.alloc (.map [] 0) (.map n)
def zKs (zero:List CV) (esz bytes:Nat) (l c:zT):X:=fun es tm _ n=>vp (aV es tm l) (fun l=>vp (aV es tm c) (fun c=>
 yl (Nat.ble l c&&Nat.ble (Nat.mul c esz) 100000&&Nat.ble (Nat.mul bytes c) 1000000)
  (wl l fun l=>wl c fun c=>.alloc (.cells (k8 zero c)) (.sl n 0 l c esz true)) 139) 140) 141
def zBD (es:List CV) (tm:Tm) (x:Option zT) (y d:Nat) (k:Nat→OR) (e:Nat):OR:=
 Option.rec (motive:=fun _=>Nat→(Nat→OR)→OR) (fun d k=>k d) (fun x _ k=>vp (aV es tm x) (fun i=>yl (Nat.ble i y) (k i) e) e) x d k
def jD (es:List CV) (tm:Tm) (len cap:Nat) (lo hi mx:Option zT) (k:Nat→Nat→Nat→OR) (e:Nat):OR:=
 zBD es tm mx cap cap (fun m=>zBD es tm hi m len (fun h=>zBD es tm lo h 0 (fun l=>k l h m) e) e) e
def zN0 (b:Key) (off esz:Nat) (ex:Bool):Nat→Nat→Nat→OR:=fun l h m=>
 yl (Nat.ble h m&&Nat.ble l h) (wl (Nat.add off (Nat.mul l esz)) fun o=>wl (Nat.sub h l) fun hl=>wl (Nat.sub m l) fun ml=>.val (.sl b o hl ml esz ex)) 142
def zRm (len esz:Nat) (x:zT) (lo hi mx:Option zT):X:=fun es tm _ _=>zDR (aV es tm x) (fun b off=>
 jD es tm len len lo hi mx (zN0 b off esz true) 143) 144
def zA1 (es:List CV) (tm:Tm) (h:zC) (b:Key) (off cap esz:Nat) (ex:Bool) (lo hi mx:Option zT) (k0:OR):OR:=match ex,lo,mx,hi with
 | false,none,none,some y=>match aV es tm y with
  | .nat m=>match Nat.ble m cap,cap with
   | false,_+1=>kf (zn b h) (fun vs=>yl (Nat.ble (Nat.add off (Nat.mul m esz)) (wz vs)) (wl m fun m=>.read (.sl b off m m esz false)) 146) 146
   | _,_=>k0
  | _=>k0
 | _,_,_,_=>k0
def zG0 (es:List CV) (tm:Tm) (b:Key) (z:Nat) (e n:SE) (esz:Nat) (lo hi mx:Option zT):OR:=match lo,mx,hi with
 | none,none,some y=>match aV es tm y with
  | .nat m=>match Nat.beq z esz&&Nat.ble 1 m,Sym.bin .leq (.nat m) (.sym n),Sym.bin .leq (.nat 0) (.sym e),Sym.bin .leq (.sym e) (.nat 0) with
   | true,some [.bool true],some [.bool true],some [.bool true]=>wl m fun m=>.val (.sl b 0 m m esz false)
   | _,_,_,_=>.err 325
  | _=>.err 325
 | _,_,_=>.err 325
def zUo (esz:Nat) (x:zT) (lo hi mx:Option zT):X:=fun es tm h _=>zLk (aV es tm x) (fun b z e n=>zG0 es tm b z e n esz lo hi mx) <| u7 (aV es tm x)
 (jD es tm 0 0 lo hi mx (fun _ _ _=>.val .nilsl) 145)
 (fun b off len cap s ex=>yl (Nat.beq s esz) (zA1 es tm h b off cap esz ex lo hi mx (jD es tm len cap lo hi mx (zN0 b off esz (ex || mx.isSome)) 146)) 147) 148
def zSa (x:zT) (lo hi:Option zT):X:=fun es tm _ _=>zG4 (aV es tm x) (fun s=>
 wl (wz s) fun n=>jD es tm n n lo hi none (fun l h _=>yl (Nat.ble l h) (onL (zAa s l (Nat.sub h l)) (fun r=>.val (zOZ r)) 149) 149) 150) <| ux (aV es tm x) (fun s=>
 wl (zBM s) fun n=>jD es tm n n lo hi none (fun l h _=>yl (Nat.ble l h) (zVP (zU1 s l (Nat.sub h l)) 149) 149) 150) 151
def zOx (k:Nat) (x:zT):X:=fun es tm _ _=>zDR (aV es tm x) (fun b off=>wl (Nat.add off k) fun o=>.val (.ptr b o)) 152
def zSD (agg:Bool) (s:Nat) (cs:List CV) (off:Nat) (e:Nat):OR:=Bool.rec (motive:=fun _=>OR) (zEf (zAj cs off) e) (zVc (zAa cs off s) e) agg
def zUp (agg:Bool) (off s:Nat) (x:zT):X:=fun es tm _ _=>zSl (aV es tm x) (fun cs=>zSD agg s cs off 153) 154
def zRD (len esz:Nat) (x i:zT):X:=fun es tm _ _=>zDR (aV es tm x) (fun b off=>vp (aV es tm i) (fun i=>
 yl (Nat.ble (Nat.succ i) len) (wl (Nat.add off (Nat.mul i esz)) fun o=>.val (.ptr b o)) 155) 156) 157
def j6:List (Nat × Int)→List (Nat × Int)→Bool
 | [],[]=>true
 | (i,a)::l,(j,b)::m=>Nat.beq i j&&zj a b&&j6 l m
 | _,_=>false
def zRu (a b:SE):Bool:=kEq a.k b.k&&zj a.c b.c&&j6 a.l b.l
def zLX (b:Key) (s:Nat) (e n:SE) (esz:Nat) (i:CV):OR:=match i with
 | .nat k=>match Nat.beq s esz,Sym.bin .lss (.nat k) (.sym n),Sym.bin .leq (.nat 0) (.sym e),Sym.bin .leq (.sym e) (.nat 0) with
  | true,some [.bool true],some [.bool true],some [.bool true]=>wl (Nat.mul k esz) fun o=>.val (.ptr b o)
  | _,_,_,_=>.err 320
 | _=>.err 322
def zQE (b:Key) (s:Nat) (e n:SE) (esz:Nat) (i:CV):OR:=match i with
 | .sym j=>match zRu j e&&Nat.beq s esz with
  | true=>match Sym.bin .leq (.nat 0) (.sym e),Sym.bin .lss (.sym e) (.sym n) with
   | some [.bool true],some [.bool true]=>.val (.ptr b 0)
   | _,_=>.err 320
  | false=>.err 321
 | i=>zLX b s e n esz i
def zFS (x y:CV):Option Bool:=match Sym.cv .i64 x,Sym.bin .leq x y,Sym.bin .geq x y with
 | some _,some [.bool a],some [.bool b]=>some (a&&b)
 | _,_,_=>none
def zJ8 (i:CV):CV:=match i with
 | .sym j=>match Sym.bin .andNot (.sym j) (.nat 0) with
  | some [.nat k]=>match zFS (.sym j) (.nat k) with
   | some true=>.nat k
   | _=>.sym j
  | _=>.sym j
 | i=>i
def zU0 (v:CV):CV:=match v with
 | .few i t=>match zJ8 (.sym ⟨.i64,0,[(i,1)]⟩) with
  | .nat k=>match nth t k with
   | some s=>.str s
   | none=>v
  | _=>v
 | v=>v
def zSv (esz:Nat) (b:Key) (off len:Nat) (v:CV) (z:OR):OR:=match v with
 | .sym e=>match e.l with
  | [(i,a)]=>match kEq e.k .i64&&zj e.c 0&&zj a 1&&Nat.beq esz 1,Sym.bin .geq (.sym e) (.nat 0),Sym.bin .leq (.sym e) (.nat (Nat.sub len 1)),len with
   | true,some [.bool true],some [.bool true],m+1=>.val (.elt b off i m)
   | _,_,_,_=>z
  | _=>z
 | _=>z
def zUy (esz:Nat) (x i:zT):X:=fun es tm _ _=>zLk (aV es tm x) (fun b s e n=>zQE b s e n esz (aV es tm i)) <| u7 (aV es tm x) (.err 158) (fun b off len _ _ _=>zSv esz b off len (zJ8 (aV es tm i)) <| vp (zJ8 (aV es tm i)) (fun i=>
 yl (Nat.ble (Nat.succ i) len) (wl (Nat.add off (Nat.mul i esz)) fun o=>.val (.ptr b o)) 159) 160) 161
def zQi (len esz:Nat) (agg:Bool) (x i:zT):X:=fun es tm _ _=>zSl (aV es tm x) (fun cs=>vp (aV es tm i) (fun i=>
 yl (Nat.ble (Nat.succ i) len) (zSD agg esz cs (Nat.mul i esz) 162) 163) 164) 165
def zSr (x i:zT):X:=fun es tm _ _=>zG4 (aV es tm x) (fun s=>vp (aV es tm i) (fun i=>zEf (zAj s i) 166) 167) <| ux (aV es tm x) (fun s=>vp (aV es tm i) (fun i=>onN (zUK s i) (fun b=>.val (.int .u8 (.ofNat b))) 166) 167) 168
def zCF:List CV→Bool
 | []=>true
 | .nat _::r=>zCF r
 | .int _ _::r=>zCF r
 | _=>false
def zDd:List CV→List CV→Nat→Option Bool
 | [],[],0=>some true
 | x::a,y::b,n+1=>match ul .int x y with
  | some true=>zDd a b n
  | some false=>some false
  | none=>none
 | _,_,_=>none
def zA9:j7→CV→Bool
 | .ints n,.agg cs=>Nat.beq (wz cs) n&&zCF cs
 | .int,.nat _=>true
 | .int,.int _ _=>true
 | .str,.str _=>true
 | .bool,.bool _=>true
 | .int,.sym e=>(Sym.cv .i64 (.sym e)).isSome
 | .str,.sst _=>true
 | _,_=>false
def zGl (x y:CV):Option Bool:=match Sym.bin .eql x y with
 | some [.bool r]=>some r
 | _=>none
def qL:j7→CV→CV→Option Bool
 | .ints n,.agg a,.agg b=>zDd a b n
 | .int,.nat a,.nat b=>some (Nat.beq a b)
 | .int,.int j a,.int k b=>match kEq j k with
  | true=>some (zj a b)
  | false=>none
 | .str,.str a,.str b=>some (qC a b)
 | .bool,.bool a,.bool b=>some (a == b)
 | .int,.sym e,y=>zFS (.sym e) y
 | .int,.nat a,.sym e=>zFS (.nat a) (.sym e)
 | .int,.int k a,.sym e=>zFS (.int k a) (.sym e)
 | .str,.sst a,.sst b=>zGl (.sst a) (.sst b)
 | .str,.sst a,.str b=>zGl (.sst a) (.str b)
 | .str,.str a,.sst b=>zGl (.str a) (.sst b)
 | _,_,_=>none
def vm (kk:j7) (k:CV):List CE→Option (Option CV)
 | []=>some none
 | e::es=>match qL kk k e.key with
  | some true=>match vm kk k es with
   | some none=>some (some e.val)
   | _=>none
  | some false=>vm kk k es
  | none=>none
def zKB (kk:j7) (k v:CV):List CE→Option (List CE)
 | []=>none
 | e::es=>match qL kk k e.key with
  | some true=>some (⟨k,v,e.born⟩::es)
  | some false=>match zKB kk k v es with
   | none=>none
   | some r=>some (e::r)
  | none=>none
def zKA (kk:j7) (k:CV):List CE→Option (List CE)
 | []=>none
 | e::es=>match qL kk k e.key with
  | some true=>some es
  | some false=>match zKA kk k es with
   | none=>none
   | some r=>some (e::r)
  | none=>none
def okV (ok:Bool) (v:CV):CV:=match ok with
 | true=>.tup [v,.bool true]
 | false=>v
def zIn:CV→Bool
 | .str _=>true
 | .sst _=>true
 | _=>false
def zAe:List CE→Bool
 | []=>true
 | e::es=>zIn e.key&&zAe es
def zSj (kk:j7) (ok:Bool) (k:CV) (es:List CE):OR:=match kk,ok with
 | .str,true=>yl (zIn k&&zAe es&&Sym.inn k (es.map CE.key)) (.read (.tup [.any,.bool true])) 169
 | _,_=>.err 169
def zCz (kk:j7) (z:CV) (ok:Bool) (k:CV) (es:List CE):OR:=yl (zA9 kk k) (match vm kk k es with
 | some (some v)=>.read (okV ok v)
 | some none=>.read (match ok with | true=>.tup [z,.bool false] | false=>z)
 | none=>zSj kk ok k es) 170
def noZ (kk:j7) (k:CV):List (CV × CV)→Bool
 | []=>true
 | q::r=>match qL kk k q.1 with
  | some false=>noZ kk k r
  | _=>false
def zHw (kk:j7) (k:CV):List (CV × CV)→Option CV
 | []=>none
 | q::r=>match qL kk k q.1 with
  | some true=>match noZ kk k r with
   | true=>some q.2
   | false=>none
  | some false=>zHw kk k r
  | none=>none
def zEj (kk:j7) (k v:CV):List (CV × CV)→List (CV × CV)
 | []=>[]
 | q::r=>match qL kk k q.1 with
  | some true=>(k,v)::r
  | _=>q::zEj kk k v r
def zK2:CV→Bool
 | .str []=>true
 | _=>false
def zTR (kk:j7) (z:CV) (ok:Bool) (k:CV) (es:List (CV × CV)):OR:=yl (!ok&&zK2 z&&zA9 kk k) (match zHw kk k es with
 | some v=>.read (zU0 v)
 | none=>.err 234) 235
def zND (kk:j7) (z:CV) (ok:Bool) (x k:zT):X:=fun es tm h _=>zDJ (aV es tm x) (zCz kk z ok (aV es tm k) [])
 (fun b=>zJp (zn b h) (fun l=>zTR kk z ok (aV es tm k) l) <| vX (zn b h) (fun l _=>zCz kk z ok (aV es tm k) l) 171) 172
def zNn (kk:j7) (m k v:zT):X:=fun es tm h n=>zDJ (aV es tm m) (.err 173) (fun b=>zJp (zn b h) (fun l=>yl (zA9 kk (aV es tm k)) (match zHw kk (aV es tm k) l with
 | some _=>.eff .undef (yu (some (.mapz (zEj kk (aV es tm k) (aV es tm v) l))) b h) n
 | none=>.err 236) 237) <| vX (zn b h) (fun l clock=>
 yl (zA9 kk (aV es tm k)) (match vm kk (aV es tm k) l with
  | some (some _)=>match zKB kk (aV es tm k) (aV es tm v) l with
   | some l'=>.eff .undef (yu (some (.map l' clock)) b h) n
   | none=>.err 174
  | some none=>wl (Nat.succ clock) fun c=>.eff .undef (yu (some (.map (l++[⟨aV es tm k,aV es tm v,clock⟩]) c)) b h) n
  | none=>.err 175) 176) 177) 178
def zGT (x:zT):X:=fun es tm _ n=>zG4 (aV es tm x) (fun s=>.alloc (.striter s 0) (.ptr n 0)) <| ux (aV es tm x) (fun s=>.alloc (.striter (x8 s) 0) (.ptr n 0)) 179
def zIi (x:zT):X:=fun es tm h n=>zDJ (aV es tm x) (.alloc (.mapiter none 0 [] 0) (.ptr n 0)) (fun b=>vX (zn b h) (fun _ clock=>
 .eff (.ptr n 0) (yu (some (.mapiter (some b) clock [] clock)) n h) n.succ) 180) 181
def zMn (x:Nat) (l:List Nat):Bool:=List.rec (motive:=fun _=>Bool) false (fun y _ ih=>Bool.rec (motive:=fun _=>Bool) ih true (Nat.beq x y)) l
def zIl (seen:List Nat):List CE→List CE
 | []=>[]
 | e::es=>match zMn e.born seen with
  | true=>zIl seen es
  | false=>e::zIl seen es
def zCQ (last:Nat):List CE→Bool
 | []=>true
 | e::es=>Nat.ble last e.born&&zCQ last es
def zQn (l:List Nat):Bool:=match l with
 | []=>true
 | _=>false
def zML (l:List CE):Bool:=match l with
 | []=>true
 | _=>false
def zGo (since:Nat):List CE→Bool
 | []=>true
 | e::es=>Nat.ble (Nat.succ e.born) since&&zGo since es
def zEl (f:CE→OR):CE→List CE→OR
 | e,[]=>f e
 | e,e'::l=>.fork (f e) (zEl f e' l)
def zQr (v:CV):Option CV:=match v with
 | .int k (.ofNat b)=>match kEq k .u8&&Nat.ble b 127 with
  | true=>some (.int .i32 (.ofNat b))
  | false=>none
 | .sym e=>match kEq e.k .u8,Sym.bin .leq (.sym e) (.int .u8 (.ofNat 127)),Sym.bin .geq (.sym e) (.int .u8 (.ofNat 0)),Sym.cv .i32 (.sym e) with
  | true,some [.bool true],some [.bool true],some [c]=>some c
  | _,_,_,_=>none
 | _=>none
def zIH (b:Key) (h:zC) (n:Key) (s:List CV) (pos:Nat):OR:=match zAj s pos with
 | none=>.eff (.tup [.bool false]) h n
 | some c=>match zQr c with
  | some r=>wl (Nat.succ pos) fun p=>.eff (.tup [.bool true,.nat pos,r]) (yu (some (.striter s p)) b h) n
  | none=>.err 182
def zSN (b:Key) (h:zC) (n:Key) (m:Key) (since:Nat) (seen:List Nat) (last:Nat):OR:=vX (zn m h) (fun es clock=>
 match !zQn seen && !zML es&&zCQ last es with
 | true=>.err 183
 | false=>match zIl seen es with
  | []=>.eff (.tup [.bool false]) h n
  | e::l=>yl (zGo since (e::l)) (zEl (fun e=>.eff (.tup [.bool true,e.key,e.val]) (yu (some (.mapiter (some m) since (seen++[e.born]) clock)) b h) n) e l) 184) 186
def zSI (s:Bool) (b:Key) (h:zC) (n:Key) (o:Option CObj):OR:=match o,s with
 | some (.striter s pos),true=>zIH b h n s pos
 | some (.mapiter none _ _ _),false=>.eff (.tup [.bool false]) h n
 | some (.mapiter (some m) since seen last),false=>zSN b h n m since seen last
 | _,_=>.err 187
def zUB (s:Bool) (x:zT):X:=fun es tm h n=>zDR (aV es tm x) (fun b off=>yl (Nat.beq off 0) (zSI s b h n (zn b h)) 188) 189
def zNu:List Nat→Option Nat
 | []=>none
 | [x]=>some x
 | _::y::r=>zNu (y::r)
def zJv (b:Nat):List CE→Bool
 | []=>true
 | e::es=>match Nat.beq e.born b with
  | true=>false
  | false=>zJv b es
def zJ7 (b:Nat):List CE→Option CE
 | []=>none
 | e::es=>match Nat.beq e.born b with
  | true=>match zJv b es with
   | true=>some e
   | false=>none
  | false=>zJ7 b es
def zLE (h:zC) (o:Option CObj):OR:=match o with
 | some (.mapiter (some m) _ seen stepped)=>match zNu seen with
  | some st=>vX (zn m h) (fun es clock=>match Nat.beq clock stepped,zJ7 st es with
   | true,some e=>.read (.tup [e.key,e.val])
   | _,_=>.err 190) 191
  | none=>.err 192
 | _=>.err 193
def zQK (x:zT):X:=fun es tm h _=>zDR (aV es tm x) (fun b off=>yl (Nat.beq off 0) (zLE h (zn b h)) 194) 195
def noV (ok:Bool) (z:Option CV):OR:=match ok,z with
 | true,some z=>.val (.tup [z,.bool false])
 | _,_=>.err 196
def zKL (t:TypeId) (z:Option CV) (ok:Bool) (x:zT):X:=fun es tm _ _=>zCl (aV es tm x)
 (fun d v=>ifB (Nat.beq d t) (.val (okV ok v)) (noV ok z)) (noV ok z) 197
def zSh (P:Program) (t d:TypeId):Option Bool:=match und P t,P.info? d with
 | some (.interface want),some i=>some (Instr.missingMethod want i.methods).isNone
 | _,_=>none
def zN7 (P:Program) (t:TypeId) (z:Option CV) (ok:Bool) (x:zT):X:=fun es tm _ _=>zCl (aV es tm x)
 (fun d v=>match zSh P t d with
   | some true=>.val (okV ok (.iface d v))
   | some false=>noV ok z
   | none=>.err 198) (noV ok z) 199
def zLu (i:Nat) (x:zT):X:=fun es tm _ _=>zUn (aV es tm x) (fun vs=>zEf (zAj vs i) 200) 201
inductive uM where
 | val (v:CV)
 | var (b:Key) (off:Nat)
def zAZ (h:zC) (b:Key):Option (List CV):=match zn b h with
 | some (.cells vs)=>some vs
 | some (.ro vs)=>some vs
 | _=>none
def zOM (agg:Bool) (s:Nat) (cs:List CV) (off:Nat):Option CV:=match agg with
 | true=>(zAa cs off s).map .agg
 | false=>zAj cs off
section
variable (P:Program)
def zON (h:zC) (t:TypeId) (b:Key) (off:Nat):Option CV:=match qG P t,x6 P t,zAZ h b with
 | some a,some s,some vs=>zOM a s vs off
 | _,_,_=>none
def uM.get (h:zC) (t:TypeId):uM→Option CV
 | .val v=>some v
 | .var b off=>zON P h t b off
def zJi (s:FieldStep):Option Field:=match und P s.struct with
 | some (.struct fs)=>match nth fs.toList s.index with
  | some f=>match x6 P f.type with
   | some (_+1)=>some f
   | _=>none
  | none=>none
 | _=>none
def vG (h:zC):List FieldStep→TypeId→uM→Option (TypeId × uM)
 | [],t,x=>some (t,x)
 | s::rest,t,x=>match zJi P s with
  | none=>none
  | some f=>match s.deref with
   | true=>match x.get P h t with
    | some (.ptr b off)=>vG h rest f.type (.var b (Nat.add off f.offset))
    | _=>none
   | false=>match x with
    | .var b off=>vG h rest f.type (.var b (Nat.add off f.offset))
    | .val (.agg cs)=>match qG P f.type,x6 P f.type with
     | some a,some s=>match zOM a s cs f.offset with
      | some v=>vG h rest f.type (.val v)
      | none=>none
     | _,_=>none
    | .val _=>none
def zAW (h:zC) (xt:TypeId) (x:uM) (pr:Bool):Option CV:=match und P xt,pr,x with
 | some (.pointer _),true,x=>x.get P h xt
 | some (.pointer e),false,x=>match x.get P h xt with
  | some (.ptr b off)=>zON P h e b off
  | _=>none
 | some _,true,.var b off=>some (.ptr b off)
 | some _,true,.val _=>none
 | some _,false,x=>x.get P h xt
 | none,_,_=>none
def uR (name:String):List Method→Option Method
 | []=>none
 | m::r=>if m.name == name then some m else uR name r
def zIJ (t:TypeId) (name:String):Option Method:=(P.info? t).bind fun i=>uR name i.methods.toList
def zEy (h:zC):Nat→TypeId→CV→String→Option (FuncId × CV)
 | 0,_,_,_=>none
 | d+1,t,v,name=>match zIJ P t name with
  | none=>none
  | some m=>match vG P h m.path.toList t (.val v) with
   | none=>none
   | some (xt,x)=>match m.func with
    | none=>match x.get P h xt with
     | some (.iface t' v')=>zEy h d t' v' name
     | _=>none
    | some (f,pr)=>match zAW P h xt x pr with
     | some r=>some (f,r)
     | none=>none
def zHv (h:zC) (recv:CV) (name:String) (args:List CV):OR:=zCl recv
 (fun t v=>match zEy P h 8 t v name with
   | some (f,r)=>.call f (r::args)
   | none=>.err 202) (.err 203) 204
def zRq (h:zC) (f:CV) (args:List CV):OR:=zMe f (fun fn first captured=>match fn with
 | .func g=>.call g (zC9 first (zC9 args captured))
 | .method name=>match zC9 first args with
  | recv::rest=>zHv P h recv name rest
  | []=>.err 205
 | .methodOf t name=>match zC9 first args with
  | recv::rest=>match und P t with
   | some (.interface _)=>zHv P h recv name rest
   | some _=>zHv P h (.iface t recv) name rest
   | none=>.err 206
  | []=>.err 207
 | .via t path g pr=>match zC9 first args with
  | recv::rest=>match vG P h path.toList t (.val recv) with
   | some (xt,x)=>match zAW P h xt x pr with
    | some r=>.call g (r::rest)
    | none=>.err 208
   | none=>.err 209
  | []=>.err 210
 | _=>.err 211) 212
end
def zJt (c:Nat) (l:List Nat):Nat:=List.rec (motive:=fun _=>Nat) 0 (fun x _ ih=>Bool.rec (motive:=fun _=>Nat) ih (Nat.succ ih) (Nat.beq x c)) l
def zDm (c:Nat):List Nat→Nat→Option Nat
 | [],_=>none
 | x::r,i=>match Nat.beq x c with
  | true=>some i
  | false=>zDm c r (Nat.succ i)
def zCt (e:Ext) (args:List CV) (h:zC) (n:Key):OR:=match e,args with
 | .count,[a,b]=>ux a (fun s=>onN (vJ b) (fun c=>.val (kz (zJt c s))) 213) 214
 | .indexByte,[a,b]=>ux a (fun s=>onN (vJ b) (fun c=>match zDm c s 0 with
  | some i=>.val (kz i)
  | none=>.val (.int .i64 (.negSucc 0))) 215) 216
 | .cmp,[a,b]=>ux a (fun s=>ux b (fun t=>ifB (qC s t) (.val (.nat 0)) (ifB (zAw s t) (.val (.int .i64 (.negSucc 0))) (.val (.nat 1)))) 223) 224
 | .overlaps,[a,b]=>u7 a (.err 225) (fun k _ l _ _ _=>u7 b (.err 226) (fun j _ m _ _ _=>yl (!decide (j=k)) (zJc (zn k h) (fun u _=>yl u (kf (zn j h) (fun vs=>yl (Nat.ble 1 (wz vs)) (.eff (.bool false) h n) 227) 228) 233) (.err 229)) 230) 231) 232
 | .mapsClone,[a]=>zCl a (fun t v=>zDJ v (.err 217) (fun b=>vX (zn b h) (fun es clock=>
  .eff (.iface t (.map n)) (yu (some (.map es clock)) n h) n.succ) 218) 219) (.err 220) 221
 | _,_=>.err 222
def zUF (f:FuncId) (args:List zT):X:=fun es tm _ _=>.call f (aVs es tm args)
def zUl (e:Ext) (args:List zT):X:=fun es tm h n=>zCt e (aVs es tm args) h n
def zSn (P:Program) (f:zT) (args:List zT):X:=fun es tm h _=>zRq P h (aV es tm f) (aVs es tm args)
def zNR (P:Program) (r:zT) (name:String) (args:List zT):X:=fun es tm h _=>zHv P h (aV es tm r) name (aVs es tm args)
def zMF (h:zC) (s:Nat) (x:CV) (k:Nat→List CV→OR) (n:Nat→Nat) (e:Nat):OR:=match x with
 | .str l=>yl (Nat.beq s 1) (onL ((zKk l (n (zBM l))).map x8) (fun cs=>k (n (zBM l)) cs) e) e
 | .sst l=>yl (Nat.beq s 1) (onL (zKD l (n (wz l))) (fun cs=>k (n (wz l)) cs) e) e
 | .win _ _ _ m=>yl (zTB m) (k (n 0) []) e
 | x=>u7 x (k 0 []) (fun b off len _ _ _=>uD (zn b h) (fun vs=>onL (zAa vs off (Nat.mul (n len) s)) (fun cs=>k (n len) cs) e) e) e
def zG3 (esz k:Nat) (xs:List CV) (sv:CV) (h:zC) (n:Key):OR:=u7 sv
 (match k with
  | 0=>.eff .nilsl h n
  | k+1=>yl (Nat.ble k 99999) (wl k fun k=>.eff (.sl n 0 (Nat.succ k) (Nat.succ k) esz false) (yu (some (.cells xs)) n h) n.succ) 223)
 (fun b off len cap s ex=>yl (Nat.beq s esz) (zJc (zn b h) (fun _ vs=>wl (Nat.add len k) fun need=>
   yl ((match ex with | true=>Nat.ble (Nat.succ cap) need | false=>Nat.ble 1 need&&Nat.ble (Nat.succ (wz vs)) (Nat.add off (Nat.mul need esz)))&&Nat.ble need 100000) (onL (zAa vs off (Nat.mul len esz)) (fun old=>
    .eff (.sl n 0 need need esz false) (yu (some (.cells (zC9 old xs))) n h) n.succ) 225) 226) <| kf (zn b h) (fun vs=>wl (Nat.add len k) fun need=>
   ifB (Nat.ble need cap)
    (onL (jY xs (Nat.mul k esz) vs (Nat.add off (Nat.mul len esz))) (fun l=>.eff (.sl b off need cap esz ex) (yu (some (.cells l)) b h) n) 224)
    (yl (Nat.ble need 100000) (onL (zAa vs off (Nat.mul len esz)) (fun old=>
      .eff (.sl n 0 need need esz false) (yu (some (.cells (zC9 old xs))) n (Bool.rec (motive:=fun _=>zC) (yu none b h) h ex)) n.succ) 225) 226)) 227) 228) 229
def zA3 (esz _bytes:Nat) (s x:zT):X:=fun es tm h n=>zMF h esz (aV es tm x) (fun k xs=>yl (xQ xs) (zG3 esz k xs (aV es tm s) h n) 230)
 (fun k=>k) 231
def zOn (zero:List CV) (esz:Nat) (s x:zT):X:=fun es tm h n=>vp (aV es tm x) (fun k=>yl (Nat.ble k 1000) (wl k fun k=>yl (xQ (k8 zero k)) (zG3 esz k (k8 zero k) (aV es tm s) h n) 234) 234) 234
def zSe (x:CV) (k:Nat→OR) (e:Nat):OR:=match x with
 | .str l=>k (zBM l)
 | x=>u7 x (k 0) (fun _ _ len _ _ _=>k len) e
def zHB (esz:Nat) (d x:zT):X:=fun es tm h n=>zSe (aV es tm d) (fun dl=>zMF h esz (aV es tm x) (fun k xs=>u7 (aV es tm d)
 (.eff (.nat 0) h n)
 (fun b off _ _ _ _=>kf (zn b h) (fun vs=>yl (xQ xs) (onL (jY xs (Nat.mul k esz) vs off) (fun l=>.eff (kz k) (yu (some (.cells l)) b h) n) 232) 233) 234) 235)
 (fun xl=>Nat.min xl dl) 236) 237
def zNE (x:zT):X:=fun es tm _ _=>zG4 (aV es tm x) (fun l=>.val (kz (wz l))) <| ux (aV es tm x) (fun s=>.val (kz (zBM s))) 238
def zSw (x:zT):X:=fun es tm _ _=>zLk (aV es tm x) (fun _ _ _ n=>.val (.sym n)) <| u7 (aV es tm x) (.val (.nat 0)) (fun _ _ len _ _ _=>.val (.nat len)) 239
def zOC (x:zT):X:=fun es tm h _=>zDJ (aV es tm x) (.val (.nat 0)) (fun b=>vX (zn b h) (fun l _=>.read (kz (zMi l))) 240) 241
def zQp (vs:List CV) (k:Nat):List CV:=zC9 vs (k8 [.any] (Nat.sub k (wz vs)))
def zSk (b:Key) (off len cap esz:Nat) (h:zC) (n:Key):OR:=ifB (Nat.ble (Nat.succ len) cap) (.val (.big cap))
 (kf (zn b h) (fun vs=>yl (Nat.ble 1 cap) (.fork (.eff (.nat cap) (yu (some (.full false (zQp vs (Nat.add off (Nat.mul cap esz))))) b h) n)
   (.eff (.big (Nat.succ cap)) (yu (some (.cells (zQp vs (Nat.add off (Nat.mul (Nat.succ cap) esz))))) b h) n)) 242) 242)
def zP9 (x:zT):X:=fun es tm h n=>u7 (aV es tm x) (.val (.nat 0)) (fun b off len cap esz ex=>ifB ex (.val (.nat cap)) (zSk b off len cap esz h n)) 243
def zNb (kk:j7) (m k:zT):X:=fun es tm h n=>yl (zA9 kk (aV es tm k)) (zDJ (aV es tm m) (.eff (.tup []) h n) (fun b=>vX (zn b h) (fun l clock=>
 match vm kk (aV es tm k) l with
 | some (some _)=>match zKA kk (aV es tm k) l with
  | some l'=>.eff (.tup []) (yu (some (.map l' clock)) b h) n
  | none=>.err 244
 | some none=>.eff (.tup []) h n
 | none=>.err 245) 246) 247) 248
def zHZ (x:zT):X:=fun es tm h n=>zDJ (aV es tm x) (.eff (.tup []) h n) (fun b=>vX (zn b h) (fun _ clock=>.eff (.tup []) (yu (some (.map [] clock)) b h) n) 249) 250
def zKZ (zero:List CV) (esz:Nat) (x:zT):X:=fun es tm h n=>u7 (aV es tm x) (.eff (.tup []) h n) (fun b off len _ _ _=>kf (zn b h) (fun vs=>
 yl (xQ zero) (onL (jY (k8 zero len) (Nat.mul len esz) vs off) (fun l=>.eff (.tup []) (yu (some (.cells l)) b h) n) 251) 252) 253) 254
def intOf:CV→Option (IntKind × Int)
 | .nat n=>some (.i64,.ofNat n)
 | .int k n=>some (k,n)
 | _=>none
def zSZ (mx:Bool) (k:IntKind):Int→List CV→Option CV
 | a,[]=>some (zb k a)
 | a,v::r=>match intOf v with
  | some (j,b)=>match kEq k j with
   | true=>zSZ mx k (match mx with
    | true=>(match wg a b with | true=>b | false=>a)
    | false=>(match wg b a with | true=>b | false=>a)) r
   | false=>none
  | none=>none
def zLH (mx:Bool):CV→List CV→Option CV
 | x,[]=>some x
 | x,v::r=>match Sym.cv .i64 x,Sym.bin .lss (Bool.rec (motive:=fun _=>CV) v x mx) (Bool.rec (motive:=fun _=>CV) x v mx) with
  | some _,some [.bool b]=>zLH mx (Bool.rec (motive:=fun _=>CV) x v b) r
  | some _,_=>match Sym.bin .leq (Bool.rec (motive:=fun _=>CV) v x mx) (Bool.rec (motive:=fun _=>CV) x v mx) with
   | some [.bool true]=>zLH mx v r
   | _=>none
  | none,_=>none
def zVH (mx:Bool) (x:CV) (r:List CV):Option CV:=match intOf x with
 | some (k,a)=>match zSZ mx k a r with
  | some v=>some v
  | none=>zLH mx x r
 | none=>zLH mx x r
def zNN (mx:Bool) (x:zT) (r:List zT):X:=fun es tm _ _=>zEf (zVH mx (aV es tm x) (aVs es tm r)) 255
def zQL (f:zT) (args:List zT):X:=fun es tm _ _=>zMe (aV es tm f) (fun fn first captured=>match fn with
 | .func g=>.dfr g (zC9 first (zC9 (aVs es tm args) captured))
 | _=>.err 256) 257
def zQj:X:=fun _ _ _ _=>.recov
def zVU (c:Nat):X:=fun _ _ _ _=>.err (Nat.add 1000 c)
def yU (P:Program) (op:COp):X:=
 COp.rec (motive:=fun _=>X) xMv zUu zQJ zVG zP8 zNx zR3 zRJ zRl zQo zRC xEq xUn zQb zRT zUs zNA zUz
  zQk zUD zSK zKs zRm zUo zSa zOx zUp zRD zUy zQi zSr zND zNn zGT zIi zUB zQK
  zKL (zN7 P) zLu zUF zUl (zSn P) (zNR P) zA3 zOn zHB zNE zSw zOC zP9 zNb zHZ zKZ zNN
  zQL zQj zVU op
inductive CX where
 | normal
 | exit (id:Nat)
 | ret
abbrev xe:=List (FuncId × List CV)
inductive R where
 | ok (e:CX) (tm:Tm) (ds:xe) (h:zC) (n:Key)
 | ret (v:CV) (h:zC) (n:Key)
 | err (c:Nat)
 | fork (a b:R)
abbrev ym:=Bool→FuncId→List CV→zC→Key→R
abbrev K:=Tm→xe→zC→Key→R
abbrev KE:=List CV→K
def yN (d:Option Loc) (v:CV) (tm:Tm) (k:Tm→R):R:=Option.rec (motive:=fun _=>CV→Tm→(Tm→R)→R) (fun _ tm k=>k tm) (fun p v tm k=>k (ko v p tm)) d v tm k
abbrev zAC:=ym→KE→Option Loc→List CV→K
def zVI (v:CV):zAC:=fun _ k d es tm ds h n=>yN d v tm fun tm=>k (v::es) tm ds h n
def zVi (o:CObj) (v:CV):zAC:=fun _ k d es tm ds h n=>yN d v tm fun tm=>k (v::es) tm ds (yu (some o) n h) n.succ
def zW2 (v:CV) (h:zC) (n:Key):zAC:=fun _ k d es tm ds _ _=>yN d v tm fun tm=>k (v::es) tm ds h n
def zWb (f:FuncId) (args:List CV):zAC:=fun call k d es tm ds h n=>
 R.rec (motive:=fun _=>R) (fun _ _ _ _ _=>.err 300) (fun v h n=>yN d v tm fun tm=>k (v::es) tm ds h n) (fun c=>.err c) (fun _ _ a b=>.fork a b) (call false f args h n)
def zWw (f:FuncId) (args:List CV):zAC:=fun _ k d es tm ds h n=>yN d .undef tm fun tm=>k (.undef::es) tm ((f,args)::ds) h n
def zVx:zAC:=fun _ k d es tm ds h n=>yN d .niliface tm fun tm=>k (.niliface::es) tm ds h n
def zWZ (c:Nat):zAC:=fun _ _ _ _ _ _ _ _=>.err c
def zVK (_ _:OR) (a b:zAC):zAC:=fun call k d es tm ds h n=>.fork (a call k d es tm ds h n) (b call k d es tm ds h n)
def after (r:OR):zAC:=OR.rec (motive:=fun _=>zAC) zVI zVI zVi zW2 zWb zWw zVx zWZ zVK r
def j0 (w:Bool) (v:CV):Bool:=match v with
 | .bool b=>match b,w with
  | true,true=>true
  | false,false=>true
  | _,_=>false
 | _=>false
def wE (v:CV):Bool:=match v with
 | .any=>false
 | _=>true
def iI (P:Program) (call:ym) (op:COp) (k:KE):KE:=fun es tm ds h n=>after (yU P op es tm h n) call k none es tm ds h n
def iO (P:Program) (call:ym) (op:COp) (d:Loc) (k:KE):KE:=fun es tm ds h n=>after (yU P op es tm h n) call k (some d) es tm ds h n
def iG (P:Program) (call:ym) (x:zT) (w:Bool) (op:COp) (d:Option Loc) (k:KE):KE:=fun es tm ds h n=>
 Bool.rec (motive:=fun _=>R)
  (Bool.rec (motive:=fun _=>R) (.err 299) (yN d .undef tm fun tm=>k (.undef::es) tm ds h n) (wE (aV es tm x)))
  (after (yU P op es tm h n) call k d es tm ds h n) (j0 w (aV es tm x))
def zVq (P:Program) (call:ym) (i:ql):KE→KE:=ql.rec (motive:=fun _=>KE→KE) (iI P call) (iO P call) (iG P call) i
def yw (P:Program) (call:ym) (l:List ql):KE:=
 List.rec (motive:=fun _=>KE) (fun _ tm ds h n=>.ok .normal tm ds h n) (fun i _ ih=>zVq P call i ih) l
mutual
def CV.beq:CV→CV→Bool
 | .bool a,.bool b=>a == b
 | .nat a,.nat b=>Nat.beq a b
 | .int k a,.int j b=>kEq k j&&zj a b
 | .sym a,.sym b=>kEq a.k b.k&&zj a.c b.c&&j6 a.l b.l
 | .str a,.str b=>qC a b
 | .nilptr,.nilptr=>true
 | .ptr a b,.ptr c d=>decide (a=c)&&Nat.beq b d
 | .nilsl,.nilsl=>true
 | .sl a b c d e f,.sl a' b' c' d' e' f'=>decide (a=a')&&Nat.beq b b'&&Nat.beq c c'&&Nat.beq d d'&&Nat.beq e e'&&f == f'
 | .nilmap,.nilmap=>true
 | .map a,.map b=>decide (a=b)
 | .func f a b,.func g c d=>decide (f=g)&&CV.beqs a c&&CV.beqs b d
 | .nilfunc,.nilfunc=>true
 | .iface t v,.iface u w=>Nat.beq t u&&CV.beq v w
 | .niliface,.niliface=>true
 | .agg a,.agg b=>CV.beqs a b
 | .tup a,.tup b=>CV.beqs a b
 | .sst a,.sst b=>CV.beqs a b
 | _,_=>false
def CV.beqs:List CV→List CV→Bool
 | [],[]=>true
 | a::as,b::bs=>CV.beq a b&&CV.beqs as bs
 | _,_=>false
end
abbrev KD:=List CV→List zC→K
def jK (P:Program) (op:COp) (es:List CV) (tm:Tm) (n:Key) (v:CV):Nat→List zC→Bool
 | 0,_=>true
 | _+1,[]=>true
 | c+1,h::hs=>match yU P op es tm h n with
  | .read w=>CV.beq v w&&jK P op es tm n v c hs
  | _=>false
def zMC (call:ym) (d:Option Loc) (k:KD) (r:OR):KD:=fun es hs tm ds h n=>match r with
 | .val v=>yN d v tm fun tm=>k (v::es) (h::hs) tm ds h n
 | .read v=>yN d v tm fun tm=>k (v::es) (h::hs) tm ds h n
 | .alloc o v=>yN d v tm fun tm=>k (v::es) (h::hs) tm ds (yu (some o) n h) n.succ
 | .eff v h' n'=>yN d v tm fun tm=>k (v::es) (h::hs) tm ds h' n'
 | .call f args=>R.rec (motive:=fun _=>R) (fun _ _ _ _ _=>.err 300) (fun v h' n'=>yN d v tm fun tm=>k (v::es) (h::hs) tm ds h' n') (fun c=>.err c)
  (fun _ _ a b=>.fork a b) (call false f args h n)
 | .err c=>.err c
 | _=>.err 312
def dNo (P:Program) (op:COp) (d:Option Loc) (chk:Nat) (k:KD) (r:OR):KD:=fun es hs tm ds h n=>match r with
 | .val v=>yN d v tm fun tm=>k (v::es) hs tm ds h n
 | .read v=>match jK P op es tm n v chk hs with
  | true=>yN d v tm fun tm=>k (v::es) hs tm ds h n
  | false=>.err 311
 | .alloc o v=>yN d v tm fun tm=>k (v::es) hs tm ds (yu (some o) n h) n.succ
 | .err c=>.err c
 | _=>.err 313
def dOp (P:Program) (call:ym) (op:COp) (d:Option Loc) (e:Bool) (chk:Nat) (k:KD):KD:=fun es hs tm ds h n=>match e with
 | true=>zMC call d k (yU P op es tm h n) es hs tm ds h n
 | false=>dNo P op d chk k (yU P op es tm h n) es hs tm ds h n
def zEV (d:Option Loc) (e:Bool) (k:KD):KD:=fun es hs tm ds h n=>yN d .undef tm fun tm=>k (.undef::es) (match e with | true=>h::hs | false=>hs) tm ds h n
def evD (P:Program) (call:ym):List zPL→KD
 | [],_,_,tm,ds,h,n=>.ok .normal tm ds h n
 | i::r,es,hs,tm,ds,h,n=>match i.ins with
  | .i op=>dOp P call op none i.eff i.chk (evD P call r) es hs tm ds h n
  | .o op d=>dOp P call op (some d) i.eff i.chk (evD P call r) es hs tm ds h n
  | .g x w op d=>match j0 w (aV es tm x) with
   | true=>dOp P call op d i.eff i.chk (evD P call r) es hs tm ds h n
   | false=>match wE (aV es tm x) with
    | true=>zEV d i.eff (evD P call r) es hs tm ds h n
    | false=>.err 299
def qK (k:K) (r:R):R:=R.rec (motive:=fun _=>R) (fun e tm ds h n=>CX.rec (motive:=fun _=>R) (k tm ds h n) (fun id=>.ok (.exit id) tm ds h n) (.ok .ret tm ds h n) e)
 (fun _ _ _=>.err 301) (fun c=>.err c) (fun _ _ a b=>.fork a b) r
def uq (id:Nat) (r:R):R:=R.rec (motive:=fun _=>R) (fun e tm ds h n=>CX.rec (motive:=fun _=>R) (.ok .normal tm ds h n)
 (fun i=>Bool.rec (motive:=fun _=>R) (.ok (.exit i) tm ds h n) (.ok .normal tm ds h n) (Nat.beq i id)) (.ok .ret tm ds h n) e)
 (fun _ _ _=>.err 301) (fun c=>.err c) (fun _ _ a b=>.fork a b) r
def zGR (a b:K) (v:CV):K:=match v with
 | .bool true=>a
 | .bool false=>b
 | _=>fun _ _ _ _=>.err 302
def zBf (fuel:Nat) (b:K):K:=Nat.rec (motive:=fun _=>K) (fun _ _ _ _=>.err 303) (fun _ ih tm ds h n=>qK ih (b tm ds h n)) fuel
def zAc:Nat:=100000
def zp (P:Program) (call:ym) (c:CCode):K:=
 CCode.rec (motive:=fun _=>K)
  (fun tm ds h n=>.ok .normal tm ds h n)
  (fun ops=>yw P call ops [])
  (fun ops=>evD P call ops [] [])
  (fun _ _ a b tm ds h n=>qK b (a tm ds h n))
  (fun x _ _ a b tm ds h n=>zGR a b (aV [] tm x) tm ds h n)
  (fun id _ b tm ds h n=>uq id (b tm ds h n))
  (fun _ b=>zBf zAc b)
  (fun id tm ds h n=>.ok (.exit id) tm ds h n)
  (fun tm ds h n=>.ok .ret tm ds h n)
  (fun _ b=>b)
  (fun c _ _ _ _=>.err (Nat.add 2000 c)) c
def zQS (h:zC) (tm:Tm) (r:CRes):Option CV:=match r with
 | .tmp x=>some (aV [] tm x)
 | .cell1 x=>match aV [] tm x with
  | .ptr b off=>match zAZ h b with
   | some cs=>zAj cs off
   | none=>none
  | _=>none
 | .cellN x s=>match aV [] tm x with
  | .ptr b off=>match zAZ h b with
   | some cs=>(zAa cs off s).map .agg
   | none=>none
  | _=>none
def zCH (h:zC) (tm:Tm):List CRes→Option (List CV)
 | []=>some []
 | r::rs=>match zQS h tm r with
  | none=>none
  | some v=>match zCH h tm rs with
   | none=>none
   | some vs=>some (v::vs)
def zCK (h:zC) (tm:Tm) (rs:List CRes):Option CV:=match zCH h tm rs with
 | some [v]=>some v
 | some vs=>some (.tup vs)
 | none=>none
def qg:List CV→Nat→Tm→Tm
 | [],_,t=>t
 | v::vs,i,t=>match Nat.ble i 271 with
  | true=>qg vs (Nat.succ i) (ko v (Loc.ofNat i) t)
  | false=>t
def vB (call:ym) (k:zC→Key→R):xe→zC→Key→R
 | [],h,n=>k h n
 | (f,args)::r,h,n=>R.rec (motive:=fun _=>R) (fun _ _ _ _ _=>.err 300) (fun _ h n=>vB call k r h n) (fun c=>.err c) (fun _ _ a b=>.fork a b) (call true f args h n)
def zDe (rs:List CRes) (tm:Tm) (h:zC) (n:Key):R:=match zCK h tm rs with
 | some v=>.ret v h n
 | none=>.err 305
def j4 (d:Bool) (call:ym) (rs:List CRes) (tm:Tm) (ds:xe) (h:zC) (n:Key):R:=match ds with
 | []=>zDe rs tm h n
 | f::ds=>match d with
  | false=>vB call (fun h n=>zDe rs tm h n) (f::ds) h n
  | true=>.err 306
def y6 (d:Bool) (call:ym) (rs:List CRes) (r:R):R:=R.rec (motive:=fun _=>R)
 (fun e tm ds h n=>CX.rec (motive:=fun _=>R) (j4 d call rs tm ds h n) (fun _=>.err 307) (j4 d call rs tm ds h n) e) (fun _ _ _=>.err 308) (fun c=>.err c) (fun _ _ a b=>.fork a b) r
abbrev NatF:=Sym→Bool→List CV→zC→Key→R
abbrev Nats:=FuncId→Option NatF
def zRV (r:OR) (h:zC) (n:Key):R:=match r with
 | .val v=>.ret v h n
 | .eff v h n=>.ret v h n
 | .err c=>.err c
 | _=>.err 309
def zBb (P:Program) (d:Bool) (call:ym) (fn:CFn) (args:List CV) (h:zC) (n:Key):R:=
 CFn.rec (motive:=fun _=>R) (fun body res=>y6 d call res (zp P call body (qg args 0 .nil) [] h n))
  (fun ops body res=>match d with
    | true=>y6 true call res (qK (zp P call body) (yw P call ops [] (qg args 0 .nil) [] h n))
    | false=>.err 311)
  (fun e=>match d with
    | true=>.err 313
    | false=>zRV (zCt e args h n) h n) (fun c=>.err (Nat.add 3000 c)) fn
def ev (P:Program) (code:FuncId→CFn) (nat:Nats) (fuel:Nat):ym:=
 Nat.rec (motive:=fun _=>ym) (fun _ _ _ _ _=>.err 310)
  (fun _ ih d f args h n=>Option.rec (motive:=fun _=>R) (zBb P d ih (code f) args h n) (fun g=>g ‹Sym› d args h n) (nat f)) fuel
end
end Go.Ev
