/- A verified evaluator for the model's code: EvA, EvB. -/
import GoSem.Dispatch
import GoSem.Core.Made
set_option linter.unusedSectionVars false
set_option linter.unusedVariables false
set_option linter.unusedSimpArgs false
namespace Go.Ev
inductive Dg where
  | d0 | d1 | d2 | d3 | d4 | d5 | d6 | d7 | d8 | d9 | d10 | d11 | d12 | d13 | d14 | d15
  deriving DecidableEq, Inhabited
noncomputable def Dg.succ (d : Dg) : Option Dg := Dg.rec (motive := fun _ => Option Dg) (some .d1) (some .d2) (some .d3) (some .d4) (some .d5) (some .d6) (some .d7) (some .d8) (some .d9) (some .d10) (some .d11) (some .d12) (some .d13) (some .d14) (some .d15) none d
noncomputable def Dg.ix (d : Dg) : Nat := Dg.rec (motive := fun _ => Nat) 0 1 2 3 4 5 6 7 8 9 10 11 12 13 14 15 d
def Dg.ofN : Nat → Dg
  | 0 => .d0
  | 1 => .d1
  | 2 => .d2
  | 3 => .d3
  | 4 => .d4
  | 5 => .d5
  | 6 => .d6
  | 7 => .d7
  | 8 => .d8
  | 9 => .d9
  | 10 => .d10
  | 11 => .d11
  | 12 => .d12
  | 13 => .d13
  | 14 => .d14
  | _ => .d15
inductive Key where
  | mk (a b c d : Dg)
  deriving DecidableEq, Inhabited
def Key.zero : Key := .mk .d0 .d0 .d0 .d0
noncomputable def Key.succ (k : Key) : Key :=
  Key.rec (motive := fun _ => Key) (fun a b c d =>
    Option.rec (motive := fun _ => Key)
      (Option.rec (motive := fun _ => Key)
        (Option.rec (motive := fun _ => Key)
          (Option.rec (motive := fun _ => Key) (.mk .d15 .d15 .d15 .d15) (fun a => .mk a .d0 .d0 .d0) a.succ)
          (fun b => .mk a b .d0 .d0) b.succ)
        (fun c => .mk a b c .d0) c.succ)
      (fun d => .mk a b c d) d.succ) k
noncomputable def Key.ix : Key → Nat
  | .mk a b c d => ((a.ix * 16 + b.ix) * 16 + c.ix) * 16 + d.ix
def Key.ofNat (n : Nat) : Key := .mk (.ofN (n / 4096 % 16)) (.ofN (n / 256 % 16)) (.ofN (n / 16 % 16)) (.ofN (n % 16))
inductive Loc where
  | s (d : Dg)
  | w (c d : Dg)
  deriving DecidableEq, Inhabited
def Loc.ofNat (n : Nat) : Loc := match Nat.ble n 15 with
  | true => .s (.ofN n)
  | false => .w (.ofN ((n - 16) / 16)) (.ofN ((n - 16) % 16))
structure SE where
  k : IntKind
  c : Int
  l : List (Nat × Int)
inductive CV where
  | bool (b : Bool)
  | nat (n : Nat)
  | int (k : IntKind) (n : Int)
  | anyi (k : IntKind)
  | str (s : List Nat)
  | nilptr
  | ptr (b : Key) (off : Nat)
  | nilsl
  | sl (b : Key) (off len cap esz : Nat) (exact : Bool)
  | nilmap
  | map (b : Key)
  | func (fn : Fn) (first captured : List CV)
  | nilfunc
  | iface (t : TypeId) (v : CV)
  | niliface
  | agg (cs : List CV)
  | tup (vs : List CV)
  | sym (e : SE)
  | win (b : Key) (esz : Nat) (e n : SE)
  | sst (l : List CV)
  | big (n : Nat)
  | any
  deriving Inhabited
def CV.undef : CV := .tup []
structure CE where
  key : CV
  val : CV
  born : Nat
inductive CObj where
  | cells (vs : List CV)
  | ro (vs : List CV)
  | map (es : List CE) (clock : Nat)
  | striter (s : List Nat) (pos : Nat)
  | mapiter (m : Option Key) (since : Nat) (seen : List Nat) (stepped : Nat)
  | full (u : Bool) (vs : List CV)
noncomputable section
inductive LV where
  | nil
  | nd (c0 c1 c2 c3 c4 c5 c6 c7 c8 c9 c10 c11 c12 c13 c14 c15 : CV)
def LV.get (d : Dg) (t : LV) : CV :=
  Dg.rec (motive := fun _ => LV → CV)
    (fun t => LV.rec (motive := fun _ => CV) CV.any (fun c0 _ _ _ _ _ _ _ _ _ _ _ _ _ _ _ => c0) t)
    (fun t => LV.rec (motive := fun _ => CV) CV.any (fun _ c1 _ _ _ _ _ _ _ _ _ _ _ _ _ _ => c1) t)
    (fun t => LV.rec (motive := fun _ => CV) CV.any (fun _ _ c2 _ _ _ _ _ _ _ _ _ _ _ _ _ => c2) t)
    (fun t => LV.rec (motive := fun _ => CV) CV.any (fun _ _ _ c3 _ _ _ _ _ _ _ _ _ _ _ _ => c3) t)
    (fun t => LV.rec (motive := fun _ => CV) CV.any (fun _ _ _ _ c4 _ _ _ _ _ _ _ _ _ _ _ => c4) t)
    (fun t => LV.rec (motive := fun _ => CV) CV.any (fun _ _ _ _ _ c5 _ _ _ _ _ _ _ _ _ _ => c5) t)
    (fun t => LV.rec (motive := fun _ => CV) CV.any (fun _ _ _ _ _ _ c6 _ _ _ _ _ _ _ _ _ => c6) t)
    (fun t => LV.rec (motive := fun _ => CV) CV.any (fun _ _ _ _ _ _ _ c7 _ _ _ _ _ _ _ _ => c7) t)
    (fun t => LV.rec (motive := fun _ => CV) CV.any (fun _ _ _ _ _ _ _ _ c8 _ _ _ _ _ _ _ => c8) t)
    (fun t => LV.rec (motive := fun _ => CV) CV.any (fun _ _ _ _ _ _ _ _ _ c9 _ _ _ _ _ _ => c9) t)
    (fun t => LV.rec (motive := fun _ => CV) CV.any (fun _ _ _ _ _ _ _ _ _ _ c10 _ _ _ _ _ => c10) t)
    (fun t => LV.rec (motive := fun _ => CV) CV.any (fun _ _ _ _ _ _ _ _ _ _ _ c11 _ _ _ _ => c11) t)
    (fun t => LV.rec (motive := fun _ => CV) CV.any (fun _ _ _ _ _ _ _ _ _ _ _ _ c12 _ _ _ => c12) t)
    (fun t => LV.rec (motive := fun _ => CV) CV.any (fun _ _ _ _ _ _ _ _ _ _ _ _ _ c13 _ _ => c13) t)
    (fun t => LV.rec (motive := fun _ => CV) CV.any (fun _ _ _ _ _ _ _ _ _ _ _ _ _ _ c14 _ => c14) t)
    (fun t => LV.rec (motive := fun _ => CV) CV.any (fun _ _ _ _ _ _ _ _ _ _ _ _ _ _ _ c15 => c15) t) d t
def LV.upd (f : CV → CV) (d : Dg) (t : LV) : LV :=
  Dg.rec (motive := fun _ => (CV → CV) → LV → LV)
    (fun f t => LV.rec (motive := fun _ => LV) (.nd (f CV.any) CV.any CV.any CV.any CV.any CV.any CV.any CV.any CV.any CV.any CV.any CV.any CV.any CV.any CV.any CV.any) (fun c0 c1 c2 c3 c4 c5 c6 c7 c8 c9 c10 c11 c12 c13 c14 c15 => .nd (f c0) c1 c2 c3 c4 c5 c6 c7 c8 c9 c10 c11 c12 c13 c14 c15) t)
    (fun f t => LV.rec (motive := fun _ => LV) (.nd CV.any (f CV.any) CV.any CV.any CV.any CV.any CV.any CV.any CV.any CV.any CV.any CV.any CV.any CV.any CV.any CV.any) (fun c0 c1 c2 c3 c4 c5 c6 c7 c8 c9 c10 c11 c12 c13 c14 c15 => .nd c0 (f c1) c2 c3 c4 c5 c6 c7 c8 c9 c10 c11 c12 c13 c14 c15) t)
    (fun f t => LV.rec (motive := fun _ => LV) (.nd CV.any CV.any (f CV.any) CV.any CV.any CV.any CV.any CV.any CV.any CV.any CV.any CV.any CV.any CV.any CV.any CV.any) (fun c0 c1 c2 c3 c4 c5 c6 c7 c8 c9 c10 c11 c12 c13 c14 c15 => .nd c0 c1 (f c2) c3 c4 c5 c6 c7 c8 c9 c10 c11 c12 c13 c14 c15) t)
    (fun f t => LV.rec (motive := fun _ => LV) (.nd CV.any CV.any CV.any (f CV.any) CV.any CV.any CV.any CV.any CV.any CV.any CV.any CV.any CV.any CV.any CV.any CV.any) (fun c0 c1 c2 c3 c4 c5 c6 c7 c8 c9 c10 c11 c12 c13 c14 c15 => .nd c0 c1 c2 (f c3) c4 c5 c6 c7 c8 c9 c10 c11 c12 c13 c14 c15) t)
    (fun f t => LV.rec (motive := fun _ => LV) (.nd CV.any CV.any CV.any CV.any (f CV.any) CV.any CV.any CV.any CV.any CV.any CV.any CV.any CV.any CV.any CV.any CV.any) (fun c0 c1 c2 c3 c4 c5 c6 c7 c8 c9 c10 c11 c12 c13 c14 c15 => .nd c0 c1 c2 c3 (f c4) c5 c6 c7 c8 c9 c10 c11 c12 c13 c14 c15) t)
    (fun f t => LV.rec (motive := fun _ => LV) (.nd CV.any CV.any CV.any CV.any CV.any (f CV.any) CV.any CV.any CV.any CV.any CV.any CV.any CV.any CV.any CV.any CV.any) (fun c0 c1 c2 c3 c4 c5 c6 c7 c8 c9 c10 c11 c12 c13 c14 c15 => .nd c0 c1 c2 c3 c4 (f c5) c6 c7 c8 c9 c10 c11 c12 c13 c14 c15) t)
    (fun f t => LV.rec (motive := fun _ => LV) (.nd CV.any CV.any CV.any CV.any CV.any CV.any (f CV.any) CV.any CV.any CV.any CV.any CV.any CV.any CV.any CV.any CV.any) (fun c0 c1 c2 c3 c4 c5 c6 c7 c8 c9 c10 c11 c12 c13 c14 c15 => .nd c0 c1 c2 c3 c4 c5 (f c6) c7 c8 c9 c10 c11 c12 c13 c14 c15) t)
    (fun f t => LV.rec (motive := fun _ => LV) (.nd CV.any CV.any CV.any CV.any CV.any CV.any CV.any (f CV.any) CV.any CV.any CV.any CV.any CV.any CV.any CV.any CV.any) (fun c0 c1 c2 c3 c4 c5 c6 c7 c8 c9 c10 c11 c12 c13 c14 c15 => .nd c0 c1 c2 c3 c4 c5 c6 (f c7) c8 c9 c10 c11 c12 c13 c14 c15) t)
    (fun f t => LV.rec (motive := fun _ => LV) (.nd CV.any CV.any CV.any CV.any CV.any CV.any CV.any CV.any (f CV.any) CV.any CV.any CV.any CV.any CV.any CV.any CV.any) (fun c0 c1 c2 c3 c4 c5 c6 c7 c8 c9 c10 c11 c12 c13 c14 c15 => .nd c0 c1 c2 c3 c4 c5 c6 c7 (f c8) c9 c10 c11 c12 c13 c14 c15) t)
    (fun f t => LV.rec (motive := fun _ => LV) (.nd CV.any CV.any CV.any CV.any CV.any CV.any CV.any CV.any CV.any (f CV.any) CV.any CV.any CV.any CV.any CV.any CV.any) (fun c0 c1 c2 c3 c4 c5 c6 c7 c8 c9 c10 c11 c12 c13 c14 c15 => .nd c0 c1 c2 c3 c4 c5 c6 c7 c8 (f c9) c10 c11 c12 c13 c14 c15) t)
    (fun f t => LV.rec (motive := fun _ => LV) (.nd CV.any CV.any CV.any CV.any CV.any CV.any CV.any CV.any CV.any CV.any (f CV.any) CV.any CV.any CV.any CV.any CV.any) (fun c0 c1 c2 c3 c4 c5 c6 c7 c8 c9 c10 c11 c12 c13 c14 c15 => .nd c0 c1 c2 c3 c4 c5 c6 c7 c8 c9 (f c10) c11 c12 c13 c14 c15) t)
    (fun f t => LV.rec (motive := fun _ => LV) (.nd CV.any CV.any CV.any CV.any CV.any CV.any CV.any CV.any CV.any CV.any CV.any (f CV.any) CV.any CV.any CV.any CV.any) (fun c0 c1 c2 c3 c4 c5 c6 c7 c8 c9 c10 c11 c12 c13 c14 c15 => .nd c0 c1 c2 c3 c4 c5 c6 c7 c8 c9 c10 (f c11) c12 c13 c14 c15) t)
    (fun f t => LV.rec (motive := fun _ => LV) (.nd CV.any CV.any CV.any CV.any CV.any CV.any CV.any CV.any CV.any CV.any CV.any CV.any (f CV.any) CV.any CV.any CV.any) (fun c0 c1 c2 c3 c4 c5 c6 c7 c8 c9 c10 c11 c12 c13 c14 c15 => .nd c0 c1 c2 c3 c4 c5 c6 c7 c8 c9 c10 c11 (f c12) c13 c14 c15) t)
    (fun f t => LV.rec (motive := fun _ => LV) (.nd CV.any CV.any CV.any CV.any CV.any CV.any CV.any CV.any CV.any CV.any CV.any CV.any CV.any (f CV.any) CV.any CV.any) (fun c0 c1 c2 c3 c4 c5 c6 c7 c8 c9 c10 c11 c12 c13 c14 c15 => .nd c0 c1 c2 c3 c4 c5 c6 c7 c8 c9 c10 c11 c12 (f c13) c14 c15) t)
    (fun f t => LV.rec (motive := fun _ => LV) (.nd CV.any CV.any CV.any CV.any CV.any CV.any CV.any CV.any CV.any CV.any CV.any CV.any CV.any CV.any (f CV.any) CV.any) (fun c0 c1 c2 c3 c4 c5 c6 c7 c8 c9 c10 c11 c12 c13 c14 c15 => .nd c0 c1 c2 c3 c4 c5 c6 c7 c8 c9 c10 c11 c12 c13 (f c14) c15) t)
    (fun f t => LV.rec (motive := fun _ => LV) (.nd CV.any CV.any CV.any CV.any CV.any CV.any CV.any CV.any CV.any CV.any CV.any CV.any CV.any CV.any CV.any (f CV.any)) (fun c0 c1 c2 c3 c4 c5 c6 c7 c8 c9 c10 c11 c12 c13 c14 c15 => .nd c0 c1 c2 c3 c4 c5 c6 c7 c8 c9 c10 c11 c12 c13 c14 (f c15)) t) d f t
inductive L1 where
  | nil
  | nd (c0 c1 c2 c3 c4 c5 c6 c7 c8 c9 c10 c11 c12 c13 c14 c15 : LV)
def L1.get (d : Dg) (t : L1) : LV :=
  Dg.rec (motive := fun _ => L1 → LV)
    (fun t => L1.rec (motive := fun _ => LV) LV.nil (fun c0 _ _ _ _ _ _ _ _ _ _ _ _ _ _ _ => c0) t)
    (fun t => L1.rec (motive := fun _ => LV) LV.nil (fun _ c1 _ _ _ _ _ _ _ _ _ _ _ _ _ _ => c1) t)
    (fun t => L1.rec (motive := fun _ => LV) LV.nil (fun _ _ c2 _ _ _ _ _ _ _ _ _ _ _ _ _ => c2) t)
    (fun t => L1.rec (motive := fun _ => LV) LV.nil (fun _ _ _ c3 _ _ _ _ _ _ _ _ _ _ _ _ => c3) t)
    (fun t => L1.rec (motive := fun _ => LV) LV.nil (fun _ _ _ _ c4 _ _ _ _ _ _ _ _ _ _ _ => c4) t)
    (fun t => L1.rec (motive := fun _ => LV) LV.nil (fun _ _ _ _ _ c5 _ _ _ _ _ _ _ _ _ _ => c5) t)
    (fun t => L1.rec (motive := fun _ => LV) LV.nil (fun _ _ _ _ _ _ c6 _ _ _ _ _ _ _ _ _ => c6) t)
    (fun t => L1.rec (motive := fun _ => LV) LV.nil (fun _ _ _ _ _ _ _ c7 _ _ _ _ _ _ _ _ => c7) t)
    (fun t => L1.rec (motive := fun _ => LV) LV.nil (fun _ _ _ _ _ _ _ _ c8 _ _ _ _ _ _ _ => c8) t)
    (fun t => L1.rec (motive := fun _ => LV) LV.nil (fun _ _ _ _ _ _ _ _ _ c9 _ _ _ _ _ _ => c9) t)
    (fun t => L1.rec (motive := fun _ => LV) LV.nil (fun _ _ _ _ _ _ _ _ _ _ c10 _ _ _ _ _ => c10) t)
    (fun t => L1.rec (motive := fun _ => LV) LV.nil (fun _ _ _ _ _ _ _ _ _ _ _ c11 _ _ _ _ => c11) t)
    (fun t => L1.rec (motive := fun _ => LV) LV.nil (fun _ _ _ _ _ _ _ _ _ _ _ _ c12 _ _ _ => c12) t)
    (fun t => L1.rec (motive := fun _ => LV) LV.nil (fun _ _ _ _ _ _ _ _ _ _ _ _ _ c13 _ _ => c13) t)
    (fun t => L1.rec (motive := fun _ => LV) LV.nil (fun _ _ _ _ _ _ _ _ _ _ _ _ _ _ c14 _ => c14) t)
    (fun t => L1.rec (motive := fun _ => LV) LV.nil (fun _ _ _ _ _ _ _ _ _ _ _ _ _ _ _ c15 => c15) t) d t
def L1.upd (f : LV → LV) (d : Dg) (t : L1) : L1 :=
  Dg.rec (motive := fun _ => (LV → LV) → L1 → L1)
    (fun f t => L1.rec (motive := fun _ => L1) (.nd (f LV.nil) LV.nil LV.nil LV.nil LV.nil LV.nil LV.nil LV.nil LV.nil LV.nil LV.nil LV.nil LV.nil LV.nil LV.nil LV.nil) (fun c0 c1 c2 c3 c4 c5 c6 c7 c8 c9 c10 c11 c12 c13 c14 c15 => .nd (f c0) c1 c2 c3 c4 c5 c6 c7 c8 c9 c10 c11 c12 c13 c14 c15) t)
    (fun f t => L1.rec (motive := fun _ => L1) (.nd LV.nil (f LV.nil) LV.nil LV.nil LV.nil LV.nil LV.nil LV.nil LV.nil LV.nil LV.nil LV.nil LV.nil LV.nil LV.nil LV.nil) (fun c0 c1 c2 c3 c4 c5 c6 c7 c8 c9 c10 c11 c12 c13 c14 c15 => .nd c0 (f c1) c2 c3 c4 c5 c6 c7 c8 c9 c10 c11 c12 c13 c14 c15) t)
    (fun f t => L1.rec (motive := fun _ => L1) (.nd LV.nil LV.nil (f LV.nil) LV.nil LV.nil LV.nil LV.nil LV.nil LV.nil LV.nil LV.nil LV.nil LV.nil LV.nil LV.nil LV.nil) (fun c0 c1 c2 c3 c4 c5 c6 c7 c8 c9 c10 c11 c12 c13 c14 c15 => .nd c0 c1 (f c2) c3 c4 c5 c6 c7 c8 c9 c10 c11 c12 c13 c14 c15) t)
    (fun f t => L1.rec (motive := fun _ => L1) (.nd LV.nil LV.nil LV.nil (f LV.nil) LV.nil LV.nil LV.nil LV.nil LV.nil LV.nil LV.nil LV.nil LV.nil LV.nil LV.nil LV.nil) (fun c0 c1 c2 c3 c4 c5 c6 c7 c8 c9 c10 c11 c12 c13 c14 c15 => .nd c0 c1 c2 (f c3) c4 c5 c6 c7 c8 c9 c10 c11 c12 c13 c14 c15) t)
    (fun f t => L1.rec (motive := fun _ => L1) (.nd LV.nil LV.nil LV.nil LV.nil (f LV.nil) LV.nil LV.nil LV.nil LV.nil LV.nil LV.nil LV.nil LV.nil LV.nil LV.nil LV.nil) (fun c0 c1 c2 c3 c4 c5 c6 c7 c8 c9 c10 c11 c12 c13 c14 c15 => .nd c0 c1 c2 c3 (f c4) c5 c6 c7 c8 c9 c10 c11 c12 c13 c14 c15) t)
    (fun f t => L1.rec (motive := fun _ => L1) (.nd LV.nil LV.nil LV.nil LV.nil LV.nil (f LV.nil) LV.nil LV.nil LV.nil LV.nil LV.nil LV.nil LV.nil LV.nil LV.nil LV.nil) (fun c0 c1 c2 c3 c4 c5 c6 c7 c8 c9 c10 c11 c12 c13 c14 c15 => .nd c0 c1 c2 c3 c4 (f c5) c6 c7 c8 c9 c10 c11 c12 c13 c14 c15) t)
    (fun f t => L1.rec (motive := fun _ => L1) (.nd LV.nil LV.nil LV.nil LV.nil LV.nil LV.nil (f LV.nil) LV.nil LV.nil LV.nil LV.nil LV.nil LV.nil LV.nil LV.nil LV.nil) (fun c0 c1 c2 c3 c4 c5 c6 c7 c8 c9 c10 c11 c12 c13 c14 c15 => .nd c0 c1 c2 c3 c4 c5 (f c6) c7 c8 c9 c10 c11 c12 c13 c14 c15) t)
    (fun f t => L1.rec (motive := fun _ => L1) (.nd LV.nil LV.nil LV.nil LV.nil LV.nil LV.nil LV.nil (f LV.nil) LV.nil LV.nil LV.nil LV.nil LV.nil LV.nil LV.nil LV.nil) (fun c0 c1 c2 c3 c4 c5 c6 c7 c8 c9 c10 c11 c12 c13 c14 c15 => .nd c0 c1 c2 c3 c4 c5 c6 (f c7) c8 c9 c10 c11 c12 c13 c14 c15) t)
    (fun f t => L1.rec (motive := fun _ => L1) (.nd LV.nil LV.nil LV.nil LV.nil LV.nil LV.nil LV.nil LV.nil (f LV.nil) LV.nil LV.nil LV.nil LV.nil LV.nil LV.nil LV.nil) (fun c0 c1 c2 c3 c4 c5 c6 c7 c8 c9 c10 c11 c12 c13 c14 c15 => .nd c0 c1 c2 c3 c4 c5 c6 c7 (f c8) c9 c10 c11 c12 c13 c14 c15) t)
    (fun f t => L1.rec (motive := fun _ => L1) (.nd LV.nil LV.nil LV.nil LV.nil LV.nil LV.nil LV.nil LV.nil LV.nil (f LV.nil) LV.nil LV.nil LV.nil LV.nil LV.nil LV.nil) (fun c0 c1 c2 c3 c4 c5 c6 c7 c8 c9 c10 c11 c12 c13 c14 c15 => .nd c0 c1 c2 c3 c4 c5 c6 c7 c8 (f c9) c10 c11 c12 c13 c14 c15) t)
    (fun f t => L1.rec (motive := fun _ => L1) (.nd LV.nil LV.nil LV.nil LV.nil LV.nil LV.nil LV.nil LV.nil LV.nil LV.nil (f LV.nil) LV.nil LV.nil LV.nil LV.nil LV.nil) (fun c0 c1 c2 c3 c4 c5 c6 c7 c8 c9 c10 c11 c12 c13 c14 c15 => .nd c0 c1 c2 c3 c4 c5 c6 c7 c8 c9 (f c10) c11 c12 c13 c14 c15) t)
    (fun f t => L1.rec (motive := fun _ => L1) (.nd LV.nil LV.nil LV.nil LV.nil LV.nil LV.nil LV.nil LV.nil LV.nil LV.nil LV.nil (f LV.nil) LV.nil LV.nil LV.nil LV.nil) (fun c0 c1 c2 c3 c4 c5 c6 c7 c8 c9 c10 c11 c12 c13 c14 c15 => .nd c0 c1 c2 c3 c4 c5 c6 c7 c8 c9 c10 (f c11) c12 c13 c14 c15) t)
    (fun f t => L1.rec (motive := fun _ => L1) (.nd LV.nil LV.nil LV.nil LV.nil LV.nil LV.nil LV.nil LV.nil LV.nil LV.nil LV.nil LV.nil (f LV.nil) LV.nil LV.nil LV.nil) (fun c0 c1 c2 c3 c4 c5 c6 c7 c8 c9 c10 c11 c12 c13 c14 c15 => .nd c0 c1 c2 c3 c4 c5 c6 c7 c8 c9 c10 c11 (f c12) c13 c14 c15) t)
    (fun f t => L1.rec (motive := fun _ => L1) (.nd LV.nil LV.nil LV.nil LV.nil LV.nil LV.nil LV.nil LV.nil LV.nil LV.nil LV.nil LV.nil LV.nil (f LV.nil) LV.nil LV.nil) (fun c0 c1 c2 c3 c4 c5 c6 c7 c8 c9 c10 c11 c12 c13 c14 c15 => .nd c0 c1 c2 c3 c4 c5 c6 c7 c8 c9 c10 c11 c12 (f c13) c14 c15) t)
    (fun f t => L1.rec (motive := fun _ => L1) (.nd LV.nil LV.nil LV.nil LV.nil LV.nil LV.nil LV.nil LV.nil LV.nil LV.nil LV.nil LV.nil LV.nil LV.nil (f LV.nil) LV.nil) (fun c0 c1 c2 c3 c4 c5 c6 c7 c8 c9 c10 c11 c12 c13 c14 c15 => .nd c0 c1 c2 c3 c4 c5 c6 c7 c8 c9 c10 c11 c12 c13 (f c14) c15) t)
    (fun f t => L1.rec (motive := fun _ => L1) (.nd LV.nil LV.nil LV.nil LV.nil LV.nil LV.nil LV.nil LV.nil LV.nil LV.nil LV.nil LV.nil LV.nil LV.nil LV.nil (f LV.nil)) (fun c0 c1 c2 c3 c4 c5 c6 c7 c8 c9 c10 c11 c12 c13 c14 c15 => .nd c0 c1 c2 c3 c4 c5 c6 c7 c8 c9 c10 c11 c12 c13 c14 (f c15)) t) d f t
inductive HV where
  | nil
  | nd (c0 c1 c2 c3 c4 c5 c6 c7 c8 c9 c10 c11 c12 c13 c14 c15 : Option CObj)
def HV.get (d : Dg) (t : HV) : Option CObj :=
  Dg.rec (motive := fun _ => HV → Option CObj)
    (fun t => HV.rec (motive := fun _ => Option CObj) none (fun c0 _ _ _ _ _ _ _ _ _ _ _ _ _ _ _ => c0) t)
    (fun t => HV.rec (motive := fun _ => Option CObj) none (fun _ c1 _ _ _ _ _ _ _ _ _ _ _ _ _ _ => c1) t)
    (fun t => HV.rec (motive := fun _ => Option CObj) none (fun _ _ c2 _ _ _ _ _ _ _ _ _ _ _ _ _ => c2) t)
    (fun t => HV.rec (motive := fun _ => Option CObj) none (fun _ _ _ c3 _ _ _ _ _ _ _ _ _ _ _ _ => c3) t)
    (fun t => HV.rec (motive := fun _ => Option CObj) none (fun _ _ _ _ c4 _ _ _ _ _ _ _ _ _ _ _ => c4) t)
    (fun t => HV.rec (motive := fun _ => Option CObj) none (fun _ _ _ _ _ c5 _ _ _ _ _ _ _ _ _ _ => c5) t)
    (fun t => HV.rec (motive := fun _ => Option CObj) none (fun _ _ _ _ _ _ c6 _ _ _ _ _ _ _ _ _ => c6) t)
    (fun t => HV.rec (motive := fun _ => Option CObj) none (fun _ _ _ _ _ _ _ c7 _ _ _ _ _ _ _ _ => c7) t)
    (fun t => HV.rec (motive := fun _ => Option CObj) none (fun _ _ _ _ _ _ _ _ c8 _ _ _ _ _ _ _ => c8) t)
    (fun t => HV.rec (motive := fun _ => Option CObj) none (fun _ _ _ _ _ _ _ _ _ c9 _ _ _ _ _ _ => c9) t)
    (fun t => HV.rec (motive := fun _ => Option CObj) none (fun _ _ _ _ _ _ _ _ _ _ c10 _ _ _ _ _ => c10) t)
    (fun t => HV.rec (motive := fun _ => Option CObj) none (fun _ _ _ _ _ _ _ _ _ _ _ c11 _ _ _ _ => c11) t)
    (fun t => HV.rec (motive := fun _ => Option CObj) none (fun _ _ _ _ _ _ _ _ _ _ _ _ c12 _ _ _ => c12) t)
    (fun t => HV.rec (motive := fun _ => Option CObj) none (fun _ _ _ _ _ _ _ _ _ _ _ _ _ c13 _ _ => c13) t)
    (fun t => HV.rec (motive := fun _ => Option CObj) none (fun _ _ _ _ _ _ _ _ _ _ _ _ _ _ c14 _ => c14) t)
    (fun t => HV.rec (motive := fun _ => Option CObj) none (fun _ _ _ _ _ _ _ _ _ _ _ _ _ _ _ c15 => c15) t) d t
def HV.upd (f : Option CObj → Option CObj) (d : Dg) (t : HV) : HV :=
  Dg.rec (motive := fun _ => (Option CObj → Option CObj) → HV → HV)
    (fun f t => HV.rec (motive := fun _ => HV) (.nd (f none) none none none none none none none none none none none none none none none) (fun c0 c1 c2 c3 c4 c5 c6 c7 c8 c9 c10 c11 c12 c13 c14 c15 => .nd (f c0) c1 c2 c3 c4 c5 c6 c7 c8 c9 c10 c11 c12 c13 c14 c15) t)
    (fun f t => HV.rec (motive := fun _ => HV) (.nd none (f none) none none none none none none none none none none none none none none) (fun c0 c1 c2 c3 c4 c5 c6 c7 c8 c9 c10 c11 c12 c13 c14 c15 => .nd c0 (f c1) c2 c3 c4 c5 c6 c7 c8 c9 c10 c11 c12 c13 c14 c15) t)
    (fun f t => HV.rec (motive := fun _ => HV) (.nd none none (f none) none none none none none none none none none none none none none) (fun c0 c1 c2 c3 c4 c5 c6 c7 c8 c9 c10 c11 c12 c13 c14 c15 => .nd c0 c1 (f c2) c3 c4 c5 c6 c7 c8 c9 c10 c11 c12 c13 c14 c15) t)
    (fun f t => HV.rec (motive := fun _ => HV) (.nd none none none (f none) none none none none none none none none none none none none) (fun c0 c1 c2 c3 c4 c5 c6 c7 c8 c9 c10 c11 c12 c13 c14 c15 => .nd c0 c1 c2 (f c3) c4 c5 c6 c7 c8 c9 c10 c11 c12 c13 c14 c15) t)
    (fun f t => HV.rec (motive := fun _ => HV) (.nd none none none none (f none) none none none none none none none none none none none) (fun c0 c1 c2 c3 c4 c5 c6 c7 c8 c9 c10 c11 c12 c13 c14 c15 => .nd c0 c1 c2 c3 (f c4) c5 c6 c7 c8 c9 c10 c11 c12 c13 c14 c15) t)
    (fun f t => HV.rec (motive := fun _ => HV) (.nd none none none none none (f none) none none none none none none none none none none) (fun c0 c1 c2 c3 c4 c5 c6 c7 c8 c9 c10 c11 c12 c13 c14 c15 => .nd c0 c1 c2 c3 c4 (f c5) c6 c7 c8 c9 c10 c11 c12 c13 c14 c15) t)
    (fun f t => HV.rec (motive := fun _ => HV) (.nd none none none none none none (f none) none none none none none none none none none) (fun c0 c1 c2 c3 c4 c5 c6 c7 c8 c9 c10 c11 c12 c13 c14 c15 => .nd c0 c1 c2 c3 c4 c5 (f c6) c7 c8 c9 c10 c11 c12 c13 c14 c15) t)
    (fun f t => HV.rec (motive := fun _ => HV) (.nd none none none none none none none (f none) none none none none none none none none) (fun c0 c1 c2 c3 c4 c5 c6 c7 c8 c9 c10 c11 c12 c13 c14 c15 => .nd c0 c1 c2 c3 c4 c5 c6 (f c7) c8 c9 c10 c11 c12 c13 c14 c15) t)
    (fun f t => HV.rec (motive := fun _ => HV) (.nd none none none none none none none none (f none) none none none none none none none) (fun c0 c1 c2 c3 c4 c5 c6 c7 c8 c9 c10 c11 c12 c13 c14 c15 => .nd c0 c1 c2 c3 c4 c5 c6 c7 (f c8) c9 c10 c11 c12 c13 c14 c15) t)
    (fun f t => HV.rec (motive := fun _ => HV) (.nd none none none none none none none none none (f none) none none none none none none) (fun c0 c1 c2 c3 c4 c5 c6 c7 c8 c9 c10 c11 c12 c13 c14 c15 => .nd c0 c1 c2 c3 c4 c5 c6 c7 c8 (f c9) c10 c11 c12 c13 c14 c15) t)
    (fun f t => HV.rec (motive := fun _ => HV) (.nd none none none none none none none none none none (f none) none none none none none) (fun c0 c1 c2 c3 c4 c5 c6 c7 c8 c9 c10 c11 c12 c13 c14 c15 => .nd c0 c1 c2 c3 c4 c5 c6 c7 c8 c9 (f c10) c11 c12 c13 c14 c15) t)
    (fun f t => HV.rec (motive := fun _ => HV) (.nd none none none none none none none none none none none (f none) none none none none) (fun c0 c1 c2 c3 c4 c5 c6 c7 c8 c9 c10 c11 c12 c13 c14 c15 => .nd c0 c1 c2 c3 c4 c5 c6 c7 c8 c9 c10 (f c11) c12 c13 c14 c15) t)
    (fun f t => HV.rec (motive := fun _ => HV) (.nd none none none none none none none none none none none none (f none) none none none) (fun c0 c1 c2 c3 c4 c5 c6 c7 c8 c9 c10 c11 c12 c13 c14 c15 => .nd c0 c1 c2 c3 c4 c5 c6 c7 c8 c9 c10 c11 (f c12) c13 c14 c15) t)
    (fun f t => HV.rec (motive := fun _ => HV) (.nd none none none none none none none none none none none none none (f none) none none) (fun c0 c1 c2 c3 c4 c5 c6 c7 c8 c9 c10 c11 c12 c13 c14 c15 => .nd c0 c1 c2 c3 c4 c5 c6 c7 c8 c9 c10 c11 c12 (f c13) c14 c15) t)
    (fun f t => HV.rec (motive := fun _ => HV) (.nd none none none none none none none none none none none none none none (f none) none) (fun c0 c1 c2 c3 c4 c5 c6 c7 c8 c9 c10 c11 c12 c13 c14 c15 => .nd c0 c1 c2 c3 c4 c5 c6 c7 c8 c9 c10 c11 c12 c13 (f c14) c15) t)
    (fun f t => HV.rec (motive := fun _ => HV) (.nd none none none none none none none none none none none none none none none (f none)) (fun c0 c1 c2 c3 c4 c5 c6 c7 c8 c9 c10 c11 c12 c13 c14 c15 => .nd c0 c1 c2 c3 c4 c5 c6 c7 c8 c9 c10 c11 c12 c13 c14 (f c15)) t) d f t
inductive H1 where
  | nil
  | nd (c0 c1 c2 c3 c4 c5 c6 c7 c8 c9 c10 c11 c12 c13 c14 c15 : HV)
def H1.get (d : Dg) (t : H1) : HV :=
  Dg.rec (motive := fun _ => H1 → HV)
    (fun t => H1.rec (motive := fun _ => HV) HV.nil (fun c0 _ _ _ _ _ _ _ _ _ _ _ _ _ _ _ => c0) t)
    (fun t => H1.rec (motive := fun _ => HV) HV.nil (fun _ c1 _ _ _ _ _ _ _ _ _ _ _ _ _ _ => c1) t)
    (fun t => H1.rec (motive := fun _ => HV) HV.nil (fun _ _ c2 _ _ _ _ _ _ _ _ _ _ _ _ _ => c2) t)
    (fun t => H1.rec (motive := fun _ => HV) HV.nil (fun _ _ _ c3 _ _ _ _ _ _ _ _ _ _ _ _ => c3) t)
    (fun t => H1.rec (motive := fun _ => HV) HV.nil (fun _ _ _ _ c4 _ _ _ _ _ _ _ _ _ _ _ => c4) t)
    (fun t => H1.rec (motive := fun _ => HV) HV.nil (fun _ _ _ _ _ c5 _ _ _ _ _ _ _ _ _ _ => c5) t)
    (fun t => H1.rec (motive := fun _ => HV) HV.nil (fun _ _ _ _ _ _ c6 _ _ _ _ _ _ _ _ _ => c6) t)
    (fun t => H1.rec (motive := fun _ => HV) HV.nil (fun _ _ _ _ _ _ _ c7 _ _ _ _ _ _ _ _ => c7) t)
    (fun t => H1.rec (motive := fun _ => HV) HV.nil (fun _ _ _ _ _ _ _ _ c8 _ _ _ _ _ _ _ => c8) t)
    (fun t => H1.rec (motive := fun _ => HV) HV.nil (fun _ _ _ _ _ _ _ _ _ c9 _ _ _ _ _ _ => c9) t)
    (fun t => H1.rec (motive := fun _ => HV) HV.nil (fun _ _ _ _ _ _ _ _ _ _ c10 _ _ _ _ _ => c10) t)
    (fun t => H1.rec (motive := fun _ => HV) HV.nil (fun _ _ _ _ _ _ _ _ _ _ _ c11 _ _ _ _ => c11) t)
    (fun t => H1.rec (motive := fun _ => HV) HV.nil (fun _ _ _ _ _ _ _ _ _ _ _ _ c12 _ _ _ => c12) t)
    (fun t => H1.rec (motive := fun _ => HV) HV.nil (fun _ _ _ _ _ _ _ _ _ _ _ _ _ c13 _ _ => c13) t)
    (fun t => H1.rec (motive := fun _ => HV) HV.nil (fun _ _ _ _ _ _ _ _ _ _ _ _ _ _ c14 _ => c14) t)
    (fun t => H1.rec (motive := fun _ => HV) HV.nil (fun _ _ _ _ _ _ _ _ _ _ _ _ _ _ _ c15 => c15) t) d t
def H1.upd (f : HV → HV) (d : Dg) (t : H1) : H1 :=
  Dg.rec (motive := fun _ => (HV → HV) → H1 → H1)
    (fun f t => H1.rec (motive := fun _ => H1) (.nd (f HV.nil) HV.nil HV.nil HV.nil HV.nil HV.nil HV.nil HV.nil HV.nil HV.nil HV.nil HV.nil HV.nil HV.nil HV.nil HV.nil) (fun c0 c1 c2 c3 c4 c5 c6 c7 c8 c9 c10 c11 c12 c13 c14 c15 => .nd (f c0) c1 c2 c3 c4 c5 c6 c7 c8 c9 c10 c11 c12 c13 c14 c15) t)
    (fun f t => H1.rec (motive := fun _ => H1) (.nd HV.nil (f HV.nil) HV.nil HV.nil HV.nil HV.nil HV.nil HV.nil HV.nil HV.nil HV.nil HV.nil HV.nil HV.nil HV.nil HV.nil) (fun c0 c1 c2 c3 c4 c5 c6 c7 c8 c9 c10 c11 c12 c13 c14 c15 => .nd c0 (f c1) c2 c3 c4 c5 c6 c7 c8 c9 c10 c11 c12 c13 c14 c15) t)
    (fun f t => H1.rec (motive := fun _ => H1) (.nd HV.nil HV.nil (f HV.nil) HV.nil HV.nil HV.nil HV.nil HV.nil HV.nil HV.nil HV.nil HV.nil HV.nil HV.nil HV.nil HV.nil) (fun c0 c1 c2 c3 c4 c5 c6 c7 c8 c9 c10 c11 c12 c13 c14 c15 => .nd c0 c1 (f c2) c3 c4 c5 c6 c7 c8 c9 c10 c11 c12 c13 c14 c15) t)
    (fun f t => H1.rec (motive := fun _ => H1) (.nd HV.nil HV.nil HV.nil (f HV.nil) HV.nil HV.nil HV.nil HV.nil HV.nil HV.nil HV.nil HV.nil HV.nil HV.nil HV.nil HV.nil) (fun c0 c1 c2 c3 c4 c5 c6 c7 c8 c9 c10 c11 c12 c13 c14 c15 => .nd c0 c1 c2 (f c3) c4 c5 c6 c7 c8 c9 c10 c11 c12 c13 c14 c15) t)
    (fun f t => H1.rec (motive := fun _ => H1) (.nd HV.nil HV.nil HV.nil HV.nil (f HV.nil) HV.nil HV.nil HV.nil HV.nil HV.nil HV.nil HV.nil HV.nil HV.nil HV.nil HV.nil) (fun c0 c1 c2 c3 c4 c5 c6 c7 c8 c9 c10 c11 c12 c13 c14 c15 => .nd c0 c1 c2 c3 (f c4) c5 c6 c7 c8 c9 c10 c11 c12 c13 c14 c15) t)
    (fun f t => H1.rec (motive := fun _ => H1) (.nd HV.nil HV.nil HV.nil HV.nil HV.nil (f HV.nil) HV.nil HV.nil HV.nil HV.nil HV.nil HV.nil HV.nil HV.nil HV.nil HV.nil) (fun c0 c1 c2 c3 c4 c5 c6 c7 c8 c9 c10 c11 c12 c13 c14 c15 => .nd c0 c1 c2 c3 c4 (f c5) c6 c7 c8 c9 c10 c11 c12 c13 c14 c15) t)
    (fun f t => H1.rec (motive := fun _ => H1) (.nd HV.nil HV.nil HV.nil HV.nil HV.nil HV.nil (f HV.nil) HV.nil HV.nil HV.nil HV.nil HV.nil HV.nil HV.nil HV.nil HV.nil) (fun c0 c1 c2 c3 c4 c5 c6 c7 c8 c9 c10 c11 c12 c13 c14 c15 => .nd c0 c1 c2 c3 c4 c5 (f c6) c7 c8 c9 c10 c11 c12 c13 c14 c15) t)
    (fun f t => H1.rec (motive := fun _ => H1) (.nd HV.nil HV.nil HV.nil HV.nil HV.nil HV.nil HV.nil (f HV.nil) HV.nil HV.nil HV.nil HV.nil HV.nil HV.nil HV.nil HV.nil) (fun c0 c1 c2 c3 c4 c5 c6 c7 c8 c9 c10 c11 c12 c13 c14 c15 => .nd c0 c1 c2 c3 c4 c5 c6 (f c7) c8 c9 c10 c11 c12 c13 c14 c15) t)
    (fun f t => H1.rec (motive := fun _ => H1) (.nd HV.nil HV.nil HV.nil HV.nil HV.nil HV.nil HV.nil HV.nil (f HV.nil) HV.nil HV.nil HV.nil HV.nil HV.nil HV.nil HV.nil) (fun c0 c1 c2 c3 c4 c5 c6 c7 c8 c9 c10 c11 c12 c13 c14 c15 => .nd c0 c1 c2 c3 c4 c5 c6 c7 (f c8) c9 c10 c11 c12 c13 c14 c15) t)
    (fun f t => H1.rec (motive := fun _ => H1) (.nd HV.nil HV.nil HV.nil HV.nil HV.nil HV.nil HV.nil HV.nil HV.nil (f HV.nil) HV.nil HV.nil HV.nil HV.nil HV.nil HV.nil) (fun c0 c1 c2 c3 c4 c5 c6 c7 c8 c9 c10 c11 c12 c13 c14 c15 => .nd c0 c1 c2 c3 c4 c5 c6 c7 c8 (f c9) c10 c11 c12 c13 c14 c15) t)
    (fun f t => H1.rec (motive := fun _ => H1) (.nd HV.nil HV.nil HV.nil HV.nil HV.nil HV.nil HV.nil HV.nil HV.nil HV.nil (f HV.nil) HV.nil HV.nil HV.nil HV.nil HV.nil) (fun c0 c1 c2 c3 c4 c5 c6 c7 c8 c9 c10 c11 c12 c13 c14 c15 => .nd c0 c1 c2 c3 c4 c5 c6 c7 c8 c9 (f c10) c11 c12 c13 c14 c15) t)
    (fun f t => H1.rec (motive := fun _ => H1) (.nd HV.nil HV.nil HV.nil HV.nil HV.nil HV.nil HV.nil HV.nil HV.nil HV.nil HV.nil (f HV.nil) HV.nil HV.nil HV.nil HV.nil) (fun c0 c1 c2 c3 c4 c5 c6 c7 c8 c9 c10 c11 c12 c13 c14 c15 => .nd c0 c1 c2 c3 c4 c5 c6 c7 c8 c9 c10 (f c11) c12 c13 c14 c15) t)
    (fun f t => H1.rec (motive := fun _ => H1) (.nd HV.nil HV.nil HV.nil HV.nil HV.nil HV.nil HV.nil HV.nil HV.nil HV.nil HV.nil HV.nil (f HV.nil) HV.nil HV.nil HV.nil) (fun c0 c1 c2 c3 c4 c5 c6 c7 c8 c9 c10 c11 c12 c13 c14 c15 => .nd c0 c1 c2 c3 c4 c5 c6 c7 c8 c9 c10 c11 (f c12) c13 c14 c15) t)
    (fun f t => H1.rec (motive := fun _ => H1) (.nd HV.nil HV.nil HV.nil HV.nil HV.nil HV.nil HV.nil HV.nil HV.nil HV.nil HV.nil HV.nil HV.nil (f HV.nil) HV.nil HV.nil) (fun c0 c1 c2 c3 c4 c5 c6 c7 c8 c9 c10 c11 c12 c13 c14 c15 => .nd c0 c1 c2 c3 c4 c5 c6 c7 c8 c9 c10 c11 c12 (f c13) c14 c15) t)
    (fun f t => H1.rec (motive := fun _ => H1) (.nd HV.nil HV.nil HV.nil HV.nil HV.nil HV.nil HV.nil HV.nil HV.nil HV.nil HV.nil HV.nil HV.nil HV.nil (f HV.nil) HV.nil) (fun c0 c1 c2 c3 c4 c5 c6 c7 c8 c9 c10 c11 c12 c13 c14 c15 => .nd c0 c1 c2 c3 c4 c5 c6 c7 c8 c9 c10 c11 c12 c13 (f c14) c15) t)
    (fun f t => H1.rec (motive := fun _ => H1) (.nd HV.nil HV.nil HV.nil HV.nil HV.nil HV.nil HV.nil HV.nil HV.nil HV.nil HV.nil HV.nil HV.nil HV.nil HV.nil (f HV.nil)) (fun c0 c1 c2 c3 c4 c5 c6 c7 c8 c9 c10 c11 c12 c13 c14 c15 => .nd c0 c1 c2 c3 c4 c5 c6 c7 c8 c9 c10 c11 c12 c13 c14 (f c15)) t) d f t
inductive H2 where
  | nil
  | nd (c0 c1 c2 c3 c4 c5 c6 c7 c8 c9 c10 c11 c12 c13 c14 c15 : H1)
def H2.get (d : Dg) (t : H2) : H1 :=
  Dg.rec (motive := fun _ => H2 → H1)
    (fun t => H2.rec (motive := fun _ => H1) H1.nil (fun c0 _ _ _ _ _ _ _ _ _ _ _ _ _ _ _ => c0) t)
    (fun t => H2.rec (motive := fun _ => H1) H1.nil (fun _ c1 _ _ _ _ _ _ _ _ _ _ _ _ _ _ => c1) t)
    (fun t => H2.rec (motive := fun _ => H1) H1.nil (fun _ _ c2 _ _ _ _ _ _ _ _ _ _ _ _ _ => c2) t)
    (fun t => H2.rec (motive := fun _ => H1) H1.nil (fun _ _ _ c3 _ _ _ _ _ _ _ _ _ _ _ _ => c3) t)
    (fun t => H2.rec (motive := fun _ => H1) H1.nil (fun _ _ _ _ c4 _ _ _ _ _ _ _ _ _ _ _ => c4) t)
    (fun t => H2.rec (motive := fun _ => H1) H1.nil (fun _ _ _ _ _ c5 _ _ _ _ _ _ _ _ _ _ => c5) t)
    (fun t => H2.rec (motive := fun _ => H1) H1.nil (fun _ _ _ _ _ _ c6 _ _ _ _ _ _ _ _ _ => c6) t)
    (fun t => H2.rec (motive := fun _ => H1) H1.nil (fun _ _ _ _ _ _ _ c7 _ _ _ _ _ _ _ _ => c7) t)
    (fun t => H2.rec (motive := fun _ => H1) H1.nil (fun _ _ _ _ _ _ _ _ c8 _ _ _ _ _ _ _ => c8) t)
    (fun t => H2.rec (motive := fun _ => H1) H1.nil (fun _ _ _ _ _ _ _ _ _ c9 _ _ _ _ _ _ => c9) t)
    (fun t => H2.rec (motive := fun _ => H1) H1.nil (fun _ _ _ _ _ _ _ _ _ _ c10 _ _ _ _ _ => c10) t)
    (fun t => H2.rec (motive := fun _ => H1) H1.nil (fun _ _ _ _ _ _ _ _ _ _ _ c11 _ _ _ _ => c11) t)
    (fun t => H2.rec (motive := fun _ => H1) H1.nil (fun _ _ _ _ _ _ _ _ _ _ _ _ c12 _ _ _ => c12) t)
    (fun t => H2.rec (motive := fun _ => H1) H1.nil (fun _ _ _ _ _ _ _ _ _ _ _ _ _ c13 _ _ => c13) t)
    (fun t => H2.rec (motive := fun _ => H1) H1.nil (fun _ _ _ _ _ _ _ _ _ _ _ _ _ _ c14 _ => c14) t)
    (fun t => H2.rec (motive := fun _ => H1) H1.nil (fun _ _ _ _ _ _ _ _ _ _ _ _ _ _ _ c15 => c15) t) d t
def H2.upd (f : H1 → H1) (d : Dg) (t : H2) : H2 :=
  Dg.rec (motive := fun _ => (H1 → H1) → H2 → H2)
    (fun f t => H2.rec (motive := fun _ => H2) (.nd (f H1.nil) H1.nil H1.nil H1.nil H1.nil H1.nil H1.nil H1.nil H1.nil H1.nil H1.nil H1.nil H1.nil H1.nil H1.nil H1.nil) (fun c0 c1 c2 c3 c4 c5 c6 c7 c8 c9 c10 c11 c12 c13 c14 c15 => .nd (f c0) c1 c2 c3 c4 c5 c6 c7 c8 c9 c10 c11 c12 c13 c14 c15) t)
    (fun f t => H2.rec (motive := fun _ => H2) (.nd H1.nil (f H1.nil) H1.nil H1.nil H1.nil H1.nil H1.nil H1.nil H1.nil H1.nil H1.nil H1.nil H1.nil H1.nil H1.nil H1.nil) (fun c0 c1 c2 c3 c4 c5 c6 c7 c8 c9 c10 c11 c12 c13 c14 c15 => .nd c0 (f c1) c2 c3 c4 c5 c6 c7 c8 c9 c10 c11 c12 c13 c14 c15) t)
    (fun f t => H2.rec (motive := fun _ => H2) (.nd H1.nil H1.nil (f H1.nil) H1.nil H1.nil H1.nil H1.nil H1.nil H1.nil H1.nil H1.nil H1.nil H1.nil H1.nil H1.nil H1.nil) (fun c0 c1 c2 c3 c4 c5 c6 c7 c8 c9 c10 c11 c12 c13 c14 c15 => .nd c0 c1 (f c2) c3 c4 c5 c6 c7 c8 c9 c10 c11 c12 c13 c14 c15) t)
    (fun f t => H2.rec (motive := fun _ => H2) (.nd H1.nil H1.nil H1.nil (f H1.nil) H1.nil H1.nil H1.nil H1.nil H1.nil H1.nil H1.nil H1.nil H1.nil H1.nil H1.nil H1.nil) (fun c0 c1 c2 c3 c4 c5 c6 c7 c8 c9 c10 c11 c12 c13 c14 c15 => .nd c0 c1 c2 (f c3) c4 c5 c6 c7 c8 c9 c10 c11 c12 c13 c14 c15) t)
    (fun f t => H2.rec (motive := fun _ => H2) (.nd H1.nil H1.nil H1.nil H1.nil (f H1.nil) H1.nil H1.nil H1.nil H1.nil H1.nil H1.nil H1.nil H1.nil H1.nil H1.nil H1.nil) (fun c0 c1 c2 c3 c4 c5 c6 c7 c8 c9 c10 c11 c12 c13 c14 c15 => .nd c0 c1 c2 c3 (f c4) c5 c6 c7 c8 c9 c10 c11 c12 c13 c14 c15) t)
    (fun f t => H2.rec (motive := fun _ => H2) (.nd H1.nil H1.nil H1.nil H1.nil H1.nil (f H1.nil) H1.nil H1.nil H1.nil H1.nil H1.nil H1.nil H1.nil H1.nil H1.nil H1.nil) (fun c0 c1 c2 c3 c4 c5 c6 c7 c8 c9 c10 c11 c12 c13 c14 c15 => .nd c0 c1 c2 c3 c4 (f c5) c6 c7 c8 c9 c10 c11 c12 c13 c14 c15) t)
    (fun f t => H2.rec (motive := fun _ => H2) (.nd H1.nil H1.nil H1.nil H1.nil H1.nil H1.nil (f H1.nil) H1.nil H1.nil H1.nil H1.nil H1.nil H1.nil H1.nil H1.nil H1.nil) (fun c0 c1 c2 c3 c4 c5 c6 c7 c8 c9 c10 c11 c12 c13 c14 c15 => .nd c0 c1 c2 c3 c4 c5 (f c6) c7 c8 c9 c10 c11 c12 c13 c14 c15) t)
    (fun f t => H2.rec (motive := fun _ => H2) (.nd H1.nil H1.nil H1.nil H1.nil H1.nil H1.nil H1.nil (f H1.nil) H1.nil H1.nil H1.nil H1.nil H1.nil H1.nil H1.nil H1.nil) (fun c0 c1 c2 c3 c4 c5 c6 c7 c8 c9 c10 c11 c12 c13 c14 c15 => .nd c0 c1 c2 c3 c4 c5 c6 (f c7) c8 c9 c10 c11 c12 c13 c14 c15) t)
    (fun f t => H2.rec (motive := fun _ => H2) (.nd H1.nil H1.nil H1.nil H1.nil H1.nil H1.nil H1.nil H1.nil (f H1.nil) H1.nil H1.nil H1.nil H1.nil H1.nil H1.nil H1.nil) (fun c0 c1 c2 c3 c4 c5 c6 c7 c8 c9 c10 c11 c12 c13 c14 c15 => .nd c0 c1 c2 c3 c4 c5 c6 c7 (f c8) c9 c10 c11 c12 c13 c14 c15) t)
    (fun f t => H2.rec (motive := fun _ => H2) (.nd H1.nil H1.nil H1.nil H1.nil H1.nil H1.nil H1.nil H1.nil H1.nil (f H1.nil) H1.nil H1.nil H1.nil H1.nil H1.nil H1.nil) (fun c0 c1 c2 c3 c4 c5 c6 c7 c8 c9 c10 c11 c12 c13 c14 c15 => .nd c0 c1 c2 c3 c4 c5 c6 c7 c8 (f c9) c10 c11 c12 c13 c14 c15) t)
    (fun f t => H2.rec (motive := fun _ => H2) (.nd H1.nil H1.nil H1.nil H1.nil H1.nil H1.nil H1.nil H1.nil H1.nil H1.nil (f H1.nil) H1.nil H1.nil H1.nil H1.nil H1.nil) (fun c0 c1 c2 c3 c4 c5 c6 c7 c8 c9 c10 c11 c12 c13 c14 c15 => .nd c0 c1 c2 c3 c4 c5 c6 c7 c8 c9 (f c10) c11 c12 c13 c14 c15) t)
    (fun f t => H2.rec (motive := fun _ => H2) (.nd H1.nil H1.nil H1.nil H1.nil H1.nil H1.nil H1.nil H1.nil H1.nil H1.nil H1.nil (f H1.nil) H1.nil H1.nil H1.nil H1.nil) (fun c0 c1 c2 c3 c4 c5 c6 c7 c8 c9 c10 c11 c12 c13 c14 c15 => .nd c0 c1 c2 c3 c4 c5 c6 c7 c8 c9 c10 (f c11) c12 c13 c14 c15) t)
    (fun f t => H2.rec (motive := fun _ => H2) (.nd H1.nil H1.nil H1.nil H1.nil H1.nil H1.nil H1.nil H1.nil H1.nil H1.nil H1.nil H1.nil (f H1.nil) H1.nil H1.nil H1.nil) (fun c0 c1 c2 c3 c4 c5 c6 c7 c8 c9 c10 c11 c12 c13 c14 c15 => .nd c0 c1 c2 c3 c4 c5 c6 c7 c8 c9 c10 c11 (f c12) c13 c14 c15) t)
    (fun f t => H2.rec (motive := fun _ => H2) (.nd H1.nil H1.nil H1.nil H1.nil H1.nil H1.nil H1.nil H1.nil H1.nil H1.nil H1.nil H1.nil H1.nil (f H1.nil) H1.nil H1.nil) (fun c0 c1 c2 c3 c4 c5 c6 c7 c8 c9 c10 c11 c12 c13 c14 c15 => .nd c0 c1 c2 c3 c4 c5 c6 c7 c8 c9 c10 c11 c12 (f c13) c14 c15) t)
    (fun f t => H2.rec (motive := fun _ => H2) (.nd H1.nil H1.nil H1.nil H1.nil H1.nil H1.nil H1.nil H1.nil H1.nil H1.nil H1.nil H1.nil H1.nil H1.nil (f H1.nil) H1.nil) (fun c0 c1 c2 c3 c4 c5 c6 c7 c8 c9 c10 c11 c12 c13 c14 c15 => .nd c0 c1 c2 c3 c4 c5 c6 c7 c8 c9 c10 c11 c12 c13 (f c14) c15) t)
    (fun f t => H2.rec (motive := fun _ => H2) (.nd H1.nil H1.nil H1.nil H1.nil H1.nil H1.nil H1.nil H1.nil H1.nil H1.nil H1.nil H1.nil H1.nil H1.nil H1.nil (f H1.nil)) (fun c0 c1 c2 c3 c4 c5 c6 c7 c8 c9 c10 c11 c12 c13 c14 c15 => .nd c0 c1 c2 c3 c4 c5 c6 c7 c8 c9 c10 c11 c12 c13 c14 (f c15)) t) d f t
inductive H3 where
  | nil
  | nd (c0 c1 c2 c3 c4 c5 c6 c7 c8 c9 c10 c11 c12 c13 c14 c15 : H2)
def H3.get (d : Dg) (t : H3) : H2 :=
  Dg.rec (motive := fun _ => H3 → H2)
    (fun t => H3.rec (motive := fun _ => H2) H2.nil (fun c0 _ _ _ _ _ _ _ _ _ _ _ _ _ _ _ => c0) t)
    (fun t => H3.rec (motive := fun _ => H2) H2.nil (fun _ c1 _ _ _ _ _ _ _ _ _ _ _ _ _ _ => c1) t)
    (fun t => H3.rec (motive := fun _ => H2) H2.nil (fun _ _ c2 _ _ _ _ _ _ _ _ _ _ _ _ _ => c2) t)
    (fun t => H3.rec (motive := fun _ => H2) H2.nil (fun _ _ _ c3 _ _ _ _ _ _ _ _ _ _ _ _ => c3) t)
    (fun t => H3.rec (motive := fun _ => H2) H2.nil (fun _ _ _ _ c4 _ _ _ _ _ _ _ _ _ _ _ => c4) t)
    (fun t => H3.rec (motive := fun _ => H2) H2.nil (fun _ _ _ _ _ c5 _ _ _ _ _ _ _ _ _ _ => c5) t)
    (fun t => H3.rec (motive := fun _ => H2) H2.nil (fun _ _ _ _ _ _ c6 _ _ _ _ _ _ _ _ _ => c6) t)
    (fun t => H3.rec (motive := fun _ => H2) H2.nil (fun _ _ _ _ _ _ _ c7 _ _ _ _ _ _ _ _ => c7) t)
    (fun t => H3.rec (motive := fun _ => H2) H2.nil (fun _ _ _ _ _ _ _ _ c8 _ _ _ _ _ _ _ => c8) t)
    (fun t => H3.rec (motive := fun _ => H2) H2.nil (fun _ _ _ _ _ _ _ _ _ c9 _ _ _ _ _ _ => c9) t)
    (fun t => H3.rec (motive := fun _ => H2) H2.nil (fun _ _ _ _ _ _ _ _ _ _ c10 _ _ _ _ _ => c10) t)
    (fun t => H3.rec (motive := fun _ => H2) H2.nil (fun _ _ _ _ _ _ _ _ _ _ _ c11 _ _ _ _ => c11) t)
    (fun t => H3.rec (motive := fun _ => H2) H2.nil (fun _ _ _ _ _ _ _ _ _ _ _ _ c12 _ _ _ => c12) t)
    (fun t => H3.rec (motive := fun _ => H2) H2.nil (fun _ _ _ _ _ _ _ _ _ _ _ _ _ c13 _ _ => c13) t)
    (fun t => H3.rec (motive := fun _ => H2) H2.nil (fun _ _ _ _ _ _ _ _ _ _ _ _ _ _ c14 _ => c14) t)
    (fun t => H3.rec (motive := fun _ => H2) H2.nil (fun _ _ _ _ _ _ _ _ _ _ _ _ _ _ _ c15 => c15) t) d t
def H3.upd (f : H2 → H2) (d : Dg) (t : H3) : H3 :=
  Dg.rec (motive := fun _ => (H2 → H2) → H3 → H3)
    (fun f t => H3.rec (motive := fun _ => H3) (.nd (f H2.nil) H2.nil H2.nil H2.nil H2.nil H2.nil H2.nil H2.nil H2.nil H2.nil H2.nil H2.nil H2.nil H2.nil H2.nil H2.nil) (fun c0 c1 c2 c3 c4 c5 c6 c7 c8 c9 c10 c11 c12 c13 c14 c15 => .nd (f c0) c1 c2 c3 c4 c5 c6 c7 c8 c9 c10 c11 c12 c13 c14 c15) t)
    (fun f t => H3.rec (motive := fun _ => H3) (.nd H2.nil (f H2.nil) H2.nil H2.nil H2.nil H2.nil H2.nil H2.nil H2.nil H2.nil H2.nil H2.nil H2.nil H2.nil H2.nil H2.nil) (fun c0 c1 c2 c3 c4 c5 c6 c7 c8 c9 c10 c11 c12 c13 c14 c15 => .nd c0 (f c1) c2 c3 c4 c5 c6 c7 c8 c9 c10 c11 c12 c13 c14 c15) t)
    (fun f t => H3.rec (motive := fun _ => H3) (.nd H2.nil H2.nil (f H2.nil) H2.nil H2.nil H2.nil H2.nil H2.nil H2.nil H2.nil H2.nil H2.nil H2.nil H2.nil H2.nil H2.nil) (fun c0 c1 c2 c3 c4 c5 c6 c7 c8 c9 c10 c11 c12 c13 c14 c15 => .nd c0 c1 (f c2) c3 c4 c5 c6 c7 c8 c9 c10 c11 c12 c13 c14 c15) t)
    (fun f t => H3.rec (motive := fun _ => H3) (.nd H2.nil H2.nil H2.nil (f H2.nil) H2.nil H2.nil H2.nil H2.nil H2.nil H2.nil H2.nil H2.nil H2.nil H2.nil H2.nil H2.nil) (fun c0 c1 c2 c3 c4 c5 c6 c7 c8 c9 c10 c11 c12 c13 c14 c15 => .nd c0 c1 c2 (f c3) c4 c5 c6 c7 c8 c9 c10 c11 c12 c13 c14 c15) t)
    (fun f t => H3.rec (motive := fun _ => H3) (.nd H2.nil H2.nil H2.nil H2.nil (f H2.nil) H2.nil H2.nil H2.nil H2.nil H2.nil H2.nil H2.nil H2.nil H2.nil H2.nil H2.nil) (fun c0 c1 c2 c3 c4 c5 c6 c7 c8 c9 c10 c11 c12 c13 c14 c15 => .nd c0 c1 c2 c3 (f c4) c5 c6 c7 c8 c9 c10 c11 c12 c13 c14 c15) t)
    (fun f t => H3.rec (motive := fun _ => H3) (.nd H2.nil H2.nil H2.nil H2.nil H2.nil (f H2.nil) H2.nil H2.nil H2.nil H2.nil H2.nil H2.nil H2.nil H2.nil H2.nil H2.nil) (fun c0 c1 c2 c3 c4 c5 c6 c7 c8 c9 c10 c11 c12 c13 c14 c15 => .nd c0 c1 c2 c3 c4 (f c5) c6 c7 c8 c9 c10 c11 c12 c13 c14 c15) t)
    (fun f t => H3.rec (motive := fun _ => H3) (.nd H2.nil H2.nil H2.nil H2.nil H2.nil H2.nil (f H2.nil) H2.nil H2.nil H2.nil H2.nil H2.nil H2.nil H2.nil H2.nil H2.nil) (fun c0 c1 c2 c3 c4 c5 c6 c7 c8 c9 c10 c11 c12 c13 c14 c15 => .nd c0 c1 c2 c3 c4 c5 (f c6) c7 c8 c9 c10 c11 c12 c13 c14 c15) t)
    (fun f t => H3.rec (motive := fun _ => H3) (.nd H2.nil H2.nil H2.nil H2.nil H2.nil H2.nil H2.nil (f H2.nil) H2.nil H2.nil H2.nil H2.nil H2.nil H2.nil H2.nil H2.nil) (fun c0 c1 c2 c3 c4 c5 c6 c7 c8 c9 c10 c11 c12 c13 c14 c15 => .nd c0 c1 c2 c3 c4 c5 c6 (f c7) c8 c9 c10 c11 c12 c13 c14 c15) t)
    (fun f t => H3.rec (motive := fun _ => H3) (.nd H2.nil H2.nil H2.nil H2.nil H2.nil H2.nil H2.nil H2.nil (f H2.nil) H2.nil H2.nil H2.nil H2.nil H2.nil H2.nil H2.nil) (fun c0 c1 c2 c3 c4 c5 c6 c7 c8 c9 c10 c11 c12 c13 c14 c15 => .nd c0 c1 c2 c3 c4 c5 c6 c7 (f c8) c9 c10 c11 c12 c13 c14 c15) t)
    (fun f t => H3.rec (motive := fun _ => H3) (.nd H2.nil H2.nil H2.nil H2.nil H2.nil H2.nil H2.nil H2.nil H2.nil (f H2.nil) H2.nil H2.nil H2.nil H2.nil H2.nil H2.nil) (fun c0 c1 c2 c3 c4 c5 c6 c7 c8 c9 c10 c11 c12 c13 c14 c15 => .nd c0 c1 c2 c3 c4 c5 c6 c7 c8 (f c9) c10 c11 c12 c13 c14 c15) t)
    (fun f t => H3.rec (motive := fun _ => H3) (.nd H2.nil H2.nil H2.nil H2.nil H2.nil H2.nil H2.nil H2.nil H2.nil H2.nil (f H2.nil) H2.nil H2.nil H2.nil H2.nil H2.nil) (fun c0 c1 c2 c3 c4 c5 c6 c7 c8 c9 c10 c11 c12 c13 c14 c15 => .nd c0 c1 c2 c3 c4 c5 c6 c7 c8 c9 (f c10) c11 c12 c13 c14 c15) t)
    (fun f t => H3.rec (motive := fun _ => H3) (.nd H2.nil H2.nil H2.nil H2.nil H2.nil H2.nil H2.nil H2.nil H2.nil H2.nil H2.nil (f H2.nil) H2.nil H2.nil H2.nil H2.nil) (fun c0 c1 c2 c3 c4 c5 c6 c7 c8 c9 c10 c11 c12 c13 c14 c15 => .nd c0 c1 c2 c3 c4 c5 c6 c7 c8 c9 c10 (f c11) c12 c13 c14 c15) t)
    (fun f t => H3.rec (motive := fun _ => H3) (.nd H2.nil H2.nil H2.nil H2.nil H2.nil H2.nil H2.nil H2.nil H2.nil H2.nil H2.nil H2.nil (f H2.nil) H2.nil H2.nil H2.nil) (fun c0 c1 c2 c3 c4 c5 c6 c7 c8 c9 c10 c11 c12 c13 c14 c15 => .nd c0 c1 c2 c3 c4 c5 c6 c7 c8 c9 c10 c11 (f c12) c13 c14 c15) t)
    (fun f t => H3.rec (motive := fun _ => H3) (.nd H2.nil H2.nil H2.nil H2.nil H2.nil H2.nil H2.nil H2.nil H2.nil H2.nil H2.nil H2.nil H2.nil (f H2.nil) H2.nil H2.nil) (fun c0 c1 c2 c3 c4 c5 c6 c7 c8 c9 c10 c11 c12 c13 c14 c15 => .nd c0 c1 c2 c3 c4 c5 c6 c7 c8 c9 c10 c11 c12 (f c13) c14 c15) t)
    (fun f t => H3.rec (motive := fun _ => H3) (.nd H2.nil H2.nil H2.nil H2.nil H2.nil H2.nil H2.nil H2.nil H2.nil H2.nil H2.nil H2.nil H2.nil H2.nil (f H2.nil) H2.nil) (fun c0 c1 c2 c3 c4 c5 c6 c7 c8 c9 c10 c11 c12 c13 c14 c15 => .nd c0 c1 c2 c3 c4 c5 c6 c7 c8 c9 c10 c11 c12 c13 (f c14) c15) t)
    (fun f t => H3.rec (motive := fun _ => H3) (.nd H2.nil H2.nil H2.nil H2.nil H2.nil H2.nil H2.nil H2.nil H2.nil H2.nil H2.nil H2.nil H2.nil H2.nil H2.nil (f H2.nil)) (fun c0 c1 c2 c3 c4 c5 c6 c7 c8 c9 c10 c11 c12 c13 c14 c15 => .nd c0 c1 c2 c3 c4 c5 c6 c7 c8 c9 c10 c11 c12 c13 c14 (f c15)) t) d f t
end
inductive Tm where
  | mk (s : LV) (w : L1)
def Tm.nil : Tm := .mk .nil .nil
abbrev zD := H3
noncomputable section
def qI (p : Loc) (t : Tm) : CV :=
  Loc.rec (motive := fun _ => Tm → CV) (fun d t => Tm.rec (motive := fun _ => CV) (fun s _ => LV.get d s) t) (fun c d t => Tm.rec (motive := fun _ => CV) (fun _ w => LV.get d (L1.get c w)) t) p t
def kG (v : CV) (p : Loc) (t : Tm) : Tm :=
  Loc.rec (motive := fun _ => CV → Tm → Tm) (fun d v t => Tm.rec (motive := fun _ => Tm) (fun s w => .mk (LV.upd (fun _ => v) d s) w) t)
    (fun c d v t => Tm.rec (motive := fun _ => Tm) (fun s w => .mk s (L1.upd (LV.upd (fun _ => v) d) c w)) t) p v t
def yK (k : Key) (h : zD) : Option CObj := Key.rec (motive := fun _ => zD → Option CObj) (fun a b c d t => ((H3.get a t |>.get b).get c).get d) k h
def yn (o : Option CObj) (k : Key) (h : zD) : zD :=
  Key.rec (motive := fun _ => Option CObj → zD → zD) (fun a b c d o h => H3.upd (H2.upd (H1.upd (HV.upd (fun _ => o) d) c) b) a h) k o h
end
def yq {α β : Type} (f : α → Option β) : List α → Option (List β)
  | [] => some []
  | x :: xs => match f x with
    | none => none
    | some y => match yq f xs with
      | none => none
      | some ys => some (y :: ys)
def zi (s : ByteArray) : List Nat := s.data.toList.map UInt8.toNat
def vF : Nat → Value → Option CV
  | 0, _ => none
  | d + 1, v => match v with
    | .bool b => some (.bool b)
    | .int k n => some (match k, n with | .i64, .ofNat m => .nat m | k, n => .int k n)
    | .string s => some (.str (zi s))
    | .pointer none => some .nilptr
    | .slice none 0 0 => some .nilsl
    | .map none => some .nilmap
    | .nilFunc => some .nilfunc
    | .func fn a b => if a.size = 0 ∧ b.size = 0 then some (.func fn [] []) else none
    | .nilIface => some .niliface
    | .iface t v => (vF d v).map (.iface t)
    | .agg cs => (yq (vF d) cs.toList).map .agg
    | .tuple cs => (yq (vF d) cs.toList).map .tup
    | _ => none
def CV.cells : CV → List CV
  | .agg cs => cs
  | v => [v]
def CV.single : CV → Bool
  | .agg _ => false
  | .tup _ => false
  | .any => false
  | _ => true
noncomputable section
def y9 (l : List CV) : Bool := List.rec (motive := fun _ => Bool) true (fun v _ ih => Bool.rec (motive := fun _ => Bool) false ih v.single) l
def uM (l : List CV) : Nat := List.rec (motive := fun _ => Nat) 0 (fun _ _ ih => Nat.succ ih) l
def zAu (l : List Nat) : Nat := List.rec (motive := fun _ => Nat) 0 (fun _ _ ih => Nat.succ ih) l
def zN8 (l : List CE) : Nat := List.rec (motive := fun _ => Nat) 0 (fun _ _ ih => Nat.succ ih) l
end
def nth {α : Type} : List α → Nat → Option α
  | [], _ => none
  | x :: _, 0 => some x
  | _ :: xs, k + 1 => nth xs k
noncomputable section
def zDs (l : List CV) (k : Nat) : Option CV :=
  List.rec (motive := fun _ => Nat → Option CV) (fun _ => none) (fun x _ ih k => Nat.rec (motive := fun _ => Option CV) (some x) (fun k _ => ih k) k) l k
def zOB (l : List Nat) (k : Nat) : Option Nat :=
  List.rec (motive := fun _ => Nat → Option Nat) (fun _ => none) (fun x _ ih k => Nat.rec (motive := fun _ => Option Nat) (some x) (fun k _ => ih k) k) l k
def zJw (l : List CV) (k : Nat) : List CV :=
  List.rec (motive := fun _ => Nat → List CV) (fun _ => []) (fun x xs ih k => Nat.rec (motive := fun _ => List CV) (x :: xs) (fun k _ => ih k) k) l k
def zJ6 (l : List Nat) (k : Nat) : List Nat :=
  List.rec (motive := fun _ => Nat → List Nat) (fun _ => []) (fun x xs ih k => Nat.rec (motive := fun _ => List Nat) (x :: xs) (fun k _ => ih k) k) l k
def zE3 (x : CV) (r : Option (List CV)) : Option (List CV) := Option.rec (motive := fun _ => CV → Option (List CV)) (fun _ => none) (fun l x => some (x :: l)) r x
def zKp (x : Nat) (r : Option (List Nat)) : Option (List Nat) := Option.rec (motive := fun _ => Nat → Option (List Nat)) (fun _ => none) (fun l x => some (x :: l)) r x
def zJ4 (l : List CV) (k : Nat) : Option (List CV) :=
  List.rec (motive := fun _ => Nat → Option (List CV)) (fun k => Nat.rec (motive := fun _ => Option (List CV)) (some []) (fun _ _ => none) k)
    (fun x _ ih k => Nat.rec (motive := fun _ => Option (List CV)) (some []) (fun k _ => zE3 x (ih k)) k) l k
def zHv (l : List Nat) (k : Nat) : Option (List Nat) :=
  List.rec (motive := fun _ => Nat → Option (List Nat)) (fun k => Nat.rec (motive := fun _ => Option (List Nat)) (some []) (fun _ _ => none) k)
    (fun x _ ih k => Nat.rec (motive := fun _ => Option (List Nat)) (some []) (fun k _ => zKp x (ih k)) k) l k
def uK (l : List CV) (off n : Nat) : Option (List CV) := zJ4 (zJw l off) n
def zPf (l : List Nat) (off n : Nat) : Option (List Nat) := zHv (zJ6 l off) n
def zB6 (xs : List CV) (s : Nat) (l : List CV) : Option (List CV) :=
  List.rec (motive := fun _ => Nat → List CV → Option (List CV)) (fun s l => Nat.rec (motive := fun _ => Option (List CV)) (some l) (fun _ _ => none) s)
    (fun x _ ih s l => Nat.rec (motive := fun _ => Option (List CV)) none (fun s _ => List.rec (motive := fun _ => Option (List CV)) none (fun _ l _ => zE3 x (ih s l)) l) s) xs s l
def qW (xs : List CV) (s : Nat) (l : List CV) (k : Nat) : Option (List CV) :=
  List.rec (motive := fun _ => Nat → List CV → Nat → Option (List CV)) (fun k xs s => Nat.rec (motive := fun _ => Option (List CV)) (zB6 xs s []) (fun _ _ => none) k)
    (fun y l ih k xs s => Nat.rec (motive := fun _ => Option (List CV)) (zB6 xs s (y :: l)) (fun k _ => zE3 y (ih k xs s)) k) l k xs s
end
def jX (x : List CV) : Nat → List CV
  | 0 => []
  | n + 1 => x ++ jX x n
noncomputable section
def k6 {β : Type} (n : Nat) (k : Nat → β) : β := Nat.rec (motive := fun _ => (Nat → β) → β) (fun k => k 0) (fun m _ k => k (Nat.succ m)) n k
def jY (n : Nat) : CV := Nat.rec (motive := fun _ => CV) (.nat 0) (fun m _ => .nat (Nat.succ m)) n
def qb (k : IntKind) (n : Nat) : CV := IntKind.rec (motive := fun _ => Nat → CV) (fun n => .int .i8 (.ofNat n)) (fun n => .int .i16 (.ofNat n)) (fun n => .int .i32 (.ofNat n)) jY
  (fun n => .int .u8 (.ofNat n)) (fun n => .int .u16 (.ofNat n)) (fun n => .int .u32 (.ofNat n)) (fun n => .int .u64 (.ofNat n)) k n
def zU (k : IntKind) (n : Int) : CV :=
  Int.rec (motive := fun _ => IntKind → CV) (fun m k => Nat.rec (motive := fun _ => CV) (qb k 0) (fun m _ => qb k (Nat.succ m)) m)
    (fun m k => Nat.rec (motive := fun _ => CV) (.int k (.negSucc 0)) (fun m _ => .int k (.negSucc (Nat.succ m))) m) n k
def kNo (k : IntKind) : Nat := IntKind.rec (motive := fun _ => Nat) 0 1 2 3 4 5 6 7 k
def kEq (j k : IntKind) : Bool := Nat.beq (kNo j) (kNo k)
def zKm (n : Int) : Int :=
  Int.rec (motive := fun _ => Int) (fun m => Bool.rec (motive := fun _ => Int) (IntKind.i64.wrap (.ofNat m)) (.ofNat m) (Nat.ble m 9223372036854775807))
    (fun m => Bool.rec (motive := fun _ => Int) (IntKind.i64.wrap (.negSucc m)) (.negSucc m) (Nat.ble m 9223372036854775807)) n
def zPE (n : Int) : Int := Int.rec (motive := fun _ => Int) (fun m => .ofNat (Nat.mod m 256)) (fun m => IntKind.u8.wrap (.negSucc m)) n
def yW (k : IntKind) (n : Int) : Int :=
  IntKind.rec (motive := fun _ => Int → Int) IntKind.i8.wrap IntKind.i16.wrap IntKind.i32.wrap zKm zPE IntKind.u16.wrap IntKind.u32.wrap IntKind.u64.wrap k n
def yw (a b : Int) : Bool :=
  Int.rec (motive := fun _ => Int → Bool) (fun a b => Int.rec (motive := fun _ => Bool) (fun b => Nat.beq a b) (fun _ => false) b)
    (fun a b => Int.rec (motive := fun _ => Bool) (fun _ => false) (fun b => Nat.beq a b) b) a b
def j5 (a b : Int) : Bool :=
  Int.rec (motive := fun _ => Int → Bool) (fun a b => Int.rec (motive := fun _ => Bool) (fun b => Nat.ble (Nat.succ a) b) (fun _ => false) b)
    (fun a b => Int.rec (motive := fun _ => Bool) (fun _ => true) (fun b => Nat.ble (Nat.succ b) a) b) a b
def toU (k : IntKind) (n : Int) : Nat := match n with
  | .ofNat m => Nat.mod m (Nat.pow 2 k.bits)
  | .negSucc m => Nat.sub (Nat.sub (Nat.pow 2 k.bits) 1) (Nat.mod m (Nat.pow 2 k.bits))
def zAZ (b : Bool) : Bool := Bool.rec (motive := fun _ => Bool) true false b
abbrev AOp := IntKind → Int → Int → Option CV
def zQJ : AOp := fun k a b => some (zU k (yW k (Int.add a b)))
def zQi : AOp := fun k a b => some (zU k (yW k (Int.sub a b)))
def zQk : AOp := fun k a b => some (zU k (yW k (Int.mul a b)))
def zQl : AOp := fun k a b => Bool.rec (motive := fun _ => Option CV) (some (zU k (yW k (a.tdiv b)))) none (yw b (.ofNat 0))
def zQd : AOp := fun k a b => Bool.rec (motive := fun _ => Option CV) (some (zU k (a.tmod b))) none (yw b (.ofNat 0))
def zQL : AOp := fun k a b => some (zU k (yW k (.ofNat (Nat.land (toU k a) (toU k b)))))
def aOr : AOp := fun k a b => some (zU k (yW k (.ofNat (Nat.lor (toU k a) (toU k b)))))
def zPj : AOp := fun k a b => some (zU k (yW k (.ofNat (Nat.xor (toU k a) (toU k b)))))
def zOu : AOp := fun k a b => some (zU k (yW k (.ofNat (Nat.land (toU k a) (Nat.sub (Nat.sub (Nat.pow 2 k.bits) 1) (toU k b))))))
def zQp : AOp := fun _ a b => some (.bool (yw a b))
def zQr : AOp := fun _ a b => some (.bool (zAZ (yw a b)))
def zQc : AOp := fun _ a b => some (.bool (j5 a b))
def zQj : AOp := fun _ a b => some (.bool (zAZ (j5 b a)))
def zQK : AOp := fun _ a b => some (.bool (j5 b a))
def zP8 : AOp := fun _ a b => some (.bool (zAZ (j5 a b)))
def zQe : AOp := fun k a b => match b with
  | .ofNat m => some (zU k (yW k (Int.mul a (.ofNat (Nat.pow 2 (min m k.bits))))))
  | .negSucc _ => none
def zQh : AOp := fun k a b => match b with
  | .ofNat m => match a with
    | .ofNat a => some (qb k (Nat.div a (Nat.pow 2 (min m k.bits))))
    | .negSucc a => some (zU k ((Int.negSucc a).fdiv (.ofNat (Nat.pow 2 (min m k.bits)))))
  | .negSucc _ => none
def yH (op : BinOp) : AOp :=
  BinOp.rec (motive := fun _ => AOp) zQJ zQi zQk zQl zQd zQL aOr zPj zQe zQh zOu zQp zQr zQc zQj zQK zP8 op
def yk (op : BinOp) : Bool := match op with
  | .shl => true
  | .shr => true
  | _ => false
abbrev NOp := Nat → Nat → Option CV
def okN (n : Nat) : Option CV := Bool.rec (motive := fun _ => Option CV) none (some (jY n)) (Nat.ble n 9223372036854775807)
def zQI : NOp := fun a b => okN (Nat.add a b)
def zQD : NOp := fun a b => Bool.rec (motive := fun _ => Option CV) none (Bool.rec (motive := fun _ => Option CV) none (some (jY (Nat.sub a b))) (Nat.ble a 9223372036854775807)) (Nat.ble b a)
def zQo : NOp := fun a b => okN (Nat.mul a b)
def nNo : NOp := fun _ _ => none
def zQa : NOp := fun a b => Bool.rec (motive := fun _ => Option CV) none (Bool.rec (motive := fun _ => Option CV) none (some (jY (Nat.land a b))) (Nat.ble b 9223372036854775807)) (Nat.ble a 9223372036854775807)
def zQu : NOp := fun a b => some (.bool (Nat.beq a b))
def zQb : NOp := fun a b => some (.bool (zAZ (Nat.beq a b)))
def zQC : NOp := fun a b => some (.bool (Nat.ble (Nat.succ a) b))
def zQx : NOp := fun a b => some (.bool (Nat.ble a b))
def zQG : NOp := fun a b => some (.bool (Nat.ble (Nat.succ b) a))
def zQy : NOp := fun a b => some (.bool (Nat.ble b a))
def zEv (op : BinOp) : NOp := BinOp.rec (motive := fun _ => NOp) zQI zQD zQo nNo nNo zQa nNo nNo nNo nNo nNo zQu zQb zQC zQx zQG zQy op
def vh (a b : List Nat) : Bool :=
  List.rec (motive := fun _ => List Nat → Bool) (fun b => List.rec (motive := fun _ => Bool) false (fun _ _ _ => true) b)
    (fun x _ ih b => List.rec (motive := fun _ => Bool) false (fun y r _ => Bool.rec (motive := fun _ => Bool) (Bool.rec (motive := fun _ => Bool) false (ih r) (Nat.beq x y)) true (Nat.ble (Nat.succ x) y)) b) a b
def x6 (a b : List Nat) : Bool :=
  List.rec (motive := fun _ => List Nat → Bool) (fun b => List.rec (motive := fun _ => Bool) true (fun _ _ _ => false) b)
    (fun x _ ih b => List.rec (motive := fun _ => Bool) false (fun y r _ => Bool.rec (motive := fun _ => Bool) false (ih r) (Nat.beq x y)) b) a b
def zPd (a b : List Nat) : List Nat := List.rec (motive := fun _ => List Nat) b (fun x _ ih => x :: ih) a
def zBz (a b : List CV) : List CV := List.rec (motive := fun _ => List CV) b (fun x _ ih => x :: ih) a
abbrev SOp := List Nat → List Nat → Option CV
def zQf : SOp := fun a b => Bool.rec (motive := fun _ => Option CV) none (some (.str (zPd a b))) (Nat.ble (Nat.add (zAu a) (zAu b)) 1000000)
def zQw : SOp := fun a b => some (.bool (x6 a b))
def zQg : SOp := fun a b => some (.bool (zAZ (x6 a b)))
def zQF : SOp := fun a b => some (.bool (vh a b))
def zQB : SOp := fun a b => some (.bool (vh a b || x6 a b))
def zQH : SOp := fun a b => some (.bool (zAZ (vh a b || x6 a b)))
def zQm : SOp := fun a b => some (.bool (zAZ (vh a b)))
def zEj : SOp := fun _ _ => none
def zO0 (op : BinOp) : SOp := BinOp.rec (motive := fun _ => SOp) zQf zEj zEj zEj zEj zEj zEj zEj zEj zEj zEj zQw zQg zQF zQB zQH zQm op
end
inductive zS where
  | e (i : Nat)
  | l (p : Loc)
  | k (v : CV)
structure zF2 where
  off : Nat
  size : Nat
  arg : zS
inductive EqK where
  | bool | pointer | iface | slice | map | func | int | str
  | struct (fs : List (Nat × EqK))
inductive kN where
  | int | str | bool
  | ints (n : Nat)
inductive Ext where
  | count | indexByte | index | mapsClone | overlaps | cmp
inductive COp where
  | mv (x : zS)
  | pick (c a b : zS)
  | alloc (cs : List CV)
  | box (x : zS)
  | build (zero : List CV) (ps : List zF2)
  | bslice (zero : List CV) (len esz : Nat) (ps : List zF2)
  | load1 (x : zS)
  | loadN (s : Nat) (x : zS)
  | store (s : Nat) (a x : zS)
  | nilck (x : zS)
  | arith (op : BinOp) (x y : zS)
  | eq (neg : Bool) (k : EqK) (cst : Bool) (x y : zS)
  | un (op : UnOp) (x : zS)
  | cvInt (k : IntKind) (x : zS)
  | cvStr (x : zS)
  | cvSB (x : zS)
  | cvMark (x : zS)
  | cvBS (x : zS)
  | iface (t : TypeId) (x : zS)
  | mkfn (fn : Fn) (first captured : List zS)
  | mkmap
  | mkslice (zero : List CV) (esz bytes : Nat) (l c : zS)
  | slArr (len esz : Nat) (x : zS) (lo hi mx : Option zS)
  | slSl (esz : Nat) (x : zS) (lo hi mx : Option zS)
  | slStr (x : zS) (lo hi : Option zS)
  | addOff (k : Nat) (x : zS)
  | part (agg : Bool) (off size : Nat) (x : zS)
  | ixArr (len esz : Nat) (x i : zS)
  | ixSl (esz : Nat) (x i : zS)
  | ixAgg (len esz : Nat) (agg : Bool) (x i : zS)
  | ixStr (x i : zS)
  | lookup (kk : kN) (z : CV) (ok : Bool) (x k : zS)
  | mapupd (kk : kN) (m k v : zS)
  | rangeStr (x : zS)
  | rangeMap (x : zS)
  | next (s : Bool) (x : zS)
  | entry (x : zS)
  | tassert (t : TypeId) (z : Option CV) (ok : Bool) (x : zS)
  | tiface (t : TypeId) (z : Option CV) (ok : Bool) (x : zS)
  | extract (i : Nat) (x : zS)
  | call (f : FuncId) (args : List zS)
  | ext (e : Ext) (args : List zS)
  | callv (f : zS) (args : List zS)
  | invoke (recv : zS) (name : String) (args : List zS)
  | append (esz bytes : Nat) (s x : zS)
  | appz (zero : List CV) (esz : Nat) (s x : zS)
  | copy (esz : Nat) (d x : zS)
  | lenStr (x : zS)
  | lenSl (x : zS)
  | lenMap (x : zS)
  | capSl (x : zS)
  | delete (kk : kN) (m k : zS)
  | clearMap (x : zS)
  | clearSl (zero : List CV) (esz : Nat) (x : zS)
  | minmax (mx : Bool) (x : zS) (r : List zS)
  | defer (f : zS) (args : List zS)
  | recov
  | bad (c : Nat)
inductive x8 where
  | i (op : COp)
  | o (op : COp) (d : Loc)
  | g (x : zS) (w : Bool) (op : COp) (d : Option Loc)
structure zKS where
  ins : x8
  eff : Bool
  chk : Nat
inductive CCode where
  | skip
  | region (ops : List x8)
  | dregion (ops : List zKS)
  | seq (a b : CCode)
  | cond (x : zS) (a b : CCode)
  | block (id : Nat) (b : CCode)
  | loop (b : CCode)
  | exit (id : Nat)
  | ret
  | scope (b : CCode)
  | bad (c : Nat)
inductive CRes where
  | tmp (p : zS)
  | cell1 (p : zS)
  | cellN (p : zS) (s : Nat)
inductive CFn where
  | mk (body : CCode) (res : List CRes)
  | mkD (ops : List x8) (body : CCode) (res : List CRes)
  | ext (e : Ext)
  | bad (c : Nat)
section
variable (P : Program)
def und (t : TypeId) : Option TypeDesc := P.underlying t
def xX (t : TypeId) : Option Nat := (P.info? t).map (·.size)
def wh (t : TypeId) : Option Nat := (P.info? t).map (·.bytes)
def xj (t : TypeId) : Option Bool := match P.underlying t with
  | some (.struct _) => some true
  | some (.array _ _) => some true
  | some _ => some false
  | none => none
def kJ (t : TypeId) : Option CV := match (P.info? t).bind (·.zero) with
  | some v => vF 20 v
  | none => none
def cellsOf (v : CV) : Option (List CV) := match v with
  | .agg cs => some cs
  | .tup _ => none
  | .any => none
  | v => some [v]
def qZ (t : TypeId) : Option (List CV) := (kJ P t).bind cellsOf
def qd (fs : List Field) : Bool := match fs with
  | [] => true
  | f :: r => (xX P f.type).isSome && qd r
def yy (t : Nat) : List (Option Nat) → Nat → Option Nat
  | [], _ => none
  | d :: r, i => match d with
    | some u => match Nat.beq u t with
      | true => some i
      | false => yy t r (i + 1)
    | none => yy t r (i + 1)
structure Env where
  F : Nat
  N : Nat
  ds : List (Option Nat)
def zn (F t : Nat) : Bool := Nat.beq (Nat.mod (Nat.shiftRight F t) 2) 1
def zc (E : Env) : Operand → Option zS
  | .tmp t => match yy t E.ds 0 with
    | some i => some (.e i)
    | none => match zn E.F t && Nat.ble t 271 && Nat.ble (Nat.succ t) E.N with
      | true => some (.l (Loc.ofNat t))
      | false => none
  | .const v => (vF 20 v).map .k
  | .global g => match Nat.ble (Nat.succ g) P.globals.size && Nat.ble g 4095 with
    | true => some (.k (.ptr (Key.ofNat g) 0))
    | false => none
  | .func f => some (.k (.func (.func f) [] []))
variable (E : Env)
def yx (f : zS → COp) (x : Operand) : COp := match zc P E x with
  | some x => f x
  | none => .bad 1
def qR (f : zS → zS → COp) (x y : Operand) : COp := match zc P E x, zc P E y with
  | some x, some y => f x y
  | _, _ => .bad 1
def wS (place : Nat → Option (Nat × Nat)) (l : List (Nat × Operand)) : Option (List zF2) :=
  yq (fun (i, x) => match place i, zc P E x with
    | some (o, s), some x => some ⟨o, s, x⟩
    | _, _ => none) l
def vP (fs : List Field) (i : Nat) : Option (Nat × Nat) := match nth fs i with
  | none => none
  | some f => match xX P f.type with
    | none => none
    | some s => some (f.offset, s)
def jx : List Field → Option (List (Nat × EqK))
  | [] => some []
  | f :: r => if f.name == "_" then none else
    match jx r with
    | none => none
    | some l => match und P f.type with
      | some .bool => some ((f.offset, .bool) :: l)
      | some (.int _) => some ((f.offset, .int) :: l)
      | some .string => some ((f.offset, .str) :: l)
      | _ => none
def zF3 (t : TypeId) : Option EqK := match und P t with
  | some .bool => some .bool
  | some (.pointer _) => some .pointer
  | some (.interface _) => some .iface
  | some (.slice _) => some .slice
  | some (.map _ _) => some .map
  | some (.func _ _ _) => some .func
  | some (.struct fs) => if P.eqGuardType P.depth t || P.stoodInHeld t then none else (jx P fs.toList).map .struct
  | _ => none
def zDe : List Field → Nat → Bool
  | [], _ => true
  | f :: r, i => !(f.name == "_") && Nat.beq f.offset i && (match und P f.type with
    | some (.int _) => true
    | _ => false) && zDe r (i + 1)
def xT (t : TypeId) : Option kN := match und P t with
  | some (.int _) => some .int
  | some .string => some .str
  | some .bool => some .bool
  | some (.struct fs) => if P.stoodInHeld t then none else if zDe P fs.toList 0 then some (.ints fs.size) else none
  | _ => none
def xV : Operand → Bool
  | .const _ => true
  | _ => false
def zKl (op : BinOp) (t : TypeId) (x y : Operand) : COp := match und P t with
  | some (.int _) => qR P E (.arith op) x y
  | some .string => qR P E (.arith op) x y
  | _ => match op, zF3 P t with
    | .eql, some k => qR P E (.eq false k (xV x || xV y)) x y
    | .neq, some k => qR P E (.eq true k (xV x || xV y)) x y
    | _, _ => .bad 2
def zGM (s d : TypeId) (x : Operand) : COp := match und P s, und P d with
  | some (.int _), some (.int k) => yx P E (.cvInt k) x
  | some .string, some .string => yx P E .cvStr x
  | some .string, some (.slice e) => match und P e with
    | some (.int .u8) => yx P E .cvSB x
    | _ => .bad 3
  | some (.slice _), some (.slice e) => match Nat.beq s d, und P e with
    | true, some (.int .u8) => yx P E .cvMark x
    | _, _ => .bad 3
  | some (.slice e), some .string => match und P e with
    | some (.int .u8) => yx P E .cvBS x
    | _ => .bad 3
  | _, _ => .bad 3
def xx (l : List Operand) : Option (List zS) := yq (zc P E) l
def xe (b : Builtin) (ts : List TypeId) (args : List Operand) : COp := match b, ts, args with
  | .append, t :: u :: _, [s, x] => match und P t, und P u with
    | some (.slice e), some ud => match ud with
      | .int _ => match xX P e, wh P e, qZ P e with
        | some (sz + 1), some b, some z => if Nat.ble b 100000 && Nat.beq z.length (sz + 1) then qR P E (.appz z (sz + 1)) s x else .bad 4
        | _, _, _ => .bad 4
      | _ => match xX P e, wh P e, qZ P e with
        | some (sz + 1), some b, some z => if Nat.ble b 100000 && Nat.beq z.length (sz + 1) then qR P E (.append (sz + 1) b) s x else .bad 4
        | _, _, _ => .bad 4
    | _, _ => .bad 4
  | .copy, t :: _, [d, x] => match und P t with
    | some (.slice e) => match xX P e with
      | some s => qR P E (.copy s) d x
      | none => .bad 5
    | _ => .bad 5
  | .len, t :: _, [x] => match und P t with
    | some .string => yx P E .lenStr x
    | some (.array k _) => .mv (.k (.nat k))
    | some (.pointer a) => match und P a with
      | some (.array k _) => .mv (.k (.nat k))
      | _ => .bad 6
    | some (.slice _) => yx P E .lenSl x
    | some (.map _ _) => yx P E .lenMap x
    | _ => .bad 6
  | .cap, t :: _, [x] => match und P t with
    | some (.slice _) => yx P E .capSl x
    | some (.array k _) => .mv (.k (.nat k))
    | _ => .bad 7
  | .delete, t :: _, [m, k] => match und P t with
    | some (.map kt _) => match xT P kt with
      | some kk => qR P E (.delete kk) m k
      | none => .bad 8
    | _ => .bad 8
  | .clear, t :: _, [x] => match und P t with
    | some (.map _ _) => yx P E .clearMap x
    | some (.slice e) => match qZ P e, xX P e with
      | some z, some s => yx P E (.clearSl z s) x
      | _, _ => .bad 9
    | _ => .bad 9
  | .min, _, x :: r => match zc P E x, xx P E r with
    | some x, some r => .minmax false x r
    | _, _ => .bad 10
  | .max, _, x :: r => match zc P E x, xx P E r with
    | some x, some r => .minmax true x r
    | _, _ => .bad 10
  | .recover, _, [] => .recov
  | _, _, _ => .bad 11
def zQn (a b : String) : String := String.append (String.append a (String.singleton (Char.ofNat 47))) b
def zEu (s : String) : String := zQn "internal" s
def zHu (n : String) : Bool := (Extern.allNextRows.lookup n).isNone && (Extern.allGenericRows.lookup n).isNone && (Extern.allTypedRows.lookup n).isNone && (Extern.allRows.lookup n).isNone
def ue (fn : Func) : Bool := (!(fn.name == "runtime.NumGoroutine") && zHu fn.name) && match fn.params.toList with
  | t :: _ => match und P t with
    | some (.slice e) => (xX P e).isSome
    | _ => false
  | [] => false
def zAt (fn : Func) : Option Ext :=
  if fn.origin == "" then
    if fn.name == zEu "bytealg.CountString" then some .count
    else if fn.name == zEu "bytealg.IndexByteString" then some .indexByte
    else if fn.name == zEu "bytealg.abigen_runtime_cmpstring" then some .cmp
    else if fn.name == "maps.clone" then some .mapsClone
    else none
  else if fn.origin == "slices.overlaps" && ue P fn then some .overlaps
  else none
def zDa (c : Call) : COp := match c.callee with
  | .builtin b => xe P E b c.argTypes.toList c.args.toList
  | .invoke r name => match zc P E r, xx P E c.args.toList with
    | some r, some args => .invoke r name args
    | _, _ => .bad 13
  | .value f => match xx P E c.args.toList with
    | none => .bad 12
    | some args => match f with
      | .func f => match nth P.funcs.toList f with
        | none => .bad (10000 + f)
        | some fn => if fn.body.isSome then .call f args else match zAt P fn with
          | some e => .ext e args
          | none => .bad (10000 + f)
      | f => match zc P E f with
        | some f => .callv f args
        | none => .bad 14
def zHW (y : Option Operand) : Option (Option zS) := match y with
  | none => some none
  | some y => (zc P E y).map some
def zFA (t : TypeId) (x : Operand) (lo hi mx : Option Operand) : COp :=
  if mx.isSome && hi.isNone then .bad 15 else match zc P E x, zHW P E lo, zHW P E hi, zHW P E mx with
  | some x, some lo, some hi, some mx => match und P t with
    | some (.array k e) => match xX P e with
      | some (s + 1) => .slArr k (s + 1) x lo hi mx
      | _ => .bad 15
    | some (.slice e) => match xX P e with
      | some (s + 1) => .slSl (s + 1) x lo hi mx
      | _ => .bad 15
    | some .string => match mx with
      | none => .slStr x lo hi
      | some _ => .bad 15
    | _ => .bad 15
  | _, _, _, _ => .bad 15
def zb (o : Op) : COp := match o with
  | .move x => yx P E .mv x
  | .assign x => yx P E .mv x
  | .pick c a b => match zc P E c, zc P E a, zc P E b with
    | some c, some a, some b => .pick c a b
    | _, _, _ => .bad 20
  | .alloc t => match qZ P t with
    | some z => .alloc z
    | none => .bad 21
  | .box _ x => yx P E .box x
  | .build t ps => match qZ P t, und P t with
    | some z, some (.struct fs) => if qd P fs.toList then
        match wS P E (vP P fs.toList) ps.toList with
        | some l => .build z l
        | none => .bad 22
      else .bad 22
    | some z, some (.array _ e) => match xX P e with
      | none => .bad 22
      | some s => match wS P E (fun i => some (i * s, s)) ps.toList with
        | some l => .build z l
        | none => .bad 22
    | _, _ => .bad 22
  | .buildSlice t len ps => match und P t with
    | some (.slice e) => match xX P e, qZ P e with
      | some (s + 1), some z => if Nat.ble (len * (s + 1)) 100000 && Nat.beq z.length (s + 1) then
          match wS P E (fun i => some (i * (s + 1), s + 1)) ps.toList with
          | some l => .bslice (jX z len) len (s + 1) l
          | none => .bad 23
        else .bad 23
      | _, _ => .bad 23
    | _ => .bad 23
  | .load t a => match xj P t, xX P t with
    | some true, some s => yx P E (.loadN s) a
    | some false, some _ => yx P E .load1 a
    | _, _ => .bad 24
  | .store t a x => match xX P t with
    | some s => qR P E (.store s) a x
    | none => .bad 25
  | .nilCheck x => yx P E .nilck x
  | .binOp op t x y _ => zKl P E op t x y
  | .unOp op _ x => yx P E (.un op) x
  | .convert s d x => zGM P E s d x
  | .makeInterface t x => match und P t with
    | some (.interface _) => .bad 26
    | some _ => yx P E (.iface t) x
    | none => .bad 26
  | .makeFunc fn a b => match xx P E a.toList, xx P E b.toList with
    | some a, some b => .mkfn fn a b
    | _, _ => .bad 27
  | .makeMap t r => match und P t, r with
    | some (.map _ _), none => .mkmap
    | some (.map _ _), some (.const (.int _ _)) => .mkmap
    | _, _ => .bad 28
  | .makeSlice t l c => match und P t with
    | some (.slice e) => match xX P e, qZ P e, wh P e with
      | some (s + 1), some z, some b => if Nat.beq z.length (s + 1) then qR P E (.mkslice z (s + 1) b) l c else .bad 29
      | _, _, _ => .bad 29
    | _ => .bad 29
  | .slice t x lo hi mx => zFA P E t x lo hi mx
  | .fieldAddr t x f => match und P t with
    | some (.struct fs) => match nth fs.toList f with
      | some fd => match xX P fd.type with
        | some (_ + 1) => yx P E (.addOff fd.offset) x
        | _ => .bad 30
      | none => .bad 30
    | _ => .bad 30
  | .field t x f => match und P t with
    | some (.struct fs) => match nth fs.toList f with
      | some fd => match xj P fd.type, xX P fd.type with
        | some a, some s => yx P E (.part a fd.offset s) x
        | _, _ => .bad 31
      | none => .bad 31
    | _ => .bad 31
  | .indexAddr t x i => match und P t with
    | some (.array len e) => match xX P e with
      | some s => qR P E (.ixArr len s) x i
      | none => .bad 32
    | some (.slice e) => match xX P e with
      | some s => qR P E (.ixSl s) x i
      | none => .bad 32
    | _ => .bad 32
  | .index t x i => match und P t with
    | some (.array len e) => match xX P e, xj P e with
      | some s, some a => qR P E (.ixAgg len s a) x i
      | _, _ => .bad 33
    | some .string => qR P E .ixStr x i
    | _ => .bad 33
  | .lookup t x i ok => match und P t with
    | some (.map kt et) => match xT P kt, kJ P et with
      | some kk, some z => qR P E (.lookup kk z ok) x i
      | _, _ => .bad 34
    | _ => .bad 34
  | .mapUpdate t m k x => match und P t with
    | some (.map kt _) => match xT P kt, zc P E m, zc P E k, zc P E x with
      | some kk, some m, some k, some x => .mapupd kk m k x
      | _, _, _, _ => .bad 35
    | _ => .bad 35
  | .insert t m k x => match und P t with
    | some (.map kt _) => match xT P kt, zc P E m, zc P E k, zc P E x with
      | some kk, some m, some k, some x => .mapupd kk m k x
      | _, _, _, _ => .bad 35
    | _ => .bad 35
  | .range t x => match und P t with
    | some .string => yx P E .rangeStr x
    | some (.map _ _) => yx P E .rangeMap x
    | _ => .bad 36
  | .next it s => yx P E (.next s) it
  | .entry it => yx P E .entry it
  | .typeAssert x _ t ok => match und P t with
    | some (.interface _) => yx P E (.tiface t (kJ P t) ok) x
    | some _ => yx P E (.tassert t (kJ P t) ok) x
    | none => .bad 37
  | .extract t i => yx P E (.extract i) t
  | .call c => zDa P E c
  | .defer c => match c.callee with
    | .value f => match zc P E f, xx P E c.args.toList with
      | some f, some args => .defer f args
      | _, _ => .bad 38
    | _ => .bad 38
  | _ => .bad 39
def xC (F N : Nat) (d : Option Nat) : Option (Option Loc) := match d with
  | none => some none
  | some t => match Nat.ble (Nat.succ t) N with
   | false => none
   | true => match zn F t with
    | false => some none
    | true => match Nat.ble t 271 with
      | true => some (some (Loc.ofNat t))
      | false => none
def vA (F N : Nat) (all : List Oper) (ds : List (Option Nat)) (o : Oper) : x8 := match xC F N o.dst with
  | none => .i (.bad 40)
  | some d => match o.guard with
    | none => match d with
      | none => .i (zb P ⟨F, N, ds⟩ o.op)
      | some d => .o (zb P ⟨F, N, ds⟩ o.op) d
    | some (j, w) => match (nth all j).bind (·.dst) with
      | some t => match zc P ⟨F, N, ds⟩ (.tmp t) with
        | some x => .g x w (zb P ⟨F, N, ds⟩ o.op) d
        | none => .i (.bad 41)
      | none => .i (.bad 42)
def qU (F N : Nat) (all : List Oper) : List (Option Nat) → List Oper → List x8
  | _, [] => []
  | ds, o :: r => vA P F N all ds o :: qU F N all (o.dst :: ds) r
def zBZ (o : Op) : Bool := match o with
  | .call c => match c.callee with
    | .builtin .recover => true
    | _ => false
  | _ => false
def xq (o : Op) : Bool := match o with
  | .store .. => true
  | .mapUpdate .. => true
  | .insert .. => true
  | .next .. => true
  | .range .. => true
  | .defer _ => true
  | .convert s d _ => match und P s, und P d with
    | some (.slice _), some (.slice _) => true
    | _, _ => false
  | .call c => match c.callee with
    | .builtin b => match b with
      | .len => false
      | .cap => false
      | .min => false
      | .max => false
      | _ => true
    | _ => true
  | _ => false
def vb (acc : List Nat) : List Edge → Nat
  | [] => 0
  | e :: r => if Region.binds .any e then Nat.lor (Nat.lor (Nat.shiftLeft 1 e.on) ((nth acc e.on).getD 0)) (vb acc r) else vb acc r
def kM : List Nat → List Oper → List Nat
  | acc, [] => acc
  | acc, o :: r => kM (acc ++ [vb acc o.after.toList]) r
def zy (m : Nat) (done : List Nat) : List Nat → List Nat
  | [] => []
  | i :: r => if zn m i && !done.contains i then i :: zy m done r else zy m done r
def zFj (anc : List Nat) (all : List Nat) : List Nat → List Nat → List Nat
  | [], done => done ++ zy (Nat.sub (Nat.shiftLeft 1 all.length) 1) done all
  | e :: es, done => zFj anc all es (done ++ zy ((nth anc e).getD 0) done all ++ (if done.contains e then [] else [e]))
def zB4 (m : Nat) : List Nat → Nat
  | [] => 0
  | e :: es => if zn m e then 0 else Nat.succ (zB4 m es)
def zPl (p : Oper → Bool) : List Oper → Nat → List Nat
  | [], _ => []
  | o :: r, i => if p o then i :: zPl p r (i + 1) else zPl p r (i + 1)
def qv (F N : Nat) (ops : List Oper) (anc : List Nat) : List (Option Nat) → List Nat → List Nat → List zKS
  | _, _, [] => []
  | ds, effs, i :: r => match nth ops i with
    | none => [⟨.i (.bad 47), false, 0⟩]
    | some o => ⟨vA P F N ops ds o, xq P o.op, zB4 ((nth anc i).getD 0) effs⟩ ::
        qv F N ops anc (o.dst :: ds) (if xq P o.op then i :: effs else effs) r
def zJF (ops : List Oper) (anc : List Nat) : List Nat := zFj anc (List.range ops.length) (zPl (fun o => xq P o.op) ops 0) []
def zCP (m : Nat) : List Nat → List Nat → Bool
  | done, [] => Nat.beq done.length m
  | done, i :: r => !done.contains i && Nat.ble (Nat.succ i) m && zCP m (i :: done) r
def zJh (ops : List Oper) (anc : List Nat) : List Nat → List Nat → Bool
  | _, [] => true
  | done, i :: r => (match nth ops i with
    | some o => if xq P o.op then done.all fun j => zn ((nth anc i).getD 0) j else true
    | none => false) && zJh ops anc (i :: done) r
def zJU (anc : List Nat) (m : Nat) : List Nat → List Nat → Bool
  | _, [] => true
  | done, i :: r => ((List.range m).all fun j => !zn ((nth anc i).getD 0) j || done.contains j) && zJU anc m (i :: done) r
def wg (ops : List Oper) (o : Oper) : List Nat :=
  (o.op.operands.toList.filterMap fun | .tmp t => some t | _ => none) ++ (match o.guard with
    | some (j, _) => match (nth ops j).bind (·.dst) with
      | some t => [t]
      | none => []
    | none => [])
def zJb (ops : List Oper) (anc : List Nat) (m : Nat) : Bool :=
  (List.range m).all fun i => (List.range m).all fun j => match nth ops i, nth ops j with
    | some x, some y => match x.dst with
      | some t => (Nat.beq i j || !(decide (y.dst = some t))) && (!(wg ops y).contains t || (!Nat.beq i j && (zn ((nth anc j).getD 0) i || zn ((nth anc i).getD 0) j)))
      | none => true
    | _, _ => false
def zA0 : List Oper → Nat → Bool
  | [], _ => true
  | o :: r, i => (o.after.toList.all fun e => !Region.binds .any e || Nat.ble (Nat.succ e.on) i) && zA0 r (i + 1)
def zBE (ops : List Oper) (anc : List Nat) (order : List Nat) : Bool :=
  zCP ops.length [] order && zJh P ops anc [] order && zJU anc ops.length [] order && zJb ops anc ops.length && zA0 ops 0
def zF0 (F N : Nat) (ops : List Oper) : CCode :=
  let anc := kM [] ops
  let order := zJF P ops anc
  if zBE P ops anc order then .dregion (qv P F N ops anc [] [] order) else .bad 48
def zR (F N : Nat) : Code → CCode
  | .skip => .skip
  | .label _ => .skip
  | .region _ ops dr => match dr with
    | false => .region (qU P F N ops.toList [] ops.toList)
    | true => zF0 P F N ops.toList
  | .seq a b => .seq (zR F N a) (zR F N b)
  | .cond x a b => match zc P ⟨F, N, []⟩ x with
    | some x => .cond x (zR F N a) (zR F N b)
    | none => .bad 43
  | .block id b => .block id (zR F N b)
  | .loop b => .loop (zR F N b)
  | .exit id => .exit id
  | .ret => .ret
  | .scope b => .scope (zR F N b)
  | _ => .bad 44
def bit (t : Nat) : Nat := Nat.shiftLeft 1 t
def zAw : List Operand → Nat
  | [] => 0
  | .tmp t :: r => Nat.lor (bit t) (zAw r)
  | _ :: r => zAw r
def zGd (all : List Oper) : List Oper → Nat
  | [] => 0
  | o :: r => Nat.lor (zAw o.op.operands.toList) (Nat.lor (match o.guard with | some (j, _) => zAw [.tmp ((((nth all j).bind (·.dst))).getD 4095)] | none => 0) (zGd all r))
def zGt : List Oper → Nat
  | [] => 0
  | o :: r => match o.dst with
    | some t => Nat.lor (bit t) (zGt r)
    | none => zGt r
def zB8 (c : Code) (x : Nat × Nat) : Nat × Nat := match c with
  | .region _ ops _ => let u := zGd ops.toList ops.toList; (Nat.lor x.1 u, Nat.lor x.2 (Nat.land x.1 u))
  | .seq a b => zB8 b (zB8 a x)
  | .cond y a b => let u := zAw [y]; zB8 b (zB8 a (Nat.lor x.1 u, Nat.lor x.2 (Nat.land x.1 u)))
  | .block _ b => zB8 b x
  | .loop b => zB8 b x
  | .scope b => zB8 b x
  | _ => x
def ka (once : Nat) : Code → Nat
  | .region _ ops _ => Nat.land (zGt ops.toList) (Nat.xor once (Nat.land once (zGd ops.toList ops.toList)))
  | .seq a b => Nat.lor (ka once a) (ka once b)
  | .cond _ a b => Nat.lor (ka once a) (ka once b)
  | .block _ b => ka once b
  | .loop b => ka once b
  | .scope b => ka once b
  | _ => 0
def zFM : List ResultVar → Nat
  | [] => 0
  | .tmp t :: r => Nat.lor (bit t) (zFM r)
  | .cell t _ :: r => Nat.lor (bit t) (zFM r)
def frameBits (fn : Func) (c : Code) : Nat :=
  let res := zFM fn.results.toList
  let u := zB8 c (res, 0)
  Nat.lor (Nat.lor (Nat.lor u.2 (ka u.1 c)) res) (Nat.sub (bit (Nat.add fn.params.size fn.nfree)) 1)
def xI (F N : Nat) (r : ResultVar) : Option CRes := match r with
  | .tmp t => (zc P ⟨F, N, []⟩ (.tmp t)).map .tmp
  | .cell a t => match xj P t, xX P t, zc P ⟨F, N, []⟩ (.tmp a) with
    | some true, some s, some x => some (.cellN x s)
    | some false, some _, some x => some (.cell1 x)
    | _, _, _ => none
def zDi (l : List Oper) : Bool := match l with
  | [] => true
  | o :: r => !zBZ o.op && zDi r
def yA : Code → Bool
  | .region _ ops _ => zDi ops.toList
  | .seq a b => yA a && yA b
  | .cond _ a b => yA a && yA b
  | .block _ b => yA b
  | .loop b => yA b
  | .scope b => yA b
  | _ => true
def zAb (F N : Nat) (fn : Func) (c : Code) : CFn := match yq (xI P F N) fn.results.toList with
  | some rs => if yA c then .mk (zR P F N c) rs else match c with
    | .seq (.region _ ops false) r => if yA r then .mkD (qU P F N ops.toList [] ops.toList) (zR P F N r) rs else .bad 50
    | _ => .bad 50
  | none => .bad 45
def compFn (f : FuncId) : CFn := match nth P.funcs.toList f with
  | none => .bad 46
  | some fn => match fn.body with
    | none => match zAt P fn with
      | some e => .ext e
      | none => .bad (20000 + f)
    | some c => if fn.name == "runtime.NumGoroutine" then .bad 49 else zAb P (frameBits fn c) fn.ntmps fn c
end
end Go.Ev

namespace Go.Ev
noncomputable section
inductive OR where
  | val (v : CV)
  | read (v : CV)
  | alloc (o : CObj) (v : CV)
  | eff (v : CV) (h : zD) (n : Key)
  | call (f : FuncId) (args : List CV)
  | dfr (f : FuncId) (args : List CV)
  | recov
  | err (c : Nat)
  | fork (a b : OR)
def zCH (v : Option CV) (c : Nat) : OR := Option.rec (motive := fun _ => Nat → OR) (fun c => .err c) (fun v _ => .val v) v c
def zOR (v : Option CV) (c : Nat) : OR := Option.rec (motive := fun _ => Nat → OR) (fun c => .err c) (fun v _ => .read v) v c
def zPA (v : Option (List CV)) (c : Nat) : OR := Option.rec (motive := fun _ => Nat → OR) (fun c => .err c) (fun v _ => .val (.agg v)) v c
def zO8 (v : Option (List CV)) (c : Nat) : OR := Option.rec (motive := fun _ => Nat → OR) (fun c => .err c) (fun v _ => .read (.agg v)) v c
def onL (v : Option (List CV)) (k : List CV → OR) (c : Nat) : OR := Option.rec (motive := fun _ => (List CV → OR) → Nat → OR) (fun _ c => .err c) (fun v k _ => k v) v k c
def onN (v : Option Nat) (k : Nat → OR) (c : Nat) : OR := Option.rec (motive := fun _ => (Nat → OR) → Nat → OR) (fun _ c => .err c) (fun v k _ => k v) v k c
def yY (b : Bool) (k : OR) (c : Nat) : OR := Bool.rec (motive := fun _ => OR → Nat → OR) (fun _ c => .err c) (fun k _ => k) b k c
def ifB (b : Bool) (t f : OR) : OR := Bool.rec (motive := fun _ => OR → OR → OR) (fun _ f => f) (fun t _ => t) b t f
def wU (n : Nat) (k : Nat → OR) : OR := Nat.rec (motive := fun _ => (Nat → OR) → OR) (fun k => k 0) (fun m _ k => k (Nat.succ m)) n k
def zAM (v : CV) (k : Key → Nat → OR) (e : Nat) : OR :=
  CV.rec (motive_1 := fun _ => (Key → Nat → OR) → Nat → OR) (motive_2 := fun _ => Unit)
    (fun _ _ e => .err e) (fun _ _ e => .err e) (fun _ _ _ e => .err e) (fun _ _ e => .err e) (fun _ _ e => .err e) (fun _ e => .err e) (fun x0 x1 k _ => k x0 x1) (fun _ e => .err e) (fun _ _ _ _ _ _ _ e => .err e) (fun _ e => .err e) (fun _ _ e => .err e) (fun _ _ _ _ _ _ e => .err e) (fun _ e => .err e) (fun _ _ _ _ e => .err e) (fun _ e => .err e) (fun _ _ _ e => .err e) (fun _ _ _ e => .err e) (fun _ _ e => .err e) (fun _ _ _ _ _ e => .err e) (fun _ _ _ e => .err e) (fun _ _ e => .err e) (fun _ e => .err e) () (fun _ _ _ _ => ()) v k e
def zMY (v : CV) (k : IntKind → Int → OR) (e : Nat) : OR :=
  CV.rec (motive_1 := fun _ => (IntKind → Int → OR) → Nat → OR) (motive_2 := fun _ => Unit)
    (fun _ _ e => .err e) (fun x0 k _ => k .i64 (.ofNat x0)) (fun x0 x1 k _ => k x0 x1) (fun _ _ e => .err e) (fun _ _ e => .err e) (fun _ e => .err e) (fun _ _ _ e => .err e) (fun _ e => .err e) (fun _ _ _ _ _ _ _ e => .err e) (fun _ e => .err e) (fun _ _ e => .err e) (fun _ _ _ _ _ _ e => .err e) (fun _ e => .err e) (fun _ _ _ _ e => .err e) (fun _ e => .err e) (fun _ _ _ e => .err e) (fun _ _ _ e => .err e) (fun _ _ e => .err e) (fun _ _ _ _ _ e => .err e) (fun _ _ _ e => .err e) (fun _ _ e => .err e) (fun _ e => .err e) () (fun _ _ _ _ => ()) v k e
def zPS (v : CV) (k : Nat → OR) (j : IntKind → Int → OR) (e : Nat) : OR :=
  CV.rec (motive_1 := fun _ => (Nat → OR) → (IntKind → Int → OR) → Nat → OR) (motive_2 := fun _ => Unit)
    (fun _ _ _ e => .err e) (fun x0 k _ _ => k x0) (fun x0 x1 _ j _ => j x0 x1) (fun _ _ _ e => .err e) (fun _ _ _ e => .err e) (fun _ _ e => .err e) (fun _ _ _ _ e => .err e) (fun _ _ e => .err e) (fun _ _ _ _ _ _ _ _ e => .err e) (fun _ _ e => .err e) (fun _ _ _ e => .err e) (fun _ _ _ _ _ _ _ e => .err e) (fun _ _ e => .err e) (fun _ _ _ _ _ e => .err e) (fun _ _ e => .err e) (fun _ _ _ _ e => .err e) (fun _ _ _ _ e => .err e) (fun _ _ _ e => .err e) (fun _ _ _ _ _ _ e => .err e) (fun _ _ _ _ e => .err e) (fun _ _ _ e => .err e) (fun _ _ e => .err e) () (fun _ _ _ _ => ()) v k j e
def vJ (v : CV) (k : List Nat → OR) (e : Nat) : OR :=
  CV.rec (motive_1 := fun _ => (List Nat → OR) → Nat → OR) (motive_2 := fun _ => Unit)
    (fun _ _ e => .err e) (fun _ _ e => .err e) (fun _ _ _ e => .err e) (fun _ _ e => .err e) (fun x0 k _ => k x0) (fun _ e => .err e) (fun _ _ _ e => .err e) (fun _ e => .err e) (fun _ _ _ _ _ _ _ e => .err e) (fun _ e => .err e) (fun _ _ e => .err e) (fun _ _ _ _ _ _ e => .err e) (fun _ e => .err e) (fun _ _ _ _ e => .err e) (fun _ e => .err e) (fun _ _ _ e => .err e) (fun _ _ _ e => .err e) (fun _ _ e => .err e) (fun _ _ _ _ _ e => .err e) (fun _ _ _ e => .err e) (fun _ _ e => .err e) (fun _ e => .err e) () (fun _ _ _ _ => ()) v k e
def zIt (v : CV) (k : Bool → OR) (e : Nat) : OR :=
  CV.rec (motive_1 := fun _ => (Bool → OR) → Nat → OR) (motive_2 := fun _ => Unit)
    (fun x0 k _ => k x0) (fun _ _ e => .err e) (fun _ _ _ e => .err e) (fun _ _ e => .err e) (fun _ _ e => .err e) (fun _ e => .err e) (fun _ _ _ e => .err e) (fun _ e => .err e) (fun _ _ _ _ _ _ _ e => .err e) (fun _ e => .err e) (fun _ _ e => .err e) (fun _ _ _ _ _ _ e => .err e) (fun _ e => .err e) (fun _ _ _ _ e => .err e) (fun _ e => .err e) (fun _ _ _ e => .err e) (fun _ _ _ e => .err e) (fun _ _ e => .err e) (fun _ _ _ _ _ e => .err e) (fun _ _ _ e => .err e) (fun _ _ e => .err e) (fun _ e => .err e) () (fun _ _ _ _ => ()) v k e
def vK (v : CV) (z : OR) (k : Key → Nat → Nat → Nat → Nat → Bool → OR) (e : Nat) : OR :=
  CV.rec (motive_1 := fun _ => (OR) → (Key → Nat → Nat → Nat → Nat → Bool → OR) → Nat → OR) (motive_2 := fun _ => Unit)
    (fun _ _ _ e => .err e) (fun _ _ _ e => .err e) (fun _ _ _ _ e => .err e) (fun _ _ _ e => .err e) (fun _ _ _ e => .err e) (fun _ _ e => .err e) (fun _ _ _ _ e => .err e) (fun z _ _ => z) (fun x0 x1 x2 x3 x4 x5 _ k _ => k x0 x1 x2 x3 x4 x5) (fun _ _ e => .err e) (fun _ _ _ e => .err e) (fun _ _ _ _ _ _ _ e => .err e) (fun _ _ e => .err e) (fun _ _ _ _ _ e => .err e) (fun _ _ e => .err e) (fun _ _ _ _ e => .err e) (fun _ _ _ _ e => .err e) (fun _ _ _ e => .err e) (fun _ _ _ _ _ _ e => .err e) (fun _ _ _ _ e => .err e) (fun _ _ _ e => .err e) (fun _ _ e => .err e) () (fun _ _ _ _ => ()) v z k e
def zBQ (v : CV) (z : OR) (k : Key → OR) (e : Nat) : OR :=
  CV.rec (motive_1 := fun _ => (OR) → (Key → OR) → Nat → OR) (motive_2 := fun _ => Unit)
    (fun _ _ _ e => .err e) (fun _ _ _ e => .err e) (fun _ _ _ _ e => .err e) (fun _ _ _ e => .err e) (fun _ _ _ e => .err e) (fun _ _ e => .err e) (fun _ _ _ _ e => .err e) (fun _ _ e => .err e) (fun _ _ _ _ _ _ _ _ e => .err e) (fun z _ _ => z) (fun x0 _ k _ => k x0) (fun _ _ _ _ _ _ _ e => .err e) (fun _ _ e => .err e) (fun _ _ _ _ _ e => .err e) (fun _ _ e => .err e) (fun _ _ _ _ e => .err e) (fun _ _ _ _ e => .err e) (fun _ _ _ e => .err e) (fun _ _ _ _ _ _ e => .err e) (fun _ _ _ _ e => .err e) (fun _ _ _ e => .err e) (fun _ _ e => .err e) () (fun _ _ _ _ => ()) v z k e
def zLR (v : CV) (k : List CV → OR) (e : Nat) : OR :=
  CV.rec (motive_1 := fun _ => (List CV → OR) → Nat → OR) (motive_2 := fun _ => Unit)
    (fun _ _ e => .err e) (fun _ _ e => .err e) (fun _ _ _ e => .err e) (fun _ _ e => .err e) (fun _ _ e => .err e) (fun _ e => .err e) (fun _ _ _ e => .err e) (fun _ e => .err e) (fun _ _ _ _ _ _ _ e => .err e) (fun _ e => .err e) (fun _ _ e => .err e) (fun _ _ _ _ _ _ e => .err e) (fun _ e => .err e) (fun _ _ _ _ e => .err e) (fun _ e => .err e) (fun x0 _ k _ => k x0) (fun _ _ _ e => .err e) (fun _ _ e => .err e) (fun _ _ _ _ _ e => .err e) (fun _ _ _ e => .err e) (fun _ _ e => .err e) (fun _ e => .err e) () (fun _ _ _ _ => ()) v k e
def zO7 (v : CV) (k : List CV → OR) (e : Nat) : OR :=
  CV.rec (motive_1 := fun _ => (List CV → OR) → Nat → OR) (motive_2 := fun _ => Unit)
    (fun _ _ e => .err e) (fun _ _ e => .err e) (fun _ _ _ e => .err e) (fun _ _ e => .err e) (fun _ _ e => .err e) (fun _ e => .err e) (fun _ _ _ e => .err e) (fun _ e => .err e) (fun _ _ _ _ _ _ _ e => .err e) (fun _ e => .err e) (fun _ _ e => .err e) (fun _ _ _ _ _ _ e => .err e) (fun _ e => .err e) (fun _ _ _ _ e => .err e) (fun _ e => .err e) (fun _ _ _ e => .err e) (fun x0 _ k _ => k x0) (fun _ _ e => .err e) (fun _ _ _ _ _ e => .err e) (fun _ _ _ e => .err e) (fun _ _ e => .err e) (fun _ e => .err e) () (fun _ _ _ _ => ()) v k e
def zIO (v : CV) (k : Fn → List CV → List CV → OR) (e : Nat) : OR :=
  CV.rec (motive_1 := fun _ => (Fn → List CV → List CV → OR) → Nat → OR) (motive_2 := fun _ => Unit)
    (fun _ _ e => .err e) (fun _ _ e => .err e) (fun _ _ _ e => .err e) (fun _ _ e => .err e) (fun _ _ e => .err e) (fun _ e => .err e) (fun _ _ _ e => .err e) (fun _ e => .err e) (fun _ _ _ _ _ _ _ e => .err e) (fun _ e => .err e) (fun _ _ e => .err e) (fun x0 x1 x2 _ _ k _ => k x0 x1 x2) (fun _ e => .err e) (fun _ _ _ _ e => .err e) (fun _ e => .err e) (fun _ _ _ e => .err e) (fun _ _ _ e => .err e) (fun _ _ e => .err e) (fun _ _ _ _ _ e => .err e) (fun _ _ _ e => .err e) (fun _ _ e => .err e) (fun _ e => .err e) () (fun _ _ _ _ => ()) v k e
def zAs (v : CV) (k : TypeId → CV → OR) (z : OR) (e : Nat) : OR :=
  CV.rec (motive_1 := fun _ => (TypeId → CV → OR) → (OR) → Nat → OR) (motive_2 := fun _ => Unit)
    (fun _ _ _ e => .err e) (fun _ _ _ e => .err e) (fun _ _ _ _ e => .err e) (fun _ _ _ e => .err e) (fun _ _ _ e => .err e) (fun _ _ e => .err e) (fun _ _ _ _ e => .err e) (fun _ _ e => .err e) (fun _ _ _ _ _ _ _ _ e => .err e) (fun _ _ e => .err e) (fun _ _ _ e => .err e) (fun _ _ _ _ _ _ _ e => .err e) (fun _ _ e => .err e) (fun x0 x1 _ k _ _ => k x0 x1) (fun _ z _ => z) (fun _ _ _ _ e => .err e) (fun _ _ _ _ e => .err e) (fun _ _ _ e => .err e) (fun _ _ _ _ _ _ e => .err e) (fun _ _ _ _ e => .err e) (fun _ _ _ e => .err e) (fun _ _ e => .err e) () (fun _ _ _ _ => ()) v k z e
def zP6 (v : CV) (k : IntKind → Int → OR) (u : IntKind → OR) (s : List Nat → OR) (e : Nat) : OR :=
  CV.rec (motive_1 := fun _ => (IntKind → Int → OR) → (IntKind → OR) → (List Nat → OR) → Nat → OR) (motive_2 := fun _ => Unit)
    (fun _ _ _ _ e => .err e) (fun x0 k _ _ _ => k .i64 (.ofNat x0)) (fun x0 x1 k _ _ _ => k x0 x1) (fun x0 _ u _ _ => u x0) (fun x0 _ _ s _ => s x0) (fun _ _ _ e => .err e) (fun _ _ _ _ _ e => .err e) (fun _ _ _ e => .err e) (fun _ _ _ _ _ _ _ _ _ e => .err e) (fun _ _ _ e => .err e) (fun _ _ _ _ e => .err e) (fun _ _ _ _ _ _ _ _ e => .err e) (fun _ _ _ e => .err e) (fun _ _ _ _ _ _ e => .err e) (fun _ _ _ e => .err e) (fun _ _ _ _ _ e => .err e) (fun _ _ _ _ _ e => .err e) (fun _ _ _ _ e => .err e) (fun _ _ _ _ _ _ _ e => .err e) (fun _ _ _ _ _ e => .err e) (fun _ _ _ _ e => .err e) (fun _ _ _ e => .err e) () (fun _ _ _ _ => ()) v k u s e
def zMu (v : CV) (k : IntKind → Int → OR) (u : IntKind → OR) (e : Nat) : OR :=
  CV.rec (motive_1 := fun _ => (IntKind → Int → OR) → (IntKind → OR) → Nat → OR) (motive_2 := fun _ => Unit)
    (fun _ _ _ e => .err e) (fun x0 k _ _ => k .i64 (.ofNat x0)) (fun x0 x1 k _ _ => k x0 x1) (fun x0 _ u _ => u x0) (fun _ _ _ e => .err e) (fun _ _ e => .err e) (fun _ _ _ _ e => .err e) (fun _ _ e => .err e) (fun _ _ _ _ _ _ _ _ e => .err e) (fun _ _ e => .err e) (fun _ _ _ e => .err e) (fun _ _ _ _ _ _ _ e => .err e) (fun _ _ e => .err e) (fun _ _ _ _ _ e => .err e) (fun _ _ e => .err e) (fun _ _ _ _ e => .err e) (fun _ _ _ _ e => .err e) (fun _ _ _ e => .err e) (fun _ _ _ _ _ _ e => .err e) (fun _ _ _ _ e => .err e) (fun _ _ _ e => .err e) (fun _ _ e => .err e) () (fun _ _ _ _ => ()) v k u e
def zPJ (v : CV) (k : Key → Nat → OR) (z : OR) : OR :=
  CV.rec (motive_1 := fun _ => (Key → Nat → OR) → OR → OR) (motive_2 := fun _ => Unit)
    (fun _ _ z => z) (fun _ _ z => z) (fun _ _ _ z => z) (fun _ _ z => z) (fun _ _ z => z) (fun _ z => z) (fun x0 x1 k _ => k x0 x1) (fun _ z => z) (fun _ _ _ _ _ _ _ z => z) (fun _ z => z) (fun _ _ z => z) (fun _ _ _ _ _ _ z => z) (fun _ z => z) (fun _ _ _ _ z => z) (fun _ z => z) (fun _ _ _ z => z) (fun _ _ _ z => z) (fun _ _ z => z) (fun _ _ _ _ _ z => z) (fun _ _ _ z => z) (fun _ _ z => z) (fun _ z => z) () (fun _ _ _ _ => ()) v k z
def zNA (v : CV) (k : Key → Nat → SE → SE → OR) (z : OR) : OR :=
  CV.rec (motive_1 := fun _ => (Key → Nat → SE → SE → OR) → OR → OR) (motive_2 := fun _ => Unit)
    (fun _ _ z => z) (fun _ _ z => z) (fun _ _ _ z => z) (fun _ _ z => z) (fun _ _ z => z) (fun _ z => z) (fun _ _ _ z => z) (fun _ z => z) (fun _ _ _ _ _ _ _ z => z) (fun _ z => z) (fun _ _ z => z) (fun _ _ _ _ _ _ z => z) (fun _ z => z) (fun _ _ _ _ z => z) (fun _ z => z) (fun _ _ _ z => z) (fun _ _ _ z => z) (fun _ _ z => z) (fun x0 x1 x2 x3 k _ => k x0 x1 x2 x3) (fun _ _ _ z => z) (fun _ _ z => z) (fun _ z => z) () (fun _ _ _ _ => ()) v k z
def zOW (v : CV) (k : List CV → OR) (z : OR) : OR :=
  CV.rec (motive_1 := fun _ => (List CV → OR) → OR → OR) (motive_2 := fun _ => Unit)
    (fun _ _ z => z) (fun _ _ z => z) (fun _ _ _ z => z) (fun _ _ z => z) (fun _ _ z => z) (fun _ z => z) (fun _ _ _ z => z) (fun _ z => z) (fun _ _ _ _ _ _ _ z => z) (fun _ z => z) (fun _ _ z => z) (fun _ _ _ _ _ _ z => z) (fun _ z => z) (fun _ _ _ _ z => z) (fun _ z => z) (fun _ _ _ z => z) (fun _ _ _ z => z) (fun _ _ z => z) (fun _ _ _ _ _ z => z) (fun x0 _ k _ => k x0) (fun _ _ z => z) (fun _ z => z) () (fun _ _ _ _ => ()) v k z
def zKD (v : CV) (k : Nat → OR) (z : OR) : OR :=
  CV.rec (motive_1 := fun _ => (Nat → OR) → OR → OR) (motive_2 := fun _ => Unit)
    (fun _ _ z => z) (fun x0 k _ => k x0) (fun _ _ _ z => z) (fun _ _ z => z) (fun _ _ z => z) (fun _ z => z) (fun _ _ _ z => z) (fun _ z => z) (fun _ _ _ _ _ _ _ z => z) (fun _ z => z) (fun _ _ z => z) (fun _ _ _ _ _ _ z => z) (fun _ z => z) (fun _ _ _ _ z => z) (fun _ z => z) (fun _ _ _ z => z) (fun _ _ _ z => z) (fun _ _ z => z) (fun _ _ _ _ _ z => z) (fun _ _ _ z => z) (fun _ _ z => z) (fun _ z => z) () (fun _ _ _ _ => ()) v k z
def vB (v : CV) (k : Nat → OR) (e : Nat) : OR :=
  zPS v k (fun _ n => Int.rec (motive := fun _ => (Nat → OR) → Nat → OR) (fun m k _ => k m) (fun _ _ e => .err e) n k e) e
def jN (o : Option CObj) (k : List CV → OR) (e : Nat) : OR :=
  Option.rec (motive := fun _ => (List CV → OR) → Nat → OR) (fun _ e => .err e)
    (fun o => CObj.rec (motive := fun _ => (List CV → OR) → Nat → OR) (fun vs k _ => k vs) (fun _ _ e => .err e) (fun _ _ _ e => .err e) (fun _ _ _ e => .err e) (fun _ _ _ _ _ e => .err e) (fun _ _ _ e => .err e) o) o k e
def vM (o : Option CObj) (k : List CV → OR) (e : Nat) : OR :=
  Option.rec (motive := fun _ => (List CV → OR) → Nat → OR) (fun _ e => .err e)
    (fun o => CObj.rec (motive := fun _ => (List CV → OR) → Nat → OR) (fun vs k _ => k vs) (fun vs k _ => k vs) (fun _ _ _ e => .err e) (fun _ _ _ e => .err e) (fun _ _ _ _ _ e => .err e) (fun _ vs k _ => k vs) o) o k e
def kr (o : Option CObj) (k : List CE → Nat → OR) (e : Nat) : OR :=
  Option.rec (motive := fun _ => (List CE → Nat → OR) → Nat → OR) (fun _ e => .err e)
    (fun o => CObj.rec (motive := fun _ => (List CE → Nat → OR) → Nat → OR) (fun _ _ e => .err e) (fun _ _ e => .err e) (fun es c k _ => k es c) (fun _ _ _ e => .err e) (fun _ _ _ _ _ e => .err e) (fun _ _ _ e => .err e) o) o k e
def zGc (o : Option CObj) (k : Bool → List CV → OR) (z : OR) : OR := match o with
  | some (.full u vs) => k u vs
  | _ => z
def zOy (l : List CV) (k : Nat) : CV := List.rec (motive := fun _ => Nat → CV) (fun _ => .any) (fun x _ ih k => Nat.rec (motive := fun _ => CV) x (fun k _ => ih k) k) l k
def aE (i : Nat) : List CV → Tm → CV := fun es _ => zOy es i
def aL (p : Loc) : List CV → Tm → CV := fun _ tm => qI p tm
def aK (v : CV) : List CV → Tm → CV := fun _ _ => v
def aV (es : List CV) (tm : Tm) (x : zS) : CV := zS.rec (motive := fun _ => List CV → Tm → CV) aE aL aK x es tm
def aVs (es : List CV) (tm : Tm) (l : List zS) : List CV := List.rec (motive := fun _ => List CV) [] (fun x _ ih => aV es tm x :: ih) l
abbrev X := List CV → Tm → zD → Key → OR
def xMv (x : zS) : X := fun es tm _ _ => .val (aV es tm x)
def zOU (c a b : zS) : X := fun es tm _ _ => zIt (aV es tm c) (fun t => ifB t (.val (aV es tm a)) (.val (aV es tm b))) 100
def zML (cs : List CV) : X := fun _ _ _ n => .alloc (.cells cs) (.ptr n 0)
def zPY (x : zS) : X := fun es tm _ n => onL (cellsOf (aV es tm x)) (fun cs => .alloc (.cells cs) (.ptr n 0)) 101
def zAO (s off : Nat) (cells : List CV) (v : Option (List CV)) : Option (List CV) :=
  Option.rec (motive := fun _ => Nat → List CV → Nat → Option (List CV)) (fun _ _ _ => none) (fun xs s cells off => qW xs s cells off) v s cells off
def vV (es : List CV) (tm : Tm) (ps : List zF2) (cells : List CV) : Option (List CV) :=
  List.rec (motive := fun _ => List CV → Option (List CV)) (fun cells => some cells)
    (fun p _ ih cells => Option.rec (motive := fun _ => Option (List CV)) none ih (zAO p.size p.off cells (cellsOf (aV es tm p.arg)))) ps cells
def zNj (zero : List CV) (ps : List zF2) : X := fun es tm _ _ => zPA (vV es tm ps zero) 102
def ifO (b : Bool) (t f : CObj) : CObj := Bool.rec (motive := fun _ => CObj → CObj → CObj) (fun _ f => f) (fun t _ => t) b t f
def zJ7 (zero : List CV) (len esz : Nat) (ps : List zF2) : X := fun es tm _ n => onL (vV es tm ps zero) (fun cs => .alloc (ifO (Nat.beq len 1 && Nat.beq esz 6) (.full true cs) (.cells cs)) (.sl n 0 len len esz true)) 103
def zNk (x : zS) : X := fun es tm h _ => zAM (aV es tm x) (fun b off => vM (yK b h) (fun vs => zOR (zDs vs off) 104) 105) 106
def zLS (s : Nat) (x : zS) : X := fun es tm h _ => zAM (aV es tm x) (fun b off => vM (yK b h) (fun vs => zO8 (uK vs off s) 107) 108) 109
def zLP (s : Nat) (a x : zS) : X := fun es tm h n => zAM (aV es tm a) (fun b off => jN (yK b h) (fun vs =>
  onL (cellsOf (aV es tm x)) (fun cs => yY (y9 cs) (onL (qW cs s vs off) (fun l => .eff .undef (yn (some (.cells l)) b h) n) 110) 111) 112) 113) 114
def zDG (v : CV) : OR := match v with
  | .nilptr => .err 115
  | .niliface => .err 115
  | .nilfunc => .err 115
  | .func (.method _) _ _ => .err 116
  | .any => .err 116
  | v => .val v
def zMv (x : zS) : X := fun es tm _ _ => zPJ (aV es tm x) (fun b o => .val (.ptr b o)) (zDG (aV es tm x))
class Sym where
  val : SE → Value
  one : ∀ e, (∃ k n, val e = .int k n) ∨ ∃ s, val e = .string s
  bin : BinOp → CV → CV → Option (List CV)
  cv : IntKind → CV → Option (List CV)
  arg : Key → Option Value
variable [Sym]
def forkL (c : CV) (l : List CV) : OR := List.rec (motive := fun _ => CV → OR) (fun c => .val c) (fun d _ ih c => .fork (.val c) (ih d)) l c
def zOj (o : Option (List CV)) (e : Nat) : OR := match o with
  | none => .err e
  | some l => match l with
    | [] => .err e
    | c :: cs => forkL c cs
def zL7 (v : CV) : Bool := match v with
  | .sym _ => true
  | .sst _ => true
  | _ => false
def wM : OR := .fork (.val (.bool true)) (.val (.bool false))
def zIM (k : IntKind) (m : Nat) : OR := Nat.rec (motive := fun _ => OR) (.val (qb k 0)) (fun i ih => .fork ih (.val (qb k (Nat.succ i)))) m
def zIA (k : IntKind) (m : Nat) : OR := Nat.rec (motive := fun _ => OR) (.val (qb k 0)) (fun i ih => .fork ih (.fork (.val (qb k (Nat.succ i))) (.val (.int k (.negSucc i))))) m
def qP (op : BinOp) (j k : IntKind) : OR := yY (kEq j k) (match op with
  | .add => .val (.anyi k)
  | .sub => .val (.anyi k)
  | .mul => .val (.anyi k)
  | .and => .val (.anyi k)
  | .or => .val (.anyi k)
  | .xor => .val (.anyi k)
  | .andNot => .val (.anyi k)
  | .eql => wM
  | .neq => wM
  | .lss => wM
  | .leq => wM
  | .gtr => wM
  | .geq => wM
  | _ => .err 117) 118
def zC7 (op : BinOp) (k : IntKind) (b : Int) : OR := match op with
  | .and => match b with
    | .ofNat m => yY (Nat.ble m 127) (zIM k m) 117
    | .negSucc _ => .val (.anyi k)
  | .rem => match b with
    | .ofNat m => match m with
      | 0 => .err 117
      | m + 1 => yY (Nat.ble m 127) (match k.signed with
        | true => zIA k m
        | false => .val (.anyi k)) 117
    | .negSucc _ => .err 117
  | .quo => match b with
    | .ofNat m => match m with
      | 0 => .err 117
      | _ + 1 => .val (.anyi k)
    | .negSucc _ => .val (.anyi k)
  | .shl => match b with
    | .ofNat _ => .val (.anyi k)
    | .negSucc _ => .err 117
  | .shr => match b with
    | .ofNat _ => .val (.anyi k)
    | .negSucc _ => .err 117
  | op => qP op k k
def zIw (op : BinOp) (x y : CV) : OR := zP6 x
  (fun k a => zMu y (fun j b => yY (kEq k j || yk op) (zCH (yH op k a b) 117) 118) (fun j => qP op j k) 119)
  (fun k => zMu y (fun j b => yY (kEq k j || yk op) (zC7 op k b) 118) (fun j => qP op j k) 119)
  (fun a => vJ y (fun b => zCH (zO0 op a b) 120) 121) 122
def zMt (op : BinOp) (a m : Nat) : OR := match op with
  | .gtr => ifB (Nat.ble a m) (.val (.bool false)) wM
  | .leq => ifB (Nat.ble a m) (.val (.bool true)) wM
  | .lss => ifB (Nat.ble (Nat.succ a) m) (.val (.bool true)) wM
  | .geq => ifB (Nat.ble (Nat.succ a) m) (.val (.bool false)) wM
  | _ => .err 119
def jC (op : BinOp) (x y : CV) : OR := match x, y with
  | .nat a, .big m => zMt op a m
  | x, y => match zL7 x || zL7 y with
    | true => zOj (Sym.bin op x y) 117
    | false => zIw op x y
def zJd (op : BinOp) (a b : Nat) (x y : CV) : OR := Option.rec (motive := fun _ => BinOp → CV → CV → OR) (fun op x y => jC op x y) (fun v _ _ _ => .val v) (zEv op a b) op x y
def zMH (op : BinOp) (x y : zS) : X := fun es tm _ _ =>
  zKD (aV es tm x) (fun a => zKD (aV es tm y) (fun b => zJd op a b (aV es tm x) (aV es tm y)) (jC op (aV es tm x) (aV es tm y))) (jC op (aV es tm x) (aV es tm y))
def vX : EqK → CV → CV → Option Bool
  | .bool, .bool a, .bool b => some (a == b)
  | .int, .nat a, .nat b => some (Nat.beq a b)
  | .int, .int k a, .int j b => match kEq k j with
    | true => some (yw a b)
    | false => none
  | .int, .nat _, .int .i64 (.negSucc _) => some false
  | .int, .int .i64 (.negSucc _), .nat _ => some false
  | .str, .str a, .str b => some (x6 a b)
  | _, _, _ => none
def eqFields (xs ys : List CV) : List (Nat × EqK) → Option Bool
  | [] => some true
  | (o, k) :: r => match zDs xs o, zDs ys o with
    | some x, some y => match vX k x y with
      | some true => eqFields xs ys r
      | some false => some false
      | none => none
    | _, _ => none
def eqC (k : EqK) (cst : Bool) (x y : CV) : Option Bool := match k with
  | .bool => vX .bool x y
  | .int => none
  | .str => none
  | .pointer => match x, y with
    | .nilptr, .nilptr => some true
    | .nilptr, .ptr _ _ => some false
    | .ptr _ _, .nilptr => some false
    | _, _ => none
  | .iface => match x, y with
    | .niliface, .niliface => if cst then some true else none
    | .niliface, .iface _ _ => some false
    | .iface _ _, .niliface => some false
    | _, _ => none
  | .slice => match x, y with
    | .nilsl, .nilsl => some true
    | .nilsl, .sl .. => some false
    | .sl .., .nilsl => some false
    | _, _ => none
  | .map => match x, y with
    | .nilmap, .nilmap => some true
    | .nilmap, .map _ => some false
    | .map _, .nilmap => some false
    | _, _ => none
  | .func => match x, y with
    | .nilfunc, .nilfunc => some true
    | .nilfunc, .func .. => some false
    | .func .., .nilfunc => some false
    | _, _ => none
  | .struct fs => match x, y with
    | .agg xs, .agg ys => eqFields xs ys fs
    | _, _ => none
def xEq (neg : Bool) (k : EqK) (cst : Bool) (x y : zS) : X := fun es tm _ _ => match eqC k cst (aV es tm x) (aV es tm y) with
  | some b => .val (.bool (xor neg b))
  | none => .err 123
def xUn (op : UnOp) (x : zS) : X := fun es tm _ _ => match op with
  | .neg => zMY (aV es tm x) (fun k n => .val (zU k (yW k (Int.sub (.ofNat 0) n)))) 124
  | .xor => zMY (aV es tm x) (fun k n => zCH (zPj k (if k.signed then -1 else k.max) n) 125) 126
  | .not => zIt (aV es tm x) (fun b => .val (.bool (zAZ b))) 127
  | .plus => .err 128
def zCN (k : IntKind) (v : CV) : OR := match zL7 v with
  | true => zOj (Sym.cv k v) 129
  | false => zMu v (fun _ a => .val (zU k (yW k a))) (fun _ => .val (.anyi k)) 129
def zLI (k : IntKind) (x : zS) : X := fun es tm _ _ => zCN k (aV es tm x)
def zM1 (x : zS) : X := fun es tm _ _ => vJ (aV es tm x) (fun s => .val (.str s)) 130
def wD (s : List Nat) : List CV := List.rec (motive := fun _ => List CV) [] (fun b _ ih => .int .u8 (.ofNat b) :: ih) s
def kR (v : CV) : Option Nat := match v with
  | .int .u8 (.ofNat b) => match Nat.ble b 255 with
    | true => some b
    | false => none
  | _ => none
def jn (l : List CV) : Option (List Nat) :=
  List.rec (motive := fun _ => Option (List Nat)) (some []) (fun v _ ih => Option.rec (motive := fun _ => Option (List Nat) → Option (List Nat)) (fun _ => none) (fun b r => zKp b r) (kR v) ih) l
def zOV (x : zS) : X := fun es tm _ n => vJ (aV es tm x) (fun l => wU (zAu l) fun k => .alloc (.cells (wD l)) (.sl n 0 k k 1 false)) 131
def zJm (x : zS) : X := fun es tm h n => vK (aV es tm x) (.err 132) (fun b off len cap esz ex => jN (yK b h) (fun _ => .eff (.sl b off len cap esz ex) h n) 133) 134
def zP4 (v : Option (List Nat)) (c : Nat) : OR := Option.rec (motive := fun _ => Nat → OR) (fun c => .err c) (fun v _ => .val (.str v)) v c
def zFY (v : CV) : Bool := match v with
  | .int k (.ofNat b) => kEq k .u8 && Nat.ble b 255
  | .sym e => kEq e.k .u8 && (match Sym.bin .leq (.sym e) (.int .u8 (.ofNat 255)), Sym.bin .geq (.sym e) (.int .u8 (.ofNat 0)) with
    | some [.bool true], some [.bool true] => true
    | _, _ => false)
  | _ => false
def u9 : List CV → Bool
  | [] => true
  | v :: r => zFY v && u9 r
def zIT (cs : List CV) : OR := match jn cs with
  | some r => .read (.str r)
  | none => match u9 cs with
    | true => .read (.sst cs)
    | false => .err 135
def zPa (x : zS) : X := fun es tm h _ => vK (aV es tm x) (.val (.str [])) (fun b off len _ _ _ => vM (yK b h) (fun vs =>
  onL (uK vs off len) zIT 136) 137) 138
def zNd (t : TypeId) (x : zS) : X := fun es tm _ _ => .val (.iface t (aV es tm x))
def zOY (fn : Fn) (a b : List zS) : X := fun es tm _ _ => .val (.func fn (aVs es tm a) (aVs es tm b))
def zMW : X := fun _ _ _ n => .alloc (.map [] 0) (.map n)
def zH1 (zero : List CV) (esz bytes : Nat) (l c : zS) : X := fun es tm _ n => vB (aV es tm l) (fun l => vB (aV es tm c) (fun c =>
  yY (Nat.ble l c && Nat.ble (Nat.mul c esz) 100000 && Nat.ble (Nat.mul bytes c) 1000000)
    (wU l fun l => wU c fun c => .alloc (.cells (jX zero c)) (.sl n 0 l c esz true)) 139) 140) 141
def uj (es : List CV) (tm : Tm) (x : Option zS) (y d : Nat) (k : Nat → OR) (e : Nat) : OR :=
  Option.rec (motive := fun _ => Nat → (Nat → OR) → OR) (fun d k => k d) (fun x _ k => vB (aV es tm x) (fun i => yY (Nat.ble i y) (k i) e) e) x d k
def qT (es : List CV) (tm : Tm) (len cap : Nat) (lo hi mx : Option zS) (k : Nat → Nat → Nat → OR) (e : Nat) : OR :=
  uj es tm mx cap cap (fun m => uj es tm hi m len (fun h => uj es tm lo h 0 (fun l => k l h m) e) e) e
def zJ3 (b : Key) (off esz : Nat) (ex : Bool) : Nat → Nat → Nat → OR := fun l h m =>
  yY (Nat.ble h m && Nat.ble l h) (wU (Nat.add off (Nat.mul l esz)) fun o => wU (Nat.sub h l) fun hl => wU (Nat.sub m l) fun ml => .val (.sl b o hl ml esz ex)) 142
def zNE (len esz : Nat) (x : zS) (lo hi mx : Option zS) : X := fun es tm _ _ => zAM (aV es tm x) (fun b off =>
  qT es tm len len lo hi mx (zJ3 b off esz true) 143) 144
def uH (es : List CV) (tm : Tm) (h : zD) (b : Key) (off cap esz : Nat) (ex : Bool) (lo hi mx : Option zS) (k0 : OR) : OR := match ex, lo, mx, hi with
  | false, none, none, some y => match aV es tm y with
    | .nat m => match Nat.ble m cap, cap with
      | false, _ + 1 => jN (yK b h) (fun vs => yY (Nat.ble (Nat.add off (Nat.mul m esz)) (uM vs)) (wU m fun m => .read (.sl b off m m esz false)) 146) 146
      | _, _ => k0
    | _ => k0
  | _, _, _, _ => k0
def zOK (esz : Nat) (x : zS) (lo hi mx : Option zS) : X := fun es tm h _ => vK (aV es tm x)
  (qT es tm 0 0 lo hi mx (fun _ _ _ => .val .nilsl) 145)
  (fun b off len cap s ex => yY (Nat.beq s esz) (uH es tm h b off cap esz ex lo hi mx (qT es tm len cap lo hi mx (zJ3 b off esz (ex || mx.isSome)) 146)) 147) 148
def zMk (x : zS) (lo hi : Option zS) : X := fun es tm _ _ => vJ (aV es tm x) (fun s =>
  wU (zAu s) fun n => qT es tm n n lo hi none (fun l h _ => yY (Nat.ble l h) (zP4 (zPf s l (Nat.sub h l)) 149) 149) 150) 151
def zKe (k : Nat) (x : zS) : X := fun es tm _ _ => zAM (aV es tm x) (fun b off => wU (Nat.add off k) fun o => .val (.ptr b o)) 152
def zMO (agg : Bool) (s : Nat) (cs : List CV) (off : Nat) (e : Nat) : OR := Bool.rec (motive := fun _ => OR) (zCH (zDs cs off) e) (zPA (uK cs off s) e) agg
def zO4 (agg : Bool) (off s : Nat) (x : zS) : X := fun es tm _ _ => zLR (aV es tm x) (fun cs => zMO agg s cs off 153) 154
def zM8 (len esz : Nat) (x i : zS) : X := fun es tm _ _ => zAM (aV es tm x) (fun b off => vB (aV es tm i) (fun i =>
  yY (Nat.ble (Nat.succ i) len) (wU (Nat.add off (Nat.mul i esz)) fun o => .val (.ptr b o)) 155) 156) 157
def uY : List (Nat × Int) → List (Nat × Int) → Bool
  | [], [] => true
  | (i, a) :: l, (j, b) :: m => Nat.beq i j && yw a b && uY l m
  | _, _ => false
def zNV (a b : SE) : Bool := kEq a.k b.k && yw a.c b.c && uY a.l b.l
def zLO (b : Key) (s : Nat) (e n : SE) (esz : Nat) (i : CV) : OR := match i with
  | .sym j => match zNV j e && Nat.beq s esz with
    | true => match Sym.bin .leq (.nat 0) (.sym e), Sym.bin .lss (.sym e) (.sym n) with
      | some [.bool true], some [.bool true] => .val (.ptr b 0)
      | _, _ => .err 320
    | false => .err 321
  | _ => .err 322
def zDm (x y : CV) : Option Bool := match Sym.cv .i64 x, Sym.bin .leq x y, Sym.bin .geq x y with
  | some _, some [.bool a], some [.bool b] => some (a && b)
  | _, _, _ => none
def zND (i : CV) : CV := match i with
  | .sym j => match Sym.bin .andNot (.sym j) (.nat 0) with
    | some [.nat k] => match zDm (.sym j) (.nat k) with
      | some true => .nat k
      | _ => .sym j
    | _ => .sym j
  | i => i
def zOX (esz : Nat) (x i : zS) : X := fun es tm _ _ => zNA (aV es tm x) (fun b s e n => zLO b s e n esz (aV es tm i)) <| vK (aV es tm x) (.err 158) (fun b off len _ _ _ => vB (zND (aV es tm i)) (fun i =>
  yY (Nat.ble (Nat.succ i) len) (wU (Nat.add off (Nat.mul i esz)) fun o => .val (.ptr b o)) 159) 160) 161
def zNn (len esz : Nat) (agg : Bool) (x i : zS) : X := fun es tm _ _ => zLR (aV es tm x) (fun cs => vB (aV es tm i) (fun i =>
  yY (Nat.ble (Nat.succ i) len) (zMO agg esz cs (Nat.mul i esz) 162) 163) 164) 165
def zNi (x i : zS) : X := fun es tm _ _ => vJ (aV es tm x) (fun s => vB (aV es tm i) (fun i => onN (zOB s i) (fun b => .val (.int .u8 (.ofNat b))) 166) 167) 168
def zAi : List CV → Bool
  | [] => true
  | .nat _ :: r => zAi r
  | .int _ _ :: r => zAi r
  | _ => false
def zBB : List CV → List CV → Nat → Option Bool
  | [], [], 0 => some true
  | x :: a, y :: b, n + 1 => match vX .int x y with
    | some true => zBB a b n
    | some false => some false
    | none => none
  | _, _, _ => none
def zB2 : kN → CV → Bool
  | .ints n, .agg cs => Nat.beq (uM cs) n && zAi cs
  | .int, .nat _ => true
  | .int, .int _ _ => true
  | .str, .str _ => true
  | .bool, .bool _ => true
  | .int, .sym e => (Sym.cv .i64 (.sym e)).isSome
  | _, _ => false
def ke : kN → CV → CV → Option Bool
  | .ints n, .agg a, .agg b => zBB a b n
  | .int, .nat a, .nat b => some (Nat.beq a b)
  | .int, .int j a, .int k b => match kEq j k with
    | true => some (yw a b)
    | false => none
  | .str, .str a, .str b => some (x6 a b)
  | .bool, .bool a, .bool b => some (a == b)
  | .int, .sym e, y => zDm (.sym e) y
  | .int, .nat a, .sym e => zDm (.nat a) (.sym e)
  | .int, .int k a, .sym e => zDm (.int k a) (.sym e)
  | _, _, _ => none
def wO (kk : kN) (k : CV) : List CE → Option (Option CV)
  | [] => some none
  | e :: es => match ke kk k e.key with
    | some true => match wO kk k es with
      | some none => some (some e.val)
      | _ => none
    | some false => wO kk k es
    | none => none
def zHa (kk : kN) (k v : CV) : List CE → Option (List CE)
  | [] => none
  | e :: es => match ke kk k e.key with
    | some true => some (⟨k, v, e.born⟩ :: es)
    | some false => match zHa kk k v es with
      | none => none
      | some r => some (e :: r)
    | none => none
def zHE (kk : kN) (k : CV) : List CE → Option (List CE)
  | [] => none
  | e :: es => match ke kk k e.key with
    | some true => some es
    | some false => match zHE kk k es with
      | none => none
      | some r => some (e :: r)
    | none => none
def okV (ok : Bool) (v : CV) : CV := match ok with
  | true => .tup [v, .bool true]
  | false => v
def zAg (kk : kN) (z : CV) (ok : Bool) (k : CV) (es : List CE) : OR := yY (zB2 kk k) (match wO kk k es with
  | some (some v) => .read (okV ok v)
  | some none => .read (match ok with | true => .tup [z, .bool false] | false => z)
  | none => .err 169) 170
def zJI (kk : kN) (z : CV) (ok : Bool) (x k : zS) : X := fun es tm h _ => zBQ (aV es tm x) (zAg kk z ok (aV es tm k) [])
  (fun b => kr (yK b h) (fun l _ => zAg kk z ok (aV es tm k) l) 171) 172
def zJ5 (kk : kN) (m k v : zS) : X := fun es tm h n => zBQ (aV es tm m) (.err 173) (fun b => kr (yK b h) (fun l clock =>
  yY (zB2 kk (aV es tm k)) (match wO kk (aV es tm k) l with
    | some (some _) => match zHa kk (aV es tm k) (aV es tm v) l with
      | some l' => .eff .undef (yn (some (.map l' clock)) b h) n
      | none => .err 174
    | some none => wU (Nat.succ clock) fun c => .eff .undef (yn (some (.map (l ++ [⟨aV es tm k, aV es tm v, clock⟩]) c)) b h) n
    | none => .err 175) 176) 177) 178
def zFx (x : zS) : X := fun es tm _ n => vJ (aV es tm x) (fun s => .alloc (.striter s 0) (.ptr n 0)) 179
def zFy (x : zS) : X := fun es tm h n => zBQ (aV es tm x) (.alloc (.mapiter none 0 [] 0) (.ptr n 0)) (fun b => kr (yK b h) (fun _ clock =>
  .eff (.ptr n 0) (yn (some (.mapiter (some b) clock [] clock)) n h) n.succ) 180) 181
def zH9 (x : Nat) (l : List Nat) : Bool := List.rec (motive := fun _ => Bool) false (fun y _ ih => Bool.rec (motive := fun _ => Bool) ih true (Nat.beq x y)) l
def zE6 (seen : List Nat) : List CE → List CE
  | [] => []
  | e :: es => match zH9 e.born seen with
    | true => zE6 seen es
    | false => e :: zE6 seen es
def zAo (last : Nat) : List CE → Bool
  | [] => true
  | e :: es => Nat.ble last e.born && zAo last es
def zM2 (l : List Nat) : Bool := match l with
  | [] => true
  | _ => false
def zIx (l : List CE) : Bool := match l with
  | [] => true
  | _ => false
def zDz (since : Nat) : List CE → Bool
  | [] => true
  | e :: es => Nat.ble (Nat.succ e.born) since && zDz since es
def zCp (f : CE → OR) : CE → List CE → OR
  | e, [] => f e
  | e, e' :: l => .fork (f e) (zCp f e' l)
def zFE (b : Key) (h : zD) (n : Key) (s : List Nat) (pos : Nat) : OR := match zOB s pos with
  | none => .eff (.tup [.bool false]) h n
  | some c => yY (Nat.ble c 127)
    (wU (Nat.succ pos) fun p => .eff (.tup [.bool true, .nat pos, .int .i32 (.ofNat c)]) (yn (some (.striter s p)) b h) n) 182
def zNU (b : Key) (h : zD) (n : Key) (m : Key) (since : Nat) (seen : List Nat) (last : Nat) : OR := kr (yK m h) (fun es clock =>
  match !zM2 seen && !zIx es && zAo last es with
  | true => .err 183
  | false => match zE6 seen es with
    | [] => .eff (.tup [.bool false]) h n
    | e :: l => yY (zDz since (e :: l)) (zCp (fun e => .eff (.tup [.bool true, e.key, e.val]) (yn (some (.mapiter (some m) since (seen ++ [e.born]) clock)) b h) n) e l) 184) 186
def zMF (s : Bool) (b : Key) (h : zD) (n : Key) (o : Option CObj) : OR := match o, s with
  | some (.striter s pos), true => zFE b h n s pos
  | some (.mapiter none _ _ _), false => .eff (.tup [.bool false]) h n
  | some (.mapiter (some m) since seen last), false => zNU b h n m since seen last
  | _, _ => .err 187
def zOT (s : Bool) (x : zS) : X := fun es tm h n => zAM (aV es tm x) (fun b off => yY (Nat.beq off 0) (zMF s b h n (yK b h)) 188) 189
def zJy : List Nat → Option Nat
  | [] => none
  | [x] => some x
  | _ :: y :: r => zJy (y :: r)
def zF9 (b : Nat) : List CE → Bool
  | [] => true
  | e :: es => match Nat.beq e.born b with
    | true => false
    | false => zF9 b es
def zG3 (b : Nat) : List CE → Option CE
  | [] => none
  | e :: es => match Nat.beq e.born b with
    | true => match zF9 b es with
      | true => some e
      | false => none
    | false => zG3 b es
def zI2 (h : zD) (o : Option CObj) : OR := match o with
  | some (.mapiter (some m) _ seen stepped) => match zJy seen with
    | some st => kr (yK m h) (fun es clock => match Nat.beq clock stepped, zG3 st es with
      | true, some e => .read (.tup [e.key, e.val])
      | _, _ => .err 190) 191
    | none => .err 192
  | _ => .err 193
def zNm (x : zS) : X := fun es tm h _ => zAM (aV es tm x) (fun b off => yY (Nat.beq off 0) (zI2 h (yK b h)) 194) 195
def noV (ok : Bool) (z : Option CV) : OR := match ok, z with
  | true, some z => .val (.tup [z, .bool false])
  | _, _ => .err 196
def zHk (t : TypeId) (z : Option CV) (ok : Bool) (x : zS) : X := fun es tm _ _ => zAs (aV es tm x)
  (fun d v => ifB (Nat.beq d t) (.val (okV ok v)) (noV ok z)) (noV ok z) 197
def zLN (P : Program) (t d : TypeId) : Option Bool := match und P t, P.info? d with
  | some (.interface want), some i => some (Instr.missingMethod want i.methods).isNone
  | _, _ => none
def zKv (P : Program) (t : TypeId) (z : Option CV) (ok : Bool) (x : zS) : X := fun es tm _ _ => zAs (aV es tm x)
  (fun d v => match zLN P t d with
    | some true => .val (okV ok (.iface d v))
    | some false => noV ok z
    | none => .err 198) (noV ok z) 199
def zGK (i : Nat) (x : zS) : X := fun es tm _ _ => zO7 (aV es tm x) (fun vs => zCH (zDs vs i) 200) 201
inductive wY where
  | val (v : CV)
  | var (b : Key) (off : Nat)
def uA (h : zD) (b : Key) : Option (List CV) := match yK b h with
  | some (.cells vs) => some vs
  | some (.ro vs) => some vs
  | _ => none
def zKs (agg : Bool) (s : Nat) (cs : List CV) (off : Nat) : Option CV := match agg with
  | true => (uK cs off s).map .agg
  | false => zDs cs off
section
variable (P : Program)
def zJ1 (h : zD) (t : TypeId) (b : Key) (off : Nat) : Option CV := match xj P t, xX P t, uA h b with
  | some a, some s, some vs => zKs a s vs off
  | _, _, _ => none
def wY.get (h : zD) (t : TypeId) : wY → Option CV
  | .val v => some v
  | .var b off => zJ1 P h t b off
def zGr (s : FieldStep) : Option Field := match und P s.struct with
  | some (.struct fs) => match nth fs.toList s.index with
    | some f => match xX P f.type with
      | some (_ + 1) => some f
      | _ => none
    | none => none
  | _ => none
def kf (h : zD) : List FieldStep → TypeId → wY → Option (TypeId × wY)
  | [], t, x => some (t, x)
  | s :: rest, t, x => match zGr P s with
    | none => none
    | some f => match s.deref with
      | true => match x.get P h t with
        | some (.ptr b off) => kf h rest f.type (.var b (Nat.add off f.offset))
        | _ => none
      | false => match x with
        | .var b off => kf h rest f.type (.var b (Nat.add off f.offset))
        | .val (.agg cs) => match xj P f.type, xX P f.type with
          | some a, some s => match zKs a s cs f.offset with
            | some v => kf h rest f.type (.val v)
            | none => none
          | _, _ => none
        | .val _ => none
def v8 (h : zD) (xt : TypeId) (x : wY) (pr : Bool) : Option CV := match und P xt, pr, x with
  | some (.pointer _), true, x => x.get P h xt
  | some (.pointer e), false, x => match x.get P h xt with
    | some (.ptr b off) => zJ1 P h e b off
    | _ => none
  | some _, true, .var b off => some (.ptr b off)
  | some _, true, .val _ => none
  | some _, false, x => x.get P h xt
  | none, _, _ => none
def w9 (name : String) : List Method → Option Method
  | [] => none
  | m :: r => if m.name == name then some m else w9 name r
def zFP (t : TypeId) (name : String) : Option Method := (P.info? t).bind fun i => w9 name i.methods.toList
def zCo (h : zD) : Nat → TypeId → CV → String → Option (FuncId × CV)
  | 0, _, _, _ => none
  | d + 1, t, v, name => match zFP P t name with
    | none => none
    | some m => match kf P h m.path.toList t (.val v) with
      | none => none
      | some (xt, x) => match m.func with
        | none => match x.get P h xt with
          | some (.iface t' v') => zCo h d t' v' name
          | _ => none
        | some (f, pr) => match v8 P h xt x pr with
          | some r => some (f, r)
          | none => none
def zEO (h : zD) (recv : CV) (name : String) (args : List CV) : OR := zAs recv
  (fun t v => match zCo P h 8 t v name with
    | some (f, r) => .call f (r :: args)
    | none => .err 202) (.err 203) 204
def zLX (h : zD) (f : CV) (args : List CV) : OR := zIO f (fun fn first captured => match fn with
    | .func g => .call g (zBz first (zBz args captured))
    | .method name => match zBz first args with
      | recv :: rest => zEO P h recv name rest
      | [] => .err 205
    | .methodOf t name => match zBz first args with
      | recv :: rest => match und P t with
        | some (.interface _) => zEO P h recv name rest
        | some _ => zEO P h (.iface t recv) name rest
        | none => .err 206
      | [] => .err 207
    | .via t path g pr => match zBz first args with
      | recv :: rest => match kf P h path.toList t (.val recv) with
        | some (xt, x) => match v8 P h xt x pr with
          | some r => .call g (r :: rest)
          | none => .err 208
        | none => .err 209
      | [] => .err 210
    | _ => .err 211) 212
end
def zFF (c : Nat) (l : List Nat) : Nat := List.rec (motive := fun _ => Nat) 0 (fun x _ ih => Bool.rec (motive := fun _ => Nat) ih (Nat.succ ih) (Nat.beq x c)) l
def zBl (c : Nat) : List Nat → Nat → Option Nat
  | [], _ => none
  | x :: r, i => match Nat.beq x c with
    | true => some i
    | false => zBl c r (Nat.succ i)
def zAS (e : Ext) (args : List CV) (h : zD) (n : Key) : OR := match e, args with
  | .count, [a, b] => vJ a (fun s => onN (kR b) (fun c => .val (jY (zFF c s))) 213) 214
  | .indexByte, [a, b] => vJ a (fun s => onN (kR b) (fun c => match zBl c s 0 with
    | some i => .val (jY i)
    | none => .val (.int .i64 (.negSucc 0))) 215) 216
  | .cmp, [a, b] => vJ a (fun s => vJ b (fun t => ifB (x6 s t) (.val (.nat 0)) (ifB (vh s t) (.val (.int .i64 (.negSucc 0))) (.val (.nat 1)))) 223) 224
  | .overlaps, [a, b] => vK a (.err 225) (fun k _ l _ _ _ => vK b (.err 226) (fun j _ m _ _ _ => yY (!decide (j = k)) (zGc (yK k h) (fun u _ => yY u (jN (yK j h) (fun vs => yY (Nat.ble 1 (uM vs)) (.eff (.bool false) h n) 227) 228) 233) (.err 229)) 230) 231) 232
  | .mapsClone, [a] => zAs a (fun t v => zBQ v (.err 217) (fun b => kr (yK b h) (fun es clock =>
      .eff (.iface t (.map n)) (yn (some (.map es clock)) n h) n.succ) 218) 219) (.err 220) 221
  | _, _ => .err 222
def zO2 (f : FuncId) (args : List zS) : X := fun es tm _ _ => .call f (aVs es tm args)
def zOL (e : Ext) (args : List zS) : X := fun es tm h n => zAS e (aVs es tm args) h n
def zNF (P : Program) (f : zS) (args : List zS) : X := fun es tm h _ => zLX P h (aV es tm f) (aVs es tm args)
def zKb (P : Program) (r : zS) (name : String) (args : List zS) : X := fun es tm h _ => zEO P h (aV es tm r) name (aVs es tm args)
def zIn (h : zD) (s : Nat) (x : CV) (k : Nat → List CV → OR) (n : Nat → Nat) (e : Nat) : OR := match x with
  | .str l => yY (Nat.beq s 1) (onL ((zHv l (n (zAu l))).map wD) (fun cs => k (n (zAu l)) cs) e) e
  | x => vK x (k 0 []) (fun b off len _ _ _ => vM (yK b h) (fun vs => onL (uK vs off (Nat.mul (n len) s)) (fun cs => k (n len) cs) e) e) e
def zEA (esz k : Nat) (xs : List CV) (sv : CV) (h : zD) (n : Key) : OR := vK sv
    (match k with
     | 0 => .eff .nilsl h n
     | k + 1 => yY (Nat.ble k 99999) (wU k fun k => .eff (.sl n 0 (Nat.succ k) (Nat.succ k) esz false) (yn (some (.cells xs)) n h) n.succ) 223)
    (fun b off len cap s ex => yY (Nat.beq s esz) (zGc (yK b h) (fun _ vs => wU (Nat.add len k) fun need =>
      yY ((match ex with | true => Nat.ble (Nat.succ cap) need | false => Nat.ble 1 need && Nat.ble (Nat.succ (uM vs)) (Nat.add off (Nat.mul need esz))) && Nat.ble need 100000) (onL (uK vs off (Nat.mul len esz)) (fun old =>
        .eff (.sl n 0 need need esz false) (yn (some (.cells (zBz old xs))) n h) n.succ) 225) 226) <| jN (yK b h) (fun vs => wU (Nat.add len k) fun need =>
      ifB (Nat.ble need cap)
        (onL (qW xs (Nat.mul k esz) vs (Nat.add off (Nat.mul len esz))) (fun l => .eff (.sl b off need cap esz ex) (yn (some (.cells l)) b h) n) 224)
        (yY (Nat.ble need 100000) (onL (uK vs off (Nat.mul len esz)) (fun old =>
          .eff (.sl n 0 need need esz false) (yn (some (.cells (zBz old xs))) n (Bool.rec (motive := fun _ => zD) (yn none b h) h ex)) n.succ) 225) 226)) 227) 228) 229
def v2 (esz _bytes : Nat) (s x : zS) : X := fun es tm h n => zIn h esz (aV es tm x) (fun k xs => yY (y9 xs) (zEA esz k xs (aV es tm s) h n) 230)
    (fun k => k) 231
def zKt (zero : List CV) (esz : Nat) (s x : zS) : X := fun es tm h n => vB (aV es tm x) (fun k => yY (Nat.ble k 1000) (wU k fun k => yY (y9 (jX zero k)) (zEA esz k (jX zero k) (aV es tm s) h n) 234) 234) 234
def zMg (x : CV) (k : Nat → OR) (e : Nat) : OR := match x with
  | .str l => k (zAu l)
  | x => vK x (k 0) (fun _ _ len _ _ _ => k len) e
def zFh (esz : Nat) (d x : zS) : X := fun es tm h n => zMg (aV es tm d) (fun dl => zIn h esz (aV es tm x) (fun k xs => vK (aV es tm d)
    (.eff (.nat 0) h n)
    (fun b off _ _ _ _ => jN (yK b h) (fun vs => yY (y9 xs) (onL (qW xs (Nat.mul k esz) vs off) (fun l => .eff (jY k) (yn (some (.cells l)) b h) n) 232) 233) 234) 235)
    (fun xl => Nat.min xl dl) 236) 237
def zJE (x : zS) : X := fun es tm _ _ => zOW (aV es tm x) (fun l => .val (jY (uM l))) <| vJ (aV es tm x) (fun s => .val (jY (zAu s))) 238
def zNl (x : zS) : X := fun es tm _ _ => zNA (aV es tm x) (fun _ _ _ n => .val (.sym n)) <| vK (aV es tm x) (.val (.nat 0)) (fun _ _ len _ _ _ => .val (.nat len)) 239
def zJR (x : zS) : X := fun es tm h _ => zBQ (aV es tm x) (.val (.nat 0)) (fun b => kr (yK b h) (fun l _ => .read (jY (zN8 l))) 240) 241
def zM9 (vs : List CV) (k : Nat) : List CV := zBz vs (jX [.any] (Nat.sub k (uM vs)))
def zMP (b : Key) (off len cap esz : Nat) (h : zD) (n : Key) : OR := ifB (Nat.ble (Nat.succ len) cap) (.val (.big cap))
  (jN (yK b h) (fun vs => yY (Nat.ble 1 cap) (.fork (.eff (.nat cap) (yn (some (.full false (zM9 vs (Nat.add off (Nat.mul cap esz))))) b h) n)
    (.eff (.big (Nat.succ cap)) (yn (some (.cells (zM9 vs (Nat.add off (Nat.mul (Nat.succ cap) esz))))) b h) n)) 242) 242)
def zLV (x : zS) : X := fun es tm h n => vK (aV es tm x) (.val (.nat 0)) (fun b off len cap esz ex => ifB ex (.val (.nat cap)) (zMP b off len cap esz h n)) 243
def zKh (kk : kN) (m k : zS) : X := fun es tm h n => yY (zB2 kk (aV es tm k)) (zBQ (aV es tm m) (.eff (.tup []) h n) (fun b => kr (yK b h) (fun l clock =>
  match wO kk (aV es tm k) l with
  | some (some _) => match zHE kk (aV es tm k) l with
    | some l' => .eff (.tup []) (yn (some (.map l' clock)) b h) n
    | none => .err 244
  | some none => .eff (.tup []) h n
  | none => .err 245) 246) 247) 248
def zEW (x : zS) : X := fun es tm h n => zBQ (aV es tm x) (.eff (.tup []) h n) (fun b => kr (yK b h) (fun _ clock => .eff (.tup []) (yn (some (.map [] clock)) b h) n) 249) 250
def zGN (zero : List CV) (esz : Nat) (x : zS) : X := fun es tm h n => vK (aV es tm x) (.eff (.tup []) h n) (fun b off len _ _ _ => jN (yK b h) (fun vs =>
  yY (y9 zero) (onL (qW (jX zero len) (Nat.mul len esz) vs off) (fun l => .eff (.tup []) (yn (some (.cells l)) b h) n) 251) 252) 253) 254
def intOf : CV → Option (IntKind × Int)
  | .nat n => some (.i64, .ofNat n)
  | .int k n => some (k, n)
  | _ => none
def zOJ (mx : Bool) (k : IntKind) : Int → List CV → Option CV
  | a, [] => some (zU k a)
  | a, v :: r => match intOf v with
    | some (j, b) => match kEq k j with
      | true => zOJ mx k (match mx with
        | true => (match j5 a b with | true => b | false => a)
        | false => (match j5 b a with | true => b | false => a)) r
      | false => none
    | none => none
def zI3 (mx : Bool) : CV → List CV → Option CV
  | x, [] => some x
  | x, v :: r => match Sym.cv .i64 x, Sym.bin .lss (Bool.rec (motive := fun _ => CV) v x mx) (Bool.rec (motive := fun _ => CV) x v mx) with
    | some _, some [.bool b] => zI3 mx (Bool.rec (motive := fun _ => CV) x v b) r
    | some _, _ => match Sym.bin .leq (Bool.rec (motive := fun _ => CV) v x mx) (Bool.rec (motive := fun _ => CV) x v mx) with
      | some [.bool true] => zI3 mx v r
      | _ => none
    | none, _ => none
def zPX (mx : Bool) (x : CV) (r : List CV) : Option CV := match intOf x with
  | some (k, a) => match zOJ mx k a r with
    | some v => some v
    | none => zI3 mx x r
  | none => zI3 mx x r
def zJq (mx : Bool) (x : zS) (r : List zS) : X := fun es tm _ _ => zCH (zPX mx (aV es tm x) (aVs es tm r)) 255
def zLJ (f : zS) (args : List zS) : X := fun es tm _ _ => zIO (aV es tm f) (fun fn first captured => match fn with
  | .func g => .dfr g (zBz first (zBz (aVs es tm args) captured))
  | _ => .err 256) 257
def zMl : X := fun _ _ _ _ => .recov
def zPU (c : Nat) : X := fun _ _ _ _ => .err (Nat.add 1000 c)
def z6 (P : Program) (op : COp) : X :=
  COp.rec (motive := fun _ => X) xMv zOU zML zPY zNj zJ7 zNk zLS zLP zMv zMH xEq xUn zLI zM1 zOV zJm zPa
    zNd zOY zMW zH1 zNE zOK zMk zKe zO4 zM8 zOX zNn zNi zJI zJ5 zFx zFy zOT zNm
    zHk (zKv P) zGK zO2 zOL (zNF P) (zKb P) v2 zKt zFh zJE zNl zJR zLV zKh zEW zGN zJq
    zLJ zMl zPU op
inductive CX where
  | normal
  | exit (id : Nat)
  | ret
abbrev xJ := List (FuncId × List CV)
inductive R where
  | ok (e : CX) (tm : Tm) (ds : xJ) (h : zD) (n : Key)
  | ret (v : CV) (h : zD) (n : Key)
  | err (c : Nat)
  | fork (a b : R)
abbrev yO := Bool → FuncId → List CV → zD → Key → R
abbrev K := Tm → xJ → zD → Key → R
abbrev KE := List CV → K
def zu (d : Option Loc) (v : CV) (tm : Tm) (k : Tm → R) : R := Option.rec (motive := fun _ => CV → Tm → (Tm → R) → R) (fun _ tm k => k tm) (fun p v tm k => k (kG v p tm)) d v tm k
abbrev vo := yO → KE → Option Loc → List CV → K
def zPM (v : CV) : vo := fun _ k d es tm ds h n => zu d v tm fun tm => k (v :: es) tm ds h n
def zPx (o : CObj) (v : CV) : vo := fun _ k d es tm ds h n => zu d v tm fun tm => k (v :: es) tm ds (yn (some o) n h) n.succ
def zQq (v : CV) (h : zD) (n : Key) : vo := fun _ k d es tm ds _ _ => zu d v tm fun tm => k (v :: es) tm ds h n
def zPV (f : FuncId) (args : List CV) : vo := fun call k d es tm ds h n =>
  R.rec (motive := fun _ => R) (fun _ _ _ _ _ => .err 300) (fun v h n => zu d v tm fun tm => k (v :: es) tm ds h n) (fun c => .err c) (fun _ _ a b => .fork a b) (call false f args h n)
def zQA (f : FuncId) (args : List CV) : vo := fun _ k d es tm ds h n => zu d .undef tm fun tm => k (.undef :: es) tm ((f, args) :: ds) h n
def zPs : vo := fun _ k d es tm ds h n => zu d .niliface tm fun tm => k (.niliface :: es) tm ds h n
def zQt (c : Nat) : vo := fun _ _ _ _ _ _ _ _ => .err c
def zPP (_ _ : OR) (a b : vo) : vo := fun call k d es tm ds h n => .fork (a call k d es tm ds h n) (b call k d es tm ds h n)
def after (r : OR) : vo := OR.rec (motive := fun _ => vo) zPM zPM zPx zQq zPV zQA zPs zQt zPP r
def qm (w : Bool) (v : CV) : Bool := match v with
  | .bool b => match b, w with
    | true, true => true
    | false, false => true
    | _, _ => false
  | _ => false
def jj (v : CV) : Bool := match v with
  | .any => false
  | _ => true
def iI (P : Program) (call : yO) (op : COp) (k : KE) : KE := fun es tm ds h n => after (z6 P op es tm h n) call k none es tm ds h n
def iO (P : Program) (call : yO) (op : COp) (d : Loc) (k : KE) : KE := fun es tm ds h n => after (z6 P op es tm h n) call k (some d) es tm ds h n
def iG (P : Program) (call : yO) (x : zS) (w : Bool) (op : COp) (d : Option Loc) (k : KE) : KE := fun es tm ds h n =>
  Bool.rec (motive := fun _ => R)
    (Bool.rec (motive := fun _ => R) (.err 299) (zu d .undef tm fun tm => k (.undef :: es) tm ds h n) (jj (aV es tm x)))
    (after (z6 P op es tm h n) call k d es tm ds h n) (qm w (aV es tm x))
def zPg (P : Program) (call : yO) (i : x8) : KE → KE := x8.rec (motive := fun _ => KE → KE) (iI P call) (iO P call) (iG P call) i
def yZ (P : Program) (call : yO) (l : List x8) : KE :=
  List.rec (motive := fun _ => KE) (fun _ tm ds h n => .ok .normal tm ds h n) (fun i _ ih => zPg P call i ih) l
mutual
def CV.beq : CV → CV → Bool
  | .bool a, .bool b => a == b
  | .nat a, .nat b => Nat.beq a b
  | .int k a, .int j b => kEq k j && yw a b
  | .sym a, .sym b => kEq a.k b.k && yw a.c b.c && uY a.l b.l
  | .str a, .str b => x6 a b
  | .nilptr, .nilptr => true
  | .ptr a b, .ptr c d => decide (a = c) && Nat.beq b d
  | .nilsl, .nilsl => true
  | .sl a b c d e f, .sl a' b' c' d' e' f' => decide (a = a') && Nat.beq b b' && Nat.beq c c' && Nat.beq d d' && Nat.beq e e' && f == f'
  | .nilmap, .nilmap => true
  | .map a, .map b => decide (a = b)
  | .func f a b, .func g c d => decide (f = g) && CV.beqs a c && CV.beqs b d
  | .nilfunc, .nilfunc => true
  | .iface t v, .iface u w => Nat.beq t u && CV.beq v w
  | .niliface, .niliface => true
  | .agg a, .agg b => CV.beqs a b
  | .tup a, .tup b => CV.beqs a b
  | .sst a, .sst b => CV.beqs a b
  | _, _ => false
def CV.beqs : List CV → List CV → Bool
  | [], [] => true
  | a :: as, b :: bs => CV.beq a b && CV.beqs as bs
  | _, _ => false
end
abbrev KD := List CV → List zD → K
def qS (P : Program) (op : COp) (es : List CV) (tm : Tm) (n : Key) (v : CV) : Nat → List zD → Bool
  | 0, _ => true
  | _ + 1, [] => true
  | c + 1, h :: hs => match z6 P op es tm h n with
    | .read w => CV.beq v w && qS P op es tm n v c hs
    | _ => false
def zIb (call : yO) (d : Option Loc) (k : KD) (r : OR) : KD := fun es hs tm ds h n => match r with
  | .val v => zu d v tm fun tm => k (v :: es) (h :: hs) tm ds h n
  | .read v => zu d v tm fun tm => k (v :: es) (h :: hs) tm ds h n
  | .alloc o v => zu d v tm fun tm => k (v :: es) (h :: hs) tm ds (yn (some o) n h) n.succ
  | .eff v h' n' => zu d v tm fun tm => k (v :: es) (h :: hs) tm ds h' n'
  | .call f args => R.rec (motive := fun _ => R) (fun _ _ _ _ _ => .err 300) (fun v h' n' => zu d v tm fun tm => k (v :: es) (h :: hs) tm ds h' n') (fun c => .err c)
      (fun _ _ a b => .fork a b) (call false f args h n)
  | .err c => .err c
  | _ => .err 312
def dNo (P : Program) (op : COp) (d : Option Loc) (chk : Nat) (k : KD) (r : OR) : KD := fun es hs tm ds h n => match r with
  | .val v => zu d v tm fun tm => k (v :: es) hs tm ds h n
  | .read v => match qS P op es tm n v chk hs with
    | true => zu d v tm fun tm => k (v :: es) hs tm ds h n
    | false => .err 311
  | .alloc o v => zu d v tm fun tm => k (v :: es) hs tm ds (yn (some o) n h) n.succ
  | .err c => .err c
  | _ => .err 313
def dOp (P : Program) (call : yO) (op : COp) (d : Option Loc) (e : Bool) (chk : Nat) (k : KD) : KD := fun es hs tm ds h n => match e with
  | true => zIb call d k (z6 P op es tm h n) es hs tm ds h n
  | false => dNo P op d chk k (z6 P op es tm h n) es hs tm ds h n
def zDO (d : Option Loc) (e : Bool) (k : KD) : KD := fun es hs tm ds h n => zu d .undef tm fun tm => k (.undef :: es) (match e with | true => h :: hs | false => hs) tm ds h n
def evD (P : Program) (call : yO) : List zKS → KD
  | [], _, _, tm, ds, h, n => .ok .normal tm ds h n
  | i :: r, es, hs, tm, ds, h, n => match i.ins with
    | .i op => dOp P call op none i.eff i.chk (evD P call r) es hs tm ds h n
    | .o op d => dOp P call op (some d) i.eff i.chk (evD P call r) es hs tm ds h n
    | .g x w op d => match qm w (aV es tm x) with
      | true => dOp P call op d i.eff i.chk (evD P call r) es hs tm ds h n
      | false => match jj (aV es tm x) with
        | true => zDO d i.eff (evD P call r) es hs tm ds h n
        | false => .err 299
def xk (k : K) (r : R) : R := R.rec (motive := fun _ => R) (fun e tm ds h n => CX.rec (motive := fun _ => R) (k tm ds h n) (fun id => .ok (.exit id) tm ds h n) (.ok .ret tm ds h n) e)
  (fun _ _ _ => .err 301) (fun c => .err c) (fun _ _ a b => .fork a b) r
def wW (id : Nat) (r : R) : R := R.rec (motive := fun _ => R) (fun e tm ds h n => CX.rec (motive := fun _ => R) (.ok .normal tm ds h n)
    (fun i => Bool.rec (motive := fun _ => R) (.ok (.exit i) tm ds h n) (.ok .normal tm ds h n) (Nat.beq i id)) (.ok .ret tm ds h n) e)
  (fun _ _ _ => .err 301) (fun c => .err c) (fun _ _ a b => .fork a b) r
def zEr (a b : K) (v : CV) : K := match v with
  | .bool true => a
  | .bool false => b
  | _ => fun _ _ _ _ => .err 302
def uO (fuel : Nat) (b : K) : K := Nat.rec (motive := fun _ => K) (fun _ _ _ _ => .err 303) (fun _ ih tm ds h n => xk ih (b tm ds h n)) fuel
def ve : Nat := 100000
def zg (P : Program) (call : yO) (c : CCode) : K :=
  CCode.rec (motive := fun _ => K)
    (fun tm ds h n => .ok .normal tm ds h n)
    (fun ops => yZ P call ops [])
    (fun ops => evD P call ops [] [])
    (fun _ _ a b tm ds h n => xk b (a tm ds h n))
    (fun x _ _ a b tm ds h n => zEr a b (aV [] tm x) tm ds h n)
    (fun id _ b tm ds h n => wW id (b tm ds h n))
    (fun _ b => uO ve b)
    (fun id tm ds h n => .ok (.exit id) tm ds h n)
    (fun tm ds h n => .ok .ret tm ds h n)
    (fun _ b => b)
    (fun c _ _ _ _ => .err (Nat.add 2000 c)) c
def zNe (h : zD) (tm : Tm) (r : CRes) : Option CV := match r with
  | .tmp x => some (aV [] tm x)
  | .cell1 x => match aV [] tm x with
    | .ptr b off => match uA h b with
      | some cs => zDs cs off
      | none => none
    | _ => none
  | .cellN x s => match aV [] tm x with
    | .ptr b off => match uA h b with
      | some cs => (uK cs off s).map .agg
      | none => none
    | _ => none
def zAE (h : zD) (tm : Tm) : List CRes → Option (List CV)
  | [] => some []
  | r :: rs => match zNe h tm r with
    | none => none
    | some v => match zAE h tm rs with
      | none => none
      | some vs => some (v :: vs)
def u5 (h : zD) (tm : Tm) (rs : List CRes) : Option CV := match zAE h tm rs with
  | some [v] => some v
  | some vs => some (.tup vs)
  | none => none
def xz : List CV → Nat → Tm → Tm
  | [], _, t => t
  | v :: vs, i, t => match Nat.ble i 271 with
    | true => xz vs (Nat.succ i) (kG v (Loc.ofNat i) t)
    | false => t
def kP (call : yO) (k : zD → Key → R) : xJ → zD → Key → R
  | [], h, n => k h n
  | (f, args) :: r, h, n => R.rec (motive := fun _ => R) (fun _ _ _ _ _ => .err 300) (fun _ h n => kP call k r h n) (fun c => .err c) (fun _ _ a b => .fork a b) (call true f args h n)
def zBk (rs : List CRes) (tm : Tm) (h : zD) (n : Key) : R := match u5 h tm rs with
  | some v => .ret v h n
  | none => .err 305
def qk (d : Bool) (call : yO) (rs : List CRes) (tm : Tm) (ds : xJ) (h : zD) (n : Key) : R := match ds with
  | [] => zBk rs tm h n
  | f :: ds => match d with
    | false => kP call (fun h n => zBk rs tm h n) (f :: ds) h n
    | true => .err 306
def ye (d : Bool) (call : yO) (rs : List CRes) (r : R) : R := R.rec (motive := fun _ => R)
  (fun e tm ds h n => CX.rec (motive := fun _ => R) (qk d call rs tm ds h n) (fun _ => .err 307) (qk d call rs tm ds h n) e) (fun _ _ _ => .err 308) (fun c => .err c) (fun _ _ a b => .fork a b) r
abbrev NatF := Sym → Bool → List CV → zD → Key → R
abbrev Nats := FuncId → Option NatF
def zM6 (r : OR) (h : zD) (n : Key) : R := match r with
  | .val v => .ret v h n
  | .eff v h n => .ret v h n
  | .err c => .err c
  | _ => .err 309
def uQ (P : Program) (d : Bool) (call : yO) (fn : CFn) (args : List CV) (h : zD) (n : Key) : R :=
  CFn.rec (motive := fun _ => R) (fun body res => ye d call res (zg P call body (xz args 0 .nil) [] h n))
    (fun ops body res => match d with
      | true => ye true call res (xk (zg P call body) (yZ P call ops [] (xz args 0 .nil) [] h n))
      | false => .err 311)
    (fun e => match d with
      | true => .err 313
      | false => zM6 (zAS e args h n) h n) (fun c => .err (Nat.add 3000 c)) fn
def ev (P : Program) (code : FuncId → CFn) (nat : Nats) (fuel : Nat) : yO :=
  Nat.rec (motive := fun _ => yO) (fun _ _ _ _ _ => .err 310)
    (fun _ ih d f args h n => Option.rec (motive := fun _ => R) (uQ P d ih (code f) args h n) (fun g => g ‹Sym› d args h n) (nat f)) fuel
end
end Go.Ev


