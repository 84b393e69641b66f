/- A verified evaluator for the model's code: EvA, EvB. -/
import GoSem.Dispatch
import GoSem.Core.Made
set_option linter.unusedSectionVars false
set_option linter.unusedVariables false
set_option linter.unusedSimpArgs false
namespace Go.Ev
inductive Dg where
  | d0 | d1 | d2 | d3 | d4 | d5 | d6 | d7 | d8 | d9 | d10 | d11 | d12 | d13 | d14 | d15
  deriving DecidableEq, Inhabited
noncomputable def Dg.succ (d : Dg) : Option Dg := Dg.rec (motive := fun _ => Option Dg) (some .d1) (some .d2) (some .d3) (some .d4) (some .d5) (some .d6) (some .d7) (some .d8) (some .d9) (some .d10) (some .d11) (some .d12) (some .d13) (some .d14) (some .d15) none d
noncomputable def Dg.ix (d : Dg) : Nat := Dg.rec (motive := fun _ => Nat) 0 1 2 3 4 5 6 7 8 9 10 11 12 13 14 15 d
def Dg.ofN : Nat → Dg
  | 0 => .d0
  | 1 => .d1
  | 2 => .d2
  | 3 => .d3
  | 4 => .d4
  | 5 => .d5
  | 6 => .d6
  | 7 => .d7
  | 8 => .d8
  | 9 => .d9
  | 10 => .d10
  | 11 => .d11
  | 12 => .d12
  | 13 => .d13
  | 14 => .d14
  | _ => .d15
inductive Key where
  | mk (a b c d : Dg)
  deriving DecidableEq, Inhabited
def Key.zero : Key := .mk .d0 .d0 .d0 .d0
noncomputable def Key.succ (k : Key) : Key :=
  Key.rec (motive := fun _ => Key) (fun a b c d =>
    Option.rec (motive := fun _ => Key)
      (Option.rec (motive := fun _ => Key)
        (Option.rec (motive := fun _ => Key)
          (Option.rec (motive := fun _ => Key) (.mk .d15 .d15 .d15 .d15) (fun a => .mk a .d0 .d0 .d0) a.succ)
          (fun b => .mk a b .d0 .d0) b.succ)
        (fun c => .mk a b c .d0) c.succ)
      (fun d => .mk a b c d) d.succ) k
noncomputable def Key.ix : Key → Nat
  | .mk a b c d => ((a.ix * 16 + b.ix) * 16 + c.ix) * 16 + d.ix
def Key.ofNat (n : Nat) : Key := .mk (.ofN (n / 4096 % 16)) (.ofN (n / 256 % 16)) (.ofN (n / 16 % 16)) (.ofN (n % 16))
inductive Loc where
  | s (d : Dg)
  | w (c d : Dg)
  deriving DecidableEq, Inhabited
def Loc.ofNat (n : Nat) : Loc := match Nat.ble n 15 with
  | true => .s (.ofN n)
  | false => .w (.ofN ((n - 16) / 16)) (.ofN ((n - 16) % 16))
structure SE where
  k : IntKind
  c : Int
  l : List (Nat × Int)
inductive CV where
  | bool (b : Bool)
  | nat (n : Nat)
  | int (k : IntKind) (n : Int)
  | anyi (k : IntKind)
  | str (s : List Nat)
  | nilptr
  | ptr (b : Key) (off : Nat)
  | nilsl
  | sl (b : Key) (off len cap esz : Nat) (exact : Bool)
  | nilmap
  | map (b : Key)
  | func (fn : Fn) (first captured : List CV)
  | nilfunc
  | iface (t : TypeId) (v : CV)
  | niliface
  | agg (cs : List CV)
  | tup (vs : List CV)
  | sym (e : SE)
  | win (b : Key) (esz : Nat) (e n : SE)
  | sst (l : List CV)
  | big (n : Nat)
  | any
  deriving Inhabited
def CV.undef : CV := .tup []
structure CE where
  key : CV
  val : CV
  born : Nat
inductive CObj where
  | cells (vs : List CV)
  | ro (vs : List CV)
  | map (es : List CE) (clock : Nat)
  | striter (s : List Nat) (pos : Nat)
  | mapiter (m : Option Key) (since : Nat) (seen : List Nat) (stepped : Nat)
  | full (u : Bool) (vs : List CV)
noncomputable section
inductive LV where
  | nil
  | nd (c0 c1 c2 c3 c4 c5 c6 c7 c8 c9 c10 c11 c12 c13 c14 c15 : CV)
def LV.get (d : Dg) (t : LV) : CV :=
  Dg.rec (motive := fun _ => LV → CV)
    (fun t => LV.rec (motive := fun _ => CV) CV.any (fun c0 _ _ _ _ _ _ _ _ _ _ _ _ _ _ _ => c0) t)
    (fun t => LV.rec (motive := fun _ => CV) CV.any (fun _ c1 _ _ _ _ _ _ _ _ _ _ _ _ _ _ => c1) t)
    (fun t => LV.rec (motive := fun _ => CV) CV.any (fun _ _ c2 _ _ _ _ _ _ _ _ _ _ _ _ _ => c2) t)
    (fun t => LV.rec (motive := fun _ => CV) CV.any (fun _ _ _ c3 _ _ _ _ _ _ _ _ _ _ _ _ => c3) t)
    (fun t => LV.rec (motive := fun _ => CV) CV.any (fun _ _ _ _ c4 _ _ _ _ _ _ _ _ _ _ _ => c4) t)
    (fun t => LV.rec (motive := fun _ => CV) CV.any (fun _ _ _ _ _ c5 _ _ _ _ _ _ _ _ _ _ => c5) t)
    (fun t => LV.rec (motive := fun _ => CV) CV.any (fun _ _ _ _ _ _ c6 _ _ _ _ _ _ _ _ _ => c6) t)
    (fun t => LV.rec (motive := fun _ => CV) CV.any (fun _ _ _ _ _ _ _ c7 _ _ _ _ _ _ _ _ => c7) t)
    (fun t => LV.rec (motive := fun _ => CV) CV.any (fun _ _ _ _ _ _ _ _ c8 _ _ _ _ _ _ _ => c8) t)
    (fun t => LV.rec (motive := fun _ => CV) CV.any (fun _ _ _ _ _ _ _ _ _ c9 _ _ _ _ _ _ => c9) t)
    (fun t => LV.rec (motive := fun _ => CV) CV.any (fun _ _ _ _ _ _ _ _ _ _ c10 _ _ _ _ _ => c10) t)
    (fun t => LV.rec (motive := fun _ => CV) CV.any (fun _ _ _ _ _ _ _ _ _ _ _ c11 _ _ _ _ => c11) t)
    (fun t => LV.rec (motive := fun _ => CV) CV.any (fun _ _ _ _ _ _ _ _ _ _ _ _ c12 _ _ _ => c12) t)
    (fun t => LV.rec (motive := fun _ => CV) CV.any (fun _ _ _ _ _ _ _ _ _ _ _ _ _ c13 _ _ => c13) t)
    (fun t => LV.rec (motive := fun _ => CV) CV.any (fun _ _ _ _ _ _ _ _ _ _ _ _ _ _ c14 _ => c14) t)
    (fun t => LV.rec (motive := fun _ => CV) CV.any (fun _ _ _ _ _ _ _ _ _ _ _ _ _ _ _ c15 => c15) t) d t
def LV.upd (f : CV → CV) (d : Dg) (t : LV) : LV :=
  Dg.rec (motive := fun _ => (CV → CV) → LV → LV)
    (fun f t => LV.rec (motive := fun _ => LV) (.nd (f CV.any) CV.any CV.any CV.any CV.any CV.any CV.any CV.any CV.any CV.any CV.any CV.any CV.any CV.any CV.any CV.any) (fun c0 c1 c2 c3 c4 c5 c6 c7 c8 c9 c10 c11 c12 c13 c14 c15 => .nd (f c0) c1 c2 c3 c4 c5 c6 c7 c8 c9 c10 c11 c12 c13 c14 c15) t)
    (fun f t => LV.rec (motive := fun _ => LV) (.nd CV.any (f CV.any) CV.any CV.any CV.any CV.any CV.any CV.any CV.any CV.any CV.any CV.any CV.any CV.any CV.any CV.any) (fun c0 c1 c2 c3 c4 c5 c6 c7 c8 c9 c10 c11 c12 c13 c14 c15 => .nd c0 (f c1) c2 c3 c4 c5 c6 c7 c8 c9 c10 c11 c12 c13 c14 c15) t)
    (fun f t => LV.rec (motive := fun _ => LV) (.nd CV.any CV.any (f CV.any) CV.any CV.any CV.any CV.any CV.any CV.any CV.any CV.any CV.any CV.any CV.any CV.any CV.any) (fun c0 c1 c2 c3 c4 c5 c6 c7 c8 c9 c10 c11 c12 c13 c14 c15 => .nd c0 c1 (f c2) c3 c4 c5 c6 c7 c8 c9 c10 c11 c12 c13 c14 c15) t)
    (fun f t => LV.rec (motive := fun _ => LV) (.nd CV.any CV.any CV.any (f CV.any) CV.any CV.any CV.any CV.any CV.any CV.any CV.any CV.any CV.any CV.any CV.any CV.any) (fun c0 c1 c2 c3 c4 c5 c6 c7 c8 c9 c10 c11 c12 c13 c14 c15 => .nd c0 c1 c2 (f c3) c4 c5 c6 c7 c8 c9 c10 c11 c12 c13 c14 c15) t)
    (fun f t => LV.rec (motive := fun _ => LV) (.nd CV.any CV.any CV.any CV.any (f CV.any) CV.any CV.any CV.any CV.any CV.any CV.any CV.any CV.any CV.any CV.any CV.any) (fun c0 c1 c2 c3 c4 c5 c6 c7 c8 c9 c10 c11 c12 c13 c14 c15 => .nd c0 c1 c2 c3 (f c4) c5 c6 c7 c8 c9 c10 c11 c12 c13 c14 c15) t)
    (fun f t => LV.rec (motive := fun _ => LV) (.nd CV.any CV.any CV.any CV.any CV.any (f CV.any) CV.any CV.any CV.any CV.any CV.any CV.any CV.any CV.any CV.any CV.any) (fun c0 c1 c2 c3 c4 c5 c6 c7 c8 c9 c10 c11 c12 c13 c14 c15 => .nd c0 c1 c2 c3 c4 (f c5) c6 c7 c8 c9 c10 c11 c12 c13 c14 c15) t)
    (fun f t => LV.rec (motive := fun _ => LV) (.nd CV.any CV.any CV.any CV.any CV.any CV.any (f CV.any) CV.any CV.any CV.any CV.any CV.any CV.any CV.any CV.any CV.any) (fun c0 c1 c2 c3 c4 c5 c6 c7 c8 c9 c10 c11 c12 c13 c14 c15 => .nd c0 c1 c2 c3 c4 c5 (f c6) c7 c8 c9 c10 c11 c12 c13 c14 c15) t)
    (fun f t => LV.rec (motive := fun _ => LV) (.nd CV.any CV.any CV.any CV.any CV.any CV.any CV.any (f CV.any) CV.any CV.any CV.any CV.any CV.any CV.any CV.any CV.any) (fun c0 c1 c2 c3 c4 c5 c6 c7 c8 c9 c10 c11 c12 c13 c14 c15 => .nd c0 c1 c2 c3 c4 c5 c6 (f c7) c8 c9 c10 c11 c12 c13 c14 c15) t)
    (fun f t => LV.rec (motive := fun _ => LV) (.nd CV.any CV.any CV.any CV.any CV.any CV.any CV.any CV.any (f CV.any) CV.any CV.any CV.any CV.any CV.any CV.any CV.any) (fun c0 c1 c2 c3 c4 c5 c6 c7 c8 c9 c10 c11 c12 c13 c14 c15 => .nd c0 c1 c2 c3 c4 c5 c6 c7 (f c8) c9 c10 c11 c12 c13 c14 c15) t)
    (fun f t => LV.rec (motive := fun _ => LV) (.nd CV.any CV.any CV.any CV.any CV.any CV.any CV.any CV.any CV.any (f CV.any) CV.any CV.any CV.any CV.any CV.any CV.any) (fun c0 c1 c2 c3 c4 c5 c6 c7 c8 c9 c10 c11 c12 c13 c14 c15 => .nd c0 c1 c2 c3 c4 c5 c6 c7 c8 (f c9) c10 c11 c12 c13 c14 c15) t)
    (fun f t => LV.rec (motive := fun _ => LV) (.nd CV.any CV.any CV.any CV.any CV.any CV.any CV.any CV.any CV.any CV.any (f CV.any) CV.any CV.any CV.any CV.any CV.any) (fun c0 c1 c2 c3 c4 c5 c6 c7 c8 c9 c10 c11 c12 c13 c14 c15 => .nd c0 c1 c2 c3 c4 c5 c6 c7 c8 c9 (f c10) c11 c12 c13 c14 c15) t)
    (fun f t => LV.rec (motive := fun _ => LV) (.nd CV.any CV.any CV.any CV.any CV.any CV.any CV.any CV.any CV.any CV.any CV.any (f CV.any) CV.any CV.any CV.any CV.any) (fun c0 c1 c2 c3 c4 c5 c6 c7 c8 c9 c10 c11 c12 c13 c14 c15 => .nd c0 c1 c2 c3 c4 c5 c6 c7 c8 c9 c10 (f c11) c12 c13 c14 c15) t)
    (fun f t => LV.rec (motive := fun _ => LV) (.nd CV.any CV.any CV.any CV.any CV.any CV.any CV.any CV.any CV.any CV.any CV.any CV.any (f CV.any) CV.any CV.any CV.any) (fun c0 c1 c2 c3 c4 c5 c6 c7 c8 c9 c10 c11 c12 c13 c14 c15 => .nd c0 c1 c2 c3 c4 c5 c6 c7 c8 c9 c10 c11 (f c12) c13 c14 c15) t)
    (fun f t => LV.rec (motive := fun _ => LV) (.nd CV.any CV.any CV.any CV.any CV.any CV.any CV.any CV.any CV.any CV.any CV.any CV.any CV.any (f CV.any) CV.any CV.any) (fun c0 c1 c2 c3 c4 c5 c6 c7 c8 c9 c10 c11 c12 c13 c14 c15 => .nd c0 c1 c2 c3 c4 c5 c6 c7 c8 c9 c10 c11 c12 (f c13) c14 c15) t)
    (fun f t => LV.rec (motive := fun _ => LV) (.nd CV.any CV.any CV.any CV.any CV.any CV.any CV.any CV.any CV.any CV.any CV.any CV.any CV.any CV.any (f CV.any) CV.any) (fun c0 c1 c2 c3 c4 c5 c6 c7 c8 c9 c10 c11 c12 c13 c14 c15 => .nd c0 c1 c2 c3 c4 c5 c6 c7 c8 c9 c10 c11 c12 c13 (f c14) c15) t)
    (fun f t => LV.rec (motive := fun _ => LV) (.nd CV.any CV.any CV.any CV.any CV.any CV.any CV.any CV.any CV.any CV.any CV.any CV.any CV.any CV.any CV.any (f CV.any)) (fun c0 c1 c2 c3 c4 c5 c6 c7 c8 c9 c10 c11 c12 c13 c14 c15 => .nd c0 c1 c2 c3 c4 c5 c6 c7 c8 c9 c10 c11 c12 c13 c14 (f c15)) t) d f t
inductive L1 where
  | nil
  | nd (c0 c1 c2 c3 c4 c5 c6 c7 c8 c9 c10 c11 c12 c13 c14 c15 : LV)
def L1.get (d : Dg) (t : L1) : LV :=
  Dg.rec (motive := fun _ => L1 → LV)
    (fun t => L1.rec (motive := fun _ => LV) LV.nil (fun c0 _ _ _ _ _ _ _ _ _ _ _ _ _ _ _ => c0) t)
    (fun t => L1.rec (motive := fun _ => LV) LV.nil (fun _ c1 _ _ _ _ _ _ _ _ _ _ _ _ _ _ => c1) t)
    (fun t => L1.rec (motive := fun _ => LV) LV.nil (fun _ _ c2 _ _ _ _ _ _ _ _ _ _ _ _ _ => c2) t)
    (fun t => L1.rec (motive := fun _ => LV) LV.nil (fun _ _ _ c3 _ _ _ _ _ _ _ _ _ _ _ _ => c3) t)
    (fun t => L1.rec (motive := fun _ => LV) LV.nil (fun _ _ _ _ c4 _ _ _ _ _ _ _ _ _ _ _ => c4) t)
    (fun t => L1.rec (motive := fun _ => LV) LV.nil (fun _ _ _ _ _ c5 _ _ _ _ _ _ _ _ _ _ => c5) t)
    (fun t => L1.rec (motive := fun _ => LV) LV.nil (fun _ _ _ _ _ _ c6 _ _ _ _ _ _ _ _ _ => c6) t)
    (fun t => L1.rec (motive := fun _ => LV) LV.nil (fun _ _ _ _ _ _ _ c7 _ _ _ _ _ _ _ _ => c7) t)
    (fun t => L1.rec (motive := fun _ => LV) LV.nil (fun _ _ _ _ _ _ _ _ c8 _ _ _ _ _ _ _ => c8) t)
    (fun t => L1.rec (motive := fun _ => LV) LV.nil (fun _ _ _ _ _ _ _ _ _ c9 _ _ _ _ _ _ => c9) t)
    (fun t => L1.rec (motive := fun _ => LV) LV.nil (fun _ _ _ _ _ _ _ _ _ _ c10 _ _ _ _ _ => c10) t)
    (fun t => L1.rec (motive := fun _ => LV) LV.nil (fun _ _ _ _ _ _ _ _ _ _ _ c11 _ _ _ _ => c11) t)
    (fun t => L1.rec (motive := fun _ => LV) LV.nil (fun _ _ _ _ _ _ _ _ _ _ _ _ c12 _ _ _ => c12) t)
    (fun t => L1.rec (motive := fun _ => LV) LV.nil (fun _ _ _ _ _ _ _ _ _ _ _ _ _ c13 _ _ => c13) t)
    (fun t => L1.rec (motive := fun _ => LV) LV.nil (fun _ _ _ _ _ _ _ _ _ _ _ _ _ _ c14 _ => c14) t)
    (fun t => L1.rec (motive := fun _ => LV) LV.nil (fun _ _ _ _ _ _ _ _ _ _ _ _ _ _ _ c15 => c15) t) d t
def L1.upd (f : LV → LV) (d : Dg) (t : L1) : L1 :=
  Dg.rec (motive := fun _ => (LV → LV) → L1 → L1)
    (fun f t => L1.rec (motive := fun _ => L1) (.nd (f LV.nil) LV.nil LV.nil LV.nil LV.nil LV.nil LV.nil LV.nil LV.nil LV.nil LV.nil LV.nil LV.nil LV.nil LV.nil LV.nil) (fun c0 c1 c2 c3 c4 c5 c6 c7 c8 c9 c10 c11 c12 c13 c14 c15 => .nd (f c0) c1 c2 c3 c4 c5 c6 c7 c8 c9 c10 c11 c12 c13 c14 c15) t)
    (fun f t => L1.rec (motive := fun _ => L1) (.nd LV.nil (f LV.nil) LV.nil LV.nil LV.nil LV.nil LV.nil LV.nil LV.nil LV.nil LV.nil LV.nil LV.nil LV.nil LV.nil LV.nil) (fun c0 c1 c2 c3 c4 c5 c6 c7 c8 c9 c10 c11 c12 c13 c14 c15 => .nd c0 (f c1) c2 c3 c4 c5 c6 c7 c8 c9 c10 c11 c12 c13 c14 c15) t)
    (fun f t => L1.rec (motive := fun _ => L1) (.nd LV.nil LV.nil (f LV.nil) LV.nil LV.nil LV.nil LV.nil LV.nil LV.nil LV.nil LV.nil LV.nil LV.nil LV.nil LV.nil LV.nil) (fun c0 c1 c2 c3 c4 c5 c6 c7 c8 c9 c10 c11 c12 c13 c14 c15 => .nd c0 c1 (f c2) c3 c4 c5 c6 c7 c8 c9 c10 c11 c12 c13 c14 c15) t)
    (fun f t => L1.rec (motive := fun _ => L1) (.nd LV.nil LV.nil LV.nil (f LV.nil) LV.nil LV.nil LV.nil LV.nil LV.nil LV.nil LV.nil LV.nil LV.nil LV.nil LV.nil LV.nil) (fun c0 c1 c2 c3 c4 c5 c6 c7 c8 c9 c10 c11 c12 c13 c14 c15 => .nd c0 c1 c2 (f c3) c4 c5 c6 c7 c8 c9 c10 c11 c12 c13 c14 c15) t)
    (fun f t => L1.rec (motive := fun _ => L1) (.nd LV.nil LV.nil LV.nil LV.nil (f LV.nil) LV.nil LV.nil LV.nil LV.nil LV.nil LV.nil LV.nil LV.nil LV.nil LV.nil LV.nil) (fun c0 c1 c2 c3 c4 c5 c6 c7 c8 c9 c10 c11 c12 c13 c14 c15 => .nd c0 c1 c2 c3 (f c4) c5 c6 c7 c8 c9 c10 c11 c12 c13 c14 c15) t)
    (fun f t => L1.rec (motive := fun _ => L1) (.nd LV.nil LV.nil LV.nil LV.nil LV.nil (f LV.nil) LV.nil LV.nil LV.nil LV.nil LV.nil LV.nil LV.nil LV.nil LV.nil LV.nil) (fun c0 c1 c2 c3 c4 c5 c6 c7 c8 c9 c10 c11 c12 c13 c14 c15 => .nd c0 c1 c2 c3 c4 (f c5) c6 c7 c8 c9 c10 c11 c12 c13 c14 c15) t)
    (fun f t => L1.rec (motive := fun _ => L1) (.nd LV.nil LV.nil LV.nil LV.nil LV.nil LV.nil (f LV.nil) LV.nil LV.nil LV.nil LV.nil LV.nil LV.nil LV.nil LV.nil LV.nil) (fun c0 c1 c2 c3 c4 c5 c6 c7 c8 c9 c10 c11 c12 c13 c14 c15 => .nd c0 c1 c2 c3 c4 c5 (f c6) c7 c8 c9 c10 c11 c12 c13 c14 c15) t)
    (fun f t => L1.rec (motive := fun _ => L1) (.nd LV.nil LV.nil LV.nil LV.nil LV.nil LV.nil LV.nil (f LV.nil) LV.nil LV.nil LV.nil LV.nil LV.nil LV.nil LV.nil LV.nil) (fun c0 c1 c2 c3 c4 c5 c6 c7 c8 c9 c10 c11 c12 c13 c14 c15 => .nd c0 c1 c2 c3 c4 c5 c6 (f c7) c8 c9 c10 c11 c12 c13 c14 c15) t)
    (fun f t => L1.rec (motive := fun _ => L1) (.nd LV.nil LV.nil LV.nil LV.nil LV.nil LV.nil LV.nil LV.nil (f LV.nil) LV.nil LV.nil LV.nil LV.nil LV.nil LV.nil LV.nil) (fun c0 c1 c2 c3 c4 c5 c6 c7 c8 c9 c10 c11 c12 c13 c14 c15 => .nd c0 c1 c2 c3 c4 c5 c6 c7 (f c8) c9 c10 c11 c12 c13 c14 c15) t)
    (fun f t => L1.rec (motive := fun _ => L1) (.nd LV.nil LV.nil LV.nil LV.nil LV.nil LV.nil LV.nil LV.nil LV.nil (f LV.nil) LV.nil LV.nil LV.nil LV.nil LV.nil LV.nil) (fun c0 c1 c2 c3 c4 c5 c6 c7 c8 c9 c10 c11 c12 c13 c14 c15 => .nd c0 c1 c2 c3 c4 c5 c6 c7 c8 (f c9) c10 c11 c12 c13 c14 c15) t)
    (fun f t => L1.rec (motive := fun _ => L1) (.nd LV.nil LV.nil LV.nil LV.nil LV.nil LV.nil LV.nil LV.nil LV.nil LV.nil (f LV.nil) LV.nil LV.nil LV.nil LV.nil LV.nil) (fun c0 c1 c2 c3 c4 c5 c6 c7 c8 c9 c10 c11 c12 c13 c14 c15 => .nd c0 c1 c2 c3 c4 c5 c6 c7 c8 c9 (f c10) c11 c12 c13 c14 c15) t)
    (fun f t => L1.rec (motive := fun _ => L1) (.nd LV.nil LV.nil LV.nil LV.nil LV.nil LV.nil LV.nil LV.nil LV.nil LV.nil LV.nil (f LV.nil) LV.nil LV.nil LV.nil LV.nil) (fun c0 c1 c2 c3 c4 c5 c6 c7 c8 c9 c10 c11 c12 c13 c14 c15 => .nd c0 c1 c2 c3 c4 c5 c6 c7 c8 c9 c10 (f c11) c12 c13 c14 c15) t)
    (fun f t => L1.rec (motive := fun _ => L1) (.nd LV.nil LV.nil LV.nil LV.nil LV.nil LV.nil LV.nil LV.nil LV.nil LV.nil LV.nil LV.nil (f LV.nil) LV.nil LV.nil LV.nil) (fun c0 c1 c2 c3 c4 c5 c6 c7 c8 c9 c10 c11 c12 c13 c14 c15 => .nd c0 c1 c2 c3 c4 c5 c6 c7 c8 c9 c10 c11 (f c12) c13 c14 c15) t)
    (fun f t => L1.rec (motive := fun _ => L1) (.nd LV.nil LV.nil LV.nil LV.nil LV.nil LV.nil LV.nil LV.nil LV.nil LV.nil LV.nil LV.nil LV.nil (f LV.nil) LV.nil LV.nil) (fun c0 c1 c2 c3 c4 c5 c6 c7 c8 c9 c10 c11 c12 c13 c14 c15 => .nd c0 c1 c2 c3 c4 c5 c6 c7 c8 c9 c10 c11 c12 (f c13) c14 c15) t)
    (fun f t => L1.rec (motive := fun _ => L1) (.nd LV.nil LV.nil LV.nil LV.nil LV.nil LV.nil LV.nil LV.nil LV.nil LV.nil LV.nil LV.nil LV.nil LV.nil (f LV.nil) LV.nil) (fun c0 c1 c2 c3 c4 c5 c6 c7 c8 c9 c10 c11 c12 c13 c14 c15 => .nd c0 c1 c2 c3 c4 c5 c6 c7 c8 c9 c10 c11 c12 c13 (f c14) c15) t)
    (fun f t => L1.rec (motive := fun _ => L1) (.nd LV.nil LV.nil LV.nil LV.nil LV.nil LV.nil LV.nil LV.nil LV.nil LV.nil LV.nil LV.nil LV.nil LV.nil LV.nil (f LV.nil)) (fun c0 c1 c2 c3 c4 c5 c6 c7 c8 c9 c10 c11 c12 c13 c14 c15 => .nd c0 c1 c2 c3 c4 c5 c6 c7 c8 c9 c10 c11 c12 c13 c14 (f c15)) t) d f t
inductive HV where
  | nil
  | nd (c0 c1 c2 c3 c4 c5 c6 c7 c8 c9 c10 c11 c12 c13 c14 c15 : Option CObj)
def HV.get (d : Dg) (t : HV) : Option CObj :=
  Dg.rec (motive := fun _ => HV → Option CObj)
    (fun t => HV.rec (motive := fun _ => Option CObj) none (fun c0 _ _ _ _ _ _ _ _ _ _ _ _ _ _ _ => c0) t)
    (fun t => HV.rec (motive := fun _ => Option CObj) none (fun _ c1 _ _ _ _ _ _ _ _ _ _ _ _ _ _ => c1) t)
    (fun t => HV.rec (motive := fun _ => Option CObj) none (fun _ _ c2 _ _ _ _ _ _ _ _ _ _ _ _ _ => c2) t)
    (fun t => HV.rec (motive := fun _ => Option CObj) none (fun _ _ _ c3 _ _ _ _ _ _ _ _ _ _ _ _ => c3) t)
    (fun t => HV.rec (motive := fun _ => Option CObj) none (fun _ _ _ _ c4 _ _ _ _ _ _ _ _ _ _ _ => c4) t)
    (fun t => HV.rec (motive := fun _ => Option CObj) none (fun _ _ _ _ _ c5 _ _ _ _ _ _ _ _ _ _ => c5) t)
    (fun t => HV.rec (motive := fun _ => Option CObj) none (fun _ _ _ _ _ _ c6 _ _ _ _ _ _ _ _ _ => c6) t)
    (fun t => HV.rec (motive := fun _ => Option CObj) none (fun _ _ _ _ _ _ _ c7 _ _ _ _ _ _ _ _ => c7) t)
    (fun t => HV.rec (motive := fun _ => Option CObj) none (fun _ _ _ _ _ _ _ _ c8 _ _ _ _ _ _ _ => c8) t)
    (fun t => HV.rec (motive := fun _ => Option CObj) none (fun _ _ _ _ _ _ _ _ _ c9 _ _ _ _ _ _ => c9) t)
    (fun t => HV.rec (motive := fun _ => Option CObj) none (fun _ _ _ _ _ _ _ _ _ _ c10 _ _ _ _ _ => c10) t)
    (fun t => HV.rec (motive := fun _ => Option CObj) none (fun _ _ _ _ _ _ _ _ _ _ _ c11 _ _ _ _ => c11) t)
    (fun t => HV.rec (motive := fun _ => Option CObj) none (fun _ _ _ _ _ _ _ _ _ _ _ _ c12 _ _ _ => c12) t)
    (fun t => HV.rec (motive := fun _ => Option CObj) none (fun _ _ _ _ _ _ _ _ _ _ _ _ _ c13 _ _ => c13) t)
    (fun t => HV.rec (motive := fun _ => Option CObj) none (fun _ _ _ _ _ _ _ _ _ _ _ _ _ _ c14 _ => c14) t)
    (fun t => HV.rec (motive := fun _ => Option CObj) none (fun _ _ _ _ _ _ _ _ _ _ _ _ _ _ _ c15 => c15) t) d t
def HV.upd (f : Option CObj → Option CObj) (d : Dg) (t : HV) : HV :=
  Dg.rec (motive := fun _ => (Option CObj → Option CObj) → HV → HV)
    (fun f t => HV.rec (motive := fun _ => HV) (.nd (f none) none none none none none none none none none none none none none none none) (fun c0 c1 c2 c3 c4 c5 c6 c7 c8 c9 c10 c11 c12 c13 c14 c15 => .nd (f c0) c1 c2 c3 c4 c5 c6 c7 c8 c9 c10 c11 c12 c13 c14 c15) t)
    (fun f t => HV.rec (motive := fun _ => HV) (.nd none (f none) none none none none none none none none none none none none none none) (fun c0 c1 c2 c3 c4 c5 c6 c7 c8 c9 c10 c11 c12 c13 c14 c15 => .nd c0 (f c1) c2 c3 c4 c5 c6 c7 c8 c9 c10 c11 c12 c13 c14 c15) t)
    (fun f t => HV.rec (motive := fun _ => HV) (.nd none none (f none) none none none none none none none none none none none none none) (fun c0 c1 c2 c3 c4 c5 c6 c7 c8 c9 c10 c11 c12 c13 c14 c15 => .nd c0 c1 (f c2) c3 c4 c5 c6 c7 c8 c9 c10 c11 c12 c13 c14 c15) t)
    (fun f t => HV.rec (motive := fun _ => HV) (.nd none none none (f none) none none none none none none none none none none none none) (fun c0 c1 c2 c3 c4 c5 c6 c7 c8 c9 c10 c11 c12 c13 c14 c15 => .nd c0 c1 c2 (f c3) c4 c5 c6 c7 c8 c9 c10 c11 c12 c13 c14 c15) t)
    (fun f t => HV.rec (motive := fun _ => HV) (.nd none none none none (f none) none none none none none none none none none none none) (fun c0 c1 c2 c3 c4 c5 c6 c7 c8 c9 c10 c11 c12 c13 c14 c15 => .nd c0 c1 c2 c3 (f c4) c5 c6 c7 c8 c9 c10 c11 c12 c13 c14 c15) t)
    (fun f t => HV.rec (motive := fun _ => HV) (.nd none none none none none (f none) none none none none none none none none none none) (fun c0 c1 c2 c3 c4 c5 c6 c7 c8 c9 c10 c11 c12 c13 c14 c15 => .nd c0 c1 c2 c3 c4 (f c5) c6 c7 c8 c9 c10 c11 c12 c13 c14 c15) t)
    (fun f t => HV.rec (motive := fun _ => HV) (.nd none none none none none none (f none) none none none none none none none none none) (fun c0 c1 c2 c3 c4 c5 c6 c7 c8 c9 c10 c11 c12 c13 c14 c15 => .nd c0 c1 c2 c3 c4 c5 (f c6) c7 c8 c9 c10 c11 c12 c13 c14 c15) t)
    (fun f t => HV.rec (motive := fun _ => HV) (.nd none none none none none none none (f none) none none none none none none none none) (fun c0 c1 c2 c3 c4 c5 c6 c7 c8 c9 c10 c11 c12 c13 c14 c15 => .nd c0 c1 c2 c3 c4 c5 c6 (f c7) c8 c9 c10 c11 c12 c13 c14 c15) t)
    (fun f t => HV.rec (motive := fun _ => HV) (.nd none none none none none none none none (f none) none none none none none none none) (fun c0 c1 c2 c3 c4 c5 c6 c7 c8 c9 c10 c11 c12 c13 c14 c15 => .nd c0 c1 c2 c3 c4 c5 c6 c7 (f c8) c9 c10 c11 c12 c13 c14 c15) t)
    (fun f t => HV.rec (motive := fun _ => HV) (.nd none none none none none none none none none (f none) none none none none none none) (fun c0 c1 c2 c3 c4 c5 c6 c7 c8 c9 c10 c11 c12 c13 c14 c15 => .nd c0 c1 c2 c3 c4 c5 c6 c7 c8 (f c9) c10 c11 c12 c13 c14 c15) t)
    (fun f t => HV.rec (motive := fun _ => HV) (.nd none none none none none none none none none none (f none) none none none none none) (fun c0 c1 c2 c3 c4 c5 c6 c7 c8 c9 c10 c11 c12 c13 c14 c15 => .nd c0 c1 c2 c3 c4 c5 c6 c7 c8 c9 (f c10) c11 c12 c13 c14 c15) t)
    (fun f t => HV.rec (motive := fun _ => HV) (.nd none none none none none none none none none none none (f none) none none none none) (fun c0 c1 c2 c3 c4 c5 c6 c7 c8 c9 c10 c11 c12 c13 c14 c15 => .nd c0 c1 c2 c3 c4 c5 c6 c7 c8 c9 c10 (f c11) c12 c13 c14 c15) t)
    (fun f t => HV.rec (motive := fun _ => HV) (.nd none none none none none none none none none none none none (f none) none none none) (fun c0 c1 c2 c3 c4 c5 c6 c7 c8 c9 c10 c11 c12 c13 c14 c15 => .nd c0 c1 c2 c3 c4 c5 c6 c7 c8 c9 c10 c11 (f c12) c13 c14 c15) t)
    (fun f t => HV.rec (motive := fun _ => HV) (.nd none none none none none none none none none none none none none (f none) none none) (fun c0 c1 c2 c3 c4 c5 c6 c7 c8 c9 c10 c11 c12 c13 c14 c15 => .nd c0 c1 c2 c3 c4 c5 c6 c7 c8 c9 c10 c11 c12 (f c13) c14 c15) t)
    (fun f t => HV.rec (motive := fun _ => HV) (.nd none none none none none none none none none none none none none none (f none) none) (fun c0 c1 c2 c3 c4 c5 c6 c7 c8 c9 c10 c11 c12 c13 c14 c15 => .nd c0 c1 c2 c3 c4 c5 c6 c7 c8 c9 c10 c11 c12 c13 (f c14) c15) t)
    (fun f t => HV.rec (motive := fun _ => HV) (.nd none none none none none none none none none none none none none none none (f none)) (fun c0 c1 c2 c3 c4 c5 c6 c7 c8 c9 c10 c11 c12 c13 c14 c15 => .nd c0 c1 c2 c3 c4 c5 c6 c7 c8 c9 c10 c11 c12 c13 c14 (f c15)) t) d f t
inductive H1 where
  | nil
  | nd (c0 c1 c2 c3 c4 c5 c6 c7 c8 c9 c10 c11 c12 c13 c14 c15 : HV)
def H1.get (d : Dg) (t : H1) : HV :=
  Dg.rec (motive := fun _ => H1 → HV)
    (fun t => H1.rec (motive := fun _ => HV) HV.nil (fun c0 _ _ _ _ _ _ _ _ _ _ _ _ _ _ _ => c0) t)
    (fun t => H1.rec (motive := fun _ => HV) HV.nil (fun _ c1 _ _ _ _ _ _ _ _ _ _ _ _ _ _ => c1) t)
    (fun t => H1.rec (motive := fun _ => HV) HV.nil (fun _ _ c2 _ _ _ _ _ _ _ _ _ _ _ _ _ => c2) t)
    (fun t => H1.rec (motive := fun _ => HV) HV.nil (fun _ _ _ c3 _ _ _ _ _ _ _ _ _ _ _ _ => c3) t)
    (fun t => H1.rec (motive := fun _ => HV) HV.nil (fun _ _ _ _ c4 _ _ _ _ _ _ _ _ _ _ _ => c4) t)
    (fun t => H1.rec (motive := fun _ => HV) HV.nil (fun _ _ _ _ _ c5 _ _ _ _ _ _ _ _ _ _ => c5) t)
    (fun t => H1.rec (motive := fun _ => HV) HV.nil (fun _ _ _ _ _ _ c6 _ _ _ _ _ _ _ _ _ => c6) t)
    (fun t => H1.rec (motive := fun _ => HV) HV.nil (fun _ _ _ _ _ _ _ c7 _ _ _ _ _ _ _ _ => c7) t)
    (fun t => H1.rec (motive := fun _ => HV) HV.nil (fun _ _ _ _ _ _ _ _ c8 _ _ _ _ _ _ _ => c8) t)
    (fun t => H1.rec (motive := fun _ => HV) HV.nil (fun _ _ _ _ _ _ _ _ _ c9 _ _ _ _ _ _ => c9) t)
    (fun t => H1.rec (motive := fun _ => HV) HV.nil (fun _ _ _ _ _ _ _ _ _ _ c10 _ _ _ _ _ => c10) t)
    (fun t => H1.rec (motive := fun _ => HV) HV.nil (fun _ _ _ _ _ _ _ _ _ _ _ c11 _ _ _ _ => c11) t)
    (fun t => H1.rec (motive := fun _ => HV) HV.nil (fun _ _ _ _ _ _ _ _ _ _ _ _ c12 _ _ _ => c12) t)
    (fun t => H1.rec (motive := fun _ => HV) HV.nil (fun _ _ _ _ _ _ _ _ _ _ _ _ _ c13 _ _ => c13) t)
    (fun t => H1.rec (motive := fun _ => HV) HV.nil (fun _ _ _ _ _ _ _ _ _ _ _ _ _ _ c14 _ => c14) t)
    (fun t => H1.rec (motive := fun _ => HV) HV.nil (fun _ _ _ _ _ _ _ _ _ _ _ _ _ _ _ c15 => c15) t) d t
def H1.upd (f : HV → HV) (d : Dg) (t : H1) : H1 :=
  Dg.rec (motive := fun _ => (HV → HV) → H1 → H1)
    (fun f t => H1.rec (motive := fun _ => H1) (.nd (f HV.nil) HV.nil HV.nil HV.nil HV.nil HV.nil HV.nil HV.nil HV.nil HV.nil HV.nil HV.nil HV.nil HV.nil HV.nil HV.nil) (fun c0 c1 c2 c3 c4 c5 c6 c7 c8 c9 c10 c11 c12 c13 c14 c15 => .nd (f c0) c1 c2 c3 c4 c5 c6 c7 c8 c9 c10 c11 c12 c13 c14 c15) t)
    (fun f t => H1.rec (motive := fun _ => H1) (.nd HV.nil (f HV.nil) HV.nil HV.nil HV.nil HV.nil HV.nil HV.nil HV.nil HV.nil HV.nil HV.nil HV.nil HV.nil HV.nil HV.nil) (fun c0 c1 c2 c3 c4 c5 c6 c7 c8 c9 c10 c11 c12 c13 c14 c15 => .nd c0 (f c1) c2 c3 c4 c5 c6 c7 c8 c9 c10 c11 c12 c13 c14 c15) t)
    (fun f t => H1.rec (motive := fun _ => H1) (.nd HV.nil HV.nil (f HV.nil) HV.nil HV.nil HV.nil HV.nil HV.nil HV.nil HV.nil HV.nil HV.nil HV.nil HV.nil HV.nil HV.nil) (fun c0 c1 c2 c3 c4 c5 c6 c7 c8 c9 c10 c11 c12 c13 c14 c15 => .nd c0 c1 (f c2) c3 c4 c5 c6 c7 c8 c9 c10 c11 c12 c13 c14 c15) t)
    (fun f t => H1.rec (motive := fun _ => H1) (.nd HV.nil HV.nil HV.nil (f HV.nil) HV.nil HV.nil HV.nil HV.nil HV.nil HV.nil HV.nil HV.nil HV.nil HV.nil HV.nil HV.nil) (fun c0 c1 c2 c3 c4 c5 c6 c7 c8 c9 c10 c11 c12 c13 c14 c15 => .nd c0 c1 c2 (f c3) c4 c5 c6 c7 c8 c9 c10 c11 c12 c13 c14 c15) t)
    (fun f t => H1.rec (motive := fun _ => H1) (.nd HV.nil HV.nil HV.nil HV.nil (f HV.nil) HV.nil HV.nil HV.nil HV.nil HV.nil HV.nil HV.nil HV.nil HV.nil HV.nil HV.nil) (fun c0 c1 c2 c3 c4 c5 c6 c7 c8 c9 c10 c11 c12 c13 c14 c15 => .nd c0 c1 c2 c3 (f c4) c5 c6 c7 c8 c9 c10 c11 c12 c13 c14 c15) t)
    (fun f t => H1.rec (motive := fun _ => H1) (.nd HV.nil HV.nil HV.nil HV.nil HV.nil (f HV.nil) HV.nil HV.nil HV.nil HV.nil HV.nil HV.nil HV.nil HV.nil HV.nil HV.nil) (fun c0 c1 c2 c3 c4 c5 c6 c7 c8 c9 c10 c11 c12 c13 c14 c15 => .nd c0 c1 c2 c3 c4 (f c5) c6 c7 c8 c9 c10 c11 c12 c13 c14 c15) t)
    (fun f t => H1.rec (motive := fun _ => H1) (.nd HV.nil HV.nil HV.nil HV.nil HV.nil HV.nil (f HV.nil) HV.nil HV.nil HV.nil HV.nil HV.nil HV.nil HV.nil HV.nil HV.nil) (fun c0 c1 c2 c3 c4 c5 c6 c7 c8 c9 c10 c11 c12 c13 c14 c15 => .nd c0 c1 c2 c3 c4 c5 (f c6) c7 c8 c9 c10 c11 c12 c13 c14 c15) t)
    (fun f t => H1.rec (motive := fun _ => H1) (.nd HV.nil HV.nil HV.nil HV.nil HV.nil HV.nil HV.nil (f HV.nil) HV.nil HV.nil HV.nil HV.nil HV.nil HV.nil HV.nil HV.nil) (fun c0 c1 c2 c3 c4 c5 c6 c7 c8 c9 c10 c11 c12 c13 c14 c15 => .nd c0 c1 c2 c3 c4 c5 c6 (f c7) c8 c9 c10 c11 c12 c13 c14 c15) t)
    (fun f t => H1.rec (motive := fun _ => H1) (.nd HV.nil HV.nil HV.nil HV.nil HV.nil HV.nil HV.nil HV.nil (f HV.nil) HV.nil HV.nil HV.nil HV.nil HV.nil HV.nil HV.nil) (fun c0 c1 c2 c3 c4 c5 c6 c7 c8 c9 c10 c11 c12 c13 c14 c15 => .nd c0 c1 c2 c3 c4 c5 c6 c7 (f c8) c9 c10 c11 c12 c13 c14 c15) t)
    (fun f t => H1.rec (motive := fun _ => H1) (.nd HV.nil HV.nil HV.nil HV.nil HV.nil HV.nil HV.nil HV.nil HV.nil (f HV.nil) HV.nil HV.nil HV.nil HV.nil HV.nil HV.nil) (fun c0 c1 c2 c3 c4 c5 c6 c7 c8 c9 c10 c11 c12 c13 c14 c15 => .nd c0 c1 c2 c3 c4 c5 c6 c7 c8 (f c9) c10 c11 c12 c13 c14 c15) t)
    (fun f t => H1.rec (motive := fun _ => H1) (.nd HV.nil HV.nil HV.nil HV.nil HV.nil HV.nil HV.nil HV.nil HV.nil HV.nil (f HV.nil) HV.nil HV.nil HV.nil HV.nil HV.nil) (fun c0 c1 c2 c3 c4 c5 c6 c7 c8 c9 c10 c11 c12 c13 c14 c15 => .nd c0 c1 c2 c3 c4 c5 c6 c7 c8 c9 (f c10) c11 c12 c13 c14 c15) t)
    (fun f t => H1.rec (motive := fun _ => H1) (.nd HV.nil HV.nil HV.nil HV.nil HV.nil HV.nil HV.nil HV.nil HV.nil HV.nil HV.nil (f HV.nil) HV.nil HV.nil HV.nil HV.nil) (fun c0 c1 c2 c3 c4 c5 c6 c7 c8 c9 c10 c11 c12 c13 c14 c15 => .nd c0 c1 c2 c3 c4 c5 c6 c7 c8 c9 c10 (f c11) c12 c13 c14 c15) t)
    (fun f t => H1.rec (motive := fun _ => H1) (.nd HV.nil HV.nil HV.nil HV.nil HV.nil HV.nil HV.nil HV.nil HV.nil HV.nil HV.nil HV.nil (f HV.nil) HV.nil HV.nil HV.nil) (fun c0 c1 c2 c3 c4 c5 c6 c7 c8 c9 c10 c11 c12 c13 c14 c15 => .nd c0 c1 c2 c3 c4 c5 c6 c7 c8 c9 c10 c11 (f c12) c13 c14 c15) t)
    (fun f t => H1.rec (motive := fun _ => H1) (.nd HV.nil HV.nil HV.nil HV.nil HV.nil HV.nil HV.nil HV.nil HV.nil HV.nil HV.nil HV.nil HV.nil (f HV.nil) HV.nil HV.nil) (fun c0 c1 c2 c3 c4 c5 c6 c7 c8 c9 c10 c11 c12 c13 c14 c15 => .nd c0 c1 c2 c3 c4 c5 c6 c7 c8 c9 c10 c11 c12 (f c13) c14 c15) t)
    (fun f t => H1.rec (motive := fun _ => H1) (.nd HV.nil HV.nil HV.nil HV.nil HV.nil HV.nil HV.nil HV.nil HV.nil HV.nil HV.nil HV.nil HV.nil HV.nil (f HV.nil) HV.nil) (fun c0 c1 c2 c3 c4 c5 c6 c7 c8 c9 c10 c11 c12 c13 c14 c15 => .nd c0 c1 c2 c3 c4 c5 c6 c7 c8 c9 c10 c11 c12 c13 (f c14) c15) t)
    (fun f t => H1.rec (motive := fun _ => H1) (.nd HV.nil HV.nil HV.nil HV.nil HV.nil HV.nil HV.nil HV.nil HV.nil HV.nil HV.nil HV.nil HV.nil HV.nil HV.nil (f HV.nil)) (fun c0 c1 c2 c3 c4 c5 c6 c7 c8 c9 c10 c11 c12 c13 c14 c15 => .nd c0 c1 c2 c3 c4 c5 c6 c7 c8 c9 c10 c11 c12 c13 c14 (f c15)) t) d f t
inductive H2 where
  | nil
  | nd (c0 c1 c2 c3 c4 c5 c6 c7 c8 c9 c10 c11 c12 c13 c14 c15 : H1)
def H2.get (d : Dg) (t : H2) : H1 :=
  Dg.rec (motive := fun _ => H2 → H1)
    (fun t => H2.rec (motive := fun _ => H1) H1.nil (fun c0 _ _ _ _ _ _ _ _ _ _ _ _ _ _ _ => c0) t)
    (fun t => H2.rec (motive := fun _ => H1) H1.nil (fun _ c1 _ _ _ _ _ _ _ _ _ _ _ _ _ _ => c1) t)
    (fun t => H2.rec (motive := fun _ => H1) H1.nil (fun _ _ c2 _ _ _ _ _ _ _ _ _ _ _ _ _ => c2) t)
    (fun t => H2.rec (motive := fun _ => H1) H1.nil (fun _ _ _ c3 _ _ _ _ _ _ _ _ _ _ _ _ => c3) t)
    (fun t => H2.rec (motive := fun _ => H1) H1.nil (fun _ _ _ _ c4 _ _ _ _ _ _ _ _ _ _ _ => c4) t)
    (fun t => H2.rec (motive := fun _ => H1) H1.nil (fun _ _ _ _ _ c5 _ _ _ _ _ _ _ _ _ _ => c5) t)
    (fun t => H2.rec (motive := fun _ => H1) H1.nil (fun _ _ _ _ _ _ c6 _ _ _ _ _ _ _ _ _ => c6) t)
    (fun t => H2.rec (motive := fun _ => H1) H1.nil (fun _ _ _ _ _ _ _ c7 _ _ _ _ _ _ _ _ => c7) t)
    (fun t => H2.rec (motive := fun _ => H1) H1.nil (fun _ _ _ _ _ _ _ _ c8 _ _ _ _ _ _ _ => c8) t)
    (fun t => H2.rec (motive := fun _ => H1) H1.nil (fun _ _ _ _ _ _ _ _ _ c9 _ _ _ _ _ _ => c9) t)
    (fun t => H2.rec (motive := fun _ => H1) H1.nil (fun _ _ _ _ _ _ _ _ _ _ c10 _ _ _ _ _ => c10) t)
    (fun t => H2.rec (motive := fun _ => H1) H1.nil (fun _ _ _ _ _ _ _ _ _ _ _ c11 _ _ _ _ => c11) t)
    (fun t => H2.rec (motive := fun _ => H1) H1.nil (fun _ _ _ _ _ _ _ _ _ _ _ _ c12 _ _ _ => c12) t)
    (fun t => H2.rec (motive := fun _ => H1) H1.nil (fun _ _ _ _ _ _ _ _ _ _ _ _ _ c13 _ _ => c13) t)
    (fun t => H2.rec (motive := fun _ => H1) H1.nil (fun _ _ _ _ _ _ _ _ _ _ _ _ _ _ c14 _ => c14) t)
    (fun t => H2.rec (motive := fun _ => H1) H1.nil (fun _ _ _ _ _ _ _ _ _ _ _ _ _ _ _ c15 => c15) t) d t
def H2.upd (f : H1 → H1) (d : Dg) (t : H2) : H2 :=
  Dg.rec (motive := fun _ => (H1 → H1) → H2 → H2)
    (fun f t => H2.rec (motive := fun _ => H2) (.nd (f H1.nil) H1.nil H1.nil H1.nil H1.nil H1.nil H1.nil H1.nil H1.nil H1.nil H1.nil H1.nil H1.nil H1.nil H1.nil H1.nil) (fun c0 c1 c2 c3 c4 c5 c6 c7 c8 c9 c10 c11 c12 c13 c14 c15 => .nd (f c0) c1 c2 c3 c4 c5 c6 c7 c8 c9 c10 c11 c12 c13 c14 c15) t)
    (fun f t => H2.rec (motive := fun _ => H2) (.nd H1.nil (f H1.nil) H1.nil H1.nil H1.nil H1.nil H1.nil H1.nil H1.nil H1.nil H1.nil H1.nil H1.nil H1.nil H1.nil H1.nil) (fun c0 c1 c2 c3 c4 c5 c6 c7 c8 c9 c10 c11 c12 c13 c14 c15 => .nd c0 (f c1) c2 c3 c4 c5 c6 c7 c8 c9 c10 c11 c12 c13 c14 c15) t)
    (fun f t => H2.rec (motive := fun _ => H2) (.nd H1.nil H1.nil (f H1.nil) H1.nil H1.nil H1.nil H1.nil H1.nil H1.nil H1.nil H1.nil H1.nil H1.nil H1.nil H1.nil H1.nil) (fun c0 c1 c2 c3 c4 c5 c6 c7 c8 c9 c10 c11 c12 c13 c14 c15 => .nd c0 c1 (f c2) c3 c4 c5 c6 c7 c8 c9 c10 c11 c12 c13 c14 c15) t)
    (fun f t => H2.rec (motive := fun _ => H2) (.nd H1.nil H1.nil H1.nil (f H1.nil) H1.nil H1.nil H1.nil H1.nil H1.nil H1.nil H1.nil H1.nil H1.nil H1.nil H1.nil H1.nil) (fun c0 c1 c2 c3 c4 c5 c6 c7 c8 c9 c10 c11 c12 c13 c14 c15 => .nd c0 c1 c2 (f c3) c4 c5 c6 c7 c8 c9 c10 c11 c12 c13 c14 c15) t)
    (fun f t => H2.rec (motive := fun _ => H2) (.nd H1.nil H1.nil H1.nil H1.nil (f H1.nil) H1.nil H1.nil H1.nil H1.nil H1.nil H1.nil H1.nil H1.nil H1.nil H1.nil H1.nil) (fun c0 c1 c2 c3 c4 c5 c6 c7 c8 c9 c10 c11 c12 c13 c14 c15 => .nd c0 c1 c2 c3 (f c4) c5 c6 c7 c8 c9 c10 c11 c12 c13 c14 c15) t)
    (fun f t => H2.rec (motive := fun _ => H2) (.nd H1.nil H1.nil H1.nil H1.nil H1.nil (f H1.nil) H1.nil H1.nil H1.nil H1.nil H1.nil H1.nil H1.nil H1.nil H1.nil H1.nil) (fun c0 c1 c2 c3 c4 c5 c6 c7 c8 c9 c10 c11 c12 c13 c14 c15 => .nd c0 c1 c2 c3 c4 (f c5) c6 c7 c8 c9 c10 c11 c12 c13 c14 c15) t)
    (fun f t => H2.rec (motive := fun _ => H2) (.nd H1.nil H1.nil H1.nil H1.nil H1.nil H1.nil (f H1.nil) H1.nil H1.nil H1.nil H1.nil H1.nil H1.nil H1.nil H1.nil H1.nil) (fun c0 c1 c2 c3 c4 c5 c6 c7 c8 c9 c10 c11 c12 c13 c14 c15 => .nd c0 c1 c2 c3 c4 c5 (f c6) c7 c8 c9 c10 c11 c12 c13 c14 c15) t)
    (fun f t => H2.rec (motive := fun _ => H2) (.nd H1.nil H1.nil H1.nil H1.nil H1.nil H1.nil H1.nil (f H1.nil) H1.nil H1.nil H1.nil H1.nil H1.nil H1.nil H1.nil H1.nil) (fun c0 c1 c2 c3 c4 c5 c6 c7 c8 c9 c10 c11 c12 c13 c14 c15 => .nd c0 c1 c2 c3 c4 c5 c6 (f c7) c8 c9 c10 c11 c12 c13 c14 c15) t)
    (fun f t => H2.rec (motive := fun _ => H2) (.nd H1.nil H1.nil H1.nil H1.nil H1.nil H1.nil H1.nil H1.nil (f H1.nil) H1.nil H1.nil H1.nil H1.nil H1.nil H1.nil H1.nil) (fun c0 c1 c2 c3 c4 c5 c6 c7 c8 c9 c10 c11 c12 c13 c14 c15 => .nd c0 c1 c2 c3 c4 c5 c6 c7 (f c8) c9 c10 c11 c12 c13 c14 c15) t)
    (fun f t => H2.rec (motive := fun _ => H2) (.nd H1.nil H1.nil H1.nil H1.nil H1.nil H1.nil H1.nil H1.nil H1.nil (f H1.nil) H1.nil H1.nil H1.nil H1.nil H1.nil H1.nil) (fun c0 c1 c2 c3 c4 c5 c6 c7 c8 c9 c10 c11 c12 c13 c14 c15 => .nd c0 c1 c2 c3 c4 c5 c6 c7 c8 (f c9) c10 c11 c12 c13 c14 c15) t)
    (fun f t => H2.rec (motive := fun _ => H2) (.nd H1.nil H1.nil H1.nil H1.nil H1.nil H1.nil H1.nil H1.nil H1.nil H1.nil (f H1.nil) H1.nil H1.nil H1.nil H1.nil H1.nil) (fun c0 c1 c2 c3 c4 c5 c6 c7 c8 c9 c10 c11 c12 c13 c14 c15 => .nd c0 c1 c2 c3 c4 c5 c6 c7 c8 c9 (f c10) c11 c12 c13 c14 c15) t)
    (fun f t => H2.rec (motive := fun _ => H2) (.nd H1.nil H1.nil H1.nil H1.nil H1.nil H1.nil H1.nil H1.nil H1.nil H1.nil H1.nil (f H1.nil) H1.nil H1.nil H1.nil H1.nil) (fun c0 c1 c2 c3 c4 c5 c6 c7 c8 c9 c10 c11 c12 c13 c14 c15 => .nd c0 c1 c2 c3 c4 c5 c6 c7 c8 c9 c10 (f c11) c12 c13 c14 c15) t)
    (fun f t => H2.rec (motive := fun _ => H2) (.nd H1.nil H1.nil H1.nil H1.nil H1.nil H1.nil H1.nil H1.nil H1.nil H1.nil H1.nil H1.nil (f H1.nil) H1.nil H1.nil H1.nil) (fun c0 c1 c2 c3 c4 c5 c6 c7 c8 c9 c10 c11 c12 c13 c14 c15 => .nd c0 c1 c2 c3 c4 c5 c6 c7 c8 c9 c10 c11 (f c12) c13 c14 c15) t)
    (fun f t => H2.rec (motive := fun _ => H2) (.nd H1.nil H1.nil H1.nil H1.nil H1.nil H1.nil H1.nil H1.nil H1.nil H1.nil H1.nil H1.nil H1.nil (f H1.nil) H1.nil H1.nil) (fun c0 c1 c2 c3 c4 c5 c6 c7 c8 c9 c10 c11 c12 c13 c14 c15 => .nd c0 c1 c2 c3 c4 c5 c6 c7 c8 c9 c10 c11 c12 (f c13) c14 c15) t)
    (fun f t => H2.rec (motive := fun _ => H2) (.nd H1.nil H1.nil H1.nil H1.nil H1.nil H1.nil H1.nil H1.nil H1.nil H1.nil H1.nil H1.nil H1.nil H1.nil (f H1.nil) H1.nil) (fun c0 c1 c2 c3 c4 c5 c6 c7 c8 c9 c10 c11 c12 c13 c14 c15 => .nd c0 c1 c2 c3 c4 c5 c6 c7 c8 c9 c10 c11 c12 c13 (f c14) c15) t)
    (fun f t => H2.rec (motive := fun _ => H2) (.nd H1.nil H1.nil H1.nil H1.nil H1.nil H1.nil H1.nil H1.nil H1.nil H1.nil H1.nil H1.nil H1.nil H1.nil H1.nil (f H1.nil)) (fun c0 c1 c2 c3 c4 c5 c6 c7 c8 c9 c10 c11 c12 c13 c14 c15 => .nd c0 c1 c2 c3 c4 c5 c6 c7 c8 c9 c10 c11 c12 c13 c14 (f c15)) t) d f t
inductive H3 where
  | nil
  | nd (c0 c1 c2 c3 c4 c5 c6 c7 c8 c9 c10 c11 c12 c13 c14 c15 : H2)
def H3.get (d : Dg) (t : H3) : H2 :=
  Dg.rec (motive := fun _ => H3 → H2)
    (fun t => H3.rec (motive := fun _ => H2) H2.nil (fun c0 _ _ _ _ _ _ _ _ _ _ _ _ _ _ _ => c0) t)
    (fun t => H3.rec (motive := fun _ => H2) H2.nil (fun _ c1 _ _ _ _ _ _ _ _ _ _ _ _ _ _ => c1) t)
    (fun t => H3.rec (motive := fun _ => H2) H2.nil (fun _ _ c2 _ _ _ _ _ _ _ _ _ _ _ _ _ => c2) t)
    (fun t => H3.rec (motive := fun _ => H2) H2.nil (fun _ _ _ c3 _ _ _ _ _ _ _ _ _ _ _ _ => c3) t)
    (fun t => H3.rec (motive := fun _ => H2) H2.nil (fun _ _ _ _ c4 _ _ _ _ _ _ _ _ _ _ _ => c4) t)
    (fun t => H3.rec (motive := fun _ => H2) H2.nil (fun _ _ _ _ _ c5 _ _ _ _ _ _ _ _ _ _ => c5) t)
    (fun t => H3.rec (motive := fun _ => H2) H2.nil (fun _ _ _ _ _ _ c6 _ _ _ _ _ _ _ _ _ => c6) t)
    (fun t => H3.rec (motive := fun _ => H2) H2.nil (fun _ _ _ _ _ _ _ c7 _ _ _ _ _ _ _ _ => c7) t)
    (fun t => H3.rec (motive := fun _ => H2) H2.nil (fun _ _ _ _ _ _ _ _ c8 _ _ _ _ _ _ _ => c8) t)
    (fun t => H3.rec (motive := fun _ => H2) H2.nil (fun _ _ _ _ _ _ _ _ _ c9 _ _ _ _ _ _ => c9) t)
    (fun t => H3.rec (motive := fun _ => H2) H2.nil (fun _ _ _ _ _ _ _ _ _ _ c10 _ _ _ _ _ => c10) t)
    (fun t => H3.rec (motive := fun _ => H2) H2.nil (fun _ _ _ _ _ _ _ _ _ _ _ c11 _ _ _ _ => c11) t)
    (fun t => H3.rec (motive := fun _ => H2) H2.nil (fun _ _ _ _ _ _ _ _ _ _ _ _ c12 _ _ _ => c12) t)
    (fun t => H3.rec (motive := fun _ => H2) H2.nil (fun _ _ _ _ _ _ _ _ _ _ _ _ _ c13 _ _ => c13) t)
    (fun t => H3.rec (motive := fun _ => H2) H2.nil (fun _ _ _ _ _ _ _ _ _ _ _ _ _ _ c14 _ => c14) t)
    (fun t => H3.rec (motive := fun _ => H2) H2.nil (fun _ _ _ _ _ _ _ _ _ _ _ _ _ _ _ c15 => c15) t) d t
def H3.upd (f : H2 → H2) (d : Dg) (t : H3) : H3 :=
  Dg.rec (motive := fun _ => (H2 → H2) → H3 → H3)
    (fun f t => H3.rec (motive := fun _ => H3) (.nd (f H2.nil) H2.nil H2.nil H2.nil H2.nil H2.nil H2.nil H2.nil H2.nil H2.nil H2.nil H2.nil H2.nil H2.nil H2.nil H2.nil) (fun c0 c1 c2 c3 c4 c5 c6 c7 c8 c9 c10 c11 c12 c13 c14 c15 => .nd (f c0) c1 c2 c3 c4 c5 c6 c7 c8 c9 c10 c11 c12 c13 c14 c15) t)
    (fun f t => H3.rec (motive := fun _ => H3) (.nd H2.nil (f H2.nil) H2.nil H2.nil H2.nil H2.nil H2.nil H2.nil H2.nil H2.nil H2.nil H2.nil H2.nil H2.nil H2.nil H2.nil) (fun c0 c1 c2 c3 c4 c5 c6 c7 c8 c9 c10 c11 c12 c13 c14 c15 => .nd c0 (f c1) c2 c3 c4 c5 c6 c7 c8 c9 c10 c11 c12 c13 c14 c15) t)
    (fun f t => H3.rec (motive := fun _ => H3) (.nd H2.nil H2.nil (f H2.nil) H2.nil H2.nil H2.nil H2.nil H2.nil H2.nil H2.nil H2.nil H2.nil H2.nil H2.nil H2.nil H2.nil) (fun c0 c1 c2 c3 c4 c5 c6 c7 c8 c9 c10 c11 c12 c13 c14 c15 => .nd c0 c1 (f c2) c3 c4 c5 c6 c7 c8 c9 c10 c11 c12 c13 c14 c15) t)
    (fun f t => H3.rec (motive := fun _ => H3) (.nd H2.nil H2.nil H2.nil (f H2.nil) H2.nil H2.nil H2.nil H2.nil H2.nil H2.nil H2.nil H2.nil H2.nil H2.nil H2.nil H2.nil) (fun c0 c1 c2 c3 c4 c5 c6 c7 c8 c9 c10 c11 c12 c13 c14 c15 => .nd c0 c1 c2 (f c3) c4 c5 c6 c7 c8 c9 c10 c11 c12 c13 c14 c15) t)
    (fun f t => H3.rec (motive := fun _ => H3) (.nd H2.nil H2.nil H2.nil H2.nil (f H2.nil) H2.nil H2.nil H2.nil H2.nil H2.nil H2.nil H2.nil H2.nil H2.nil H2.nil H2.nil) (fun c0 c1 c2 c3 c4 c5 c6 c7 c8 c9 c10 c11 c12 c13 c14 c15 => .nd c0 c1 c2 c3 (f c4) c5 c6 c7 c8 c9 c10 c11 c12 c13 c14 c15) t)
    (fun f t => H3.rec (motive := fun _ => H3) (.nd H2.nil H2.nil H2.nil H2.nil H2.nil (f H2.nil) H2.nil H2.nil H2.nil H2.nil H2.nil H2.nil H2.nil H2.nil H2.nil H2.nil) (fun c0 c1 c2 c3 c4 c5 c6 c7 c8 c9 c10 c11 c12 c13 c14 c15 => .nd c0 c1 c2 c3 c4 (f c5) c6 c7 c8 c9 c10 c11 c12 c13 c14 c15) t)
    (fun f t => H3.rec (motive := fun _ => H3) (.nd H2.nil H2.nil H2.nil H2.nil H2.nil H2.nil (f H2.nil) H2.nil H2.nil H2.nil H2.nil H2.nil H2.nil H2.nil H2.nil H2.nil) (fun c0 c1 c2 c3 c4 c5 c6 c7 c8 c9 c10 c11 c12 c13 c14 c15 => .nd c0 c1 c2 c3 c4 c5 (f c6) c7 c8 c9 c10 c11 c12 c13 c14 c15) t)
    (fun f t => H3.rec (motive := fun _ => H3) (.nd H2.nil H2.nil H2.nil H2.nil H2.nil H2.nil H2.nil (f H2.nil) H2.nil H2.nil H2.nil H2.nil H2.nil H2.nil H2.nil H2.nil) (fun c0 c1 c2 c3 c4 c5 c6 c7 c8 c9 c10 c11 c12 c13 c14 c15 => .nd c0 c1 c2 c3 c4 c5 c6 (f c7) c8 c9 c10 c11 c12 c13 c14 c15) t)
    (fun f t => H3.rec (motive := fun _ => H3) (.nd H2.nil H2.nil H2.nil H2.nil H2.nil H2.nil H2.nil H2.nil (f H2.nil) H2.nil H2.nil H2.nil H2.nil H2.nil H2.nil H2.nil) (fun c0 c1 c2 c3 c4 c5 c6 c7 c8 c9 c10 c11 c12 c13 c14 c15 => .nd c0 c1 c2 c3 c4 c5 c6 c7 (f c8) c9 c10 c11 c12 c13 c14 c15) t)
    (fun f t => H3.rec (motive := fun _ => H3) (.nd H2.nil H2.nil H2.nil H2.nil H2.nil H2.nil H2.nil H2.nil H2.nil (f H2.nil) H2.nil H2.nil H2.nil H2.nil H2.nil H2.nil) (fun c0 c1 c2 c3 c4 c5 c6 c7 c8 c9 c10 c11 c12 c13 c14 c15 => .nd c0 c1 c2 c3 c4 c5 c6 c7 c8 (f c9) c10 c11 c12 c13 c14 c15) t)
    (fun f t => H3.rec (motive := fun _ => H3) (.nd H2.nil H2.nil H2.nil H2.nil H2.nil H2.nil H2.nil H2.nil H2.nil H2.nil (f H2.nil) H2.nil H2.nil H2.nil H2.nil H2.nil) (fun c0 c1 c2 c3 c4 c5 c6 c7 c8 c9 c10 c11 c12 c13 c14 c15 => .nd c0 c1 c2 c3 c4 c5 c6 c7 c8 c9 (f c10) c11 c12 c13 c14 c15) t)
    (fun f t => H3.rec (motive := fun _ => H3) (.nd H2.nil H2.nil H2.nil H2.nil H2.nil H2.nil H2.nil H2.nil H2.nil H2.nil H2.nil (f H2.nil) H2.nil H2.nil H2.nil H2.nil) (fun c0 c1 c2 c3 c4 c5 c6 c7 c8 c9 c10 c11 c12 c13 c14 c15 => .nd c0 c1 c2 c3 c4 c5 c6 c7 c8 c9 c10 (f c11) c12 c13 c14 c15) t)
    (fun f t => H3.rec (motive := fun _ => H3) (.nd H2.nil H2.nil H2.nil H2.nil H2.nil H2.nil H2.nil H2.nil H2.nil H2.nil H2.nil H2.nil (f H2.nil) H2.nil H2.nil H2.nil) (fun c0 c1 c2 c3 c4 c5 c6 c7 c8 c9 c10 c11 c12 c13 c14 c15 => .nd c0 c1 c2 c3 c4 c5 c6 c7 c8 c9 c10 c11 (f c12) c13 c14 c15) t)
    (fun f t => H3.rec (motive := fun _ => H3) (.nd H2.nil H2.nil H2.nil H2.nil H2.nil H2.nil H2.nil H2.nil H2.nil H2.nil H2.nil H2.nil H2.nil (f H2.nil) H2.nil H2.nil) (fun c0 c1 c2 c3 c4 c5 c6 c7 c8 c9 c10 c11 c12 c13 c14 c15 => .nd c0 c1 c2 c3 c4 c5 c6 c7 c8 c9 c10 c11 c12 (f c13) c14 c15) t)
    (fun f t => H3.rec (motive := fun _ => H3) (.nd H2.nil H2.nil H2.nil H2.nil H2.nil H2.nil H2.nil H2.nil H2.nil H2.nil H2.nil H2.nil H2.nil H2.nil (f H2.nil) H2.nil) (fun c0 c1 c2 c3 c4 c5 c6 c7 c8 c9 c10 c11 c12 c13 c14 c15 => .nd c0 c1 c2 c3 c4 c5 c6 c7 c8 c9 c10 c11 c12 c13 (f c14) c15) t)
    (fun f t => H3.rec (motive := fun _ => H3) (.nd H2.nil H2.nil H2.nil H2.nil H2.nil H2.nil H2.nil H2.nil H2.nil H2.nil H2.nil H2.nil H2.nil H2.nil H2.nil (f H2.nil)) (fun c0 c1 c2 c3 c4 c5 c6 c7 c8 c9 c10 c11 c12 c13 c14 c15 => .nd c0 c1 c2 c3 c4 c5 c6 c7 c8 c9 c10 c11 c12 c13 c14 (f c15)) t) d f t
end
inductive Tm where
  | mk (s : LV) (w : L1)
def Tm.nil : Tm := .mk .nil .nil
abbrev Heap := H3
noncomputable section
def qK (p : Loc) (t : Tm) : CV :=
  Loc.rec (motive := fun _ => Tm → CV) (fun d t => Tm.rec (motive := fun _ => CV) (fun s _ => LV.get d s) t) (fun c d t => Tm.rec (motive := fun _ => CV) (fun _ w => LV.get d (L1.get c w)) t) p t
def kP (v : CV) (p : Loc) (t : Tm) : Tm :=
  Loc.rec (motive := fun _ => CV → Tm → Tm) (fun d v t => Tm.rec (motive := fun _ => Tm) (fun s w => .mk (LV.upd (fun _ => v) d s) w) t)
    (fun c d v t => Tm.rec (motive := fun _ => Tm) (fun s w => .mk s (L1.upd (LV.upd (fun _ => v) d) c w)) t) p v t
def yK (k : Key) (h : Heap) : Option CObj := Key.rec (motive := fun _ => Heap → Option CObj) (fun a b c d t => ((H3.get a t |>.get b).get c).get d) k h
def yv (o : Option CObj) (k : Key) (h : Heap) : Heap :=
  Key.rec (motive := fun _ => Option CObj → Heap → Heap) (fun a b c d o h => H3.upd (H2.upd (H1.upd (HV.upd (fun _ => o) d) c) b) a h) k o h
end
def yo {α β : Type} (f : α → Option β) : List α → Option (List β)
  | [] => some []
  | x :: xs => match f x with
    | none => none
    | some y => match yo f xs with
      | none => none
      | some ys => some (y :: ys)
def zm (s : ByteArray) : List Nat := s.data.toList.map UInt8.toNat
def vZ : Nat → Value → Option CV
  | 0, _ => none
  | d + 1, v => match v with
    | .bool b => some (.bool b)
    | .int k n => some (match k, n with | .i64, .ofNat m => .nat m | k, n => .int k n)
    | .string s => some (.str (zm s))
    | .pointer none => some .nilptr
    | .slice none 0 0 => some .nilsl
    | .map none => some .nilmap
    | .nilFunc => some .nilfunc
    | .func fn a b => if a.size = 0 ∧ b.size = 0 then some (.func fn [] []) else none
    | .nilIface => some .niliface
    | .iface t v => (vZ d v).map (.iface t)
    | .agg cs => (yo (vZ d) cs.toList).map .agg
    | .tuple cs => (yo (vZ d) cs.toList).map .tup
    | _ => none
def CV.cells : CV → List CV
  | .agg cs => cs
  | v => [v]
def CV.single : CV → Bool
  | .agg _ => false
  | .tup _ => false
  | .any => false
  | _ => true
noncomputable section
def y9 (l : List CV) : Bool := List.rec (motive := fun _ => Bool) true (fun v _ ih => Bool.rec (motive := fun _ => Bool) false ih v.single) l
def ui (l : List CV) : Nat := List.rec (motive := fun _ => Nat) 0 (fun _ _ ih => Nat.succ ih) l
def zAZ (l : List Nat) : Nat := List.rec (motive := fun _ => Nat) 0 (fun _ _ ih => Nat.succ ih) l
def zPk (l : List CE) : Nat := List.rec (motive := fun _ => Nat) 0 (fun _ _ ih => Nat.succ ih) l
end
def nth {α : Type} : List α → Nat → Option α
  | [], _ => none
  | x :: _, 0 => some x
  | _ :: xs, k + 1 => nth xs k
noncomputable section
def zD8 (l : List CV) (k : Nat) : Option CV :=
  List.rec (motive := fun _ => Nat → Option CV) (fun _ => none) (fun x _ ih k => Nat.rec (motive := fun _ => Option CV) (some x) (fun k _ => ih k) k) l k
def zO1 (l : List Nat) (k : Nat) : Option Nat :=
  List.rec (motive := fun _ => Nat → Option Nat) (fun _ => none) (fun x _ ih k => Nat.rec (motive := fun _ => Option Nat) (some x) (fun k _ => ih k) k) l k
def zK5 (l : List CV) (k : Nat) : List CV :=
  List.rec (motive := fun _ => Nat → List CV) (fun _ => []) (fun x xs ih k => Nat.rec (motive := fun _ => List CV) (x :: xs) (fun k _ => ih k) k) l k
def zKF (l : List Nat) (k : Nat) : List Nat :=
  List.rec (motive := fun _ => Nat → List Nat) (fun _ => []) (fun x xs ih k => Nat.rec (motive := fun _ => List Nat) (x :: xs) (fun k _ => ih k) k) l k
def zFC (x : CV) (r : Option (List CV)) : Option (List CV) := Option.rec (motive := fun _ => CV → Option (List CV)) (fun _ => none) (fun l x => some (x :: l)) r x
def zJ0 (x : Nat) (r : Option (List Nat)) : Option (List Nat) := Option.rec (motive := fun _ => Nat → Option (List Nat)) (fun _ => none) (fun l x => some (x :: l)) r x
def zKo (l : List CV) (k : Nat) : Option (List CV) :=
  List.rec (motive := fun _ => Nat → Option (List CV)) (fun k => Nat.rec (motive := fun _ => Option (List CV)) (some []) (fun _ _ => none) k)
    (fun x _ ih k => Nat.rec (motive := fun _ => Option (List CV)) (some []) (fun k _ => zFC x (ih k)) k) l k
def zHV (l : List Nat) (k : Nat) : Option (List Nat) :=
  List.rec (motive := fun _ => Nat → Option (List Nat)) (fun k => Nat.rec (motive := fun _ => Option (List Nat)) (some []) (fun _ _ => none) k)
    (fun x _ ih k => Nat.rec (motive := fun _ => Option (List Nat)) (some []) (fun k _ => zJ0 x (ih k)) k) l k
def uj (l : List CV) (off n : Nat) : Option (List CV) := zKo (zK5 l off) n
def zP6 (l : List Nat) (off n : Nat) : Option (List Nat) := zHV (zKF l off) n
def zCv (xs : List CV) (s : Nat) (l : List CV) : Option (List CV) :=
  List.rec (motive := fun _ => Nat → List CV → Option (List CV)) (fun s l => Nat.rec (motive := fun _ => Option (List CV)) (some l) (fun _ _ => none) s)
    (fun x _ ih s l => Nat.rec (motive := fun _ => Option (List CV)) none (fun s _ => List.rec (motive := fun _ => Option (List CV)) none (fun _ l _ => zFC x (ih s l)) l) s) xs s l
def qe (xs : List CV) (s : Nat) (l : List CV) (k : Nat) : Option (List CV) :=
  List.rec (motive := fun _ => Nat → List CV → Nat → Option (List CV)) (fun k xs s => Nat.rec (motive := fun _ => Option (List CV)) (zCv xs s []) (fun _ _ => none) k)
    (fun y l ih k xs s => Nat.rec (motive := fun _ => Option (List CV)) (zCv xs s (y :: l)) (fun k _ => zFC y (ih k xs s)) k) l k xs s
end
def ja (x : List CV) : Nat → List CV
  | 0 => []
  | n + 1 => x ++ ja x n
noncomputable section
def wa {β : Type} (n : Nat) (k : Nat → β) : β := Nat.rec (motive := fun _ => (Nat → β) → β) (fun k => k 0) (fun m _ k => k (Nat.succ m)) n k
def qq (n : Nat) : CV := Nat.rec (motive := fun _ => CV) (.nat 0) (fun m _ => .nat (Nat.succ m)) n
def ql (k : IntKind) (n : Nat) : CV := IntKind.rec (motive := fun _ => Nat → CV) (fun n => .int .i8 (.ofNat n)) (fun n => .int .i16 (.ofNat n)) (fun n => .int .i32 (.ofNat n)) qq
  (fun n => .int .u8 (.ofNat n)) (fun n => .int .u16 (.ofNat n)) (fun n => .int .u32 (.ofNat n)) (fun n => .int .u64 (.ofNat n)) k n
def mkInt (k : IntKind) (n : Int) : CV :=
  Int.rec (motive := fun _ => IntKind → CV) (fun m k => Nat.rec (motive := fun _ => CV) (ql k 0) (fun m _ => ql k (Nat.succ m)) m)
    (fun m k => Nat.rec (motive := fun _ => CV) (.int k (.negSucc 0)) (fun m _ => .int k (.negSucc (Nat.succ m))) m) n k
def kNo (k : IntKind) : Nat := IntKind.rec (motive := fun _ => Nat) 0 1 2 3 4 5 6 7 k
def kEq (j k : IntKind) : Bool := Nat.beq (kNo j) (kNo k)
def zKv (n : Int) : Int :=
  Int.rec (motive := fun _ => Int) (fun m => Bool.rec (motive := fun _ => Int) (IntKind.i64.wrap (.ofNat m)) (.ofNat m) (Nat.ble m 9223372036854775807))
    (fun m => Bool.rec (motive := fun _ => Int) (IntKind.i64.wrap (.negSucc m)) (.negSucc m) (Nat.ble m 9223372036854775807)) n
def zQm (n : Int) : Int := Int.rec (motive := fun _ => Int) (fun m => .ofNat (Nat.mod m 256)) (fun m => IntKind.u8.wrap (.negSucc m)) n
def yZ (k : IntKind) (n : Int) : Int :=
  IntKind.rec (motive := fun _ => Int → Int) IntKind.i8.wrap IntKind.i16.wrap IntKind.i32.wrap zKv zQm IntKind.u16.wrap IntKind.u32.wrap IntKind.u64.wrap k n
def yy (a b : Int) : Bool :=
  Int.rec (motive := fun _ => Int → Bool) (fun a b => Int.rec (motive := fun _ => Bool) (fun b => Nat.beq a b) (fun _ => false) b)
    (fun a b => Int.rec (motive := fun _ => Bool) (fun _ => false) (fun b => Nat.beq a b) b) a b
def kY (a b : Int) : Bool :=
  Int.rec (motive := fun _ => Int → Bool) (fun a b => Int.rec (motive := fun _ => Bool) (fun b => Nat.ble (Nat.succ a) b) (fun _ => false) b)
    (fun a b => Int.rec (motive := fun _ => Bool) (fun _ => true) (fun b => Nat.ble (Nat.succ b) a) b) a b
def toU (k : IntKind) (n : Int) : Nat := match n with
  | .ofNat m => Nat.mod m (Nat.pow 2 k.bits)
  | .negSucc m => Nat.sub (Nat.sub (Nat.pow 2 k.bits) 1) (Nat.mod m (Nat.pow 2 k.bits))
def zBc (b : Bool) : Bool := Bool.rec (motive := fun _ => Bool) true false b
abbrev AOp := IntKind → Int → Int → Option CV
def zRp : AOp := fun k a b => some (mkInt k (yZ k (Int.add a b)))
def zQU : AOp := fun k a b => some (mkInt k (yZ k (Int.sub a b)))
def zQW : AOp := fun k a b => some (mkInt k (yZ k (Int.mul a b)))
def zRs : AOp := fun k a b => Bool.rec (motive := fun _ => Option CV) (some (mkInt k (yZ k (a.tdiv b)))) none (yy b (.ofNat 0))
def zRo : AOp := fun k a b => Bool.rec (motive := fun _ => Option CV) (some (mkInt k (a.tmod b))) none (yy b (.ofNat 0))
def zRa : AOp := fun k a b => some (mkInt k (yZ k (.ofNat (Nat.land (toU k a) (toU k b)))))
def aOr : AOp := fun k a b => some (mkInt k (yZ k (.ofNat (Nat.lor (toU k a) (toU k b)))))
def zQc : AOp := fun k a b => some (mkInt k (yZ k (.ofNat (Nat.xor (toU k a) (toU k b)))))
def zOZ : AOp := fun k a b => some (mkInt k (yZ k (.ofNat (Nat.land (toU k a) (Nat.sub (Nat.sub (Nat.pow 2 k.bits) 1) (toU k b))))))
def zQ7 : AOp := fun _ a b => some (.bool (yy a b))
def zQ9 : AOp := fun _ a b => some (.bool (zBc (yy a b)))
def zQR : AOp := fun _ a b => some (.bool (kY a b))
def zRt : AOp := fun _ a b => some (.bool (zBc (kY b a)))
def zQ1 : AOp := fun _ a b => some (.bool (kY b a))
def zRq : AOp := fun _ a b => some (.bool (zBc (kY a b)))
def zRe : AOp := fun k a b => match b with
  | .ofNat m => some (mkInt k (yZ k (Int.mul a (.ofNat (Nat.pow 2 (min m k.bits))))))
  | .negSucc _ => none
def zQV : AOp := fun k a b => match b with
  | .ofNat m => match a with
    | .ofNat a => some (ql k (Nat.div a (Nat.pow 2 (min m k.bits))))
    | .negSucc a => some (mkInt k ((Int.negSucc a).fdiv (.ofNat (Nat.pow 2 (min m k.bits)))))
  | .negSucc _ => none
def yH (op : BinOp) : AOp :=
  BinOp.rec (motive := fun _ => AOp) zRp zQU zQW zRs zRo zRa aOr zQc zRe zQV zOZ zQ7 zQ9 zQR zRt zQ1 zRq op
def yn (op : BinOp) : Bool := match op with
  | .shl => true
  | .shr => true
  | _ => false
abbrev NOp := Nat → Nat → Option CV
def okN (n : Nat) : Option CV := Bool.rec (motive := fun _ => Option CV) none (some (qq n)) (Nat.ble n 9223372036854775807)
def zRr : NOp := fun a b => okN (Nat.add a b)
def zRb : NOp := fun a b => Bool.rec (motive := fun _ => Option CV) none (Bool.rec (motive := fun _ => Option CV) none (some (qq (Nat.sub a b))) (Nat.ble a 9223372036854775807)) (Nat.ble b a)
def zQ5 : NOp := fun a b => okN (Nat.mul a b)
def nNo : NOp := fun _ _ => none
def zQ3 : NOp := fun a b => Bool.rec (motive := fun _ => Option CV) none (Bool.rec (motive := fun _ => Option CV) none (some (qq (Nat.land a b))) (Nat.ble b 9223372036854775807)) (Nat.ble a 9223372036854775807)
def zRi : NOp := fun a b => some (.bool (Nat.beq a b))
def zRg : NOp := fun a b => some (.bool (zBc (Nat.beq a b)))
def zQ8 : NOp := fun a b => some (.bool (Nat.ble (Nat.succ a) b))
def zRl : NOp := fun a b => some (.bool (Nat.ble a b))
def zRn : NOp := fun a b => some (.bool (Nat.ble (Nat.succ b) a))
def zQY : NOp := fun a b => some (.bool (Nat.ble b a))
def zFh (op : BinOp) : NOp := BinOp.rec (motive := fun _ => NOp) zRr zRb zQ5 nNo nNo zQ3 nNo nNo nNo nNo nNo zRi zRg zQ8 zRl zRn zQY op
def ve (a b : List Nat) : Bool :=
  List.rec (motive := fun _ => List Nat → Bool) (fun b => List.rec (motive := fun _ => Bool) false (fun _ _ _ => true) b)
    (fun x _ ih b => List.rec (motive := fun _ => Bool) false (fun y r _ => Bool.rec (motive := fun _ => Bool) (Bool.rec (motive := fun _ => Bool) false (ih r) (Nat.beq x y)) true (Nat.ble (Nat.succ x) y)) b) a b
def xw (a b : List Nat) : Bool :=
  List.rec (motive := fun _ => List Nat → Bool) (fun b => List.rec (motive := fun _ => Bool) true (fun _ _ _ => false) b)
    (fun x _ ih b => List.rec (motive := fun _ => Bool) false (fun y r _ => Bool.rec (motive := fun _ => Bool) false (ih r) (Nat.beq x y)) b) a b
def zQg (a b : List Nat) : List Nat := List.rec (motive := fun _ => List Nat) b (fun x _ ih => x :: ih) a
def zB9 (a b : List CV) : List CV := List.rec (motive := fun _ => List CV) b (fun x _ ih => x :: ih) a
abbrev SOp := List Nat → List Nat → Option CV
def zRu : SOp := fun a b => Bool.rec (motive := fun _ => Option CV) none (some (.str (zQg a b))) (Nat.ble (Nat.add (zAZ a) (zAZ b)) 1000000)
def zRf : SOp := fun a b => some (.bool (xw a b))
def zRd : SOp := fun a b => some (.bool (zBc (xw a b)))
def zRj : SOp := fun a b => some (.bool (ve a b))
def zQ0 : SOp := fun a b => some (.bool (ve a b || xw a b))
def zRh : SOp := fun a b => some (.bool (zBc (ve a b || xw a b)))
def zRk : SOp := fun a b => some (.bool (zBc (ve a b)))
def zEI : SOp := fun _ _ => none
def zPp (op : BinOp) : SOp := BinOp.rec (motive := fun _ => SOp) zRu zEI zEI zEI zEI zEI zEI zEI zEI zEI zEI zRf zRd zRj zQ0 zRh zRk op
end
inductive zR where
  | e (i : Nat)
  | l (p : Loc)
  | k (v : CV)
structure zG9 where
  off : Nat
  size : Nat
  arg : zR
inductive EqK where
  | bool | pointer | iface | slice | map | func | int | str
  | struct (fs : List (Nat × EqK))
inductive ke where
  | int | str | bool
  | ints (n : Nat)
inductive Ext where
  | count | indexByte | index | mapsClone | overlaps | cmp
inductive COp where
  | mv (x : zR)
  | pick (c a b : zR)
  | alloc (cs : List CV)
  | box (x : zR)
  | build (zero : List CV) (ps : List zG9)
  | bslice (zero : List CV) (len esz : Nat) (ps : List zG9)
  | load1 (x : zR)
  | loadN (s : Nat) (x : zR)
  | store (s : Nat) (a x : zR)
  | nilck (x : zR)
  | arith (op : BinOp) (x y : zR)
  | eq (neg : Bool) (k : EqK) (cst : Bool) (x y : zR)
  | un (op : UnOp) (x : zR)
  | cvInt (k : IntKind) (x : zR)
  | cvStr (x : zR)
  | cvSB (x : zR)
  | cvMark (x : zR)
  | cvBS (x : zR)
  | iface (t : TypeId) (x : zR)
  | mkfn (fn : Fn) (first captured : List zR)
  | mkmap
  | mkslice (zero : List CV) (esz bytes : Nat) (l c : zR)
  | slArr (len esz : Nat) (x : zR) (lo hi mx : Option zR)
  | slSl (esz : Nat) (x : zR) (lo hi mx : Option zR)
  | slStr (x : zR) (lo hi : Option zR)
  | addOff (k : Nat) (x : zR)
  | part (agg : Bool) (off size : Nat) (x : zR)
  | ixArr (len esz : Nat) (x i : zR)
  | ixSl (esz : Nat) (x i : zR)
  | ixAgg (len esz : Nat) (agg : Bool) (x i : zR)
  | ixStr (x i : zR)
  | lookup (kk : ke) (z : CV) (ok : Bool) (x k : zR)
  | mapupd (kk : ke) (m k v : zR)
  | rangeStr (x : zR)
  | rangeMap (x : zR)
  | next (s : Bool) (x : zR)
  | entry (x : zR)
  | tassert (t : TypeId) (z : Option CV) (ok : Bool) (x : zR)
  | tiface (t : TypeId) (z : Option CV) (ok : Bool) (x : zR)
  | extract (i : Nat) (x : zR)
  | call (f : FuncId) (args : List zR)
  | ext (e : Ext) (args : List zR)
  | callv (f : zR) (args : List zR)
  | invoke (recv : zR) (name : String) (args : List zR)
  | append (esz bytes : Nat) (s x : zR)
  | appz (zero : List CV) (esz : Nat) (s x : zR)
  | copy (esz : Nat) (d x : zR)
  | lenStr (x : zR)
  | lenSl (x : zR)
  | lenMap (x : zR)
  | capSl (x : zR)
  | delete (kk : ke) (m k : zR)
  | clearMap (x : zR)
  | clearSl (zero : List CV) (esz : Nat) (x : zR)
  | minmax (mx : Bool) (x : zR) (r : List zR)
  | defer (f : zR) (args : List zR)
  | recov
  | bad (c : Nat)
inductive xx where
  | i (op : COp)
  | o (op : COp) (d : Loc)
  | g (x : zR) (w : Bool) (op : COp) (d : Option Loc)
structure zMa where
  ins : xx
  eff : Bool
  chk : Nat
inductive CCode where
  | skip
  | region (ops : List xx)
  | dregion (ops : List zMa)
  | seq (a b : CCode)
  | cond (x : zR) (a b : CCode)
  | block (id : Nat) (b : CCode)
  | loop (b : CCode)
  | exit (id : Nat)
  | ret
  | scope (b : CCode)
  | bad (c : Nat)
inductive CRes where
  | tmp (p : zR)
  | cell1 (p : zR)
  | cellN (p : zR) (s : Nat)
inductive CFn where
  | mk (body : CCode) (res : List CRes)
  | mkD (ops : List xx) (body : CCode) (res : List CRes)
  | ext (e : Ext)
  | bad (c : Nat)
section
variable (P : Program)
def und (t : TypeId) : Option TypeDesc := P.underlying t
def xV (t : TypeId) : Option Nat := (P.info? t).map (·.size)
def wl (t : TypeId) : Option Nat := (P.info? t).map (·.bytes)
def xg (t : TypeId) : Option Bool := match P.underlying t with
  | some (.struct _) => some true
  | some (.array _ _) => some true
  | some _ => some false
  | none => none
def kQ (t : TypeId) : Option CV := match (P.info? t).bind (·.zero) with
  | some v => vZ 20 v
  | none => none
def cellsOf (v : CV) : Option (List CV) := match v with
  | .agg cs => some cs
  | .tup _ => none
  | .any => none
  | v => some [v]
def qc (t : TypeId) : Option (List CV) := (kQ P t).bind cellsOf
def qm (fs : List Field) : Bool := match fs with
  | [] => true
  | f :: r => (xV P f.type).isSome && qm r
def y6 (t : Nat) : List (Option Nat) → Nat → Option Nat
  | [], _ => none
  | d :: r, i => match d with
    | some u => match Nat.beq u t with
      | true => some i
      | false => y6 t r (i + 1)
    | none => y6 t r (i + 1)
structure Env where
  F : Nat
  N : Nat
  ds : List (Option Nat)
def zn (F t : Nat) : Bool := Nat.beq (Nat.mod (Nat.shiftRight F t) 2) 1
def zb (E : Env) : Operand → Option zR
  | .tmp t => match y6 t E.ds 0 with
    | some i => some (.e i)
    | none => match zn E.F t && Nat.ble t 271 && Nat.ble (Nat.succ t) E.N with
      | true => some (.l (Loc.ofNat t))
      | false => none
  | .const v => (vZ 20 v).map .k
  | .global g => match Nat.ble (Nat.succ g) P.globals.size && Nat.ble g 4095 with
    | true => some (.k (.ptr (Key.ofNat g) 0))
    | false => none
  | .func f => some (.k (.func (.func f) [] []))
variable (E : Env)
def yz (f : zR → COp) (x : Operand) : COp := match zb P E x with
  | some x => f x
  | none => .bad 1
def qR (f : zR → zR → COp) (x y : Operand) : COp := match zb P E x, zb P E y with
  | some x, some y => f x y
  | _, _ => .bad 1
def wT (place : Nat → Option (Nat × Nat)) (l : List (Nat × Operand)) : Option (List zG9) :=
  yo (fun (i, x) => match place i, zb P E x with
    | some (o, s), some x => some ⟨o, s, x⟩
    | _, _ => none) l
def uA (fs : List Field) (i : Nat) : Option (Nat × Nat) := match nth fs i with
  | none => none
  | some f => match xV P f.type with
    | none => none
    | some s => some (f.offset, s)
def kG : List Field → Option (List (Nat × EqK))
  | [] => some []
  | f :: r => if f.name == "_" then none else
    match kG r with
    | none => none
    | some l => match und P f.type with
      | some .bool => some ((f.offset, .bool) :: l)
      | some (.int _) => some ((f.offset, .int) :: l)
      | some .string => some ((f.offset, .str) :: l)
      | _ => none
def zGW (t : TypeId) : Option EqK := match und P t with
  | some .bool => some .bool
  | some (.pointer _) => some .pointer
  | some (.interface _) => some .iface
  | some (.slice _) => some .slice
  | some (.map _ _) => some .map
  | some (.func _ _ _) => some .func
  | some (.struct fs) => if P.eqGuardType P.depth t || P.stoodInHeld t then none else (kG P fs.toList).map .struct
  | _ => none
def zDx : List Field → Nat → Bool
  | [], _ => true
  | f :: r, i => !(f.name == "_") && Nat.beq f.offset i && (match und P f.type with
    | some (.int _) => true
    | _ => false) && zDx r (i + 1)
def xU (t : TypeId) : Option ke := match und P t with
  | some (.int _) => some .int
  | some .string => some .str
  | some .bool => some .bool
  | some (.struct fs) => if P.stoodInHeld t then none else if zDx P fs.toList 0 then some (.ints fs.size) else none
  | _ => none
def xX : Operand → Bool
  | .const _ => true
  | _ => false
def zKg (op : BinOp) (t : TypeId) (x y : Operand) : COp := match und P t with
  | some (.int _) => qR P E (.arith op) x y
  | some .string => qR P E (.arith op) x y
  | _ => match op, zGW P t with
    | .eql, some k => qR P E (.eq false k (xX x || xX y)) x y
    | .neq, some k => qR P E (.eq true k (xX x || xX y)) x y
    | _, _ => .bad 2
def zIC (s d : TypeId) (x : Operand) : COp := match und P s, und P d with
  | some (.int _), some (.int k) => yz P E (.cvInt k) x
  | some .string, some .string => yz P E .cvStr x
  | some .string, some (.slice e) => match und P e with
    | some (.int .u8) => yz P E .cvSB x
    | _ => .bad 3
  | some (.slice _), some (.slice e) => match Nat.beq s d, und P e with
    | true, some (.int .u8) => yz P E .cvMark x
    | _, _ => .bad 3
  | some (.slice e), some .string => match und P e with
    | some (.int .u8) => yz P E .cvBS x
    | _ => .bad 3
  | _, _ => .bad 3
def xu (l : List Operand) : Option (List zR) := yo (zb P E) l
def xc (b : Builtin) (ts : List TypeId) (args : List Operand) : COp := match b, ts, args with
  | .append, t :: u :: _, [s, x] => match und P t, und P u with
    | some (.slice e), some ud => match ud with
      | .int _ => match xV P e, wl P e, qc P e with
        | some (sz + 1), some b, some z => if Nat.ble b 100000 && Nat.beq z.length (sz + 1) then qR P E (.appz z (sz + 1)) s x else .bad 4
        | _, _, _ => .bad 4
      | _ => match xV P e, wl P e, qc P e with
        | some (sz + 1), some b, some z => if Nat.ble b 100000 && Nat.beq z.length (sz + 1) then qR P E (.append (sz + 1) b) s x else .bad 4
        | _, _, _ => .bad 4
    | _, _ => .bad 4
  | .copy, t :: _, [d, x] => match und P t with
    | some (.slice e) => match xV P e with
      | some s => qR P E (.copy s) d x
      | none => .bad 5
    | _ => .bad 5
  | .len, t :: _, [x] => match und P t with
    | some .string => yz P E .lenStr x
    | some (.array k _) => .mv (.k (.nat k))
    | some (.pointer a) => match und P a with
      | some (.array k _) => .mv (.k (.nat k))
      | _ => .bad 6
    | some (.slice _) => yz P E .lenSl x
    | some (.map _ _) => yz P E .lenMap x
    | _ => .bad 6
  | .cap, t :: _, [x] => match und P t with
    | some (.slice _) => yz P E .capSl x
    | some (.array k _) => .mv (.k (.nat k))
    | _ => .bad 7
  | .delete, t :: _, [m, k] => match und P t with
    | some (.map kt _) => match xU P kt with
      | some kk => qR P E (.delete kk) m k
      | none => .bad 8
    | _ => .bad 8
  | .clear, t :: _, [x] => match und P t with
    | some (.map _ _) => yz P E .clearMap x
    | some (.slice e) => match qc P e, xV P e with
      | some z, some s => yz P E (.clearSl z s) x
      | _, _ => .bad 9
    | _ => .bad 9
  | .min, _, x :: r => match zb P E x, xu P E r with
    | some x, some r => .minmax false x r
    | _, _ => .bad 10
  | .max, _, x :: r => match zb P E x, xu P E r with
    | some x, some r => .minmax true x r
    | _, _ => .bad 10
  | .recover, _, [] => .recov
  | _, _, _ => .bad 11
def zQ6 (a b : String) : String := String.append (String.append a (String.singleton (Char.ofNat 47))) b
def zFk (s : String) : String := zQ6 "internal" s
def zIa (n : String) : Bool := (Extern.allNextRows.lookup n).isNone && (Extern.allGenericRows.lookup n).isNone && (Extern.allTypedRows.lookup n).isNone && (Extern.allRows.lookup n).isNone
def zAa (fn : Func) : Bool := (!(fn.name == "runtime.NumGoroutine") && zIa fn.name) && match fn.params.toList with
  | t :: _ => match und P t with
    | some (.slice e) => (xV P e).isSome
    | _ => false
  | [] => false
def zBi (fn : Func) : Option Ext :=
  if fn.origin == "" then
    if fn.name == zFk "bytealg.CountString" then some .count
    else if fn.name == zFk "bytealg.IndexByteString" then some .indexByte
    else if fn.name == zFk "bytealg.abigen_runtime_cmpstring" then some .cmp
    else if fn.name == "maps.clone" then some .mapsClone
    else none
  else if fn.origin == "slices.overlaps" && zAa P fn then some .overlaps
  else none
def zDb (c : Call) : COp := match c.callee with
  | .builtin b => xc P E b c.argTypes.toList c.args.toList
  | .invoke r name => match zb P E r, xu P E c.args.toList with
    | some r, some args => .invoke r name args
    | _, _ => .bad 13
  | .value f => match xu P E c.args.toList with
    | none => .bad 12
    | some args => match f with
      | .func f => match nth P.funcs.toList f with
        | none => .bad (10000 + f)
        | some fn => if fn.body.isSome then .call f args else match zBi P fn with
          | some e => .ext e args
          | none => .bad (10000 + f)
      | f => match zb P E f with
        | some f => .callv f args
        | none => .bad 14
def zHp (y : Option Operand) : Option (Option zR) := match y with
  | none => some none
  | some y => (zb P E y).map some
def zE7 (t : TypeId) (x : Operand) (lo hi mx : Option Operand) : COp :=
  if mx.isSome && hi.isNone then .bad 15 else match zb P E x, zHp P E lo, zHp P E hi, zHp P E mx with
  | some x, some lo, some hi, some mx => match und P t with
    | some (.array k e) => match xV P e with
      | some (s + 1) => .slArr k (s + 1) x lo hi mx
      | _ => .bad 15
    | some (.slice e) => match xV P e with
      | some (s + 1) => .slSl (s + 1) x lo hi mx
      | _ => .bad 15
    | some .string => match mx with
      | none => .slStr x lo hi
      | some _ => .bad 15
    | _ => .bad 15
  | _, _, _, _ => .bad 15
def za (o : Op) : COp := match o with
  | .move x => yz P E .mv x
  | .assign x => yz P E .mv x
  | .pick c a b => match zb P E c, zb P E a, zb P E b with
    | some c, some a, some b => .pick c a b
    | _, _, _ => .bad 20
  | .alloc t => match qc P t with
    | some z => .alloc z
    | none => .bad 21
  | .box _ x => yz P E .box x
  | .build t ps => match qc P t, und P t with
    | some z, some (.struct fs) => if qm P fs.toList then
        match wT P E (uA P fs.toList) ps.toList with
        | some l => .build z l
        | none => .bad 22
      else .bad 22
    | some z, some (.array _ e) => match xV P e with
      | none => .bad 22
      | some s => match wT P E (fun i => some (i * s, s)) ps.toList with
        | some l => .build z l
        | none => .bad 22
    | _, _ => .bad 22
  | .buildSlice t len ps => match und P t with
    | some (.slice e) => match xV P e, qc P e with
      | some (s + 1), some z => if Nat.ble (len * (s + 1)) 100000 && Nat.beq z.length (s + 1) then
          match wT P E (fun i => some (i * (s + 1), s + 1)) ps.toList with
          | some l => .bslice (ja z len) len (s + 1) l
          | none => .bad 23
        else .bad 23
      | _, _ => .bad 23
    | _ => .bad 23
  | .load t a => match xg P t, xV P t with
    | some true, some s => yz P E (.loadN s) a
    | some false, some _ => yz P E .load1 a
    | _, _ => .bad 24
  | .store t a x => match xV P t with
    | some s => qR P E (.store s) a x
    | none => .bad 25
  | .nilCheck x => yz P E .nilck x
  | .binOp op t x y _ => zKg P E op t x y
  | .unOp op _ x => yz P E (.un op) x
  | .convert s d x => zIC P E s d x
  | .makeInterface t x => match und P t with
    | some (.interface _) => .bad 26
    | some _ => yz P E (.iface t) x
    | none => .bad 26
  | .makeFunc fn a b => match xu P E a.toList, xu P E b.toList with
    | some a, some b => .mkfn fn a b
    | _, _ => .bad 27
  | .makeMap t r => match und P t, r with
    | some (.map _ _), none => .mkmap
    | some (.map _ _), some (.const (.int _ _)) => .mkmap
    | _, _ => .bad 28
  | .makeSlice t l c => match und P t with
    | some (.slice e) => match xV P e, qc P e, wl P e with
      | some (s + 1), some z, some b => if Nat.beq z.length (s + 1) then qR P E (.mkslice z (s + 1) b) l c else .bad 29
      | _, _, _ => .bad 29
    | _ => .bad 29
  | .slice t x lo hi mx => zE7 P E t x lo hi mx
  | .fieldAddr t x f => match und P t with
    | some (.struct fs) => match nth fs.toList f with
      | some fd => match xV P fd.type with
        | some (_ + 1) => yz P E (.addOff fd.offset) x
        | _ => .bad 30
      | none => .bad 30
    | _ => .bad 30
  | .field t x f => match und P t with
    | some (.struct fs) => match nth fs.toList f with
      | some fd => match xg P fd.type, xV P fd.type with
        | some a, some s => yz P E (.part a fd.offset s) x
        | _, _ => .bad 31
      | none => .bad 31
    | _ => .bad 31
  | .indexAddr t x i => match und P t with
    | some (.array len e) => match xV P e with
      | some s => qR P E (.ixArr len s) x i
      | none => .bad 32
    | some (.slice e) => match xV P e with
      | some s => qR P E (.ixSl s) x i
      | none => .bad 32
    | _ => .bad 32
  | .index t x i => match und P t with
    | some (.array len e) => match xV P e, xg P e with
      | some s, some a => qR P E (.ixAgg len s a) x i
      | _, _ => .bad 33
    | some .string => qR P E .ixStr x i
    | _ => .bad 33
  | .lookup t x i ok => match und P t with
    | some (.map kt et) => match xU P kt, kQ P et with
      | some kk, some z => qR P E (.lookup kk z ok) x i
      | _, _ => .bad 34
    | _ => .bad 34
  | .mapUpdate t m k x => match und P t with
    | some (.map kt _) => match xU P kt, zb P E m, zb P E k, zb P E x with
      | some kk, some m, some k, some x => .mapupd kk m k x
      | _, _, _, _ => .bad 35
    | _ => .bad 35
  | .insert t m k x => match und P t with
    | some (.map kt _) => match xU P kt, zb P E m, zb P E k, zb P E x with
      | some kk, some m, some k, some x => .mapupd kk m k x
      | _, _, _, _ => .bad 35
    | _ => .bad 35
  | .range t x => match und P t with
    | some .string => yz P E .rangeStr x
    | some (.map _ _) => yz P E .rangeMap x
    | _ => .bad 36
  | .next it s => yz P E (.next s) it
  | .entry it => yz P E .entry it
  | .typeAssert x _ t ok => match und P t with
    | some (.interface _) => yz P E (.tiface t (kQ P t) ok) x
    | some _ => yz P E (.tassert t (kQ P t) ok) x
    | none => .bad 37
  | .extract t i => yz P E (.extract i) t
  | .call c => zDb P E c
  | .defer c => match c.callee with
    | .value f => match zb P E f, xu P E c.args.toList with
      | some f, some args => .defer f args
      | _, _ => .bad 38
    | _ => .bad 38
  | _ => .bad 39
def xC (F N : Nat) (d : Option Nat) : Option (Option Loc) := match d with
  | none => some none
  | some t => match Nat.ble (Nat.succ t) N with
   | false => none
   | true => match zn F t with
    | false => some none
    | true => match Nat.ble t 271 with
      | true => some (some (Loc.ofNat t))
      | false => none
def wq (F N : Nat) (all : List Oper) (ds : List (Option Nat)) (o : Oper) : xx := match xC F N o.dst with
  | none => .i (.bad 40)
  | some d => match o.guard with
    | none => match d with
      | none => .i (za P ⟨F, N, ds⟩ o.op)
      | some d => .o (za P ⟨F, N, ds⟩ o.op) d
    | some (j, w) => match (nth all j).bind (·.dst) with
      | some t => match zb P ⟨F, N, ds⟩ (.tmp t) with
        | some x => .g x w (za P ⟨F, N, ds⟩ o.op) d
        | none => .i (.bad 41)
      | none => .i (.bad 42)
def qa (F N : Nat) (all : List Oper) : List (Option Nat) → List Oper → List xx
  | _, [] => []
  | ds, o :: r => wq P F N all ds o :: qa F N all (o.dst :: ds) r
def zCy (o : Op) : Bool := match o with
  | .call c => match c.callee with
    | .builtin .recover => true
    | _ => false
  | _ => false
def xp (o : Op) : Bool := match o with
  | .store .. => true
  | .mapUpdate .. => true
  | .insert .. => true
  | .next .. => true
  | .range .. => true
  | .defer _ => true
  | .convert s d _ => match und P s, und P d with
    | some (.slice _), some (.slice _) => true
    | _, _ => false
  | .call c => match c.callee with
    | .builtin b => match b with
      | .len => false
      | .cap => false
      | .min => false
      | .max => false
      | _ => true
    | _ => true
  | _ => false
def vm (acc : List Nat) : List Edge → Nat
  | [] => 0
  | e :: r => if Region.binds .any e then Nat.lor (Nat.lor (Nat.shiftLeft 1 e.on) ((nth acc e.on).getD 0)) (vm acc r) else vm acc r
def jz : List Nat → List Oper → List Nat
  | acc, [] => acc
  | acc, o :: r => jz (acc ++ [vm acc o.after.toList]) r
def zy (m : Nat) (done : List Nat) : List Nat → List Nat
  | [] => []
  | i :: r => if zn m i && !done.contains i then i :: zy m done r else zy m done r
def zFc (anc : List Nat) (all : List Nat) : List Nat → List Nat → List Nat
  | [], done => done ++ zy (Nat.sub (Nat.shiftLeft 1 all.length) 1) done all
  | e :: es, done => zFc anc all es (done ++ zy ((nth anc e).getD 0) done all ++ (if done.contains e then [] else [e]))
def zCz (m : Nat) : List Nat → Nat
  | [] => 0
  | e :: es => if zn m e then 0 else Nat.succ (zCz m es)
def zQd (p : Oper → Bool) : List Oper → Nat → List Nat
  | [], _ => []
  | o :: r, i => if p o then i :: zQd p r (i + 1) else zQd p r (i + 1)
def jB (F N : Nat) (ops : List Oper) (anc : List Nat) : List (Option Nat) → List Nat → List Nat → List zMa
  | _, _, [] => []
  | ds, effs, i :: r => match nth ops i with
    | none => [⟨.i (.bad 47), false, 0⟩]
    | some o => ⟨wq P F N ops ds o, xp P o.op, zCz ((nth anc i).getD 0) effs⟩ ::
        jB F N ops anc (o.dst :: ds) (if xp P o.op then i :: effs else effs) r
def zGR (ops : List Oper) (anc : List Nat) : List Nat := zFc anc (List.range ops.length) (zQd (fun o => xp P o.op) ops 0) []
def zDV (m : Nat) : List Nat → List Nat → Bool
  | done, [] => Nat.beq done.length m
  | done, i :: r => !done.contains i && Nat.ble (Nat.succ i) m && zDV m (i :: done) r
def zKA (ops : List Oper) (anc : List Nat) : List Nat → List Nat → Bool
  | _, [] => true
  | done, i :: r => (match nth ops i with
    | some o => if xp P o.op then done.all fun j => zn ((nth anc i).getD 0) j else true
    | none => false) && zKA ops anc (i :: done) r
def zKx (anc : List Nat) (m : Nat) : List Nat → List Nat → Bool
  | _, [] => true
  | done, i :: r => ((List.range m).all fun j => !zn ((nth anc i).getD 0) j || done.contains j) && zKx anc m (i :: done) r
def asks (ops : List Oper) (o : Oper) : List Nat :=
  (o.op.operands.toList.filterMap fun | .tmp t => some t | _ => none) ++ (match o.guard with
    | some (j, _) => match (nth ops j).bind (·.dst) with
      | some t => [t]
      | none => []
    | none => [])
def zJA (ops : List Oper) (anc : List Nat) (m : Nat) : Bool :=
  (List.range m).all fun i => (List.range m).all fun j => match nth ops i, nth ops j with
    | some x, some y => match x.dst with
      | some t => (Nat.beq i j || !(decide (y.dst = some t))) && (!(asks ops y).contains t || (!Nat.beq i j && (zn ((nth anc j).getD 0) i || zn ((nth anc i).getD 0) j)))
      | none => true
    | _, _ => false
def zBu : List Oper → Nat → Bool
  | [], _ => true
  | o :: r, i => (o.after.toList.all fun e => !Region.binds .any e || Nat.ble (Nat.succ e.on) i) && zBu r (i + 1)
def zAb (ops : List Oper) (anc : List Nat) (order : List Nat) : Bool :=
  zDV ops.length [] order && zKA P ops anc [] order && zKx anc ops.length [] order && zJA ops anc ops.length && zBu ops 0
def zBx (F N : Nat) (ops : List Oper) : CCode :=
  let anc := jz [] ops
  let order := zGR P ops anc
  if zAb P ops anc order then .dregion (jB P F N ops anc [] [] order) else .bad 48
def zG (F N : Nat) : Code → CCode
  | .skip => .skip
  | .label _ => .skip
  | .region _ ops dr => match dr with
    | false => .region (qa P F N ops.toList [] ops.toList)
    | true => zBx P F N ops.toList
  | .seq a b => .seq (zG F N a) (zG F N b)
  | .cond x a b => match zb P ⟨F, N, []⟩ x with
    | some x => .cond x (zG F N a) (zG F N b)
    | none => .bad 43
  | .block id b => .block id (zG F N b)
  | .loop b => .loop (zG F N b)
  | .exit id => .exit id
  | .ret => .ret
  | .scope b => .scope (zG F N b)
  | _ => .bad 44
def bit (t : Nat) : Nat := Nat.shiftLeft 1 t
def zBk : List Operand → Nat
  | [] => 0
  | .tmp t :: r => Nat.lor (bit t) (zBk r)
  | _ :: r => zBk r
def zGY (all : List Oper) : List Oper → Nat
  | [] => 0
  | o :: r => Nat.lor (zBk o.op.operands.toList) (Nat.lor (match o.guard with | some (j, _) => zBk [.tmp ((((nth all j).bind (·.dst))).getD 4095)] | none => 0) (zGY all r))
def zGt : List Oper → Nat
  | [] => 0
  | o :: r => match o.dst with
    | some t => Nat.lor (bit t) (zGt r)
    | none => zGt r
def zCl (c : Code) (x : Nat × Nat) : Nat × Nat := match c with
  | .region _ ops _ => let u := zGY ops.toList ops.toList; (Nat.lor x.1 u, Nat.lor x.2 (Nat.land x.1 u))
  | .seq a b => zCl b (zCl a x)
  | .cond y a b => let u := zBk [y]; zCl b (zCl a (Nat.lor x.1 u, Nat.lor x.2 (Nat.land x.1 u)))
  | .block _ b => zCl b x
  | .loop b => zCl b x
  | .scope b => zCl b x
  | _ => x
def kg (once : Nat) : Code → Nat
  | .region _ ops _ => Nat.land (zGt ops.toList) (Nat.xor once (Nat.land once (zGY ops.toList ops.toList)))
  | .seq a b => Nat.lor (kg once a) (kg once b)
  | .cond _ a b => Nat.lor (kg once a) (kg once b)
  | .block _ b => kg once b
  | .loop b => kg once b
  | .scope b => kg once b
  | _ => 0
def zGq : List ResultVar → Nat
  | [] => 0
  | .tmp t :: r => Nat.lor (bit t) (zGq r)
  | .cell t _ :: r => Nat.lor (bit t) (zGq r)
def yw (fn : Func) (c : Code) : Nat :=
  let res := zGq fn.results.toList
  let u := zCl c (res, 0)
  Nat.lor (Nat.lor (Nat.lor u.2 (kg u.1 c)) res) (Nat.sub (bit (Nat.add fn.params.size fn.nfree)) 1)
def xD (F N : Nat) (r : ResultVar) : Option CRes := match r with
  | .tmp t => (zb P ⟨F, N, []⟩ (.tmp t)).map .tmp
  | .cell a t => match xg P t, xV P t, zb P ⟨F, N, []⟩ (.tmp a) with
    | some true, some s, some x => some (.cellN x s)
    | some false, some _, some x => some (.cell1 x)
    | _, _, _ => none
def zDr (l : List Oper) : Bool := match l with
  | [] => true
  | o :: r => !zCy o.op && zDr r
def zi : Code → Bool
  | .region _ ops _ => zDr ops.toList
  | .seq a b => zi a && zi b
  | .cond _ a b => zi a && zi b
  | .block _ b => zi b
  | .loop b => zi b
  | .scope b => zi b
  | _ => true
def zAB (F N : Nat) (fn : Func) (c : Code) : CFn := match yo (xD P F N) fn.results.toList with
  | some rs => if zi c then .mk (zG P F N c) rs else match c with
    | .seq (.region _ ops false) r => if zi r then .mkD (qa P F N ops.toList [] ops.toList) (zG P F N r) rs else .bad 50
    | _ => .bad 50
  | none => .bad 45
def compFn (f : FuncId) : CFn := match nth P.funcs.toList f with
  | none => .bad 46
  | some fn => match fn.body with
    | none => match zBi P fn with
      | some e => .ext e
      | none => .bad (20000 + f)
    | some c => if fn.name == "runtime.NumGoroutine" then .bad 49 else zAB P (yw fn c) fn.ntmps fn c
end
end Go.Ev

namespace Go.Ev
noncomputable section
inductive OR where
  | val (v : CV)
  | read (v : CV)
  | alloc (o : CObj) (v : CV)
  | eff (v : CV) (h : Heap) (n : Key)
  | call (f : FuncId) (args : List CV)
  | dfr (f : FuncId) (args : List CV)
  | recov
  | err (c : Nat)
  | fork (a b : OR)
def zDt (v : Option CV) (c : Nat) : OR := Option.rec (motive := fun _ => Nat → OR) (fun c => .err c) (fun v _ => .val v) v c
def zPM (v : Option CV) (c : Nat) : OR := Option.rec (motive := fun _ => Nat → OR) (fun c => .err c) (fun v _ => .read v) v c
def zQe (v : Option (List CV)) (c : Nat) : OR := Option.rec (motive := fun _ => Nat → OR) (fun c => .err c) (fun v _ => .val (.agg v)) v c
def zPv (v : Option (List CV)) (c : Nat) : OR := Option.rec (motive := fun _ => Nat → OR) (fun c => .err c) (fun v _ => .read (.agg v)) v c
def onL (v : Option (List CV)) (k : List CV → OR) (c : Nat) : OR := Option.rec (motive := fun _ => (List CV → OR) → Nat → OR) (fun _ c => .err c) (fun v k _ => k v) v k c
def onN (v : Option Nat) (k : Nat → OR) (c : Nat) : OR := Option.rec (motive := fun _ => (Nat → OR) → Nat → OR) (fun _ c => .err c) (fun v k _ => k v) v k c
def yc (b : Bool) (k : OR) (c : Nat) : OR := Bool.rec (motive := fun _ => OR → Nat → OR) (fun _ c => .err c) (fun k _ => k) b k c
def ifB (b : Bool) (t f : OR) : OR := Bool.rec (motive := fun _ => OR → OR → OR) (fun _ f => f) (fun t _ => t) b t f
def vA (n : Nat) (k : Nat → OR) : OR := Nat.rec (motive := fun _ => (Nat → OR) → OR) (fun k => k 0) (fun m _ k => k (Nat.succ m)) n k
def zAO (v : CV) (k : Key → Nat → OR) (e : Nat) : OR :=
  CV.rec (motive_1 := fun _ => (Key → Nat → OR) → Nat → OR) (motive_2 := fun _ => Unit)
    (fun _ _ e => .err e) (fun _ _ e => .err e) (fun _ _ _ e => .err e) (fun _ _ e => .err e) (fun _ _ e => .err e) (fun _ e => .err e) (fun x0 x1 k _ => k x0 x1) (fun _ e => .err e) (fun _ _ _ _ _ _ _ e => .err e) (fun _ e => .err e) (fun _ _ e => .err e) (fun _ _ _ _ _ _ e => .err e) (fun _ e => .err e) (fun _ _ _ _ e => .err e) (fun _ e => .err e) (fun _ _ _ e => .err e) (fun _ _ _ e => .err e) (fun _ _ e => .err e) (fun _ _ _ _ _ e => .err e) (fun _ _ _ e => .err e) (fun _ _ e => .err e) (fun _ e => .err e) () (fun _ _ _ _ => ()) v k e
def zNi (v : CV) (k : IntKind → Int → OR) (e : Nat) : OR :=
  CV.rec (motive_1 := fun _ => (IntKind → Int → OR) → Nat → OR) (motive_2 := fun _ => Unit)
    (fun _ _ e => .err e) (fun x0 k _ => k .i64 (.ofNat x0)) (fun x0 x1 k _ => k x0 x1) (fun _ _ e => .err e) (fun _ _ e => .err e) (fun _ e => .err e) (fun _ _ _ e => .err e) (fun _ e => .err e) (fun _ _ _ _ _ _ _ e => .err e) (fun _ e => .err e) (fun _ _ e => .err e) (fun _ _ _ _ _ _ e => .err e) (fun _ e => .err e) (fun _ _ _ _ e => .err e) (fun _ e => .err e) (fun _ _ _ e => .err e) (fun _ _ _ e => .err e) (fun _ _ e => .err e) (fun _ _ _ _ _ e => .err e) (fun _ _ _ e => .err e) (fun _ _ e => .err e) (fun _ e => .err e) () (fun _ _ _ _ => ()) v k e
def zQJ (v : CV) (k : Nat → OR) (j : IntKind → Int → OR) (e : Nat) : OR :=
  CV.rec (motive_1 := fun _ => (Nat → OR) → (IntKind → Int → OR) → Nat → OR) (motive_2 := fun _ => Unit)
    (fun _ _ _ e => .err e) (fun x0 k _ _ => k x0) (fun x0 x1 _ j _ => j x0 x1) (fun _ _ _ e => .err e) (fun _ _ _ e => .err e) (fun _ _ e => .err e) (fun _ _ _ _ e => .err e) (fun _ _ e => .err e) (fun _ _ _ _ _ _ _ _ e => .err e) (fun _ _ e => .err e) (fun _ _ _ e => .err e) (fun _ _ _ _ _ _ _ e => .err e) (fun _ _ e => .err e) (fun _ _ _ _ _ e => .err e) (fun _ _ e => .err e) (fun _ _ _ _ e => .err e) (fun _ _ _ _ e => .err e) (fun _ _ _ e => .err e) (fun _ _ _ _ _ _ e => .err e) (fun _ _ _ _ e => .err e) (fun _ _ _ e => .err e) (fun _ _ e => .err e) () (fun _ _ _ _ => ()) v k j e
def vT (v : CV) (k : List Nat → OR) (e : Nat) : OR :=
  CV.rec (motive_1 := fun _ => (List Nat → OR) → Nat → OR) (motive_2 := fun _ => Unit)
    (fun _ _ e => .err e) (fun _ _ e => .err e) (fun _ _ _ e => .err e) (fun _ _ e => .err e) (fun x0 k _ => k x0) (fun _ e => .err e) (fun _ _ _ e => .err e) (fun _ e => .err e) (fun _ _ _ _ _ _ _ e => .err e) (fun _ e => .err e) (fun _ _ e => .err e) (fun _ _ _ _ _ _ e => .err e) (fun _ e => .err e) (fun _ _ _ _ e => .err e) (fun _ e => .err e) (fun _ _ _ e => .err e) (fun _ _ _ e => .err e) (fun _ _ e => .err e) (fun _ _ _ _ _ e => .err e) (fun _ _ _ e => .err e) (fun _ _ e => .err e) (fun _ e => .err e) () (fun _ _ _ _ => ()) v k e
def zIQ (v : CV) (k : Bool → OR) (e : Nat) : OR :=
  CV.rec (motive_1 := fun _ => (Bool → OR) → Nat → OR) (motive_2 := fun _ => Unit)
    (fun x0 k _ => k x0) (fun _ _ e => .err e) (fun _ _ _ e => .err e) (fun _ _ e => .err e) (fun _ _ e => .err e) (fun _ e => .err e) (fun _ _ _ e => .err e) (fun _ e => .err e) (fun _ _ _ _ _ _ _ e => .err e) (fun _ e => .err e) (fun _ _ e => .err e) (fun _ _ _ _ _ _ e => .err e) (fun _ e => .err e) (fun _ _ _ _ e => .err e) (fun _ e => .err e) (fun _ _ _ e => .err e) (fun _ _ _ e => .err e) (fun _ _ e => .err e) (fun _ _ _ _ _ e => .err e) (fun _ _ _ e => .err e) (fun _ _ e => .err e) (fun _ e => .err e) () (fun _ _ _ _ => ()) v k e
def va (v : CV) (z : OR) (k : Key → Nat → Nat → Nat → Nat → Bool → OR) (e : Nat) : OR :=
  CV.rec (motive_1 := fun _ => (OR) → (Key → Nat → Nat → Nat → Nat → Bool → OR) → Nat → OR) (motive_2 := fun _ => Unit)
    (fun _ _ _ e => .err e) (fun _ _ _ e => .err e) (fun _ _ _ _ e => .err e) (fun _ _ _ e => .err e) (fun _ _ _ e => .err e) (fun _ _ e => .err e) (fun _ _ _ _ e => .err e) (fun z _ _ => z) (fun x0 x1 x2 x3 x4 x5 _ k _ => k x0 x1 x2 x3 x4 x5) (fun _ _ e => .err e) (fun _ _ _ e => .err e) (fun _ _ _ _ _ _ _ e => .err e) (fun _ _ e => .err e) (fun _ _ _ _ _ e => .err e) (fun _ _ e => .err e) (fun _ _ _ _ e => .err e) (fun _ _ _ _ e => .err e) (fun _ _ _ e => .err e) (fun _ _ _ _ _ _ e => .err e) (fun _ _ _ _ e => .err e) (fun _ _ _ e => .err e) (fun _ _ e => .err e) () (fun _ _ _ _ => ()) v z k e
def zCe (v : CV) (z : OR) (k : Key → OR) (e : Nat) : OR :=
  CV.rec (motive_1 := fun _ => (OR) → (Key → OR) → Nat → OR) (motive_2 := fun _ => Unit)
    (fun _ _ _ e => .err e) (fun _ _ _ e => .err e) (fun _ _ _ _ e => .err e) (fun _ _ _ e => .err e) (fun _ _ _ e => .err e) (fun _ _ e => .err e) (fun _ _ _ _ e => .err e) (fun _ _ e => .err e) (fun _ _ _ _ _ _ _ _ e => .err e) (fun z _ _ => z) (fun x0 _ k _ => k x0) (fun _ _ _ _ _ _ _ e => .err e) (fun _ _ e => .err e) (fun _ _ _ _ _ e => .err e) (fun _ _ e => .err e) (fun _ _ _ _ e => .err e) (fun _ _ _ _ e => .err e) (fun _ _ _ e => .err e) (fun _ _ _ _ _ _ e => .err e) (fun _ _ _ _ e => .err e) (fun _ _ _ e => .err e) (fun _ _ e => .err e) () (fun _ _ _ _ => ()) v z k e
def zMq (v : CV) (k : List CV → OR) (e : Nat) : OR :=
  CV.rec (motive_1 := fun _ => (List CV → OR) → Nat → OR) (motive_2 := fun _ => Unit)
    (fun _ _ e => .err e) (fun _ _ e => .err e) (fun _ _ _ e => .err e) (fun _ _ e => .err e) (fun _ _ e => .err e) (fun _ e => .err e) (fun _ _ _ e => .err e) (fun _ e => .err e) (fun _ _ _ _ _ _ _ e => .err e) (fun _ e => .err e) (fun _ _ e => .err e) (fun _ _ _ _ _ _ e => .err e) (fun _ e => .err e) (fun _ _ _ _ e => .err e) (fun _ e => .err e) (fun x0 _ k _ => k x0) (fun _ _ _ e => .err e) (fun _ _ e => .err e) (fun _ _ _ _ _ e => .err e) (fun _ _ _ e => .err e) (fun _ _ e => .err e) (fun _ e => .err e) () (fun _ _ _ _ => ()) v k e
def zPJ (v : CV) (k : List CV → OR) (e : Nat) : OR :=
  CV.rec (motive_1 := fun _ => (List CV → OR) → Nat → OR) (motive_2 := fun _ => Unit)
    (fun _ _ e => .err e) (fun _ _ e => .err e) (fun _ _ _ e => .err e) (fun _ _ e => .err e) (fun _ _ e => .err e) (fun _ e => .err e) (fun _ _ _ e => .err e) (fun _ e => .err e) (fun _ _ _ _ _ _ _ e => .err e) (fun _ e => .err e) (fun _ _ e => .err e) (fun _ _ _ _ _ _ e => .err e) (fun _ e => .err e) (fun _ _ _ _ e => .err e) (fun _ e => .err e) (fun _ _ _ e => .err e) (fun x0 _ k _ => k x0) (fun _ _ e => .err e) (fun _ _ _ _ _ e => .err e) (fun _ _ _ e => .err e) (fun _ _ e => .err e) (fun _ e => .err e) () (fun _ _ _ _ => ()) v k e
def zI2 (v : CV) (k : Fn → List CV → List CV → OR) (e : Nat) : OR :=
  CV.rec (motive_1 := fun _ => (Fn → List CV → List CV → OR) → Nat → OR) (motive_2 := fun _ => Unit)
    (fun _ _ e => .err e) (fun _ _ e => .err e) (fun _ _ _ e => .err e) (fun _ _ e => .err e) (fun _ _ e => .err e) (fun _ e => .err e) (fun _ _ _ e => .err e) (fun _ e => .err e) (fun _ _ _ _ _ _ _ e => .err e) (fun _ e => .err e) (fun _ _ e => .err e) (fun x0 x1 x2 _ _ k _ => k x0 x1 x2) (fun _ e => .err e) (fun _ _ _ _ e => .err e) (fun _ e => .err e) (fun _ _ _ e => .err e) (fun _ _ _ e => .err e) (fun _ _ e => .err e) (fun _ _ _ _ _ e => .err e) (fun _ _ _ e => .err e) (fun _ _ e => .err e) (fun _ e => .err e) () (fun _ _ _ _ => ()) v k e
def zAW (v : CV) (k : TypeId → CV → OR) (z : OR) (e : Nat) : OR :=
  CV.rec (motive_1 := fun _ => (TypeId → CV → OR) → (OR) → Nat → OR) (motive_2 := fun _ => Unit)
    (fun _ _ _ e => .err e) (fun _ _ _ e => .err e) (fun _ _ _ _ e => .err e) (fun _ _ _ e => .err e) (fun _ _ _ e => .err e) (fun _ _ e => .err e) (fun _ _ _ _ e => .err e) (fun _ _ e => .err e) (fun _ _ _ _ _ _ _ _ e => .err e) (fun _ _ e => .err e) (fun _ _ _ e => .err e) (fun _ _ _ _ _ _ _ e => .err e) (fun _ _ e => .err e) (fun x0 x1 _ k _ _ => k x0 x1) (fun _ z _ => z) (fun _ _ _ _ e => .err e) (fun _ _ _ _ e => .err e) (fun _ _ _ e => .err e) (fun _ _ _ _ _ _ e => .err e) (fun _ _ _ _ e => .err e) (fun _ _ _ e => .err e) (fun _ _ e => .err e) () (fun _ _ _ _ => ()) v k z e
def zQn (v : CV) (k : IntKind → Int → OR) (u : IntKind → OR) (s : List Nat → OR) (e : Nat) : OR :=
  CV.rec (motive_1 := fun _ => (IntKind → Int → OR) → (IntKind → OR) → (List Nat → OR) → Nat → OR) (motive_2 := fun _ => Unit)
    (fun _ _ _ _ e => .err e) (fun x0 k _ _ _ => k .i64 (.ofNat x0)) (fun x0 x1 k _ _ _ => k x0 x1) (fun x0 _ u _ _ => u x0) (fun x0 _ _ s _ => s x0) (fun _ _ _ e => .err e) (fun _ _ _ _ _ e => .err e) (fun _ _ _ e => .err e) (fun _ _ _ _ _ _ _ _ _ e => .err e) (fun _ _ _ e => .err e) (fun _ _ _ _ e => .err e) (fun _ _ _ _ _ _ _ _ e => .err e) (fun _ _ _ e => .err e) (fun _ _ _ _ _ _ e => .err e) (fun _ _ _ e => .err e) (fun _ _ _ _ _ e => .err e) (fun _ _ _ _ _ e => .err e) (fun _ _ _ _ e => .err e) (fun _ _ _ _ _ _ _ e => .err e) (fun _ _ _ _ _ e => .err e) (fun _ _ _ _ e => .err e) (fun _ _ _ e => .err e) () (fun _ _ _ _ => ()) v k u s e
def zMp (v : CV) (k : IntKind → Int → OR) (u : IntKind → OR) (e : Nat) : OR :=
  CV.rec (motive_1 := fun _ => (IntKind → Int → OR) → (IntKind → OR) → Nat → OR) (motive_2 := fun _ => Unit)
    (fun _ _ _ e => .err e) (fun x0 k _ _ => k .i64 (.ofNat x0)) (fun x0 x1 k _ _ => k x0 x1) (fun x0 _ u _ => u x0) (fun _ _ _ e => .err e) (fun _ _ e => .err e) (fun _ _ _ _ e => .err e) (fun _ _ e => .err e) (fun _ _ _ _ _ _ _ _ e => .err e) (fun _ _ e => .err e) (fun _ _ _ e => .err e) (fun _ _ _ _ _ _ _ e => .err e) (fun _ _ e => .err e) (fun _ _ _ _ _ e => .err e) (fun _ _ e => .err e) (fun _ _ _ _ e => .err e) (fun _ _ _ _ e => .err e) (fun _ _ _ e => .err e) (fun _ _ _ _ _ _ e => .err e) (fun _ _ _ _ e => .err e) (fun _ _ _ e => .err e) (fun _ _ e => .err e) () (fun _ _ _ _ => ()) v k u e
def zQQ (v : CV) (k : Key → Nat → OR) (z : OR) : OR :=
  CV.rec (motive_1 := fun _ => (Key → Nat → OR) → OR → OR) (motive_2 := fun _ => Unit)
    (fun _ _ z => z) (fun _ _ z => z) (fun _ _ _ z => z) (fun _ _ z => z) (fun _ _ z => z) (fun _ z => z) (fun x0 x1 k _ => k x0 x1) (fun _ z => z) (fun _ _ _ _ _ _ _ z => z) (fun _ z => z) (fun _ _ z => z) (fun _ _ _ _ _ _ z => z) (fun _ z => z) (fun _ _ _ _ z => z) (fun _ z => z) (fun _ _ _ z => z) (fun _ _ _ z => z) (fun _ _ z => z) (fun _ _ _ _ _ z => z) (fun _ _ _ z => z) (fun _ _ z => z) (fun _ z => z) () (fun _ _ _ _ => ()) v k z
def zNZ (v : CV) (k : Key → Nat → SE → SE → OR) (z : OR) : OR :=
  CV.rec (motive_1 := fun _ => (Key → Nat → SE → SE → OR) → OR → OR) (motive_2 := fun _ => Unit)
    (fun _ _ z => z) (fun _ _ z => z) (fun _ _ _ z => z) (fun _ _ z => z) (fun _ _ z => z) (fun _ z => z) (fun _ _ _ z => z) (fun _ z => z) (fun _ _ _ _ _ _ _ z => z) (fun _ z => z) (fun _ _ z => z) (fun _ _ _ _ _ _ z => z) (fun _ z => z) (fun _ _ _ _ z => z) (fun _ z => z) (fun _ _ _ z => z) (fun _ _ _ z => z) (fun _ _ z => z) (fun x0 x1 x2 x3 k _ => k x0 x1 x2 x3) (fun _ _ _ z => z) (fun _ _ z => z) (fun _ z => z) () (fun _ _ _ _ => ()) v k z
def zPL (v : CV) (k : List CV → OR) (z : OR) : OR :=
  CV.rec (motive_1 := fun _ => (List CV → OR) → OR → OR) (motive_2 := fun _ => Unit)
    (fun _ _ z => z) (fun _ _ z => z) (fun _ _ _ z => z) (fun _ _ z => z) (fun _ _ z => z) (fun _ z => z) (fun _ _ _ z => z) (fun _ z => z) (fun _ _ _ _ _ _ _ z => z) (fun _ z => z) (fun _ _ z => z) (fun _ _ _ _ _ _ z => z) (fun _ z => z) (fun _ _ _ _ z => z) (fun _ z => z) (fun _ _ _ z => z) (fun _ _ _ z => z) (fun _ _ z => z) (fun _ _ _ _ _ z => z) (fun x0 _ k _ => k x0) (fun _ _ z => z) (fun _ z => z) () (fun _ _ _ _ => ()) v k z
def zLE (v : CV) (k : Nat → OR) (z : OR) : OR :=
  CV.rec (motive_1 := fun _ => (Nat → OR) → OR → OR) (motive_2 := fun _ => Unit)
    (fun _ _ z => z) (fun x0 k _ => k x0) (fun _ _ _ z => z) (fun _ _ z => z) (fun _ _ z => z) (fun _ z => z) (fun _ _ _ z => z) (fun _ z => z) (fun _ _ _ _ _ _ _ z => z) (fun _ z => z) (fun _ _ z => z) (fun _ _ _ _ _ _ z => z) (fun _ z => z) (fun _ _ _ _ z => z) (fun _ z => z) (fun _ _ _ z => z) (fun _ _ _ z => z) (fun _ _ z => z) (fun _ _ _ _ _ z => z) (fun _ _ _ z => z) (fun _ _ z => z) (fun _ z => z) () (fun _ _ _ _ => ()) v k z
def vV (v : CV) (k : Nat → OR) (e : Nat) : OR :=
  zQJ v k (fun _ n => Int.rec (motive := fun _ => (Nat → OR) → Nat → OR) (fun m k _ => k m) (fun _ _ e => .err e) n k e) e
def jR (o : Option CObj) (k : List CV → OR) (e : Nat) : OR :=
  Option.rec (motive := fun _ => (List CV → OR) → Nat → OR) (fun _ e => .err e)
    (fun o => CObj.rec (motive := fun _ => (List CV → OR) → Nat → OR) (fun vs k _ => k vs) (fun _ _ e => .err e) (fun _ _ _ e => .err e) (fun _ _ _ e => .err e) (fun _ _ _ _ _ e => .err e) (fun _ _ _ e => .err e) o) o k e
def vz (o : Option CObj) (k : List CV → OR) (e : Nat) : OR :=
  Option.rec (motive := fun _ => (List CV → OR) → Nat → OR) (fun _ e => .err e)
    (fun o => CObj.rec (motive := fun _ => (List CV → OR) → Nat → OR) (fun vs k _ => k vs) (fun vs k _ => k vs) (fun _ _ _ e => .err e) (fun _ _ _ e => .err e) (fun _ _ _ _ _ e => .err e) (fun _ vs k _ => k vs) o) o k e
def wH (o : Option CObj) (k : List CE → Nat → OR) (e : Nat) : OR :=
  Option.rec (motive := fun _ => (List CE → Nat → OR) → Nat → OR) (fun _ e => .err e)
    (fun o => CObj.rec (motive := fun _ => (List CE → Nat → OR) → Nat → OR) (fun _ _ e => .err e) (fun _ _ e => .err e) (fun es c k _ => k es c) (fun _ _ _ e => .err e) (fun _ _ _ _ _ e => .err e) (fun _ _ _ e => .err e) o) o k e
def zGg (o : Option CObj) (k : Bool → List CV → OR) (z : OR) : OR := match o with
  | some (.full u vs) => k u vs
  | _ => z
def zOR (l : List CV) (k : Nat) : CV := List.rec (motive := fun _ => Nat → CV) (fun _ => .any) (fun x _ ih k => Nat.rec (motive := fun _ => CV) x (fun k _ => ih k) k) l k
def aE (i : Nat) : List CV → Tm → CV := fun es _ => zOR es i
def aL (p : Loc) : List CV → Tm → CV := fun _ tm => qK p tm
def aK (v : CV) : List CV → Tm → CV := fun _ _ => v
def aV (es : List CV) (tm : Tm) (x : zR) : CV := zR.rec (motive := fun _ => List CV → Tm → CV) aE aL aK x es tm
def aVs (es : List CV) (tm : Tm) (l : List zR) : List CV := List.rec (motive := fun _ => List CV) [] (fun x _ ih => aV es tm x :: ih) l
abbrev X := List CV → Tm → Heap → Key → OR
def xMv (x : zR) : X := fun es tm _ _ => .val (aV es tm x)
def zPq (c a b : zR) : X := fun es tm _ _ => zIQ (aV es tm c) (fun t => ifB t (.val (aV es tm a)) (.val (aV es tm b))) 100
def zMO (cs : List CV) : X := fun _ _ _ n => .alloc (.cells cs) (.ptr n 0)
def zQC (x : zR) : X := fun es tm _ n => onL (cellsOf (aV es tm x)) (fun cs => .alloc (.cells cs) (.ptr n 0)) 101
def zA8 (s off : Nat) (cells : List CV) (v : Option (List CV)) : Option (List CV) :=
  Option.rec (motive := fun _ => Nat → List CV → Nat → Option (List CV)) (fun _ _ _ => none) (fun xs s cells off => qe xs s cells off) v s cells off
def vn (es : List CV) (tm : Tm) (ps : List zG9) (cells : List CV) : Option (List CV) :=
  List.rec (motive := fun _ => List CV → Option (List CV)) (fun cells => some cells)
    (fun p _ ih cells => Option.rec (motive := fun _ => Option (List CV)) none ih (zA8 p.size p.off cells (cellsOf (aV es tm p.arg)))) ps cells
def zMz (zero : List CV) (ps : List zG9) : X := fun es tm _ _ => zQe (vn es tm ps zero) 102
def ifO (b : Bool) (t f : CObj) : CObj := Bool.rec (motive := fun _ => CObj → CObj → CObj) (fun _ f => f) (fun t _ => t) b t f
def zKL (zero : List CV) (len esz : Nat) (ps : List zG9) : X := fun es tm _ n => onL (vn es tm ps zero) (fun cs => .alloc (ifO (Nat.beq len 1 && Nat.beq esz 6) (.full true cs) (.cells cs)) (.sl n 0 len len esz true)) 103
def zNH (x : zR) : X := fun es tm h _ => zAO (aV es tm x) (fun b off => vz (yK b h) (fun vs => zPM (zD8 vs off) 104) 105) 106
def zM5 (s : Nat) (x : zR) : X := fun es tm h _ => zAO (aV es tm x) (fun b off => vz (yK b h) (fun vs => zPv (uj vs off s) 107) 108) 109
def zNf (s : Nat) (a x : zR) : X := fun es tm h n => zAO (aV es tm a) (fun b off => jR (yK b h) (fun vs =>
  onL (cellsOf (aV es tm x)) (fun cs => yc (y9 cs) (onL (qe cs s vs off) (fun l => .eff .undef (yv (some (.cells l)) b h) n) 110) 111) 112) 113) 114
def zD1 (v : CV) : OR := match v with
  | .nilptr => .err 115
  | .niliface => .err 115
  | .nilfunc => .err 115
  | .func (.method _) _ _ => .err 116
  | .any => .err 116
  | v => .val v
def zMD (x : zR) : X := fun es tm _ _ => zQQ (aV es tm x) (fun b o => .val (.ptr b o)) (zD1 (aV es tm x))
class Sym where
  val : SE → Value
  one : ∀ e, (∃ k n, val e = .int k n) ∨ ∃ s, val e = .string s
  bin : BinOp → CV → CV → Option (List CV)
  cv : IntKind → CV → Option (List CV)
  arg : Key → Option Value
variable [Sym]
def forkL (c : CV) (l : List CV) : OR := List.rec (motive := fun _ => CV → OR) (fun c => .val c) (fun d _ ih c => .fork (.val c) (ih d)) l c
def zOU (o : Option (List CV)) (e : Nat) : OR := match o with
  | none => .err e
  | some l => match l with
    | [] => .err e
    | c :: cs => forkL c cs
def zMn (v : CV) : Bool := match v with
  | .sym _ => true
  | .sst _ => true
  | _ => false
def wd : OR := .fork (.val (.bool true)) (.val (.bool false))
def zJk (k : IntKind) (m : Nat) : OR := Nat.rec (motive := fun _ => OR) (.val (ql k 0)) (fun i ih => .fork ih (.val (ql k (Nat.succ i)))) m
def zIW (k : IntKind) (m : Nat) : OR := Nat.rec (motive := fun _ => OR) (.val (ql k 0)) (fun i ih => .fork ih (.fork (.val (ql k (Nat.succ i))) (.val (.int k (.negSucc i))))) m
def qQ (op : BinOp) (j k : IntKind) : OR := yc (kEq j k) (match op with
  | .add => .val (.anyi k)
  | .sub => .val (.anyi k)
  | .mul => .val (.anyi k)
  | .and => .val (.anyi k)
  | .or => .val (.anyi k)
  | .xor => .val (.anyi k)
  | .andNot => .val (.anyi k)
  | .eql => wd
  | .neq => wd
  | .lss => wd
  | .leq => wd
  | .gtr => wd
  | .geq => wd
  | _ => .err 117) 118
def zDc (op : BinOp) (k : IntKind) (b : Int) : OR := match op with
  | .and => match b with
    | .ofNat m => yc (Nat.ble m 127) (zJk k m) 117
    | .negSucc _ => .val (.anyi k)
  | .rem => match b with
    | .ofNat m => match m with
      | 0 => .err 117
      | m + 1 => yc (Nat.ble m 127) (match k.signed with
        | true => zIW k m
        | false => .val (.anyi k)) 117
    | .negSucc _ => .err 117
  | .quo => match b with
    | .ofNat m => match m with
      | 0 => .err 117
      | _ + 1 => .val (.anyi k)
    | .negSucc _ => .val (.anyi k)
  | .shl => match b with
    | .ofNat _ => .val (.anyi k)
    | .negSucc _ => .err 117
  | .shr => match b with
    | .ofNat _ => .val (.anyi k)
    | .negSucc _ => .err 117
  | op => qQ op k k
def zJu (op : BinOp) (x y : CV) : OR := zQn x
  (fun k a => zMp y (fun j b => yc (kEq k j || yn op) (zDt (yH op k a b) 117) 118) (fun j => qQ op j k) 119)
  (fun k => zMp y (fun j b => yc (kEq k j || yn op) (zDc op k b) 118) (fun j => qQ op j k) 119)
  (fun a => vT y (fun b => zDt (zPp op a b) 120) 121) 122
def zMN (op : BinOp) (a m : Nat) : OR := match op with
  | .gtr => ifB (Nat.ble a m) (.val (.bool false)) wd
  | .leq => ifB (Nat.ble a m) (.val (.bool true)) wd
  | .lss => ifB (Nat.ble (Nat.succ a) m) (.val (.bool true)) wd
  | .geq => ifB (Nat.ble (Nat.succ a) m) (.val (.bool false)) wd
  | _ => .err 119
def jD (op : BinOp) (x y : CV) : OR := match x, y with
  | .nat a, .big m => zMN op a m
  | x, y => match zMn x || zMn y with
    | true => zOU (Sym.bin op x y) 117
    | false => zJu op x y
def zJJ (op : BinOp) (a b : Nat) (x y : CV) : OR := Option.rec (motive := fun _ => BinOp → CV → CV → OR) (fun op x y => jD op x y) (fun v _ _ _ => .val v) (zFh op a b) op x y
def zN0 (op : BinOp) (x y : zR) : X := fun es tm _ _ =>
  zLE (aV es tm x) (fun a => zLE (aV es tm y) (fun b => zJJ op a b (aV es tm x) (aV es tm y)) (jD op (aV es tm x) (aV es tm y))) (jD op (aV es tm x) (aV es tm y))
def uE : EqK → CV → CV → Option Bool
  | .bool, .bool a, .bool b => some (a == b)
  | .int, .nat a, .nat b => some (Nat.beq a b)
  | .int, .int k a, .int j b => match kEq k j with
    | true => some (yy a b)
    | false => none
  | .int, .nat _, .int .i64 (.negSucc _) => some false
  | .int, .int .i64 (.negSucc _), .nat _ => some false
  | .str, .str a, .str b => some (xw a b)
  | _, _, _ => none
def eqFields (xs ys : List CV) : List (Nat × EqK) → Option Bool
  | [] => some true
  | (o, k) :: r => match zD8 xs o, zD8 ys o with
    | some x, some y => match uE k x y with
      | some true => eqFields xs ys r
      | some false => some false
      | none => none
    | _, _ => none
def eqC (k : EqK) (cst : Bool) (x y : CV) : Option Bool := match k with
  | .bool => uE .bool x y
  | .int => none
  | .str => none
  | .pointer => match x, y with
    | .nilptr, .nilptr => some true
    | .nilptr, .ptr _ _ => some false
    | .ptr _ _, .nilptr => some false
    | _, _ => none
  | .iface => match x, y with
    | .niliface, .niliface => if cst then some true else none
    | .niliface, .iface _ _ => some false
    | .iface _ _, .niliface => some false
    | _, _ => none
  | .slice => match x, y with
    | .nilsl, .nilsl => some true
    | .nilsl, .sl .. => some false
    | .sl .., .nilsl => some false
    | _, _ => none
  | .map => match x, y with
    | .nilmap, .nilmap => some true
    | .nilmap, .map _ => some false
    | .map _, .nilmap => some false
    | _, _ => none
  | .func => match x, y with
    | .nilfunc, .nilfunc => some true
    | .nilfunc, .func .. => some false
    | .func .., .nilfunc => some false
    | _, _ => none
  | .struct fs => match x, y with
    | .agg xs, .agg ys => eqFields xs ys fs
    | _, _ => none
def xEq (neg : Bool) (k : EqK) (cst : Bool) (x y : zR) : X := fun es tm _ _ => match eqC k cst (aV es tm x) (aV es tm y) with
  | some b => .val (.bool (xor neg b))
  | none => .err 123
def xUn (op : UnOp) (x : zR) : X := fun es tm _ _ => match op with
  | .neg => zNi (aV es tm x) (fun k n => .val (mkInt k (yZ k (Int.sub (.ofNat 0) n)))) 124
  | .xor => zNi (aV es tm x) (fun k n => zDt (zQc k (if k.signed then -1 else k.max) n) 125) 126
  | .not => zIQ (aV es tm x) (fun b => .val (.bool (zBc b))) 127
  | .plus => .err 128
def zEp (k : IntKind) (v : CV) : OR := match zMn v with
  | true => zOU (Sym.cv k v) 129
  | false => zMp v (fun _ a => .val (mkInt k (yZ k a))) (fun _ => .val (.anyi k)) 129
def zNg (k : IntKind) (x : zR) : X := fun es tm _ _ => zEp k (aV es tm x)
def zNc (x : zR) : X := fun es tm _ _ => vT (aV es tm x) (fun s => .val (.str s)) 130
def wV (s : List Nat) : List CV := List.rec (motive := fun _ => List CV) [] (fun b _ ih => .int .u8 (.ofNat b) :: ih) s
def kv (v : CV) : Option Nat := match v with
  | .int .u8 (.ofNat b) => match Nat.ble b 255 with
    | true => some b
    | false => none
  | _ => none
def jv (l : List CV) : Option (List Nat) :=
  List.rec (motive := fun _ => Option (List Nat)) (some []) (fun v _ ih => Option.rec (motive := fun _ => Option (List Nat) → Option (List Nat)) (fun _ => none) (fun b r => zJ0 b r) (kv v) ih) l
def zPK (x : zR) : X := fun es tm _ n => vT (aV es tm x) (fun l => vA (zAZ l) fun k => .alloc (.cells (wV l)) (.sl n 0 k k 1 false)) 131
def zJZ (x : zR) : X := fun es tm h n => va (aV es tm x) (.err 132) (fun b off len cap esz ex => jR (yK b h) (fun _ => .eff (.sl b off len cap esz ex) h n) 133) 134
def zQP (v : Option (List Nat)) (c : Nat) : OR := Option.rec (motive := fun _ => Nat → OR) (fun c => .err c) (fun v _ => .val (.str v)) v c
def zGs (v : CV) : Bool := match v with
  | .int k (.ofNat b) => kEq k .u8 && Nat.ble b 255
  | .sym e => kEq e.k .u8 && (match Sym.bin .leq (.sym e) (.int .u8 (.ofNat 255)), Sym.bin .geq (.sym e) (.int .u8 (.ofNat 0)) with
    | some [.bool true], some [.bool true] => true
    | _, _ => false)
  | _ => false
def zAP : List CV → Bool
  | [] => true
  | v :: r => zGs v && zAP r
def zJb (cs : List CV) : OR := match jv cs with
  | some r => .read (.str r)
  | none => match zAP cs with
    | true => .read (.sst cs)
    | false => .err 135
def zPN (x : zR) : X := fun es tm h _ => va (aV es tm x) (.val (.str [])) (fun b off len _ _ _ => vz (yK b h) (fun vs =>
  onL (uj vs off len) zJb 136) 137) 138
def zMF (t : TypeId) (x : zR) : X := fun es tm _ _ => .val (.iface t (aV es tm x))
def zPu (fn : Fn) (a b : List zR) : X := fun es tm _ _ => .val (.func fn (aVs es tm a) (aVs es tm b))
def zNq : X := fun _ _ _ n => .alloc (.map [] 0) (.map n)
def zHF (zero : List CV) (esz bytes : Nat) (l c : zR) : X := fun es tm _ n => vV (aV es tm l) (fun l => vV (aV es tm c) (fun c =>
  yc (Nat.ble l c && Nat.ble (Nat.mul c esz) 100000 && Nat.ble (Nat.mul bytes c) 1000000)
    (vA l fun l => vA c fun c => .alloc (.cells (ja zero c)) (.sl n 0 l c esz true)) 139) 140) 141
def zAr (es : List CV) (tm : Tm) (x : Option zR) (y d : Nat) (k : Nat → OR) (e : Nat) : OR :=
  Option.rec (motive := fun _ => Nat → (Nat → OR) → OR) (fun d k => k d) (fun x _ k => vV (aV es tm x) (fun i => yc (Nat.ble i y) (k i) e) e) x d k
def qZ (es : List CV) (tm : Tm) (len cap : Nat) (lo hi mx : Option zR) (k : Nat → Nat → Nat → OR) (e : Nat) : OR :=
  zAr es tm mx cap cap (fun m => zAr es tm hi m len (fun h => zAr es tm lo h 0 (fun l => k l h m) e) e) e
def zK1 (b : Key) (off esz : Nat) (ex : Bool) : Nat → Nat → Nat → OR := fun l h m =>
  yc (Nat.ble h m && Nat.ble l h) (vA (Nat.add off (Nat.mul l esz)) fun o => vA (Nat.sub h l) fun hl => vA (Nat.sub m l) fun ml => .val (.sl b o hl ml esz ex)) 142
def zM7 (len esz : Nat) (x : zR) (lo hi mx : Option zR) : X := fun es tm _ _ => zAO (aV es tm x) (fun b off =>
  qZ es tm len len lo hi mx (zK1 b off esz true) 143) 144
def ub (es : List CV) (tm : Tm) (h : Heap) (b : Key) (off cap esz : Nat) (ex : Bool) (lo hi mx : Option zR) (k0 : OR) : OR := match ex, lo, mx, hi with
  | false, none, none, some y => match aV es tm y with
    | .nat m => match Nat.ble m cap, cap with
      | false, _ + 1 => jR (yK b h) (fun vs => yc (Nat.ble (Nat.add off (Nat.mul m esz)) (ui vs)) (vA m fun m => .read (.sl b off m m esz false)) 146) 146
      | _, _ => k0
    | _ => k0
  | _, _, _, _ => k0
def zPB (esz : Nat) (x : zR) (lo hi mx : Option zR) : X := fun es tm h _ => va (aV es tm x)
  (qZ es tm 0 0 lo hi mx (fun _ _ _ => .val .nilsl) 145)
  (fun b off len cap s ex => yc (Nat.beq s esz) (ub es tm h b off cap esz ex lo hi mx (qZ es tm len cap lo hi mx (zK1 b off esz (ex || mx.isSome)) 146)) 147) 148
def zMt (x : zR) (lo hi : Option zR) : X := fun es tm _ _ => vT (aV es tm x) (fun s =>
  vA (zAZ s) fun n => qZ es tm n n lo hi none (fun l h _ => yc (Nat.ble l h) (zQP (zP6 s l (Nat.sub h l)) 149) 149) 150) 151
def zKa (k : Nat) (x : zR) : X := fun es tm _ _ => zAO (aV es tm x) (fun b off => vA (Nat.add off k) fun o => .val (.ptr b o)) 152
def zME (agg : Bool) (s : Nat) (cs : List CV) (off : Nat) (e : Nat) : OR := Bool.rec (motive := fun _ => OR) (zDt (zD8 cs off) e) (zQe (uj cs off s) e) agg
def zPo (agg : Bool) (off s : Nat) (x : zR) : X := fun es tm _ _ => zMq (aV es tm x) (fun cs => zME agg s cs off 153) 154
def zMX (len esz : Nat) (x i : zR) : X := fun es tm _ _ => zAO (aV es tm x) (fun b off => vV (aV es tm i) (fun i =>
  yc (Nat.ble (Nat.succ i) len) (vA (Nat.add off (Nat.mul i esz)) fun o => .val (.ptr b o)) 155) 156) 157
def uy : List (Nat × Int) → List (Nat × Int) → Bool
  | [], [] => true
  | (i, a) :: l, (j, b) :: m => Nat.beq i j && yy a b && uy l m
  | _, _ => false
def zOx (a b : SE) : Bool := kEq a.k b.k && yy a.c b.c && uy a.l b.l
def zMu (b : Key) (s : Nat) (e n : SE) (esz : Nat) (i : CV) : OR := match i with
  | .sym j => match zOx j e && Nat.beq s esz with
    | true => match Sym.bin .leq (.nat 0) (.sym e), Sym.bin .lss (.sym e) (.sym n) with
      | some [.bool true], some [.bool true] => .val (.ptr b 0)
      | _, _ => .err 320
    | false => .err 321
  | _ => .err 322
def zC3 (x y : CV) : Option Bool := match Sym.cv .i64 x, Sym.bin .leq x y, Sym.bin .geq x y with
  | some _, some [.bool a], some [.bool b] => some (a && b)
  | _, _, _ => none
def zMC (i : CV) : CV := match i with
  | .sym j => match Sym.bin .andNot (.sym j) (.nat 0) with
    | some [.nat k] => match zC3 (.sym j) (.nat k) with
      | some true => .nat k
      | _ => .sym j
    | _ => .sym j
  | i => i
def zPI (esz : Nat) (x i : zR) : X := fun es tm _ _ => zNZ (aV es tm x) (fun b s e n => zMu b s e n esz (aV es tm i)) <| va (aV es tm x) (.err 158) (fun b off len _ _ _ => vV (zMC (aV es tm i)) (fun i =>
  yc (Nat.ble (Nat.succ i) len) (vA (Nat.add off (Nat.mul i esz)) fun o => .val (.ptr b o)) 159) 160) 161
def zOj (len esz : Nat) (agg : Bool) (x i : zR) : X := fun es tm _ _ => zMq (aV es tm x) (fun cs => vV (aV es tm i) (fun i =>
  yc (Nat.ble (Nat.succ i) len) (zME agg esz cs (Nat.mul i esz) 162) 163) 164) 165
def zMV (x i : zR) : X := fun es tm _ _ => vT (aV es tm x) (fun s => vV (aV es tm i) (fun i => onN (zO1 s i) (fun b => .val (.int .u8 (.ofNat b))) 166) 167) 168
def zBl : List CV → Bool
  | [] => true
  | .nat _ :: r => zBl r
  | .int _ _ :: r => zBl r
  | _ => false
def zBU : List CV → List CV → Nat → Option Bool
  | [], [], 0 => some true
  | x :: a, y :: b, n + 1 => match uE .int x y with
    | some true => zBU a b n
    | some false => some false
    | none => none
  | _, _, _ => none
def zCI : ke → CV → Bool
  | .ints n, .agg cs => Nat.beq (ui cs) n && zBl cs
  | .int, .nat _ => true
  | .int, .int _ _ => true
  | .str, .str _ => true
  | .bool, .bool _ => true
  | .int, .sym e => (Sym.cv .i64 (.sym e)).isSome
  | _, _ => false
def km : ke → CV → CV → Option Bool
  | .ints n, .agg a, .agg b => zBU a b n
  | .int, .nat a, .nat b => some (Nat.beq a b)
  | .int, .int j a, .int k b => match kEq j k with
    | true => some (yy a b)
    | false => none
  | .str, .str a, .str b => some (xw a b)
  | .bool, .bool a, .bool b => some (a == b)
  | .int, .sym e, y => zC3 (.sym e) y
  | .int, .nat a, .sym e => zC3 (.nat a) (.sym e)
  | .int, .int k a, .sym e => zC3 (.int k a) (.sym e)
  | _, _, _ => none
def wb (kk : ke) (k : CV) : List CE → Option (Option CV)
  | [] => some none
  | e :: es => match km kk k e.key with
    | some true => match wb kk k es with
      | some none => some (some e.val)
      | _ => none
    | some false => wb kk k es
    | none => none
def zHY (kk : ke) (k v : CV) : List CE → Option (List CE)
  | [] => none
  | e :: es => match km kk k e.key with
    | some true => some (⟨k, v, e.born⟩ :: es)
    | some false => match zHY kk k v es with
      | none => none
      | some r => some (e :: r)
    | none => none
def zHf (kk : ke) (k : CV) : List CE → Option (List CE)
  | [] => none
  | e :: es => match km kk k e.key with
    | some true => some es
    | some false => match zHf kk k es with
      | none => none
      | some r => some (e :: r)
    | none => none
def okV (ok : Bool) (v : CV) : CV := match ok with
  | true => .tup [v, .bool true]
  | false => v
def zBb (kk : ke) (z : CV) (ok : Bool) (k : CV) (es : List CE) : OR := yc (zCI kk k) (match wb kk k es with
  | some (some v) => .read (okV ok v)
  | some none => .read (match ok with | true => .tup [z, .bool false] | false => z)
  | none => .err 169) 170
def zKG (kk : ke) (z : CV) (ok : Bool) (x k : zR) : X := fun es tm h _ => zCe (aV es tm x) (zBb kk z ok (aV es tm k) [])
  (fun b => wH (yK b h) (fun l _ => zBb kk z ok (aV es tm k) l) 171) 172
def zJ7 (kk : ke) (m k v : zR) : X := fun es tm h n => zCe (aV es tm m) (.err 173) (fun b => wH (yK b h) (fun l clock =>
  yc (zCI kk (aV es tm k)) (match wb kk (aV es tm k) l with
    | some (some _) => match zHY kk (aV es tm k) (aV es tm v) l with
      | some l' => .eff .undef (yv (some (.map l' clock)) b h) n
      | none => .err 174
    | some none => vA (Nat.succ clock) fun c => .eff .undef (yv (some (.map (l ++ [⟨aV es tm k, aV es tm v, clock⟩]) c)) b h) n
    | none => .err 175) 176) 177) 178
def zFx (x : zR) : X := fun es tm _ n => vT (aV es tm x) (fun s => .alloc (.striter s 0) (.ptr n 0)) 179
def zFa (x : zR) : X := fun es tm h n => zCe (aV es tm x) (.alloc (.mapiter none 0 [] 0) (.ptr n 0)) (fun b => wH (yK b h) (fun _ clock =>
  .eff (.ptr n 0) (yv (some (.mapiter (some b) clock [] clock)) n h) n.succ) 180) 181
def zJI (x : Nat) (l : List Nat) : Bool := List.rec (motive := fun _ => Bool) false (fun y _ ih => Bool.rec (motive := fun _ => Bool) ih true (Nat.beq x y)) l
def zFY (seen : List Nat) : List CE → List CE
  | [] => []
  | e :: es => match zJI e.born seen with
    | true => zFY seen es
    | false => e :: zFY seen es
def zBg (last : Nat) : List CE → Bool
  | [] => true
  | e :: es => Nat.ble last e.born && zBg last es
def zM0 (l : List Nat) : Bool := match l with
  | [] => true
  | _ => false
def zI6 (l : List CE) : Bool := match l with
  | [] => true
  | _ => false
def zDf (since : Nat) : List CE → Bool
  | [] => true
  | e :: es => Nat.ble (Nat.succ e.born) since && zDf since es
def zCU (f : CE → OR) : CE → List CE → OR
  | e, [] => f e
  | e, e' :: l => .fork (f e) (zCU f e' l)
def zGI (b : Key) (h : Heap) (n : Key) (s : List Nat) (pos : Nat) : OR := match zO1 s pos with
  | none => .eff (.tup [.bool false]) h n
  | some c => yc (Nat.ble c 127)
    (vA (Nat.succ pos) fun p => .eff (.tup [.bool true, .nat pos, .int .i32 (.ofNat c)]) (yv (some (.striter s p)) b h) n) 182
def zOw (b : Key) (h : Heap) (n : Key) (m : Key) (since : Nat) (seen : List Nat) (last : Nat) : OR := wH (yK m h) (fun es clock =>
  match !zM0 seen && !zI6 es && zBg last es with
  | true => .err 183
  | false => match zFY seen es with
    | [] => .eff (.tup [.bool false]) h n
    | e :: l => yc (zDf since (e :: l)) (zCU (fun e => .eff (.tup [.bool true, e.key, e.val]) (yv (some (.mapiter (some m) since (seen ++ [e.born]) clock)) b h) n) e l) 184) 186
def zMl (s : Bool) (b : Key) (h : Heap) (n : Key) (o : Option CObj) : OR := match o, s with
  | some (.striter s pos), true => zGI b h n s pos
  | some (.mapiter none _ _ _), false => .eff (.tup [.bool false]) h n
  | some (.mapiter (some m) since seen last), false => zOw b h n m since seen last
  | _, _ => .err 187
def zPO (s : Bool) (x : zR) : X := fun es tm h n => zAO (aV es tm x) (fun b off => yc (Nat.beq off 0) (zMl s b h n (yK b h)) 188) 189
def zKY : List Nat → Option Nat
  | [] => none
  | [x] => some x
  | _ :: y :: r => zKY (y :: r)
def zGe (b : Nat) : List CE → Bool
  | [] => true
  | e :: es => match Nat.beq e.born b with
    | true => false
    | false => zGe b es
def zHM (b : Nat) : List CE → Option CE
  | [] => none
  | e :: es => match Nat.beq e.born b with
    | true => match zGe b es with
      | true => some e
      | false => none
    | false => zHM b es
def zIJ (h : Heap) (o : Option CObj) : OR := match o with
  | some (.mapiter (some m) _ seen stepped) => match zKY seen with
    | some st => wH (yK m h) (fun es clock => match Nat.beq clock stepped, zHM st es with
      | true, some e => .read (.tup [e.key, e.val])
      | _, _ => .err 190) 191
    | none => .err 192
  | _ => .err 193
def zNK (x : zR) : X := fun es tm h _ => zAO (aV es tm x) (fun b off => yc (Nat.beq off 0) (zIJ h (yK b h)) 194) 195
def noV (ok : Bool) (z : Option CV) : OR := match ok, z with
  | true, some z => .val (.tup [z, .bool false])
  | _, _ => .err 196
def zHl (t : TypeId) (z : Option CV) (ok : Bool) (x : zR) : X := fun es tm _ _ => zAW (aV es tm x)
  (fun d v => ifB (Nat.beq d t) (.val (okV ok v)) (noV ok z)) (noV ok z) 197
def zNt (P : Program) (t d : TypeId) : Option Bool := match und P t, P.info? d with
  | some (.interface want), some i => some (Instr.missingMethod want i.methods).isNone
  | _, _ => none
def zKl (P : Program) (t : TypeId) (z : Option CV) (ok : Bool) (x : zR) : X := fun es tm _ _ => zAW (aV es tm x)
  (fun d v => match zNt P t d with
    | some true => .val (okV ok (.iface d v))
    | some false => noV ok z
    | none => .err 198) (noV ok z) 199
def zIs (i : Nat) (x : zR) : X := fun es tm _ _ => zPJ (aV es tm x) (fun vs => zDt (zD8 vs i) 200) 201
inductive vH where
  | val (v : CV)
  | var (b : Key) (off : Nat)
def uW (h : Heap) (b : Key) : Option (List CV) := match yK b h with
  | some (.cells vs) => some vs
  | some (.ro vs) => some vs
  | _ => none
def zK3 (agg : Bool) (s : Nat) (cs : List CV) (off : Nat) : Option CV := match agg with
  | true => (uj cs off s).map .agg
  | false => zD8 cs off
section
variable (P : Program)
def zKf (h : Heap) (t : TypeId) (b : Key) (off : Nat) : Option CV := match xg P t, xV P t, uW h b with
  | some a, some s, some vs => zK3 a s vs off
  | _, _, _ => none
def vH.get (h : Heap) (t : TypeId) : vH → Option CV
  | .val v => some v
  | .var b off => zKf P h t b off
def zGk (s : FieldStep) : Option Field := match und P s.struct with
  | some (.struct fs) => match nth fs.toList s.index with
    | some f => match xV P f.type with
      | some (_ + 1) => some f
      | _ => none
    | none => none
  | _ => none
def kz (h : Heap) : List FieldStep → TypeId → vH → Option (TypeId × vH)
  | [], t, x => some (t, x)
  | s :: rest, t, x => match zGk P s with
    | none => none
    | some f => match s.deref with
      | true => match x.get P h t with
        | some (.ptr b off) => kz h rest f.type (.var b (Nat.add off f.offset))
        | _ => none
      | false => match x with
        | .var b off => kz h rest f.type (.var b (Nat.add off f.offset))
        | .val (.agg cs) => match xg P f.type, xV P f.type with
          | some a, some s => match zK3 a s cs f.offset with
            | some v => kz h rest f.type (.val v)
            | none => none
          | _, _ => none
        | .val _ => none
def uY (h : Heap) (xt : TypeId) (x : vH) (pr : Bool) : Option CV := match und P xt, pr, x with
  | some (.pointer _), true, x => x.get P h xt
  | some (.pointer e), false, x => match x.get P h xt with
    | some (.ptr b off) => zKf P h e b off
    | _ => none
  | some _, true, .var b off => some (.ptr b off)
  | some _, true, .val _ => none
  | some _, false, x => x.get P h xt
  | none, _, _ => none
def vB (name : String) : List Method → Option Method
  | [] => none
  | m :: r => if m.name == name then some m else vB name r
def zGl (t : TypeId) (name : String) : Option Method := (P.info? t).bind fun i => vB name i.methods.toList
def zCW (h : Heap) : Nat → TypeId → CV → String → Option (FuncId × CV)
  | 0, _, _, _ => none
  | d + 1, t, v, name => match zGl P t name with
    | none => none
    | some m => match kz P h m.path.toList t (.val v) with
      | none => none
      | some (xt, x) => match m.func with
        | none => match x.get P h xt with
          | some (.iface t' v') => zCW h d t' v' name
          | _ => none
        | some (f, pr) => match uY P h xt x pr with
          | some r => some (f, r)
          | none => none
def zFt (h : Heap) (recv : CV) (name : String) (args : List CV) : OR := zAW recv
  (fun t v => match zCW P h 8 t v name with
    | some (f, r) => .call f (r :: args)
    | none => .err 202) (.err 203) 204
def zM1 (h : Heap) (f : CV) (args : List CV) : OR := zI2 f (fun fn first captured => match fn with
    | .func g => .call g (zB9 first (zB9 args captured))
    | .method name => match zB9 first args with
      | recv :: rest => zFt P h recv name rest
      | [] => .err 205
    | .methodOf t name => match zB9 first args with
      | recv :: rest => match und P t with
        | some (.interface _) => zFt P h recv name rest
        | some _ => zFt P h (.iface t recv) name rest
        | none => .err 206
      | [] => .err 207
    | .via t path g pr => match zB9 first args with
      | recv :: rest => match kz P h path.toList t (.val recv) with
        | some (xt, x) => match uY P h xt x pr with
          | some r => .call g (r :: rest)
          | none => .err 208
        | none => .err 209
      | [] => .err 210
    | _ => .err 211) 212
end
def zGr (c : Nat) (l : List Nat) : Nat := List.rec (motive := fun _ => Nat) 0 (fun x _ ih => Bool.rec (motive := fun _ => Nat) ih (Nat.succ ih) (Nat.beq x c)) l
def zBG (c : Nat) : List Nat → Nat → Option Nat
  | [], _ => none
  | x :: r, i => match Nat.beq x c with
    | true => some i
    | false => zBG c r (Nat.succ i)
def zAu (e : Ext) (args : List CV) (h : Heap) (n : Key) : OR := match e, args with
  | .count, [a, b] => vT a (fun s => onN (kv b) (fun c => .val (qq (zGr c s))) 213) 214
  | .indexByte, [a, b] => vT a (fun s => onN (kv b) (fun c => match zBG c s 0 with
    | some i => .val (qq i)
    | none => .val (.int .i64 (.negSucc 0))) 215) 216
  | .cmp, [a, b] => vT a (fun s => vT b (fun t => ifB (xw s t) (.val (.nat 0)) (ifB (ve s t) (.val (.int .i64 (.negSucc 0))) (.val (.nat 1)))) 223) 224
  | .overlaps, [a, b] => va a (.err 225) (fun k _ l _ _ _ => va b (.err 226) (fun j _ m _ _ _ => yc (!decide (j = k)) (zGg (yK k h) (fun u _ => yc u (jR (yK j h) (fun vs => yc (Nat.ble 1 (ui vs)) (.eff (.bool false) h n) 227) 228) 233) (.err 229)) 230) 231) 232
  | .mapsClone, [a] => zAW a (fun t v => zCe v (.err 217) (fun b => wH (yK b h) (fun es clock =>
      .eff (.iface t (.map n)) (yv (some (.map es clock)) n h) n.succ) 218) 219) (.err 220) 221
  | _, _ => .err 222
def zPw (f : FuncId) (args : List zR) : X := fun es tm _ _ => .call f (aVs es tm args)
def zPD (e : Ext) (args : List zR) : X := fun es tm h n => zAu e (aVs es tm args) h n
def zN7 (P : Program) (f : zR) (args : List zR) : X := fun es tm h _ => zM1 P h (aV es tm f) (aVs es tm args)
def zKK (P : Program) (r : zR) (name : String) (args : List zR) : X := fun es tm h _ => zFt P h (aV es tm r) name (aVs es tm args)
def zI5 (h : Heap) (s : Nat) (x : CV) (k : Nat → List CV → OR) (n : Nat → Nat) (e : Nat) : OR := match x with
  | .str l => yc (Nat.beq s 1) (onL ((zHV l (n (zAZ l))).map wV) (fun cs => k (n (zAZ l)) cs) e) e
  | x => va x (k 0 []) (fun b off len _ _ _ => vz (yK b h) (fun vs => onL (uj vs off (Nat.mul (n len) s)) (fun cs => k (n len) cs) e) e) e
def zE8 (esz k : Nat) (xs : List CV) (sv : CV) (h : Heap) (n : Key) : OR := va sv
    (match k with
     | 0 => .eff .nilsl h n
     | k + 1 => yc (Nat.ble k 99999) (vA k fun k => .eff (.sl n 0 (Nat.succ k) (Nat.succ k) esz false) (yv (some (.cells xs)) n h) n.succ) 223)
    (fun b off len cap s ex => yc (Nat.beq s esz) (zGg (yK b h) (fun _ vs => vA (Nat.add len k) fun need =>
      yc ((match ex with | true => Nat.ble (Nat.succ cap) need | false => Nat.ble 1 need && Nat.ble (Nat.succ (ui vs)) (Nat.add off (Nat.mul need esz))) && Nat.ble need 100000) (onL (uj vs off (Nat.mul len esz)) (fun old =>
        .eff (.sl n 0 need need esz false) (yv (some (.cells (zB9 old xs))) n h) n.succ) 225) 226) <| jR (yK b h) (fun vs => vA (Nat.add len k) fun need =>
      ifB (Nat.ble need cap)
        (onL (qe xs (Nat.mul k esz) vs (Nat.add off (Nat.mul len esz))) (fun l => .eff (.sl b off need cap esz ex) (yv (some (.cells l)) b h) n) 224)
        (yc (Nat.ble need 100000) (onL (uj vs off (Nat.mul len esz)) (fun old =>
          .eff (.sl n 0 need need esz false) (yv (some (.cells (zB9 old xs))) n (Bool.rec (motive := fun _ => Heap) (yv none b h) h ex)) n.succ) 225) 226)) 227) 228) 229
def uM (esz _bytes : Nat) (s x : zR) : X := fun es tm h n => zI5 h esz (aV es tm x) (fun k xs => yc (y9 xs) (zE8 esz k xs (aV es tm s) h n) 230)
    (fun k => k) 231
def zKd (zero : List CV) (esz : Nat) (s x : zR) : X := fun es tm h n => vV (aV es tm x) (fun k => yc (Nat.ble k 1000) (vA k fun k => yc (y9 (ja zero k)) (zE8 esz k (ja zero k) (aV es tm s) h n) 234) 234) 234
def zNr (x : CV) (k : Nat → OR) (e : Nat) : OR := match x with
  | .str l => k (zAZ l)
  | x => va x (k 0) (fun _ _ len _ _ _ => k len) e
def zE3 (esz : Nat) (d x : zR) : X := fun es tm h n => zNr (aV es tm d) (fun dl => zI5 h esz (aV es tm x) (fun k xs => va (aV es tm d)
    (.eff (.nat 0) h n)
    (fun b off _ _ _ _ => jR (yK b h) (fun vs => yc (y9 xs) (onL (qe xs (Nat.mul k esz) vs off) (fun l => .eff (qq k) (yv (some (.cells l)) b h) n) 232) 233) 234) 235)
    (fun xl => Nat.min xl dl) 236) 237
def zKj (x : zR) : X := fun es tm _ _ => zPL (aV es tm x) (fun l => .val (qq (ui l))) <| vT (aV es tm x) (fun s => .val (qq (zAZ s))) 238
def zMI (x : zR) : X := fun es tm _ _ => zNZ (aV es tm x) (fun _ _ _ n => .val (.sym n)) <| va (aV es tm x) (.val (.nat 0)) (fun _ _ len _ _ _ => .val (.nat len)) 239
def zKp (x : zR) : X := fun es tm h _ => zCe (aV es tm x) (.val (.nat 0)) (fun b => wH (yK b h) (fun l _ => .read (qq (zPk l))) 240) 241
def zOc (vs : List CV) (k : Nat) : List CV := zB9 vs (ja [.any] (Nat.sub k (ui vs)))
def zNW (b : Key) (off len cap esz : Nat) (h : Heap) (n : Key) : OR := ifB (Nat.ble (Nat.succ len) cap) (.val (.big cap))
  (jR (yK b h) (fun vs => yc (Nat.ble 1 cap) (.fork (.eff (.nat cap) (yv (some (.full false (zOc vs (Nat.add off (Nat.mul cap esz))))) b h) n)
    (.eff (.big (Nat.succ cap)) (yv (some (.cells (zOc vs (Nat.add off (Nat.mul (Nat.succ cap) esz))))) b h) n)) 242) 242)
def zN3 (x : zR) : X := fun es tm h n => va (aV es tm x) (.val (.nat 0)) (fun b off len cap esz ex => ifB ex (.val (.nat cap)) (zNW b off len cap esz h n)) 243
def zK7 (kk : ke) (m k : zR) : X := fun es tm h n => yc (zCI kk (aV es tm k)) (zCe (aV es tm m) (.eff (.tup []) h n) (fun b => wH (yK b h) (fun l clock =>
  match wb kk (aV es tm k) l with
  | some (some _) => match zHf kk (aV es tm k) l with
    | some l' => .eff (.tup []) (yv (some (.map l' clock)) b h) n
    | none => .err 244
  | some none => .eff (.tup []) h n
  | none => .err 245) 246) 247) 248
def zFm (x : zR) : X := fun es tm h n => zCe (aV es tm x) (.eff (.tup []) h n) (fun b => wH (yK b h) (fun _ clock => .eff (.tup []) (yv (some (.map [] clock)) b h) n) 249) 250
def zHZ (zero : List CV) (esz : Nat) (x : zR) : X := fun es tm h n => va (aV es tm x) (.eff (.tup []) h n) (fun b off len _ _ _ => jR (yK b h) (fun vs =>
  yc (y9 zero) (onL (qe (ja zero len) (Nat.mul len esz) vs off) (fun l => .eff (.tup []) (yv (some (.cells l)) b h) n) 251) 252) 253) 254
def intOf : CV → Option (IntKind × Int)
  | .nat n => some (.i64, .ofNat n)
  | .int k n => some (k, n)
  | _ => none
def zO5 (mx : Bool) (k : IntKind) : Int → List CV → Option CV
  | a, [] => some (mkInt k a)
  | a, v :: r => match intOf v with
    | some (j, b) => match kEq k j with
      | true => zO5 mx k (match mx with
        | true => (match kY a b with | true => b | false => a)
        | false => (match kY b a with | true => b | false => a)) r
      | false => none
    | none => none
def zJd (mx : Bool) : CV → List CV → Option CV
  | x, [] => some x
  | x, v :: r => match Sym.cv .i64 x, Sym.bin .lss (Bool.rec (motive := fun _ => CV) v x mx) (Bool.rec (motive := fun _ => CV) x v mx) with
    | some _, some [.bool b] => zJd mx (Bool.rec (motive := fun _ => CV) x v b) r
    | some _, _ => match Sym.bin .leq (Bool.rec (motive := fun _ => CV) v x mx) (Bool.rec (motive := fun _ => CV) x v mx) with
      | some [.bool true] => zJd mx v r
      | _ => none
    | none, _ => none
def zQx (mx : Bool) (x : CV) (r : List CV) : Option CV := match intOf x with
  | some (k, a) => match zO5 mx k a r with
    | some v => some v
    | none => zJd mx x r
  | none => zJd mx x r
def zKk (mx : Bool) (x : zR) (r : List zR) : X := fun es tm _ _ => zDt (zQx mx (aV es tm x) (aVs es tm r)) 255
def zNn (f : zR) (args : List zR) : X := fun es tm _ _ => zI2 (aV es tm f) (fun fn first captured => match fn with
  | .func g => .dfr g (zB9 first (zB9 (aVs es tm args) captured))
  | _ => .err 256) 257
def zNu : X := fun _ _ _ _ => .recov
def zQo (c : Nat) : X := fun _ _ _ _ => .err (Nat.add 1000 c)
def yA (P : Program) (op : COp) : X :=
  COp.rec (motive := fun _ => X) xMv zPq zMO zQC zMz zKL zNH zM5 zNf zMD zN0 xEq xUn zNg zNc zPK zJZ zPN
    zMF zPu zNq zHF zM7 zPB zMt zKa zPo zMX zPI zOj zMV zKG zJ7 zFx zFa zPO zNK
    zHl (zKl P) zIs zPw zPD (zN7 P) (zKK P) uM zKd zE3 zKj zMI zKp zN3 zK7 zFm zHZ zKk
    zNn zNu zQo op
inductive CX where
  | normal
  | exit (id : Nat)
  | ret
abbrev xT := List (FuncId × List CV)
inductive R where
  | ok (e : CX) (tm : Tm) (ds : xT) (h : Heap) (n : Key)
  | ret (v : CV) (h : Heap) (n : Key)
  | err (c : Nat)
  | fork (a b : R)
abbrev yI := Bool → FuncId → List CV → Heap → Key → R
abbrev K := Tm → xT → Heap → Key → R
abbrev KE := List CV → K
def zu (d : Option Loc) (v : CV) (tm : Tm) (k : Tm → R) : R := Option.rec (motive := fun _ => CV → Tm → (Tm → R) → R) (fun _ tm k => k tm) (fun p v tm k => k (kP v p tm)) d v tm k
abbrev vp := yI → KE → Option Loc → List CV → K
def zQr (v : CV) : vp := fun _ k d es tm ds h n => zu d v tm fun tm => k (v :: es) tm ds h n
def zQj (o : CObj) (v : CV) : vp := fun _ k d es tm ds h n => zu d v tm fun tm => k (v :: es) tm ds (yv (some o) n h) n.succ
def zRc (v : CV) (h : Heap) (n : Key) : vp := fun _ k d es tm ds _ _ => zu d v tm fun tm => k (v :: es) tm ds h n
def zQw (f : FuncId) (args : List CV) : vp := fun call k d es tm ds h n =>
  R.rec (motive := fun _ => R) (fun _ _ _ _ _ => .err 300) (fun v h n => zu d v tm fun tm => k (v :: es) tm ds h n) (fun c => .err c) (fun _ _ a b => .fork a b) (call false f args h n)
def zQ4 (f : FuncId) (args : List CV) : vp := fun _ k d es tm ds h n => zu d .undef tm fun tm => k (.undef :: es) tm ((f, args) :: ds) h n
def zPS : vp := fun _ k d es tm ds h n => zu d .niliface tm fun tm => k (.niliface :: es) tm ds h n
def zQS (c : Nat) : vp := fun _ _ _ _ _ _ _ _ => .err c
def zQB (_ _ : OR) (a b : vp) : vp := fun call k d es tm ds h n => .fork (a call k d es tm ds h n) (b call k d es tm ds h n)
def after (r : OR) : vp := OR.rec (motive := fun _ => vp) zQr zQr zQj zRc zQw zQ4 zPS zQS zQB r
def qv (w : Bool) (v : CV) : Bool := match v with
  | .bool b => match b, w with
    | true, true => true
    | false, false => true
    | _, _ => false
  | _ => false
def jq (v : CV) : Bool := match v with
  | .any => false
  | _ => true
def iI (P : Program) (call : yI) (op : COp) (k : KE) : KE := fun es tm ds h n => after (yA P op es tm h n) call k none es tm ds h n
def iO (P : Program) (call : yI) (op : COp) (d : Loc) (k : KE) : KE := fun es tm ds h n => after (yA P op es tm h n) call k (some d) es tm ds h n
def iG (P : Program) (call : yI) (x : zR) (w : Bool) (op : COp) (d : Option Loc) (k : KE) : KE := fun es tm ds h n =>
  Bool.rec (motive := fun _ => R)
    (Bool.rec (motive := fun _ => R) (.err 299) (zu d .undef tm fun tm => k (.undef :: es) tm ds h n) (jq (aV es tm x)))
    (after (yA P op es tm h n) call k d es tm ds h n) (qv w (aV es tm x))
def zQl (P : Program) (call : yI) (i : xx) : KE → KE := xx.rec (motive := fun _ => KE → KE) (iI P call) (iO P call) (iG P call) i
def yd (P : Program) (call : yI) (l : List xx) : KE :=
  List.rec (motive := fun _ => KE) (fun _ tm ds h n => .ok .normal tm ds h n) (fun i _ ih => zQl P call i ih) l
mutual
def CV.beq : CV → CV → Bool
  | .bool a, .bool b => a == b
  | .nat a, .nat b => Nat.beq a b
  | .int k a, .int j b => kEq k j && yy a b
  | .sym a, .sym b => kEq a.k b.k && yy a.c b.c && uy a.l b.l
  | .str a, .str b => xw a b
  | .nilptr, .nilptr => true
  | .ptr a b, .ptr c d => decide (a = c) && Nat.beq b d
  | .nilsl, .nilsl => true
  | .sl a b c d e f, .sl a' b' c' d' e' f' => decide (a = a') && Nat.beq b b' && Nat.beq c c' && Nat.beq d d' && Nat.beq e e' && f == f'
  | .nilmap, .nilmap => true
  | .map a, .map b => decide (a = b)
  | .func f a b, .func g c d => decide (f = g) && CV.beqs a c && CV.beqs b d
  | .nilfunc, .nilfunc => true
  | .iface t v, .iface u w => Nat.beq t u && CV.beq v w
  | .niliface, .niliface => true
  | .agg a, .agg b => CV.beqs a b
  | .tup a, .tup b => CV.beqs a b
  | .sst a, .sst b => CV.beqs a b
  | _, _ => false
def CV.beqs : List CV → List CV → Bool
  | [], [] => true
  | a :: as, b :: bs => CV.beq a b && CV.beqs as bs
  | _, _ => false
end
abbrev KD := List CV → List Heap → K
def qX (P : Program) (op : COp) (es : List CV) (tm : Tm) (n : Key) (v : CV) : Nat → List Heap → Bool
  | 0, _ => true
  | _ + 1, [] => true
  | c + 1, h :: hs => match yA P op es tm h n with
    | .read w => CV.beq v w && qX P op es tm n v c hs
    | _ => false
def zIS (call : yI) (d : Option Loc) (k : KD) (r : OR) : KD := fun es hs tm ds h n => match r with
  | .val v => zu d v tm fun tm => k (v :: es) (h :: hs) tm ds h n
  | .read v => zu d v tm fun tm => k (v :: es) (h :: hs) tm ds h n
  | .alloc o v => zu d v tm fun tm => k (v :: es) (h :: hs) tm ds (yv (some o) n h) n.succ
  | .eff v h' n' => zu d v tm fun tm => k (v :: es) (h :: hs) tm ds h' n'
  | .call f args => R.rec (motive := fun _ => R) (fun _ _ _ _ _ => .err 300) (fun v h' n' => zu d v tm fun tm => k (v :: es) (h :: hs) tm ds h' n') (fun c => .err c)
      (fun _ _ a b => .fork a b) (call false f args h n)
  | .err c => .err c
  | _ => .err 312
def dNo (P : Program) (op : COp) (d : Option Loc) (chk : Nat) (k : KD) (r : OR) : KD := fun es hs tm ds h n => match r with
  | .val v => zu d v tm fun tm => k (v :: es) hs tm ds h n
  | .read v => match qX P op es tm n v chk hs with
    | true => zu d v tm fun tm => k (v :: es) hs tm ds h n
    | false => .err 311
  | .alloc o v => zu d v tm fun tm => k (v :: es) hs tm ds (yv (some o) n h) n.succ
  | .err c => .err c
  | _ => .err 313
def dOp (P : Program) (call : yI) (op : COp) (d : Option Loc) (e : Bool) (chk : Nat) (k : KD) : KD := fun es hs tm ds h n => match e with
  | true => zIS call d k (yA P op es tm h n) es hs tm ds h n
  | false => dNo P op d chk k (yA P op es tm h n) es hs tm ds h n
def zC9 (d : Option Loc) (e : Bool) (k : KD) : KD := fun es hs tm ds h n => zu d .undef tm fun tm => k (.undef :: es) (match e with | true => h :: hs | false => hs) tm ds h n
def evD (P : Program) (call : yI) : List zMa → KD
  | [], _, _, tm, ds, h, n => .ok .normal tm ds h n
  | i :: r, es, hs, tm, ds, h, n => match i.ins with
    | .i op => dOp P call op none i.eff i.chk (evD P call r) es hs tm ds h n
    | .o op d => dOp P call op (some d) i.eff i.chk (evD P call r) es hs tm ds h n
    | .g x w op d => match qv w (aV es tm x) with
      | true => dOp P call op d i.eff i.chk (evD P call r) es hs tm ds h n
      | false => match jq (aV es tm x) with
        | true => zC9 d i.eff (evD P call r) es hs tm ds h n
        | false => .err 299
def xZ (k : K) (r : R) : R := R.rec (motive := fun _ => R) (fun e tm ds h n => CX.rec (motive := fun _ => R) (k tm ds h n) (fun id => .ok (.exit id) tm ds h n) (.ok .ret tm ds h n) e)
  (fun _ _ _ => .err 301) (fun c => .err c) (fun _ _ a b => .fork a b) r
def wG (id : Nat) (r : R) : R := R.rec (motive := fun _ => R) (fun e tm ds h n => CX.rec (motive := fun _ => R) (.ok .normal tm ds h n)
    (fun i => Bool.rec (motive := fun _ => R) (.ok (.exit i) tm ds h n) (.ok .normal tm ds h n) (Nat.beq i id)) (.ok .ret tm ds h n) e)
  (fun _ _ _ => .err 301) (fun c => .err c) (fun _ _ a b => .fork a b) r
def zGc (a b : K) (v : CV) : K := match v with
  | .bool true => a
  | .bool false => b
  | _ => fun _ _ _ _ => .err 302
def uk (fuel : Nat) (b : K) : K := Nat.rec (motive := fun _ => K) (fun _ _ _ _ => .err 303) (fun _ ih tm ds h n => xZ ih (b tm ds h n)) fuel
def uC : Nat := 100000
def zd (P : Program) (call : yI) (c : CCode) : K :=
  CCode.rec (motive := fun _ => K)
    (fun tm ds h n => .ok .normal tm ds h n)
    (fun ops => yd P call ops [])
    (fun ops => evD P call ops [] [])
    (fun _ _ a b tm ds h n => xZ b (a tm ds h n))
    (fun x _ _ a b tm ds h n => zGc a b (aV [] tm x) tm ds h n)
    (fun id _ b tm ds h n => wG id (b tm ds h n))
    (fun _ b => uk uC b)
    (fun id tm ds h n => .ok (.exit id) tm ds h n)
    (fun tm ds h n => .ok .ret tm ds h n)
    (fun _ b => b)
    (fun c _ _ _ _ => .err (Nat.add 2000 c)) c
def zNh (h : Heap) (tm : Tm) (r : CRes) : Option CV := match r with
  | .tmp x => some (aV [] tm x)
  | .cell1 x => match aV [] tm x with
    | .ptr b off => match uW h b with
      | some cs => zD8 cs off
      | none => none
    | _ => none
  | .cellN x s => match aV [] tm x with
    | .ptr b off => match uW h b with
      | some cs => (uj cs off s).map .agg
      | none => none
    | _ => none
def zBt (h : Heap) (tm : Tm) : List CRes → Option (List CV)
  | [] => some []
  | r :: rs => match zNh h tm r with
    | none => none
    | some v => match zBt h tm rs with
      | none => none
      | some vs => some (v :: vs)
def zA5 (h : Heap) (tm : Tm) (rs : List CRes) : Option CV := match zBt h tm rs with
  | some [v] => some v
  | some vs => some (.tup vs)
  | none => none
def xy : List CV → Nat → Tm → Tm
  | [], _, t => t
  | v :: vs, i, t => match Nat.ble i 271 with
    | true => xy vs (Nat.succ i) (kP v (Loc.ofNat i) t)
    | false => t
def kh (call : yI) (k : Heap → Key → R) : xT → Heap → Key → R
  | [], h, n => k h n
  | (f, args) :: r, h, n => R.rec (motive := fun _ => R) (fun _ _ _ _ _ => .err 300) (fun _ h n => kh call k r h n) (fun c => .err c) (fun _ _ a b => .fork a b) (call true f args h n)
def zB7 (rs : List CRes) (tm : Tm) (h : Heap) (n : Key) : R := match zA5 h tm rs with
  | some v => .ret v h n
  | none => .err 305
def qs (d : Bool) (call : yI) (rs : List CRes) (tm : Tm) (ds : xT) (h : Heap) (n : Key) : R := match ds with
  | [] => zB7 rs tm h n
  | f :: ds => match d with
    | false => kh call (fun h n => zB7 rs tm h n) (f :: ds) h n
    | true => .err 306
def yX (d : Bool) (call : yI) (rs : List CRes) (r : R) : R := R.rec (motive := fun _ => R)
  (fun e tm ds h n => CX.rec (motive := fun _ => R) (qs d call rs tm ds h n) (fun _ => .err 307) (qs d call rs tm ds h n) e) (fun _ _ _ => .err 308) (fun c => .err c) (fun _ _ a b => .fork a b) r
abbrev NatF := Sym → Bool → List CV → Heap → Key → R
abbrev Nats := FuncId → Option NatF
def zNM (r : OR) (h : Heap) (n : Key) : R := match r with
  | .val v => .ret v h n
  | .eff v h n => .ret v h n
  | .err c => .err c
  | _ => .err 309
def uq (P : Program) (d : Bool) (call : yI) (fn : CFn) (args : List CV) (h : Heap) (n : Key) : R :=
  CFn.rec (motive := fun _ => R) (fun body res => yX d call res (zd P call body (xy args 0 .nil) [] h n))
    (fun ops body res => match d with
      | true => yX true call res (xZ (zd P call body) (yd P call ops [] (xy args 0 .nil) [] h n))
      | false => .err 311)
    (fun e => match d with
      | true => .err 313
      | false => zNM (zAu e args h n) h n) (fun c => .err (Nat.add 3000 c)) fn
def ev (P : Program) (code : FuncId → CFn) (nat : Nats) (fuel : Nat) : yI :=
  Nat.rec (motive := fun _ => yI) (fun _ _ _ _ _ => .err 310)
    (fun _ ih d f args h n => Option.rec (motive := fun _ => R) (uq P d ih (code f) args h n) (fun g => g ‹Sym› d args h n) (nat f)) fuel
end
end Go.Ev


