/- A verified evaluator for the model's code: EvA, EvB. -/
import GoSem.Dispatch
import GoSem.Core.Made
set_option linter.unusedSectionVars false
set_option linter.unusedVariables false
set_option linter.unusedSimpArgs false
namespace Go.Ev
inductive Dg where
  | d0 | d1 | d2 | d3 | d4 | d5 | d6 | d7 | d8 | d9 | d10 | d11 | d12 | d13 | d14 | d15
  deriving DecidableEq, Inhabited
noncomputable def Dg.succ (d : Dg) : Option Dg := Dg.rec (motive := fun _ => Option Dg) (some .d1) (some .d2) (some .d3) (some .d4) (some .d5) (some .d6) (some .d7) (some .d8) (some .d9) (some .d10) (some .d11) (some .d12) (some .d13) (some .d14) (some .d15) none d
noncomputable def Dg.ix (d : Dg) : Nat := Dg.rec (motive := fun _ => Nat) 0 1 2 3 4 5 6 7 8 9 10 11 12 13 14 15 d
def Dg.ofN : Nat → Dg
  | 0 => .d0
  | 1 => .d1
  | 2 => .d2
  | 3 => .d3
  | 4 => .d4
  | 5 => .d5
  | 6 => .d6
  | 7 => .d7
  | 8 => .d8
  | 9 => .d9
  | 10 => .d10
  | 11 => .d11
  | 12 => .d12
  | 13 => .d13
  | 14 => .d14
  | _ => .d15
inductive Key where
  | mk (a b c d : Dg)
  deriving DecidableEq, Inhabited
def Key.zero : Key := .mk .d0 .d0 .d0 .d0
noncomputable def Key.succ (k : Key) : Key :=
  Key.rec (motive := fun _ => Key) (fun a b c d =>
    Option.rec (motive := fun _ => Key)
      (Option.rec (motive := fun _ => Key)
        (Option.rec (motive := fun _ => Key)
          (Option.rec (motive := fun _ => Key) (.mk .d15 .d15 .d15 .d15) (fun a => .mk a .d0 .d0 .d0) a.succ)
          (fun b => .mk a b .d0 .d0) b.succ)
        (fun c => .mk a b c .d0) c.succ)
      (fun d => .mk a b c d) d.succ) k
noncomputable def Key.ix : Key → Nat
  | .mk a b c d => ((a.ix * 16 + b.ix) * 16 + c.ix) * 16 + d.ix
def Key.ofNat (n : Nat) : Key := .mk (.ofN (n / 4096 % 16)) (.ofN (n / 256 % 16)) (.ofN (n / 16 % 16)) (.ofN (n % 16))
inductive Loc where
  | s (d : Dg)
  | w (c d : Dg)
  deriving DecidableEq, Inhabited
def Loc.ofNat (n : Nat) : Loc := match Nat.ble n 15 with
  | true => .s (.ofN n)
  | false => .w (.ofN ((n - 16) / 16)) (.ofN ((n - 16) % 16))
structure SE where
  k : IntKind
  c : Int
  l : List (Nat × Int)
inductive CV where
  | bool (b : Bool)
  | nat (n : Nat)
  | int (k : IntKind) (n : Int)
  | anyi (k : IntKind)
  | str (s : List Nat)
  | nilptr
  | ptr (b : Key) (off : Nat)
  | nilsl
  | sl (b : Key) (off len cap esz : Nat) (exact : Bool)
  | nilmap
  | map (b : Key)
  | func (fn : Fn) (first captured : List CV)
  | nilfunc
  | iface (t : TypeId) (v : CV)
  | niliface
  | agg (cs : List CV)
  | tup (vs : List CV)
  | sym (e : SE)
  | win (b : Key) (esz : Nat) (e n : SE)
  | sst (l : List CV)
  | big (n : Nat)
  | few (i : Nat) (t : List (List Nat))
  | elt (b : Key) (off i m : Nat)
  | any
  deriving Inhabited
def CV.undef : CV := .tup []
structure CE where
  key : CV
  val : CV
  born : Nat
inductive CObj where
  | cells (vs : List CV)
  | ro (vs : List CV)
  | map (es : List CE) (clock : Nat)
  | striter (s : List Nat) (pos : Nat)
  | mapiter (m : Option Key) (since : Nat) (seen : List Nat) (stepped : Nat)
  | full (u : Bool) (vs : List CV)
  | mapz (es : List (CV × CV))
noncomputable section
inductive LV where
  | nil
  | nd (c0 c1 c2 c3 c4 c5 c6 c7 c8 c9 c10 c11 c12 c13 c14 c15 : CV)
def LV.get (d : Dg) (t : LV) : CV :=
  Dg.rec (motive := fun _ => LV → CV)
    (fun t => LV.rec (motive := fun _ => CV) CV.any (fun c0 _ _ _ _ _ _ _ _ _ _ _ _ _ _ _ => c0) t)
    (fun t => LV.rec (motive := fun _ => CV) CV.any (fun _ c1 _ _ _ _ _ _ _ _ _ _ _ _ _ _ => c1) t)
    (fun t => LV.rec (motive := fun _ => CV) CV.any (fun _ _ c2 _ _ _ _ _ _ _ _ _ _ _ _ _ => c2) t)
    (fun t => LV.rec (motive := fun _ => CV) CV.any (fun _ _ _ c3 _ _ _ _ _ _ _ _ _ _ _ _ => c3) t)
    (fun t => LV.rec (motive := fun _ => CV) CV.any (fun _ _ _ _ c4 _ _ _ _ _ _ _ _ _ _ _ => c4) t)
    (fun t => LV.rec (motive := fun _ => CV) CV.any (fun _ _ _ _ _ c5 _ _ _ _ _ _ _ _ _ _ => c5) t)
    (fun t => LV.rec (motive := fun _ => CV) CV.any (fun _ _ _ _ _ _ c6 _ _ _ _ _ _ _ _ _ => c6) t)
    (fun t => LV.rec (motive := fun _ => CV) CV.any (fun _ _ _ _ _ _ _ c7 _ _ _ _ _ _ _ _ => c7) t)
    (fun t => LV.rec (motive := fun _ => CV) CV.any (fun _ _ _ _ _ _ _ _ c8 _ _ _ _ _ _ _ => c8) t)
    (fun t => LV.rec (motive := fun _ => CV) CV.any (fun _ _ _ _ _ _ _ _ _ c9 _ _ _ _ _ _ => c9) t)
    (fun t => LV.rec (motive := fun _ => CV) CV.any (fun _ _ _ _ _ _ _ _ _ _ c10 _ _ _ _ _ => c10) t)
    (fun t => LV.rec (motive := fun _ => CV) CV.any (fun _ _ _ _ _ _ _ _ _ _ _ c11 _ _ _ _ => c11) t)
    (fun t => LV.rec (motive := fun _ => CV) CV.any (fun _ _ _ _ _ _ _ _ _ _ _ _ c12 _ _ _ => c12) t)
    (fun t => LV.rec (motive := fun _ => CV) CV.any (fun _ _ _ _ _ _ _ _ _ _ _ _ _ c13 _ _ => c13) t)
    (fun t => LV.rec (motive := fun _ => CV) CV.any (fun _ _ _ _ _ _ _ _ _ _ _ _ _ _ c14 _ => c14) t)
    (fun t => LV.rec (motive := fun _ => CV) CV.any (fun _ _ _ _ _ _ _ _ _ _ _ _ _ _ _ c15 => c15) t) d t
def LV.upd (f : CV → CV) (d : Dg) (t : LV) : LV :=
  Dg.rec (motive := fun _ => (CV → CV) → LV → LV)
    (fun f t => LV.rec (motive := fun _ => LV) (.nd (f CV.any) CV.any CV.any CV.any CV.any CV.any CV.any CV.any CV.any CV.any CV.any CV.any CV.any CV.any CV.any CV.any) (fun c0 c1 c2 c3 c4 c5 c6 c7 c8 c9 c10 c11 c12 c13 c14 c15 => .nd (f c0) c1 c2 c3 c4 c5 c6 c7 c8 c9 c10 c11 c12 c13 c14 c15) t)
    (fun f t => LV.rec (motive := fun _ => LV) (.nd CV.any (f CV.any) CV.any CV.any CV.any CV.any CV.any CV.any CV.any CV.any CV.any CV.any CV.any CV.any CV.any CV.any) (fun c0 c1 c2 c3 c4 c5 c6 c7 c8 c9 c10 c11 c12 c13 c14 c15 => .nd c0 (f c1) c2 c3 c4 c5 c6 c7 c8 c9 c10 c11 c12 c13 c14 c15) t)
    (fun f t => LV.rec (motive := fun _ => LV) (.nd CV.any CV.any (f CV.any) CV.any CV.any CV.any CV.any CV.any CV.any CV.any CV.any CV.any CV.any CV.any CV.any CV.any) (fun c0 c1 c2 c3 c4 c5 c6 c7 c8 c9 c10 c11 c12 c13 c14 c15 => .nd c0 c1 (f c2) c3 c4 c5 c6 c7 c8 c9 c10 c11 c12 c13 c14 c15) t)
    (fun f t => LV.rec (motive := fun _ => LV) (.nd CV.any CV.any CV.any (f CV.any) CV.any CV.any CV.any CV.any CV.any CV.any CV.any CV.any CV.any CV.any CV.any CV.any) (fun c0 c1 c2 c3 c4 c5 c6 c7 c8 c9 c10 c11 c12 c13 c14 c15 => .nd c0 c1 c2 (f c3) c4 c5 c6 c7 c8 c9 c10 c11 c12 c13 c14 c15) t)
    (fun f t => LV.rec (motive := fun _ => LV) (.nd CV.any CV.any CV.any CV.any (f CV.any) CV.any CV.any CV.any CV.any CV.any CV.any CV.any CV.any CV.any CV.any CV.any) (fun c0 c1 c2 c3 c4 c5 c6 c7 c8 c9 c10 c11 c12 c13 c14 c15 => .nd c0 c1 c2 c3 (f c4) c5 c6 c7 c8 c9 c10 c11 c12 c13 c14 c15) t)
    (fun f t => LV.rec (motive := fun _ => LV) (.nd CV.any CV.any CV.any CV.any CV.any (f CV.any) CV.any CV.any CV.any CV.any CV.any CV.any CV.any CV.any CV.any CV.any) (fun c0 c1 c2 c3 c4 c5 c6 c7 c8 c9 c10 c11 c12 c13 c14 c15 => .nd c0 c1 c2 c3 c4 (f c5) c6 c7 c8 c9 c10 c11 c12 c13 c14 c15) t)
    (fun f t => LV.rec (motive := fun _ => LV) (.nd CV.any CV.any CV.any CV.any CV.any CV.any (f CV.any) CV.any CV.any CV.any CV.any CV.any CV.any CV.any CV.any CV.any) (fun c0 c1 c2 c3 c4 c5 c6 c7 c8 c9 c10 c11 c12 c13 c14 c15 => .nd c0 c1 c2 c3 c4 c5 (f c6) c7 c8 c9 c10 c11 c12 c13 c14 c15) t)
    (fun f t => LV.rec (motive := fun _ => LV) (.nd CV.any CV.any CV.any CV.any CV.any CV.any CV.any (f CV.any) CV.any CV.any CV.any CV.any CV.any CV.any CV.any CV.any) (fun c0 c1 c2 c3 c4 c5 c6 c7 c8 c9 c10 c11 c12 c13 c14 c15 => .nd c0 c1 c2 c3 c4 c5 c6 (f c7) c8 c9 c10 c11 c12 c13 c14 c15) t)
    (fun f t => LV.rec (motive := fun _ => LV) (.nd CV.any CV.any CV.any CV.any CV.any CV.any CV.any CV.any (f CV.any) CV.any CV.any CV.any CV.any CV.any CV.any CV.any) (fun c0 c1 c2 c3 c4 c5 c6 c7 c8 c9 c10 c11 c12 c13 c14 c15 => .nd c0 c1 c2 c3 c4 c5 c6 c7 (f c8) c9 c10 c11 c12 c13 c14 c15) t)
    (fun f t => LV.rec (motive := fun _ => LV) (.nd CV.any CV.any CV.any CV.any CV.any CV.any CV.any CV.any CV.any (f CV.any) CV.any CV.any CV.any CV.any CV.any CV.any) (fun c0 c1 c2 c3 c4 c5 c6 c7 c8 c9 c10 c11 c12 c13 c14 c15 => .nd c0 c1 c2 c3 c4 c5 c6 c7 c8 (f c9) c10 c11 c12 c13 c14 c15) t)
    (fun f t => LV.rec (motive := fun _ => LV) (.nd CV.any CV.any CV.any CV.any CV.any CV.any CV.any CV.any CV.any CV.any (f CV.any) CV.any CV.any CV.any CV.any CV.any) (fun c0 c1 c2 c3 c4 c5 c6 c7 c8 c9 c10 c11 c12 c13 c14 c15 => .nd c0 c1 c2 c3 c4 c5 c6 c7 c8 c9 (f c10) c11 c12 c13 c14 c15) t)
    (fun f t => LV.rec (motive := fun _ => LV) (.nd CV.any CV.any CV.any CV.any CV.any CV.any CV.any CV.any CV.any CV.any CV.any (f CV.any) CV.any CV.any CV.any CV.any) (fun c0 c1 c2 c3 c4 c5 c6 c7 c8 c9 c10 c11 c12 c13 c14 c15 => .nd c0 c1 c2 c3 c4 c5 c6 c7 c8 c9 c10 (f c11) c12 c13 c14 c15) t)
    (fun f t => LV.rec (motive := fun _ => LV) (.nd CV.any CV.any CV.any CV.any CV.any CV.any CV.any CV.any CV.any CV.any CV.any CV.any (f CV.any) CV.any CV.any CV.any) (fun c0 c1 c2 c3 c4 c5 c6 c7 c8 c9 c10 c11 c12 c13 c14 c15 => .nd c0 c1 c2 c3 c4 c5 c6 c7 c8 c9 c10 c11 (f c12) c13 c14 c15) t)
    (fun f t => LV.rec (motive := fun _ => LV) (.nd CV.any CV.any CV.any CV.any CV.any CV.any CV.any CV.any CV.any CV.any CV.any CV.any CV.any (f CV.any) CV.any CV.any) (fun c0 c1 c2 c3 c4 c5 c6 c7 c8 c9 c10 c11 c12 c13 c14 c15 => .nd c0 c1 c2 c3 c4 c5 c6 c7 c8 c9 c10 c11 c12 (f c13) c14 c15) t)
    (fun f t => LV.rec (motive := fun _ => LV) (.nd CV.any CV.any CV.any CV.any CV.any CV.any CV.any CV.any CV.any CV.any CV.any CV.any CV.any CV.any (f CV.any) CV.any) (fun c0 c1 c2 c3 c4 c5 c6 c7 c8 c9 c10 c11 c12 c13 c14 c15 => .nd c0 c1 c2 c3 c4 c5 c6 c7 c8 c9 c10 c11 c12 c13 (f c14) c15) t)
    (fun f t => LV.rec (motive := fun _ => LV) (.nd CV.any CV.any CV.any CV.any CV.any CV.any CV.any CV.any CV.any CV.any CV.any CV.any CV.any CV.any CV.any (f CV.any)) (fun c0 c1 c2 c3 c4 c5 c6 c7 c8 c9 c10 c11 c12 c13 c14 c15 => .nd c0 c1 c2 c3 c4 c5 c6 c7 c8 c9 c10 c11 c12 c13 c14 (f c15)) t) d f t
inductive L1 where
  | nil
  | nd (c0 c1 c2 c3 c4 c5 c6 c7 c8 c9 c10 c11 c12 c13 c14 c15 : LV)
def L1.get (d : Dg) (t : L1) : LV :=
  Dg.rec (motive := fun _ => L1 → LV)
    (fun t => L1.rec (motive := fun _ => LV) LV.nil (fun c0 _ _ _ _ _ _ _ _ _ _ _ _ _ _ _ => c0) t)
    (fun t => L1.rec (motive := fun _ => LV) LV.nil (fun _ c1 _ _ _ _ _ _ _ _ _ _ _ _ _ _ => c1) t)
    (fun t => L1.rec (motive := fun _ => LV) LV.nil (fun _ _ c2 _ _ _ _ _ _ _ _ _ _ _ _ _ => c2) t)
    (fun t => L1.rec (motive := fun _ => LV) LV.nil (fun _ _ _ c3 _ _ _ _ _ _ _ _ _ _ _ _ => c3) t)
    (fun t => L1.rec (motive := fun _ => LV) LV.nil (fun _ _ _ _ c4 _ _ _ _ _ _ _ _ _ _ _ => c4) t)
    (fun t => L1.rec (motive := fun _ => LV) LV.nil (fun _ _ _ _ _ c5 _ _ _ _ _ _ _ _ _ _ => c5) t)
    (fun t => L1.rec (motive := fun _ => LV) LV.nil (fun _ _ _ _ _ _ c6 _ _ _ _ _ _ _ _ _ => c6) t)
    (fun t => L1.rec (motive := fun _ => LV) LV.nil (fun _ _ _ _ _ _ _ c7 _ _ _ _ _ _ _ _ => c7) t)
    (fun t => L1.rec (motive := fun _ => LV) LV.nil (fun _ _ _ _ _ _ _ _ c8 _ _ _ _ _ _ _ => c8) t)
    (fun t => L1.rec (motive := fun _ => LV) LV.nil (fun _ _ _ _ _ _ _ _ _ c9 _ _ _ _ _ _ => c9) t)
    (fun t => L1.rec (motive := fun _ => LV) LV.nil (fun _ _ _ _ _ _ _ _ _ _ c10 _ _ _ _ _ => c10) t)
    (fun t => L1.rec (motive := fun _ => LV) LV.nil (fun _ _ _ _ _ _ _ _ _ _ _ c11 _ _ _ _ => c11) t)
    (fun t => L1.rec (motive := fun _ => LV) LV.nil (fun _ _ _ _ _ _ _ _ _ _ _ _ c12 _ _ _ => c12) t)
    (fun t => L1.rec (motive := fun _ => LV) LV.nil (fun _ _ _ _ _ _ _ _ _ _ _ _ _ c13 _ _ => c13) t)
    (fun t => L1.rec (motive := fun _ => LV) LV.nil (fun _ _ _ _ _ _ _ _ _ _ _ _ _ _ c14 _ => c14) t)
    (fun t => L1.rec (motive := fun _ => LV) LV.nil (fun _ _ _ _ _ _ _ _ _ _ _ _ _ _ _ c15 => c15) t) d t
def L1.upd (f : LV → LV) (d : Dg) (t : L1) : L1 :=
  Dg.rec (motive := fun _ => (LV → LV) → L1 → L1)
    (fun f t => L1.rec (motive := fun _ => L1) (.nd (f LV.nil) LV.nil LV.nil LV.nil LV.nil LV.nil LV.nil LV.nil LV.nil LV.nil LV.nil LV.nil LV.nil LV.nil LV.nil LV.nil) (fun c0 c1 c2 c3 c4 c5 c6 c7 c8 c9 c10 c11 c12 c13 c14 c15 => .nd (f c0) c1 c2 c3 c4 c5 c6 c7 c8 c9 c10 c11 c12 c13 c14 c15) t)
    (fun f t => L1.rec (motive := fun _ => L1) (.nd LV.nil (f LV.nil) LV.nil LV.nil LV.nil LV.nil LV.nil LV.nil LV.nil LV.nil LV.nil LV.nil LV.nil LV.nil LV.nil LV.nil) (fun c0 c1 c2 c3 c4 c5 c6 c7 c8 c9 c10 c11 c12 c13 c14 c15 => .nd c0 (f c1) c2 c3 c4 c5 c6 c7 c8 c9 c10 c11 c12 c13 c14 c15) t)
    (fun f t => L1.rec (motive := fun _ => L1) (.nd LV.nil LV.nil (f LV.nil) LV.nil LV.nil LV.nil LV.nil LV.nil LV.nil LV.nil LV.nil LV.nil LV.nil LV.nil LV.nil LV.nil) (fun c0 c1 c2 c3 c4 c5 c6 c7 c8 c9 c10 c11 c12 c13 c14 c15 => .nd c0 c1 (f c2) c3 c4 c5 c6 c7 c8 c9 c10 c11 c12 c13 c14 c15) t)
    (fun f t => L1.rec (motive := fun _ => L1) (.nd LV.nil LV.nil LV.nil (f LV.nil) LV.nil LV.nil LV.nil LV.nil LV.nil LV.nil LV.nil LV.nil LV.nil LV.nil LV.nil LV.nil) (fun c0 c1 c2 c3 c4 c5 c6 c7 c8 c9 c10 c11 c12 c13 c14 c15 => .nd c0 c1 c2 (f c3) c4 c5 c6 c7 c8 c9 c10 c11 c12 c13 c14 c15) t)
    (fun f t => L1.rec (motive := fun _ => L1) (.nd LV.nil LV.nil LV.nil LV.nil (f LV.nil) LV.nil LV.nil LV.nil LV.nil LV.nil LV.nil LV.nil LV.nil LV.nil LV.nil LV.nil) (fun c0 c1 c2 c3 c4 c5 c6 c7 c8 c9 c10 c11 c12 c13 c14 c15 => .nd c0 c1 c2 c3 (f c4) c5 c6 c7 c8 c9 c10 c11 c12 c13 c14 c15) t)
    (fun f t => L1.rec (motive := fun _ => L1) (.nd LV.nil LV.nil LV.nil LV.nil LV.nil (f LV.nil) LV.nil LV.nil LV.nil LV.nil LV.nil LV.nil LV.nil LV.nil LV.nil LV.nil) (fun c0 c1 c2 c3 c4 c5 c6 c7 c8 c9 c10 c11 c12 c13 c14 c15 => .nd c0 c1 c2 c3 c4 (f c5) c6 c7 c8 c9 c10 c11 c12 c13 c14 c15) t)
    (fun f t => L1.rec (motive := fun _ => L1) (.nd LV.nil LV.nil LV.nil LV.nil LV.nil LV.nil (f LV.nil) LV.nil LV.nil LV.nil LV.nil LV.nil LV.nil LV.nil LV.nil LV.nil) (fun c0 c1 c2 c3 c4 c5 c6 c7 c8 c9 c10 c11 c12 c13 c14 c15 => .nd c0 c1 c2 c3 c4 c5 (f c6) c7 c8 c9 c10 c11 c12 c13 c14 c15) t)
    (fun f t => L1.rec (motive := fun _ => L1) (.nd LV.nil LV.nil LV.nil LV.nil LV.nil LV.nil LV.nil (f LV.nil) LV.nil LV.nil LV.nil LV.nil LV.nil LV.nil LV.nil LV.nil) (fun c0 c1 c2 c3 c4 c5 c6 c7 c8 c9 c10 c11 c12 c13 c14 c15 => .nd c0 c1 c2 c3 c4 c5 c6 (f c7) c8 c9 c10 c11 c12 c13 c14 c15) t)
    (fun f t => L1.rec (motive := fun _ => L1) (.nd LV.nil LV.nil LV.nil LV.nil LV.nil LV.nil LV.nil LV.nil (f LV.nil) LV.nil LV.nil LV.nil LV.nil LV.nil LV.nil LV.nil) (fun c0 c1 c2 c3 c4 c5 c6 c7 c8 c9 c10 c11 c12 c13 c14 c15 => .nd c0 c1 c2 c3 c4 c5 c6 c7 (f c8) c9 c10 c11 c12 c13 c14 c15) t)
    (fun f t => L1.rec (motive := fun _ => L1) (.nd LV.nil LV.nil LV.nil LV.nil LV.nil LV.nil LV.nil LV.nil LV.nil (f LV.nil) LV.nil LV.nil LV.nil LV.nil LV.nil LV.nil) (fun c0 c1 c2 c3 c4 c5 c6 c7 c8 c9 c10 c11 c12 c13 c14 c15 => .nd c0 c1 c2 c3 c4 c5 c6 c7 c8 (f c9) c10 c11 c12 c13 c14 c15) t)
    (fun f t => L1.rec (motive := fun _ => L1) (.nd LV.nil LV.nil LV.nil LV.nil LV.nil LV.nil LV.nil LV.nil LV.nil LV.nil (f LV.nil) LV.nil LV.nil LV.nil LV.nil LV.nil) (fun c0 c1 c2 c3 c4 c5 c6 c7 c8 c9 c10 c11 c12 c13 c14 c15 => .nd c0 c1 c2 c3 c4 c5 c6 c7 c8 c9 (f c10) c11 c12 c13 c14 c15) t)
    (fun f t => L1.rec (motive := fun _ => L1) (.nd LV.nil LV.nil LV.nil LV.nil LV.nil LV.nil LV.nil LV.nil LV.nil LV.nil LV.nil (f LV.nil) LV.nil LV.nil LV.nil LV.nil) (fun c0 c1 c2 c3 c4 c5 c6 c7 c8 c9 c10 c11 c12 c13 c14 c15 => .nd c0 c1 c2 c3 c4 c5 c6 c7 c8 c9 c10 (f c11) c12 c13 c14 c15) t)
    (fun f t => L1.rec (motive := fun _ => L1) (.nd LV.nil LV.nil LV.nil LV.nil LV.nil LV.nil LV.nil LV.nil LV.nil LV.nil LV.nil LV.nil (f LV.nil) LV.nil LV.nil LV.nil) (fun c0 c1 c2 c3 c4 c5 c6 c7 c8 c9 c10 c11 c12 c13 c14 c15 => .nd c0 c1 c2 c3 c4 c5 c6 c7 c8 c9 c10 c11 (f c12) c13 c14 c15) t)
    (fun f t => L1.rec (motive := fun _ => L1) (.nd LV.nil LV.nil LV.nil LV.nil LV.nil LV.nil LV.nil LV.nil LV.nil LV.nil LV.nil LV.nil LV.nil (f LV.nil) LV.nil LV.nil) (fun c0 c1 c2 c3 c4 c5 c6 c7 c8 c9 c10 c11 c12 c13 c14 c15 => .nd c0 c1 c2 c3 c4 c5 c6 c7 c8 c9 c10 c11 c12 (f c13) c14 c15) t)
    (fun f t => L1.rec (motive := fun _ => L1) (.nd LV.nil LV.nil LV.nil LV.nil LV.nil LV.nil LV.nil LV.nil LV.nil LV.nil LV.nil LV.nil LV.nil LV.nil (f LV.nil) LV.nil) (fun c0 c1 c2 c3 c4 c5 c6 c7 c8 c9 c10 c11 c12 c13 c14 c15 => .nd c0 c1 c2 c3 c4 c5 c6 c7 c8 c9 c10 c11 c12 c13 (f c14) c15) t)
    (fun f t => L1.rec (motive := fun _ => L1) (.nd LV.nil LV.nil LV.nil LV.nil LV.nil LV.nil LV.nil LV.nil LV.nil LV.nil LV.nil LV.nil LV.nil LV.nil LV.nil (f LV.nil)) (fun c0 c1 c2 c3 c4 c5 c6 c7 c8 c9 c10 c11 c12 c13 c14 c15 => .nd c0 c1 c2 c3 c4 c5 c6 c7 c8 c9 c10 c11 c12 c13 c14 (f c15)) t) d f t
inductive HV where
  | nil
  | nd (c0 c1 c2 c3 c4 c5 c6 c7 c8 c9 c10 c11 c12 c13 c14 c15 : Option CObj)
def HV.get (d : Dg) (t : HV) : Option CObj :=
  Dg.rec (motive := fun _ => HV → Option CObj)
    (fun t => HV.rec (motive := fun _ => Option CObj) none (fun c0 _ _ _ _ _ _ _ _ _ _ _ _ _ _ _ => c0) t)
    (fun t => HV.rec (motive := fun _ => Option CObj) none (fun _ c1 _ _ _ _ _ _ _ _ _ _ _ _ _ _ => c1) t)
    (fun t => HV.rec (motive := fun _ => Option CObj) none (fun _ _ c2 _ _ _ _ _ _ _ _ _ _ _ _ _ => c2) t)
    (fun t => HV.rec (motive := fun _ => Option CObj) none (fun _ _ _ c3 _ _ _ _ _ _ _ _ _ _ _ _ => c3) t)
    (fun t => HV.rec (motive := fun _ => Option CObj) none (fun _ _ _ _ c4 _ _ _ _ _ _ _ _ _ _ _ => c4) t)
    (fun t => HV.rec (motive := fun _ => Option CObj) none (fun _ _ _ _ _ c5 _ _ _ _ _ _ _ _ _ _ => c5) t)
    (fun t => HV.rec (motive := fun _ => Option CObj) none (fun _ _ _ _ _ _ c6 _ _ _ _ _ _ _ _ _ => c6) t)
    (fun t => HV.rec (motive := fun _ => Option CObj) none (fun _ _ _ _ _ _ _ c7 _ _ _ _ _ _ _ _ => c7) t)
    (fun t => HV.rec (motive := fun _ => Option CObj) none (fun _ _ _ _ _ _ _ _ c8 _ _ _ _ _ _ _ => c8) t)
    (fun t => HV.rec (motive := fun _ => Option CObj) none (fun _ _ _ _ _ _ _ _ _ c9 _ _ _ _ _ _ => c9) t)
    (fun t => HV.rec (motive := fun _ => Option CObj) none (fun _ _ _ _ _ _ _ _ _ _ c10 _ _ _ _ _ => c10) t)
    (fun t => HV.rec (motive := fun _ => Option CObj) none (fun _ _ _ _ _ _ _ _ _ _ _ c11 _ _ _ _ => c11) t)
    (fun t => HV.rec (motive := fun _ => Option CObj) none (fun _ _ _ _ _ _ _ _ _ _ _ _ c12 _ _ _ => c12) t)
    (fun t => HV.rec (motive := fun _ => Option CObj) none (fun _ _ _ _ _ _ _ _ _ _ _ _ _ c13 _ _ => c13) t)
    (fun t => HV.rec (motive := fun _ => Option CObj) none (fun _ _ _ _ _ _ _ _ _ _ _ _ _ _ c14 _ => c14) t)
    (fun t => HV.rec (motive := fun _ => Option CObj) none (fun _ _ _ _ _ _ _ _ _ _ _ _ _ _ _ c15 => c15) t) d t
def HV.upd (f : Option CObj → Option CObj) (d : Dg) (t : HV) : HV :=
  Dg.rec (motive := fun _ => (Option CObj → Option CObj) → HV → HV)
    (fun f t => HV.rec (motive := fun _ => HV) (.nd (f none) none none none none none none none none none none none none none none none) (fun c0 c1 c2 c3 c4 c5 c6 c7 c8 c9 c10 c11 c12 c13 c14 c15 => .nd (f c0) c1 c2 c3 c4 c5 c6 c7 c8 c9 c10 c11 c12 c13 c14 c15) t)
    (fun f t => HV.rec (motive := fun _ => HV) (.nd none (f none) none none none none none none none none none none none none none none) (fun c0 c1 c2 c3 c4 c5 c6 c7 c8 c9 c10 c11 c12 c13 c14 c15 => .nd c0 (f c1) c2 c3 c4 c5 c6 c7 c8 c9 c10 c11 c12 c13 c14 c15) t)
    (fun f t => HV.rec (motive := fun _ => HV) (.nd none none (f none) none none none none none none none none none none none none none) (fun c0 c1 c2 c3 c4 c5 c6 c7 c8 c9 c10 c11 c12 c13 c14 c15 => .nd c0 c1 (f c2) c3 c4 c5 c6 c7 c8 c9 c10 c11 c12 c13 c14 c15) t)
    (fun f t => HV.rec (motive := fun _ => HV) (.nd none none none (f none) none none none none none none none none none none none none) (fun c0 c1 c2 c3 c4 c5 c6 c7 c8 c9 c10 c11 c12 c13 c14 c15 => .nd c0 c1 c2 (f c3) c4 c5 c6 c7 c8 c9 c10 c11 c12 c13 c14 c15) t)
    (fun f t => HV.rec (motive := fun _ => HV) (.nd none none none none (f none) none none none none none none none none none none none) (fun c0 c1 c2 c3 c4 c5 c6 c7 c8 c9 c10 c11 c12 c13 c14 c15 => .nd c0 c1 c2 c3 (f c4) c5 c6 c7 c8 c9 c10 c11 c12 c13 c14 c15) t)
    (fun f t => HV.rec (motive := fun _ => HV) (.nd none none none none none (f none) none none none none none none none none none none) (fun c0 c1 c2 c3 c4 c5 c6 c7 c8 c9 c10 c11 c12 c13 c14 c15 => .nd c0 c1 c2 c3 c4 (f c5) c6 c7 c8 c9 c10 c11 c12 c13 c14 c15) t)
    (fun f t => HV.rec (motive := fun _ => HV) (.nd none none none none none none (f none) none none none none none none none none none) (fun c0 c1 c2 c3 c4 c5 c6 c7 c8 c9 c10 c11 c12 c13 c14 c15 => .nd c0 c1 c2 c3 c4 c5 (f c6) c7 c8 c9 c10 c11 c12 c13 c14 c15) t)
    (fun f t => HV.rec (motive := fun _ => HV) (.nd none none none none none none none (f none) none none none none none none none none) (fun c0 c1 c2 c3 c4 c5 c6 c7 c8 c9 c10 c11 c12 c13 c14 c15 => .nd c0 c1 c2 c3 c4 c5 c6 (f c7) c8 c9 c10 c11 c12 c13 c14 c15) t)
    (fun f t => HV.rec (motive := fun _ => HV) (.nd none none none none none none none none (f none) none none none none none none none) (fun c0 c1 c2 c3 c4 c5 c6 c7 c8 c9 c10 c11 c12 c13 c14 c15 => .nd c0 c1 c2 c3 c4 c5 c6 c7 (f c8) c9 c10 c11 c12 c13 c14 c15) t)
    (fun f t => HV.rec (motive := fun _ => HV) (.nd none none none none none none none none none (f none) none none none none none none) (fun c0 c1 c2 c3 c4 c5 c6 c7 c8 c9 c10 c11 c12 c13 c14 c15 => .nd c0 c1 c2 c3 c4 c5 c6 c7 c8 (f c9) c10 c11 c12 c13 c14 c15) t)
    (fun f t => HV.rec (motive := fun _ => HV) (.nd none none none none none none none none none none (f none) none none none none none) (fun c0 c1 c2 c3 c4 c5 c6 c7 c8 c9 c10 c11 c12 c13 c14 c15 => .nd c0 c1 c2 c3 c4 c5 c6 c7 c8 c9 (f c10) c11 c12 c13 c14 c15) t)
    (fun f t => HV.rec (motive := fun _ => HV) (.nd none none none none none none none none none none none (f none) none none none none) (fun c0 c1 c2 c3 c4 c5 c6 c7 c8 c9 c10 c11 c12 c13 c14 c15 => .nd c0 c1 c2 c3 c4 c5 c6 c7 c8 c9 c10 (f c11) c12 c13 c14 c15) t)
    (fun f t => HV.rec (motive := fun _ => HV) (.nd none none none none none none none none none none none none (f none) none none none) (fun c0 c1 c2 c3 c4 c5 c6 c7 c8 c9 c10 c11 c12 c13 c14 c15 => .nd c0 c1 c2 c3 c4 c5 c6 c7 c8 c9 c10 c11 (f c12) c13 c14 c15) t)
    (fun f t => HV.rec (motive := fun _ => HV) (.nd none none none none none none none none none none none none none (f none) none none) (fun c0 c1 c2 c3 c4 c5 c6 c7 c8 c9 c10 c11 c12 c13 c14 c15 => .nd c0 c1 c2 c3 c4 c5 c6 c7 c8 c9 c10 c11 c12 (f c13) c14 c15) t)
    (fun f t => HV.rec (motive := fun _ => HV) (.nd none none none none none none none none none none none none none none (f none) none) (fun c0 c1 c2 c3 c4 c5 c6 c7 c8 c9 c10 c11 c12 c13 c14 c15 => .nd c0 c1 c2 c3 c4 c5 c6 c7 c8 c9 c10 c11 c12 c13 (f c14) c15) t)
    (fun f t => HV.rec (motive := fun _ => HV) (.nd none none none none none none none none none none none none none none none (f none)) (fun c0 c1 c2 c3 c4 c5 c6 c7 c8 c9 c10 c11 c12 c13 c14 c15 => .nd c0 c1 c2 c3 c4 c5 c6 c7 c8 c9 c10 c11 c12 c13 c14 (f c15)) t) d f t
inductive H1 where
  | nil
  | nd (c0 c1 c2 c3 c4 c5 c6 c7 c8 c9 c10 c11 c12 c13 c14 c15 : HV)
def H1.get (d : Dg) (t : H1) : HV :=
  Dg.rec (motive := fun _ => H1 → HV)
    (fun t => H1.rec (motive := fun _ => HV) HV.nil (fun c0 _ _ _ _ _ _ _ _ _ _ _ _ _ _ _ => c0) t)
    (fun t => H1.rec (motive := fun _ => HV) HV.nil (fun _ c1 _ _ _ _ _ _ _ _ _ _ _ _ _ _ => c1) t)
    (fun t => H1.rec (motive := fun _ => HV) HV.nil (fun _ _ c2 _ _ _ _ _ _ _ _ _ _ _ _ _ => c2) t)
    (fun t => H1.rec (motive := fun _ => HV) HV.nil (fun _ _ _ c3 _ _ _ _ _ _ _ _ _ _ _ _ => c3) t)
    (fun t => H1.rec (motive := fun _ => HV) HV.nil (fun _ _ _ _ c4 _ _ _ _ _ _ _ _ _ _ _ => c4) t)
    (fun t => H1.rec (motive := fun _ => HV) HV.nil (fun _ _ _ _ _ c5 _ _ _ _ _ _ _ _ _ _ => c5) t)
    (fun t => H1.rec (motive := fun _ => HV) HV.nil (fun _ _ _ _ _ _ c6 _ _ _ _ _ _ _ _ _ => c6) t)
    (fun t => H1.rec (motive := fun _ => HV) HV.nil (fun _ _ _ _ _ _ _ c7 _ _ _ _ _ _ _ _ => c7) t)
    (fun t => H1.rec (motive := fun _ => HV) HV.nil (fun _ _ _ _ _ _ _ _ c8 _ _ _ _ _ _ _ => c8) t)
    (fun t => H1.rec (motive := fun _ => HV) HV.nil (fun _ _ _ _ _ _ _ _ _ c9 _ _ _ _ _ _ => c9) t)
    (fun t => H1.rec (motive := fun _ => HV) HV.nil (fun _ _ _ _ _ _ _ _ _ _ c10 _ _ _ _ _ => c10) t)
    (fun t => H1.rec (motive := fun _ => HV) HV.nil (fun _ _ _ _ _ _ _ _ _ _ _ c11 _ _ _ _ => c11) t)
    (fun t => H1.rec (motive := fun _ => HV) HV.nil (fun _ _ _ _ _ _ _ _ _ _ _ _ c12 _ _ _ => c12) t)
    (fun t => H1.rec (motive := fun _ => HV) HV.nil (fun _ _ _ _ _ _ _ _ _ _ _ _ _ c13 _ _ => c13) t)
    (fun t => H1.rec (motive := fun _ => HV) HV.nil (fun _ _ _ _ _ _ _ _ _ _ _ _ _ _ c14 _ => c14) t)
    (fun t => H1.rec (motive := fun _ => HV) HV.nil (fun _ _ _ _ _ _ _ _ _ _ _ _ _ _ _ c15 => c15) t) d t
def H1.upd (f : HV → HV) (d : Dg) (t : H1) : H1 :=
  Dg.rec (motive := fun _ => (HV → HV) → H1 → H1)
    (fun f t => H1.rec (motive := fun _ => H1) (.nd (f HV.nil) HV.nil HV.nil HV.nil HV.nil HV.nil HV.nil HV.nil HV.nil HV.nil HV.nil HV.nil HV.nil HV.nil HV.nil HV.nil) (fun c0 c1 c2 c3 c4 c5 c6 c7 c8 c9 c10 c11 c12 c13 c14 c15 => .nd (f c0) c1 c2 c3 c4 c5 c6 c7 c8 c9 c10 c11 c12 c13 c14 c15) t)
    (fun f t => H1.rec (motive := fun _ => H1) (.nd HV.nil (f HV.nil) HV.nil HV.nil HV.nil HV.nil HV.nil HV.nil HV.nil HV.nil HV.nil HV.nil HV.nil HV.nil HV.nil HV.nil) (fun c0 c1 c2 c3 c4 c5 c6 c7 c8 c9 c10 c11 c12 c13 c14 c15 => .nd c0 (f c1) c2 c3 c4 c5 c6 c7 c8 c9 c10 c11 c12 c13 c14 c15) t)
    (fun f t => H1.rec (motive := fun _ => H1) (.nd HV.nil HV.nil (f HV.nil) HV.nil HV.nil HV.nil HV.nil HV.nil HV.nil HV.nil HV.nil HV.nil HV.nil HV.nil HV.nil HV.nil) (fun c0 c1 c2 c3 c4 c5 c6 c7 c8 c9 c10 c11 c12 c13 c14 c15 => .nd c0 c1 (f c2) c3 c4 c5 c6 c7 c8 c9 c10 c11 c12 c13 c14 c15) t)
    (fun f t => H1.rec (motive := fun _ => H1) (.nd HV.nil HV.nil HV.nil (f HV.nil) HV.nil HV.nil HV.nil HV.nil HV.nil HV.nil HV.nil HV.nil HV.nil HV.nil HV.nil HV.nil) (fun c0 c1 c2 c3 c4 c5 c6 c7 c8 c9 c10 c11 c12 c13 c14 c15 => .nd c0 c1 c2 (f c3) c4 c5 c6 c7 c8 c9 c10 c11 c12 c13 c14 c15) t)
    (fun f t => H1.rec (motive := fun _ => H1) (.nd HV.nil HV.nil HV.nil HV.nil (f HV.nil) HV.nil HV.nil HV.nil HV.nil HV.nil HV.nil HV.nil HV.nil HV.nil HV.nil HV.nil) (fun c0 c1 c2 c3 c4 c5 c6 c7 c8 c9 c10 c11 c12 c13 c14 c15 => .nd c0 c1 c2 c3 (f c4) c5 c6 c7 c8 c9 c10 c11 c12 c13 c14 c15) t)
    (fun f t => H1.rec (motive := fun _ => H1) (.nd HV.nil HV.nil HV.nil HV.nil HV.nil (f HV.nil) HV.nil HV.nil HV.nil HV.nil HV.nil HV.nil HV.nil HV.nil HV.nil HV.nil) (fun c0 c1 c2 c3 c4 c5 c6 c7 c8 c9 c10 c11 c12 c13 c14 c15 => .nd c0 c1 c2 c3 c4 (f c5) c6 c7 c8 c9 c10 c11 c12 c13 c14 c15) t)
    (fun f t => H1.rec (motive := fun _ => H1) (.nd HV.nil HV.nil HV.nil HV.nil HV.nil HV.nil (f HV.nil) HV.nil HV.nil HV.nil HV.nil HV.nil HV.nil HV.nil HV.nil HV.nil) (fun c0 c1 c2 c3 c4 c5 c6 c7 c8 c9 c10 c11 c12 c13 c14 c15 => .nd c0 c1 c2 c3 c4 c5 (f c6) c7 c8 c9 c10 c11 c12 c13 c14 c15) t)
    (fun f t => H1.rec (motive := fun _ => H1) (.nd HV.nil HV.nil HV.nil HV.nil HV.nil HV.nil HV.nil (f HV.nil) HV.nil HV.nil HV.nil HV.nil HV.nil HV.nil HV.nil HV.nil) (fun c0 c1 c2 c3 c4 c5 c6 c7 c8 c9 c10 c11 c12 c13 c14 c15 => .nd c0 c1 c2 c3 c4 c5 c6 (f c7) c8 c9 c10 c11 c12 c13 c14 c15) t)
    (fun f t => H1.rec (motive := fun _ => H1) (.nd HV.nil HV.nil HV.nil HV.nil HV.nil HV.nil HV.nil HV.nil (f HV.nil) HV.nil HV.nil HV.nil HV.nil HV.nil HV.nil HV.nil) (fun c0 c1 c2 c3 c4 c5 c6 c7 c8 c9 c10 c11 c12 c13 c14 c15 => .nd c0 c1 c2 c3 c4 c5 c6 c7 (f c8) c9 c10 c11 c12 c13 c14 c15) t)
    (fun f t => H1.rec (motive := fun _ => H1) (.nd HV.nil HV.nil HV.nil HV.nil HV.nil HV.nil HV.nil HV.nil HV.nil (f HV.nil) HV.nil HV.nil HV.nil HV.nil HV.nil HV.nil) (fun c0 c1 c2 c3 c4 c5 c6 c7 c8 c9 c10 c11 c12 c13 c14 c15 => .nd c0 c1 c2 c3 c4 c5 c6 c7 c8 (f c9) c10 c11 c12 c13 c14 c15) t)
    (fun f t => H1.rec (motive := fun _ => H1) (.nd HV.nil HV.nil HV.nil HV.nil HV.nil HV.nil HV.nil HV.nil HV.nil HV.nil (f HV.nil) HV.nil HV.nil HV.nil HV.nil HV.nil) (fun c0 c1 c2 c3 c4 c5 c6 c7 c8 c9 c10 c11 c12 c13 c14 c15 => .nd c0 c1 c2 c3 c4 c5 c6 c7 c8 c9 (f c10) c11 c12 c13 c14 c15) t)
    (fun f t => H1.rec (motive := fun _ => H1) (.nd HV.nil HV.nil HV.nil HV.nil HV.nil HV.nil HV.nil HV.nil HV.nil HV.nil HV.nil (f HV.nil) HV.nil HV.nil HV.nil HV.nil) (fun c0 c1 c2 c3 c4 c5 c6 c7 c8 c9 c10 c11 c12 c13 c14 c15 => .nd c0 c1 c2 c3 c4 c5 c6 c7 c8 c9 c10 (f c11) c12 c13 c14 c15) t)
    (fun f t => H1.rec (motive := fun _ => H1) (.nd HV.nil HV.nil HV.nil HV.nil HV.nil HV.nil HV.nil HV.nil HV.nil HV.nil HV.nil HV.nil (f HV.nil) HV.nil HV.nil HV.nil) (fun c0 c1 c2 c3 c4 c5 c6 c7 c8 c9 c10 c11 c12 c13 c14 c15 => .nd c0 c1 c2 c3 c4 c5 c6 c7 c8 c9 c10 c11 (f c12) c13 c14 c15) t)
    (fun f t => H1.rec (motive := fun _ => H1) (.nd HV.nil HV.nil HV.nil HV.nil HV.nil HV.nil HV.nil HV.nil HV.nil HV.nil HV.nil HV.nil HV.nil (f HV.nil) HV.nil HV.nil) (fun c0 c1 c2 c3 c4 c5 c6 c7 c8 c9 c10 c11 c12 c13 c14 c15 => .nd c0 c1 c2 c3 c4 c5 c6 c7 c8 c9 c10 c11 c12 (f c13) c14 c15) t)
    (fun f t => H1.rec (motive := fun _ => H1) (.nd HV.nil HV.nil HV.nil HV.nil HV.nil HV.nil HV.nil HV.nil HV.nil HV.nil HV.nil HV.nil HV.nil HV.nil (f HV.nil) HV.nil) (fun c0 c1 c2 c3 c4 c5 c6 c7 c8 c9 c10 c11 c12 c13 c14 c15 => .nd c0 c1 c2 c3 c4 c5 c6 c7 c8 c9 c10 c11 c12 c13 (f c14) c15) t)
    (fun f t => H1.rec (motive := fun _ => H1) (.nd HV.nil HV.nil HV.nil HV.nil HV.nil HV.nil HV.nil HV.nil HV.nil HV.nil HV.nil HV.nil HV.nil HV.nil HV.nil (f HV.nil)) (fun c0 c1 c2 c3 c4 c5 c6 c7 c8 c9 c10 c11 c12 c13 c14 c15 => .nd c0 c1 c2 c3 c4 c5 c6 c7 c8 c9 c10 c11 c12 c13 c14 (f c15)) t) d f t
inductive H2 where
  | nil
  | nd (c0 c1 c2 c3 c4 c5 c6 c7 c8 c9 c10 c11 c12 c13 c14 c15 : H1)
def H2.get (d : Dg) (t : H2) : H1 :=
  Dg.rec (motive := fun _ => H2 → H1)
    (fun t => H2.rec (motive := fun _ => H1) H1.nil (fun c0 _ _ _ _ _ _ _ _ _ _ _ _ _ _ _ => c0) t)
    (fun t => H2.rec (motive := fun _ => H1) H1.nil (fun _ c1 _ _ _ _ _ _ _ _ _ _ _ _ _ _ => c1) t)
    (fun t => H2.rec (motive := fun _ => H1) H1.nil (fun _ _ c2 _ _ _ _ _ _ _ _ _ _ _ _ _ => c2) t)
    (fun t => H2.rec (motive := fun _ => H1) H1.nil (fun _ _ _ c3 _ _ _ _ _ _ _ _ _ _ _ _ => c3) t)
    (fun t => H2.rec (motive := fun _ => H1) H1.nil (fun _ _ _ _ c4 _ _ _ _ _ _ _ _ _ _ _ => c4) t)
    (fun t => H2.rec (motive := fun _ => H1) H1.nil (fun _ _ _ _ _ c5 _ _ _ _ _ _ _ _ _ _ => c5) t)
    (fun t => H2.rec (motive := fun _ => H1) H1.nil (fun _ _ _ _ _ _ c6 _ _ _ _ _ _ _ _ _ => c6) t)
    (fun t => H2.rec (motive := fun _ => H1) H1.nil (fun _ _ _ _ _ _ _ c7 _ _ _ _ _ _ _ _ => c7) t)
    (fun t => H2.rec (motive := fun _ => H1) H1.nil (fun _ _ _ _ _ _ _ _ c8 _ _ _ _ _ _ _ => c8) t)
    (fun t => H2.rec (motive := fun _ => H1) H1.nil (fun _ _ _ _ _ _ _ _ _ c9 _ _ _ _ _ _ => c9) t)
    (fun t => H2.rec (motive := fun _ => H1) H1.nil (fun _ _ _ _ _ _ _ _ _ _ c10 _ _ _ _ _ => c10) t)
    (fun t => H2.rec (motive := fun _ => H1) H1.nil (fun _ _ _ _ _ _ _ _ _ _ _ c11 _ _ _ _ => c11) t)
    (fun t => H2.rec (motive := fun _ => H1) H1.nil (fun _ _ _ _ _ _ _ _ _ _ _ _ c12 _ _ _ => c12) t)
    (fun t => H2.rec (motive := fun _ => H1) H1.nil (fun _ _ _ _ _ _ _ _ _ _ _ _ _ c13 _ _ => c13) t)
    (fun t => H2.rec (motive := fun _ => H1) H1.nil (fun _ _ _ _ _ _ _ _ _ _ _ _ _ _ c14 _ => c14) t)
    (fun t => H2.rec (motive := fun _ => H1) H1.nil (fun _ _ _ _ _ _ _ _ _ _ _ _ _ _ _ c15 => c15) t) d t
def H2.upd (f : H1 → H1) (d : Dg) (t : H2) : H2 :=
  Dg.rec (motive := fun _ => (H1 → H1) → H2 → H2)
    (fun f t => H2.rec (motive := fun _ => H2) (.nd (f H1.nil) H1.nil H1.nil H1.nil H1.nil H1.nil H1.nil H1.nil H1.nil H1.nil H1.nil H1.nil H1.nil H1.nil H1.nil H1.nil) (fun c0 c1 c2 c3 c4 c5 c6 c7 c8 c9 c10 c11 c12 c13 c14 c15 => .nd (f c0) c1 c2 c3 c4 c5 c6 c7 c8 c9 c10 c11 c12 c13 c14 c15) t)
    (fun f t => H2.rec (motive := fun _ => H2) (.nd H1.nil (f H1.nil) H1.nil H1.nil H1.nil H1.nil H1.nil H1.nil H1.nil H1.nil H1.nil H1.nil H1.nil H1.nil H1.nil H1.nil) (fun c0 c1 c2 c3 c4 c5 c6 c7 c8 c9 c10 c11 c12 c13 c14 c15 => .nd c0 (f c1) c2 c3 c4 c5 c6 c7 c8 c9 c10 c11 c12 c13 c14 c15) t)
    (fun f t => H2.rec (motive := fun _ => H2) (.nd H1.nil H1.nil (f H1.nil) H1.nil H1.nil H1.nil H1.nil H1.nil H1.nil H1.nil H1.nil H1.nil H1.nil H1.nil H1.nil H1.nil) (fun c0 c1 c2 c3 c4 c5 c6 c7 c8 c9 c10 c11 c12 c13 c14 c15 => .nd c0 c1 (f c2) c3 c4 c5 c6 c7 c8 c9 c10 c11 c12 c13 c14 c15) t)
    (fun f t => H2.rec (motive := fun _ => H2) (.nd H1.nil H1.nil H1.nil (f H1.nil) H1.nil H1.nil H1.nil H1.nil H1.nil H1.nil H1.nil H1.nil H1.nil H1.nil H1.nil H1.nil) (fun c0 c1 c2 c3 c4 c5 c6 c7 c8 c9 c10 c11 c12 c13 c14 c15 => .nd c0 c1 c2 (f c3) c4 c5 c6 c7 c8 c9 c10 c11 c12 c13 c14 c15) t)
    (fun f t => H2.rec (motive := fun _ => H2) (.nd H1.nil H1.nil H1.nil H1.nil (f H1.nil) H1.nil H1.nil H1.nil H1.nil H1.nil H1.nil H1.nil H1.nil H1.nil H1.nil H1.nil) (fun c0 c1 c2 c3 c4 c5 c6 c7 c8 c9 c10 c11 c12 c13 c14 c15 => .nd c0 c1 c2 c3 (f c4) c5 c6 c7 c8 c9 c10 c11 c12 c13 c14 c15) t)
    (fun f t => H2.rec (motive := fun _ => H2) (.nd H1.nil H1.nil H1.nil H1.nil H1.nil (f H1.nil) H1.nil H1.nil H1.nil H1.nil H1.nil H1.nil H1.nil H1.nil H1.nil H1.nil) (fun c0 c1 c2 c3 c4 c5 c6 c7 c8 c9 c10 c11 c12 c13 c14 c15 => .nd c0 c1 c2 c3 c4 (f c5) c6 c7 c8 c9 c10 c11 c12 c13 c14 c15) t)
    (fun f t => H2.rec (motive := fun _ => H2) (.nd H1.nil H1.nil H1.nil H1.nil H1.nil H1.nil (f H1.nil) H1.nil H1.nil H1.nil H1.nil H1.nil H1.nil H1.nil H1.nil H1.nil) (fun c0 c1 c2 c3 c4 c5 c6 c7 c8 c9 c10 c11 c12 c13 c14 c15 => .nd c0 c1 c2 c3 c4 c5 (f c6) c7 c8 c9 c10 c11 c12 c13 c14 c15) t)
    (fun f t => H2.rec (motive := fun _ => H2) (.nd H1.nil H1.nil H1.nil H1.nil H1.nil H1.nil H1.nil (f H1.nil) H1.nil H1.nil H1.nil H1.nil H1.nil H1.nil H1.nil H1.nil) (fun c0 c1 c2 c3 c4 c5 c6 c7 c8 c9 c10 c11 c12 c13 c14 c15 => .nd c0 c1 c2 c3 c4 c5 c6 (f c7) c8 c9 c10 c11 c12 c13 c14 c15) t)
    (fun f t => H2.rec (motive := fun _ => H2) (.nd H1.nil H1.nil H1.nil H1.nil H1.nil H1.nil H1.nil H1.nil (f H1.nil) H1.nil H1.nil H1.nil H1.nil H1.nil H1.nil H1.nil) (fun c0 c1 c2 c3 c4 c5 c6 c7 c8 c9 c10 c11 c12 c13 c14 c15 => .nd c0 c1 c2 c3 c4 c5 c6 c7 (f c8) c9 c10 c11 c12 c13 c14 c15) t)
    (fun f t => H2.rec (motive := fun _ => H2) (.nd H1.nil H1.nil H1.nil H1.nil H1.nil H1.nil H1.nil H1.nil H1.nil (f H1.nil) H1.nil H1.nil H1.nil H1.nil H1.nil H1.nil) (fun c0 c1 c2 c3 c4 c5 c6 c7 c8 c9 c10 c11 c12 c13 c14 c15 => .nd c0 c1 c2 c3 c4 c5 c6 c7 c8 (f c9) c10 c11 c12 c13 c14 c15) t)
    (fun f t => H2.rec (motive := fun _ => H2) (.nd H1.nil H1.nil H1.nil H1.nil H1.nil H1.nil H1.nil H1.nil H1.nil H1.nil (f H1.nil) H1.nil H1.nil H1.nil H1.nil H1.nil) (fun c0 c1 c2 c3 c4 c5 c6 c7 c8 c9 c10 c11 c12 c13 c14 c15 => .nd c0 c1 c2 c3 c4 c5 c6 c7 c8 c9 (f c10) c11 c12 c13 c14 c15) t)
    (fun f t => H2.rec (motive := fun _ => H2) (.nd H1.nil H1.nil H1.nil H1.nil H1.nil H1.nil H1.nil H1.nil H1.nil H1.nil H1.nil (f H1.nil) H1.nil H1.nil H1.nil H1.nil) (fun c0 c1 c2 c3 c4 c5 c6 c7 c8 c9 c10 c11 c12 c13 c14 c15 => .nd c0 c1 c2 c3 c4 c5 c6 c7 c8 c9 c10 (f c11) c12 c13 c14 c15) t)
    (fun f t => H2.rec (motive := fun _ => H2) (.nd H1.nil H1.nil H1.nil H1.nil H1.nil H1.nil H1.nil H1.nil H1.nil H1.nil H1.nil H1.nil (f H1.nil) H1.nil H1.nil H1.nil) (fun c0 c1 c2 c3 c4 c5 c6 c7 c8 c9 c10 c11 c12 c13 c14 c15 => .nd c0 c1 c2 c3 c4 c5 c6 c7 c8 c9 c10 c11 (f c12) c13 c14 c15) t)
    (fun f t => H2.rec (motive := fun _ => H2) (.nd H1.nil H1.nil H1.nil H1.nil H1.nil H1.nil H1.nil H1.nil H1.nil H1.nil H1.nil H1.nil H1.nil (f H1.nil) H1.nil H1.nil) (fun c0 c1 c2 c3 c4 c5 c6 c7 c8 c9 c10 c11 c12 c13 c14 c15 => .nd c0 c1 c2 c3 c4 c5 c6 c7 c8 c9 c10 c11 c12 (f c13) c14 c15) t)
    (fun f t => H2.rec (motive := fun _ => H2) (.nd H1.nil H1.nil H1.nil H1.nil H1.nil H1.nil H1.nil H1.nil H1.nil H1.nil H1.nil H1.nil H1.nil H1.nil (f H1.nil) H1.nil) (fun c0 c1 c2 c3 c4 c5 c6 c7 c8 c9 c10 c11 c12 c13 c14 c15 => .nd c0 c1 c2 c3 c4 c5 c6 c7 c8 c9 c10 c11 c12 c13 (f c14) c15) t)
    (fun f t => H2.rec (motive := fun _ => H2) (.nd H1.nil H1.nil H1.nil H1.nil H1.nil H1.nil H1.nil H1.nil H1.nil H1.nil H1.nil H1.nil H1.nil H1.nil H1.nil (f H1.nil)) (fun c0 c1 c2 c3 c4 c5 c6 c7 c8 c9 c10 c11 c12 c13 c14 c15 => .nd c0 c1 c2 c3 c4 c5 c6 c7 c8 c9 c10 c11 c12 c13 c14 (f c15)) t) d f t
inductive H3 where
  | nil
  | nd (c0 c1 c2 c3 c4 c5 c6 c7 c8 c9 c10 c11 c12 c13 c14 c15 : H2)
def H3.get (d : Dg) (t : H3) : H2 :=
  Dg.rec (motive := fun _ => H3 → H2)
    (fun t => H3.rec (motive := fun _ => H2) H2.nil (fun c0 _ _ _ _ _ _ _ _ _ _ _ _ _ _ _ => c0) t)
    (fun t => H3.rec (motive := fun _ => H2) H2.nil (fun _ c1 _ _ _ _ _ _ _ _ _ _ _ _ _ _ => c1) t)
    (fun t => H3.rec (motive := fun _ => H2) H2.nil (fun _ _ c2 _ _ _ _ _ _ _ _ _ _ _ _ _ => c2) t)
    (fun t => H3.rec (motive := fun _ => H2) H2.nil (fun _ _ _ c3 _ _ _ _ _ _ _ _ _ _ _ _ => c3) t)
    (fun t => H3.rec (motive := fun _ => H2) H2.nil (fun _ _ _ _ c4 _ _ _ _ _ _ _ _ _ _ _ => c4) t)
    (fun t => H3.rec (motive := fun _ => H2) H2.nil (fun _ _ _ _ _ c5 _ _ _ _ _ _ _ _ _ _ => c5) t)
    (fun t => H3.rec (motive := fun _ => H2) H2.nil (fun _ _ _ _ _ _ c6 _ _ _ _ _ _ _ _ _ => c6) t)
    (fun t => H3.rec (motive := fun _ => H2) H2.nil (fun _ _ _ _ _ _ _ c7 _ _ _ _ _ _ _ _ => c7) t)
    (fun t => H3.rec (motive := fun _ => H2) H2.nil (fun _ _ _ _ _ _ _ _ c8 _ _ _ _ _ _ _ => c8) t)
    (fun t => H3.rec (motive := fun _ => H2) H2.nil (fun _ _ _ _ _ _ _ _ _ c9 _ _ _ _ _ _ => c9) t)
    (fun t => H3.rec (motive := fun _ => H2) H2.nil (fun _ _ _ _ _ _ _ _ _ _ c10 _ _ _ _ _ => c10) t)
    (fun t => H3.rec (motive := fun _ => H2) H2.nil (fun _ _ _ _ _ _ _ _ _ _ _ c11 _ _ _ _ => c11) t)
    (fun t => H3.rec (motive := fun _ => H2) H2.nil (fun _ _ _ _ _ _ _ _ _ _ _ _ c12 _ _ _ => c12) t)
    (fun t => H3.rec (motive := fun _ => H2) H2.nil (fun _ _ _ _ _ _ _ _ _ _ _ _ _ c13 _ _ => c13) t)
    (fun t => H3.rec (motive := fun _ => H2) H2.nil (fun _ _ _ _ _ _ _ _ _ _ _ _ _ _ c14 _ => c14) t)
    (fun t => H3.rec (motive := fun _ => H2) H2.nil (fun _ _ _ _ _ _ _ _ _ _ _ _ _ _ _ c15 => c15) t) d t
def H3.upd (f : H2 → H2) (d : Dg) (t : H3) : H3 :=
  Dg.rec (motive := fun _ => (H2 → H2) → H3 → H3)
    (fun f t => H3.rec (motive := fun _ => H3) (.nd (f H2.nil) H2.nil H2.nil H2.nil H2.nil H2.nil H2.nil H2.nil H2.nil H2.nil H2.nil H2.nil H2.nil H2.nil H2.nil H2.nil) (fun c0 c1 c2 c3 c4 c5 c6 c7 c8 c9 c10 c11 c12 c13 c14 c15 => .nd (f c0) c1 c2 c3 c4 c5 c6 c7 c8 c9 c10 c11 c12 c13 c14 c15) t)
    (fun f t => H3.rec (motive := fun _ => H3) (.nd H2.nil (f H2.nil) H2.nil H2.nil H2.nil H2.nil H2.nil H2.nil H2.nil H2.nil H2.nil H2.nil H2.nil H2.nil H2.nil H2.nil) (fun c0 c1 c2 c3 c4 c5 c6 c7 c8 c9 c10 c11 c12 c13 c14 c15 => .nd c0 (f c1) c2 c3 c4 c5 c6 c7 c8 c9 c10 c11 c12 c13 c14 c15) t)
    (fun f t => H3.rec (motive := fun _ => H3) (.nd H2.nil H2.nil (f H2.nil) H2.nil H2.nil H2.nil H2.nil H2.nil H2.nil H2.nil H2.nil H2.nil H2.nil H2.nil H2.nil H2.nil) (fun c0 c1 c2 c3 c4 c5 c6 c7 c8 c9 c10 c11 c12 c13 c14 c15 => .nd c0 c1 (f c2) c3 c4 c5 c6 c7 c8 c9 c10 c11 c12 c13 c14 c15) t)
    (fun f t => H3.rec (motive := fun _ => H3) (.nd H2.nil H2.nil H2.nil (f H2.nil) H2.nil H2.nil H2.nil H2.nil H2.nil H2.nil H2.nil H2.nil H2.nil H2.nil H2.nil H2.nil) (fun c0 c1 c2 c3 c4 c5 c6 c7 c8 c9 c10 c11 c12 c13 c14 c15 => .nd c0 c1 c2 (f c3) c4 c5 c6 c7 c8 c9 c10 c11 c12 c13 c14 c15) t)
    (fun f t => H3.rec (motive := fun _ => H3) (.nd H2.nil H2.nil H2.nil H2.nil (f H2.nil) H2.nil H2.nil H2.nil H2.nil H2.nil H2.nil H2.nil H2.nil H2.nil H2.nil H2.nil) (fun c0 c1 c2 c3 c4 c5 c6 c7 c8 c9 c10 c11 c12 c13 c14 c15 => .nd c0 c1 c2 c3 (f c4) c5 c6 c7 c8 c9 c10 c11 c12 c13 c14 c15) t)
    (fun f t => H3.rec (motive := fun _ => H3) (.nd H2.nil H2.nil H2.nil H2.nil H2.nil (f H2.nil) H2.nil H2.nil H2.nil H2.nil H2.nil H2.nil H2.nil H2.nil H2.nil H2.nil) (fun c0 c1 c2 c3 c4 c5 c6 c7 c8 c9 c10 c11 c12 c13 c14 c15 => .nd c0 c1 c2 c3 c4 (f c5) c6 c7 c8 c9 c10 c11 c12 c13 c14 c15) t)
    (fun f t => H3.rec (motive := fun _ => H3) (.nd H2.nil H2.nil H2.nil H2.nil H2.nil H2.nil (f H2.nil) H2.nil H2.nil H2.nil H2.nil H2.nil H2.nil H2.nil H2.nil H2.nil) (fun c0 c1 c2 c3 c4 c5 c6 c7 c8 c9 c10 c11 c12 c13 c14 c15 => .nd c0 c1 c2 c3 c4 c5 (f c6) c7 c8 c9 c10 c11 c12 c13 c14 c15) t)
    (fun f t => H3.rec (motive := fun _ => H3) (.nd H2.nil H2.nil H2.nil H2.nil H2.nil H2.nil H2.nil (f H2.nil) H2.nil H2.nil H2.nil H2.nil H2.nil H2.nil H2.nil H2.nil) (fun c0 c1 c2 c3 c4 c5 c6 c7 c8 c9 c10 c11 c12 c13 c14 c15 => .nd c0 c1 c2 c3 c4 c5 c6 (f c7) c8 c9 c10 c11 c12 c13 c14 c15) t)
    (fun f t => H3.rec (motive := fun _ => H3) (.nd H2.nil H2.nil H2.nil H2.nil H2.nil H2.nil H2.nil H2.nil (f H2.nil) H2.nil H2.nil H2.nil H2.nil H2.nil H2.nil H2.nil) (fun c0 c1 c2 c3 c4 c5 c6 c7 c8 c9 c10 c11 c12 c13 c14 c15 => .nd c0 c1 c2 c3 c4 c5 c6 c7 (f c8) c9 c10 c11 c12 c13 c14 c15) t)
    (fun f t => H3.rec (motive := fun _ => H3) (.nd H2.nil H2.nil H2.nil H2.nil H2.nil H2.nil H2.nil H2.nil H2.nil (f H2.nil) H2.nil H2.nil H2.nil H2.nil H2.nil H2.nil) (fun c0 c1 c2 c3 c4 c5 c6 c7 c8 c9 c10 c11 c12 c13 c14 c15 => .nd c0 c1 c2 c3 c4 c5 c6 c7 c8 (f c9) c10 c11 c12 c13 c14 c15) t)
    (fun f t => H3.rec (motive := fun _ => H3) (.nd H2.nil H2.nil H2.nil H2.nil H2.nil H2.nil H2.nil H2.nil H2.nil H2.nil (f H2.nil) H2.nil H2.nil H2.nil H2.nil H2.nil) (fun c0 c1 c2 c3 c4 c5 c6 c7 c8 c9 c10 c11 c12 c13 c14 c15 => .nd c0 c1 c2 c3 c4 c5 c6 c7 c8 c9 (f c10) c11 c12 c13 c14 c15) t)
    (fun f t => H3.rec (motive := fun _ => H3) (.nd H2.nil H2.nil H2.nil H2.nil H2.nil H2.nil H2.nil H2.nil H2.nil H2.nil H2.nil (f H2.nil) H2.nil H2.nil H2.nil H2.nil) (fun c0 c1 c2 c3 c4 c5 c6 c7 c8 c9 c10 c11 c12 c13 c14 c15 => .nd c0 c1 c2 c3 c4 c5 c6 c7 c8 c9 c10 (f c11) c12 c13 c14 c15) t)
    (fun f t => H3.rec (motive := fun _ => H3) (.nd H2.nil H2.nil H2.nil H2.nil H2.nil H2.nil H2.nil H2.nil H2.nil H2.nil H2.nil H2.nil (f H2.nil) H2.nil H2.nil H2.nil) (fun c0 c1 c2 c3 c4 c5 c6 c7 c8 c9 c10 c11 c12 c13 c14 c15 => .nd c0 c1 c2 c3 c4 c5 c6 c7 c8 c9 c10 c11 (f c12) c13 c14 c15) t)
    (fun f t => H3.rec (motive := fun _ => H3) (.nd H2.nil H2.nil H2.nil H2.nil H2.nil H2.nil H2.nil H2.nil H2.nil H2.nil H2.nil H2.nil H2.nil (f H2.nil) H2.nil H2.nil) (fun c0 c1 c2 c3 c4 c5 c6 c7 c8 c9 c10 c11 c12 c13 c14 c15 => .nd c0 c1 c2 c3 c4 c5 c6 c7 c8 c9 c10 c11 c12 (f c13) c14 c15) t)
    (fun f t => H3.rec (motive := fun _ => H3) (.nd H2.nil H2.nil H2.nil H2.nil H2.nil H2.nil H2.nil H2.nil H2.nil H2.nil H2.nil H2.nil H2.nil H2.nil (f H2.nil) H2.nil) (fun c0 c1 c2 c3 c4 c5 c6 c7 c8 c9 c10 c11 c12 c13 c14 c15 => .nd c0 c1 c2 c3 c4 c5 c6 c7 c8 c9 c10 c11 c12 c13 (f c14) c15) t)
    (fun f t => H3.rec (motive := fun _ => H3) (.nd H2.nil H2.nil H2.nil H2.nil H2.nil H2.nil H2.nil H2.nil H2.nil H2.nil H2.nil H2.nil H2.nil H2.nil H2.nil (f H2.nil)) (fun c0 c1 c2 c3 c4 c5 c6 c7 c8 c9 c10 c11 c12 c13 c14 c15 => .nd c0 c1 c2 c3 c4 c5 c6 c7 c8 c9 c10 c11 c12 c13 c14 (f c15)) t) d f t
end
inductive Tm where
  | mk (s : LV) (w : L1)
def Tm.nil : Tm := .mk .nil .nil
abbrev zD := H3
noncomputable section
def qO (p : Loc) (t : Tm) : CV :=
  Loc.rec (motive := fun _ => Tm → CV) (fun d t => Tm.rec (motive := fun _ => CV) (fun s _ => LV.get d s) t) (fun c d t => Tm.rec (motive := fun _ => CV) (fun _ w => LV.get d (L1.get c w)) t) p t
def kL (v : CV) (p : Loc) (t : Tm) : Tm :=
  Loc.rec (motive := fun _ => CV → Tm → Tm) (fun d v t => Tm.rec (motive := fun _ => Tm) (fun s w => .mk (LV.upd (fun _ => v) d s) w) t)
    (fun c d v t => Tm.rec (motive := fun _ => Tm) (fun s w => .mk s (L1.upd (LV.upd (fun _ => v) d) c w)) t) p v t
def yK (k : Key) (h : zD) : Option CObj := Key.rec (motive := fun _ => zD → Option CObj) (fun a b c d t => ((H3.get a t |>.get b).get c).get d) k h
def yn (o : Option CObj) (k : Key) (h : zD) : zD :=
  Key.rec (motive := fun _ => Option CObj → zD → zD) (fun a b c d o h => H3.upd (H2.upd (H1.upd (HV.upd (fun _ => o) d) c) b) a h) k o h
end
def yq {α β : Type} (f : α → Option β) : List α → Option (List β)
  | [] => some []
  | x :: xs => match f x with
    | none => none
    | some y => match yq f xs with
      | none => none
      | some ys => some (y :: ys)
def zj (s : ByteArray) : List Nat := s.data.toList.map UInt8.toNat
def vN : Nat → Value → Option CV
  | 0, _ => none
  | d + 1, v => match v with
    | .bool b => some (.bool b)
    | .int k n => some (match k, n with | .i64, .ofNat m => .nat m | k, n => .int k n)
    | .string s => some (.str (zj s))
    | .pointer none => some .nilptr
    | .slice none 0 0 => some .nilsl
    | .map none => some .nilmap
    | .nilFunc => some .nilfunc
    | .func fn a b => if a.size = 0 ∧ b.size = 0 then some (.func fn [] []) else none
    | .nilIface => some .niliface
    | .iface t v => (vN d v).map (.iface t)
    | .agg cs => (yq (vN d) cs.toList).map .agg
    | .tuple cs => (yq (vN d) cs.toList).map .tup
    | _ => none
def CV.cells : CV → List CV
  | .agg cs => cs
  | v => [v]
def CV.single : CV → Bool
  | .agg _ => false
  | .tup _ => false
  | .any => false
  | _ => true
noncomputable section
def xC (l : List CV) : Bool := List.rec (motive := fun _ => Bool) true (fun v _ ih => Bool.rec (motive := fun _ => Bool) false ih v.single) l
def uW (l : List CV) : Nat := List.rec (motive := fun _ => Nat) 0 (fun _ _ ih => Nat.succ ih) l
def zA9 (l : List Nat) : Nat := List.rec (motive := fun _ => Nat) 0 (fun _ _ ih => Nat.succ ih) l
def zOd (l : List CE) : Nat := List.rec (motive := fun _ => Nat) 0 (fun _ _ ih => Nat.succ ih) l
end
def nth {α : Type} : List α → Nat → Option α
  | [], _ => none
  | x :: _, 0 => some x
  | _ :: xs, k + 1 => nth xs k
noncomputable section
def zDK (l : List CV) (k : Nat) : Option CV :=
  List.rec (motive := fun _ => Nat → Option CV) (fun _ => none) (fun x _ ih k => Nat.rec (motive := fun _ => Option CV) (some x) (fun k _ => ih k) k) l k
def zOD (l : List Nat) (k : Nat) : Option Nat :=
  List.rec (motive := fun _ => Nat → Option Nat) (fun _ => none) (fun x _ ih k => Nat.rec (motive := fun _ => Option Nat) (some x) (fun k _ => ih k) k) l k
def zKw (l : List CV) (k : Nat) : List CV :=
  List.rec (motive := fun _ => Nat → List CV) (fun _ => []) (fun x xs ih k => Nat.rec (motive := fun _ => List CV) (x :: xs) (fun k _ => ih k) k) l k
def zKy (l : List Nat) (k : Nat) : List Nat :=
  List.rec (motive := fun _ => Nat → List Nat) (fun _ => []) (fun x xs ih k => Nat.rec (motive := fun _ => List Nat) (x :: xs) (fun k _ => ih k) k) l k
def zEH (x : CV) (r : Option (List CV)) : Option (List CV) := Option.rec (motive := fun _ => CV → Option (List CV)) (fun _ => none) (fun l x => some (x :: l)) r x
def zJ2 (x : Nat) (r : Option (List Nat)) : Option (List Nat) := Option.rec (motive := fun _ => Nat → Option (List Nat)) (fun _ => none) (fun l x => some (x :: l)) r x
def zKF (l : List CV) (k : Nat) : Option (List CV) :=
  List.rec (motive := fun _ => Nat → Option (List CV)) (fun k => Nat.rec (motive := fun _ => Option (List CV)) (some []) (fun _ _ => none) k)
    (fun x _ ih k => Nat.rec (motive := fun _ => Option (List CV)) (some []) (fun k _ => zEH x (ih k)) k) l k
def zG9 (l : List Nat) (k : Nat) : Option (List Nat) :=
  List.rec (motive := fun _ => Nat → Option (List Nat)) (fun k => Nat.rec (motive := fun _ => Option (List Nat)) (some []) (fun _ _ => none) k)
    (fun x _ ih k => Nat.rec (motive := fun _ => Option (List Nat)) (some []) (fun k _ => zJ2 x (ih k)) k) l k
def vw (l : List CV) (off n : Nat) : Option (List CV) := zKF (zKw l off) n
def zPU (l : List Nat) (off n : Nat) : Option (List Nat) := zG9 (zKy l off) n
def zCj (xs : List CV) (s : Nat) (l : List CV) : Option (List CV) :=
  List.rec (motive := fun _ => Nat → List CV → Option (List CV)) (fun s l => Nat.rec (motive := fun _ => Option (List CV)) (some l) (fun _ _ => none) s)
    (fun x _ ih s l => Nat.rec (motive := fun _ => Option (List CV)) none (fun s _ => List.rec (motive := fun _ => Option (List CV)) none (fun _ l _ => zEH x (ih s l)) l) s) xs s l
def qf (xs : List CV) (s : Nat) (l : List CV) (k : Nat) : Option (List CV) :=
  List.rec (motive := fun _ => Nat → List CV → Nat → Option (List CV)) (fun k xs s => Nat.rec (motive := fun _ => Option (List CV)) (zCj xs s []) (fun _ _ => none) k)
    (fun y l ih k xs s => Nat.rec (motive := fun _ => Option (List CV)) (zCj xs s (y :: l)) (fun k _ => zEH y (ih k xs s)) k) l k xs s
end
def jc (x : List CV) : Nat → List CV
  | 0 => []
  | n + 1 => x ++ jc x n
noncomputable section
def wY {β : Type} (n : Nat) (k : Nat → β) : β := Nat.rec (motive := fun _ => (Nat → β) → β) (fun k => k 0) (fun m _ k => k (Nat.succ m)) n k
def jn (n : Nat) : CV := Nat.rec (motive := fun _ => CV) (.nat 0) (fun m _ => .nat (Nat.succ m)) n
def qj (k : IntKind) (n : Nat) : CV := IntKind.rec (motive := fun _ => Nat → CV) (fun n => .int .i8 (.ofNat n)) (fun n => .int .i16 (.ofNat n)) (fun n => .int .i32 (.ofNat n)) jn
  (fun n => .int .u8 (.ofNat n)) (fun n => .int .u16 (.ofNat n)) (fun n => .int .u32 (.ofNat n)) (fun n => .int .u64 (.ofNat n)) k n
def zU (k : IntKind) (n : Int) : CV :=
  Int.rec (motive := fun _ => IntKind → CV) (fun m k => Nat.rec (motive := fun _ => CV) (qj k 0) (fun m _ => qj k (Nat.succ m)) m)
    (fun m k => Nat.rec (motive := fun _ => CV) (.int k (.negSucc 0)) (fun m _ => .int k (.negSucc (Nat.succ m))) m) n k
def kNo (k : IntKind) : Nat := IntKind.rec (motive := fun _ => Nat) 0 1 2 3 4 5 6 7 k
def kEq (j k : IntKind) : Bool := Nat.beq (kNo j) (kNo k)
def zJY (n : Int) : Int :=
  Int.rec (motive := fun _ => Int) (fun m => Bool.rec (motive := fun _ => Int) (IntKind.i64.wrap (.ofNat m)) (.ofNat m) (Nat.ble m 9223372036854775807))
    (fun m => Bool.rec (motive := fun _ => Int) (IntKind.i64.wrap (.negSucc m)) (.negSucc m) (Nat.ble m 9223372036854775807)) n
def zP7 (n : Int) : Int := Int.rec (motive := fun _ => Int) (fun m => .ofNat (Nat.mod m 256)) (fun m => IntKind.u8.wrap (.negSucc m)) n
def ya (k : IntKind) (n : Int) : Int :=
  IntKind.rec (motive := fun _ => Int → Int) IntKind.i8.wrap IntKind.i16.wrap IntKind.i32.wrap zJY zP7 IntKind.u16.wrap IntKind.u32.wrap IntKind.u64.wrap k n
def yt (a b : Int) : Bool :=
  Int.rec (motive := fun _ => Int → Bool) (fun a b => Int.rec (motive := fun _ => Bool) (fun b => Nat.beq a b) (fun _ => false) b)
    (fun a b => Int.rec (motive := fun _ => Bool) (fun _ => false) (fun b => Nat.beq a b) b) a b
def kE (a b : Int) : Bool :=
  Int.rec (motive := fun _ => Int → Bool) (fun a b => Int.rec (motive := fun _ => Bool) (fun b => Nat.ble (Nat.succ a) b) (fun _ => false) b)
    (fun a b => Int.rec (motive := fun _ => Bool) (fun _ => true) (fun b => Nat.ble (Nat.succ b) a) b) a b
def toU (k : IntKind) (n : Int) : Nat := match n with
  | .ofNat m => Nat.mod m (Nat.pow 2 k.bits)
  | .negSucc m => Nat.sub (Nat.sub (Nat.pow 2 k.bits) 1) (Nat.mod m (Nat.pow 2 k.bits))
def zAI (b : Bool) : Bool := Bool.rec (motive := fun _ => Bool) true false b
abbrev AOp := IntKind → Int → Int → Option CV
def zQ9 : AOp := fun k a b => some (zU k (ya k (Int.add a b)))
def zRh : AOp := fun k a b => some (zU k (ya k (Int.sub a b)))
def zRc : AOp := fun k a b => some (zU k (ya k (Int.mul a b)))
def zQF : AOp := fun k a b => Bool.rec (motive := fun _ => Option CV) (some (zU k (ya k (a.tdiv b)))) none (yt b (.ofNat 0))
def zQ0 : AOp := fun k a b => Bool.rec (motive := fun _ => Option CV) (some (zU k (a.tmod b))) none (yt b (.ofNat 0))
def zQZ : AOp := fun k a b => some (zU k (ya k (.ofNat (Nat.land (toU k a) (toU k b)))))
def aOr : AOp := fun k a b => some (zU k (ya k (.ofNat (Nat.lor (toU k a) (toU k b)))))
def zPQ : AOp := fun k a b => some (zU k (ya k (.ofNat (Nat.xor (toU k a) (toU k b)))))
def zOy : AOp := fun k a b => some (zU k (ya k (.ofNat (Nat.land (toU k a) (Nat.sub (Nat.sub (Nat.pow 2 k.bits) 1) (toU k b))))))
def zQ8 : AOp := fun _ a b => some (.bool (yt a b))
def zRe : AOp := fun _ a b => some (.bool (zAI (yt a b)))
def zQV : AOp := fun _ a b => some (.bool (kE a b))
def zQI : AOp := fun _ a b => some (.bool (zAI (kE b a)))
def zQ6 : AOp := fun _ a b => some (.bool (kE b a))
def zQY : AOp := fun _ a b => some (.bool (zAI (kE a b)))
def zQU : AOp := fun k a b => match b with
  | .ofNat m => some (zU k (ya k (Int.mul a (.ofNat (Nat.pow 2 (min m k.bits))))))
  | .negSucc _ => none
def zQG : AOp := fun k a b => match b with
  | .ofNat m => match a with
    | .ofNat a => some (qj k (Nat.div a (Nat.pow 2 (min m k.bits))))
    | .negSucc a => some (zU k ((Int.negSucc a).fdiv (.ofNat (Nat.pow 2 (min m k.bits)))))
  | .negSucc _ => none
def yL (op : BinOp) : AOp :=
  BinOp.rec (motive := fun _ => AOp) zQ9 zRh zRc zQF zQ0 zQZ aOr zPQ zQU zQG zOy zQ8 zRe zQV zQI zQ6 zQY op
def yl (op : BinOp) : Bool := match op with
  | .shl => true
  | .shr => true
  | _ => false
abbrev NOp := Nat → Nat → Option CV
def okN (n : Nat) : Option CV := Bool.rec (motive := fun _ => Option CV) none (some (jn n)) (Nat.ble n 9223372036854775807)
def zRd : NOp := fun a b => okN (Nat.add a b)
def zQJ : NOp := fun a b => Bool.rec (motive := fun _ => Option CV) none (Bool.rec (motive := fun _ => Option CV) none (some (jn (Nat.sub a b))) (Nat.ble a 9223372036854775807)) (Nat.ble b a)
def zRg : NOp := fun a b => okN (Nat.mul a b)
def nNo : NOp := fun _ _ => none
def zRf : NOp := fun a b => Bool.rec (motive := fun _ => Option CV) none (Bool.rec (motive := fun _ => Option CV) none (some (jn (Nat.land a b))) (Nat.ble b 9223372036854775807)) (Nat.ble a 9223372036854775807)
def zQE : NOp := fun a b => some (.bool (Nat.beq a b))
def zQL : NOp := fun a b => some (.bool (zAI (Nat.beq a b)))
def zQ7 : NOp := fun a b => some (.bool (Nat.ble (Nat.succ a) b))
def zQH : NOp := fun a b => some (.bool (Nat.ble a b))
def zQM : NOp := fun a b => some (.bool (Nat.ble (Nat.succ b) a))
def zQ3 : NOp := fun a b => some (.bool (Nat.ble b a))
def zFI (op : BinOp) : NOp := BinOp.rec (motive := fun _ => NOp) zRd zQJ zRg nNo nNo zRf nNo nNo nNo nNo nNo zQE zQL zQ7 zQH zQM zQ3 op
def vb (a b : List Nat) : Bool :=
  List.rec (motive := fun _ => List Nat → Bool) (fun b => List.rec (motive := fun _ => Bool) false (fun _ _ _ => true) b)
    (fun x _ ih b => List.rec (motive := fun _ => Bool) false (fun y r _ => Bool.rec (motive := fun _ => Bool) (Bool.rec (motive := fun _ => Bool) false (ih r) (Nat.beq x y)) true (Nat.ble (Nat.succ x) y)) b) a b
def xg (a b : List Nat) : Bool :=
  List.rec (motive := fun _ => List Nat → Bool) (fun b => List.rec (motive := fun _ => Bool) true (fun _ _ _ => false) b)
    (fun x _ ih b => List.rec (motive := fun _ => Bool) false (fun y r _ => Bool.rec (motive := fun _ => Bool) false (ih r) (Nat.beq x y)) b) a b
def zPY (a b : List Nat) : List Nat := List.rec (motive := fun _ => List Nat) b (fun x _ ih => x :: ih) a
def zBQ (a b : List CV) : List CV := List.rec (motive := fun _ => List CV) b (fun x _ ih => x :: ih) a
abbrev SOp := List Nat → List Nat → Option CV
def zQK : SOp := fun a b => Bool.rec (motive := fun _ => Option CV) none (some (.str (zPY a b))) (Nat.ble (Nat.add (zA9 a) (zA9 b)) 1000000)
def zQP : SOp := fun a b => some (.bool (xg a b))
def zQW : SOp := fun a b => some (.bool (zAI (xg a b)))
def zQD : SOp := fun a b => some (.bool (vb a b))
def zQ5 : SOp := fun a b => some (.bool (vb a b || xg a b))
def zQ1 : SOp := fun a b => some (.bool (zAI (vb a b || xg a b)))
def zQN : SOp := fun a b => some (.bool (zAI (vb a b)))
def zEv : SOp := fun _ _ => none
def zNd (op : BinOp) : SOp := BinOp.rec (motive := fun _ => SOp) zQK zEv zEv zEv zEv zEv zEv zEv zEv zEv zEv zQP zQW zQD zQ5 zQ1 zQN op
end
inductive zS where
  | e (i : Nat)
  | l (p : Loc)
  | k (v : CV)
structure zGB where
  off : Nat
  size : Nat
  arg : zS
inductive EqK where
  | bool | pointer | iface | slice | map | func | int | str
  | struct (fs : List (Nat × EqK))
inductive jJ where
  | int | str | bool
  | ints (n : Nat)
inductive Ext where
  | count | indexByte | index | mapsClone | overlaps | cmp
inductive COp where
  | mv (x : zS)
  | pick (c a b : zS)
  | alloc (cs : List CV)
  | box (x : zS)
  | build (zero : List CV) (ps : List zGB)
  | bslice (zero : List CV) (len esz : Nat) (ps : List zGB)
  | load1 (x : zS)
  | loadN (s : Nat) (x : zS)
  | store (s : Nat) (a x : zS)
  | nilck (x : zS)
  | arith (op : BinOp) (x y : zS)
  | eq (neg : Bool) (k : EqK) (cst : Bool) (x y : zS)
  | un (op : UnOp) (x : zS)
  | cvInt (k : IntKind) (x : zS)
  | cvStr (x : zS)
  | cvSB (x : zS)
  | cvMark (x : zS)
  | cvBS (x : zS)
  | iface (t : TypeId) (x : zS)
  | mkfn (fn : Fn) (first captured : List zS)
  | mkmap
  | mkslice (zero : List CV) (esz bytes : Nat) (l c : zS)
  | slArr (len esz : Nat) (x : zS) (lo hi mx : Option zS)
  | slSl (esz : Nat) (x : zS) (lo hi mx : Option zS)
  | slStr (x : zS) (lo hi : Option zS)
  | addOff (k : Nat) (x : zS)
  | part (agg : Bool) (off size : Nat) (x : zS)
  | ixArr (len esz : Nat) (x i : zS)
  | ixSl (esz : Nat) (x i : zS)
  | ixAgg (len esz : Nat) (agg : Bool) (x i : zS)
  | ixStr (x i : zS)
  | lookup (kk : jJ) (z : CV) (ok : Bool) (x k : zS)
  | mapupd (kk : jJ) (m k v : zS)
  | rangeStr (x : zS)
  | rangeMap (x : zS)
  | next (s : Bool) (x : zS)
  | entry (x : zS)
  | tassert (t : TypeId) (z : Option CV) (ok : Bool) (x : zS)
  | tiface (t : TypeId) (z : Option CV) (ok : Bool) (x : zS)
  | extract (i : Nat) (x : zS)
  | call (f : FuncId) (args : List zS)
  | ext (e : Ext) (args : List zS)
  | callv (f : zS) (args : List zS)
  | invoke (recv : zS) (name : String) (args : List zS)
  | append (esz bytes : Nat) (s x : zS)
  | appz (zero : List CV) (esz : Nat) (s x : zS)
  | copy (esz : Nat) (d x : zS)
  | lenStr (x : zS)
  | lenSl (x : zS)
  | lenMap (x : zS)
  | capSl (x : zS)
  | delete (kk : jJ) (m k : zS)
  | clearMap (x : zS)
  | clearSl (zero : List CV) (esz : Nat) (x : zS)
  | minmax (mx : Bool) (x : zS) (r : List zS)
  | defer (f : zS) (args : List zS)
  | recov
  | bad (c : Nat)
inductive x9 where
  | i (op : COp)
  | o (op : COp) (d : Loc)
  | g (x : zS) (w : Bool) (op : COp) (d : Option Loc)
structure zLF where
  ins : x9
  eff : Bool
  chk : Nat
inductive CCode where
  | skip
  | region (ops : List x9)
  | dregion (ops : List zLF)
  | seq (a b : CCode)
  | cond (x : zS) (a b : CCode)
  | block (id : Nat) (b : CCode)
  | loop (b : CCode)
  | exit (id : Nat)
  | ret
  | scope (b : CCode)
  | bad (c : Nat)
inductive CRes where
  | tmp (p : zS)
  | cell1 (p : zS)
  | cellN (p : zS) (s : Nat)
inductive CFn where
  | mk (body : CCode) (res : List CRes)
  | mkD (ops : List x9) (body : CCode) (res : List CRes)
  | ext (e : Ext)
  | bad (c : Nat)
section
variable (P : Program)
def und (t : TypeId) : Option TypeDesc := P.underlying t
def xZ (t : TypeId) : Option Nat := (P.info? t).map (·.size)
def ww (t : TypeId) : Option Nat := (P.info? t).map (·.bytes)
def xn (t : TypeId) : Option Bool := match P.underlying t with
  | some (.struct _) => some true
  | some (.array _ _) => some true
  | some _ => some false
  | none => none
def kM (t : TypeId) : Option CV := match (P.info? t).bind (·.zero) with
  | some v => vN 20 v
  | none => none
def cellsOf (v : CV) : Option (List CV) := match v with
  | .agg cs => some cs
  | .tup _ => none
  | .any => none
  | v => some [v]
def qd (t : TypeId) : Option (List CV) := (kM P t).bind cellsOf
def qk (fs : List Field) : Bool := match fs with
  | [] => true
  | f :: r => (xZ P f.type).isSome && qk r
def y9 (t : Nat) : List (Option Nat) → Nat → Option Nat
  | [], _ => none
  | d :: r, i => match d with
    | some u => match Nat.beq u t with
      | true => some i
      | false => y9 t r (i + 1)
    | none => y9 t r (i + 1)
structure Env where
  F : Nat
  N : Nat
  ds : List (Option Nat)
def zo (F t : Nat) : Bool := Nat.beq (Nat.mod (Nat.shiftRight F t) 2) 1
def zd (E : Env) : Operand → Option zS
  | .tmp t => match y9 t E.ds 0 with
    | some i => some (.e i)
    | none => match zo E.F t && Nat.ble t 271 && Nat.ble (Nat.succ t) E.N with
      | true => some (.l (Loc.ofNat t))
      | false => none
  | .const v => (vN 20 v).map .k
  | .global g => match Nat.ble (Nat.succ g) P.globals.size && Nat.ble g 4095 with
    | true => some (.k (.ptr (Key.ofNat g) 0))
    | false => none
  | .func f => some (.k (.func (.func f) [] []))
variable (E : Env)
def y6 (f : zS → COp) (x : Operand) : COp := match zd P E x with
  | some x => f x
  | none => .bad 1
def qP (f : zS → zS → COp) (x y : Operand) : COp := match zd P E x, zd P E y with
  | some x, some y => f x y
  | _, _ => .bad 1
def wP (place : Nat → Option (Nat × Nat)) (l : List (Nat × Operand)) : Option (List zGB) :=
  yq (fun (i, x) => match place i, zd P E x with
    | some (o, s), some x => some ⟨o, s, x⟩
    | _, _ => none) l
def vp (fs : List Field) (i : Nat) : Option (Nat × Nat) := match nth fs i with
  | none => none
  | some f => match xZ P f.type with
    | none => none
    | some s => some (f.offset, s)
def j9 : List Field → Option (List (Nat × EqK))
  | [] => some []
  | f :: r => if f.name == "_" then none else
    match j9 r with
    | none => none
    | some l => match und P f.type with
      | some .bool => some ((f.offset, .bool) :: l)
      | some (.int _) => some ((f.offset, .int) :: l)
      | some .string => some ((f.offset, .str) :: l)
      | _ => none
def zGu (t : TypeId) : Option EqK := match und P t with
  | some .bool => some .bool
  | some (.pointer _) => some .pointer
  | some (.interface _) => some .iface
  | some (.slice _) => some .slice
  | some (.map _ _) => some .map
  | some (.func _ _ _) => some .func
  | some (.struct fs) => if P.eqGuardType P.depth t || P.stoodInHeld t then none else (j9 P fs.toList).map .struct
  | _ => none
def zEk : List Field → Nat → Bool
  | [], _ => true
  | f :: r, i => !(f.name == "_") && Nat.beq f.offset i && (match und P f.type with
    | some (.int _) => true
    | _ => false) && zEk r (i + 1)
def xR (t : TypeId) : Option jJ := match und P t with
  | some (.int _) => some .int
  | some .string => some .str
  | some .bool => some .bool
  | some (.struct fs) => if P.stoodInHeld t then none else if zEk P fs.toList 0 then some (.ints fs.size) else none
  | _ => none
def xW : Operand → Bool
  | .const _ => true
  | _ => false
def zKB (op : BinOp) (t : TypeId) (x y : Operand) : COp := match und P t with
  | some (.int _) => qP P E (.arith op) x y
  | some .string => qP P E (.arith op) x y
  | _ => match op, zGu P t with
    | .eql, some k => qP P E (.eq false k (xW x || xW y)) x y
    | .neq, some k => qP P E (.eq true k (xW x || xW y)) x y
    | _, _ => .bad 2
def zGZ (s d : TypeId) (x : Operand) : COp := match und P s, und P d with
  | some (.int _), some (.int k) => y6 P E (.cvInt k) x
  | some .string, some .string => y6 P E .cvStr x
  | some .string, some (.slice e) => match und P e with
    | some (.int .u8) => y6 P E .cvSB x
    | _ => .bad 3
  | some (.slice _), some (.slice e) => match Nat.beq s d, und P e with
    | true, some (.int .u8) => y6 P E .cvMark x
    | _, _ => .bad 3
  | some (.slice e), some .string => match und P e with
    | some (.int .u8) => y6 P E .cvBS x
    | _ => .bad 3
  | _, _ => .bad 3
def qA (l : List Operand) : Option (List zS) := yq (zd P E) l
def xf (b : Builtin) (ts : List TypeId) (args : List Operand) : COp := match b, ts, args with
  | .append, t :: u :: _, [s, x] => match und P t, und P u with
    | some (.slice e), some ud => match ud with
      | .int _ => match xZ P e, ww P e, qd P e with
        | some (sz + 1), some b, some z => if Nat.ble b 100000 && Nat.beq z.length (sz + 1) then qP P E (.appz z (sz + 1)) s x else .bad 4
        | _, _, _ => .bad 4
      | _ => match xZ P e, ww P e, qd P e with
        | some (sz + 1), some b, some z => if Nat.ble b 100000 && Nat.beq z.length (sz + 1) then qP P E (.append (sz + 1) b) s x else .bad 4
        | _, _, _ => .bad 4
    | _, _ => .bad 4
  | .copy, t :: _, [d, x] => match und P t with
    | some (.slice e) => match xZ P e with
      | some s => qP P E (.copy s) d x
      | none => .bad 5
    | _ => .bad 5
  | .len, t :: _, [x] => match und P t with
    | some .string => y6 P E .lenStr x
    | some (.array k _) => .mv (.k (.nat k))
    | some (.pointer a) => match und P a with
      | some (.array k _) => .mv (.k (.nat k))
      | _ => .bad 6
    | some (.slice _) => y6 P E .lenSl x
    | some (.map _ _) => y6 P E .lenMap x
    | _ => .bad 6
  | .cap, t :: _, [x] => match und P t with
    | some (.slice _) => y6 P E .capSl x
    | some (.array k _) => .mv (.k (.nat k))
    | _ => .bad 7
  | .delete, t :: _, [m, k] => match und P t with
    | some (.map kt _) => match xR P kt with
      | some kk => qP P E (.delete kk) m k
      | none => .bad 8
    | _ => .bad 8
  | .clear, t :: _, [x] => match und P t with
    | some (.map _ _) => y6 P E .clearMap x
    | some (.slice e) => match qd P e, xZ P e with
      | some z, some s => y6 P E (.clearSl z s) x
      | _, _ => .bad 9
    | _ => .bad 9
  | .min, _, x :: r => match zd P E x, qA P E r with
    | some x, some r => .minmax false x r
    | _, _ => .bad 10
  | .max, _, x :: r => match zd P E x, qA P E r with
    | some x, some r => .minmax true x r
    | _, _ => .bad 10
  | .recover, _, [] => .recov
  | _, _, _ => .bad 11
def zQQ (a b : String) : String := String.append (String.append a (String.singleton (Char.ofNat 47))) b
def zFw (s : String) : String := zQQ "internal" s
def zHt (n : String) : Bool := (Extern.allNextRows.lookup n).isNone && (Extern.allGenericRows.lookup n).isNone && (Extern.allTypedRows.lookup n).isNone && (Extern.allRows.lookup n).isNone
def uq (fn : Func) : Bool := (!(fn.name == "runtime.NumGoroutine") && zHt fn.name) && match fn.params.toList with
  | t :: _ => match und P t with
    | some (.slice e) => (xZ P e).isSome
    | _ => false
  | [] => false
def zAX (fn : Func) : Option Ext :=
  if fn.origin == "" then
    if fn.name == zFw "bytealg.CountString" then some .count
    else if fn.name == zFw "bytealg.IndexByteString" then some .indexByte
    else if fn.name == zFw "bytealg.abigen_runtime_cmpstring" then some .cmp
    else if fn.name == "maps.clone" then some .mapsClone
    else none
  else if fn.origin == "slices.overlaps" && uq P fn then some .overlaps
  else none
def zDQ (c : Call) : COp := match c.callee with
  | .builtin b => xf P E b c.argTypes.toList c.args.toList
  | .invoke r name => match zd P E r, qA P E c.args.toList with
    | some r, some args => .invoke r name args
    | _, _ => .bad 13
  | .value f => match qA P E c.args.toList with
    | none => .bad 12
    | some args => match f with
      | .func f => match nth P.funcs.toList f with
        | none => .bad (10000 + f)
        | some fn => if fn.body.isSome then .call f args else match zAX P fn with
          | some e => .ext e args
          | none => .bad (10000 + f)
      | f => match zd P E f with
        | some f => .callv f args
        | none => .bad 14
def zH5 (y : Option Operand) : Option (Option zS) := match y with
  | none => some none
  | some y => (zd P E y).map some
def zFi (t : TypeId) (x : Operand) (lo hi mx : Option Operand) : COp :=
  if mx.isSome && hi.isNone then .bad 15 else match zd P E x, zH5 P E lo, zH5 P E hi, zH5 P E mx with
  | some x, some lo, some hi, some mx => match und P t with
    | some (.array k e) => match xZ P e with
      | some (s + 1) => .slArr k (s + 1) x lo hi mx
      | _ => .bad 15
    | some (.slice e) => match xZ P e with
      | some (s + 1) => .slSl (s + 1) x lo hi mx
      | _ => .bad 15
    | some .string => match mx with
      | none => .slStr x lo hi
      | some _ => .bad 15
    | _ => .bad 15
  | _, _, _, _ => .bad 15
def zc (o : Op) : COp := match o with
  | .move x => y6 P E .mv x
  | .assign x => y6 P E .mv x
  | .pick c a b => match zd P E c, zd P E a, zd P E b with
    | some c, some a, some b => .pick c a b
    | _, _, _ => .bad 20
  | .alloc t => match qd P t with
    | some z => .alloc z
    | none => .bad 21
  | .box _ x => y6 P E .box x
  | .build t ps => match qd P t, und P t with
    | some z, some (.struct fs) => if qk P fs.toList then
        match wP P E (vp P fs.toList) ps.toList with
        | some l => .build z l
        | none => .bad 22
      else .bad 22
    | some z, some (.array _ e) => match xZ P e with
      | none => .bad 22
      | some s => match wP P E (fun i => some (i * s, s)) ps.toList with
        | some l => .build z l
        | none => .bad 22
    | _, _ => .bad 22
  | .buildSlice t len ps => match und P t with
    | some (.slice e) => match xZ P e, qd P e with
      | some (s + 1), some z => if Nat.ble (len * (s + 1)) 100000 && Nat.beq z.length (s + 1) then
          match wP P E (fun i => some (i * (s + 1), s + 1)) ps.toList with
          | some l => .bslice (jc z len) len (s + 1) l
          | none => .bad 23
        else .bad 23
      | _, _ => .bad 23
    | _ => .bad 23
  | .load t a => match xn P t, xZ P t with
    | some true, some s => y6 P E (.loadN s) a
    | some false, some _ => y6 P E .load1 a
    | _, _ => .bad 24
  | .store t a x => match xZ P t with
    | some s => qP P E (.store s) a x
    | none => .bad 25
  | .nilCheck x => y6 P E .nilck x
  | .binOp op t x y _ => zKB P E op t x y
  | .unOp op _ x => y6 P E (.un op) x
  | .convert s d x => zGZ P E s d x
  | .makeInterface t x => match und P t with
    | some (.interface _) => .bad 26
    | some _ => y6 P E (.iface t) x
    | none => .bad 26
  | .makeFunc fn a b => match qA P E a.toList, qA P E b.toList with
    | some a, some b => .mkfn fn a b
    | _, _ => .bad 27
  | .makeMap t r => match und P t, r with
    | some (.map _ _), none => .mkmap
    | some (.map _ _), some (.const (.int _ _)) => .mkmap
    | _, _ => .bad 28
  | .makeSlice t l c => match und P t with
    | some (.slice e) => match xZ P e, qd P e, ww P e with
      | some (s + 1), some z, some b => if Nat.beq z.length (s + 1) then qP P E (.mkslice z (s + 1) b) l c else .bad 29
      | _, _, _ => .bad 29
    | _ => .bad 29
  | .slice t x lo hi mx => zFi P E t x lo hi mx
  | .fieldAddr t x f => match und P t with
    | some (.struct fs) => match nth fs.toList f with
      | some fd => match xZ P fd.type with
        | some (_ + 1) => y6 P E (.addOff fd.offset) x
        | _ => .bad 30
      | none => .bad 30
    | _ => .bad 30
  | .field t x f => match und P t with
    | some (.struct fs) => match nth fs.toList f with
      | some fd => match xn P fd.type, xZ P fd.type with
        | some a, some s => y6 P E (.part a fd.offset s) x
        | _, _ => .bad 31
      | none => .bad 31
    | _ => .bad 31
  | .indexAddr t x i => match und P t with
    | some (.array len e) => match xZ P e with
      | some s => qP P E (.ixArr len s) x i
      | none => .bad 32
    | some (.slice e) => match xZ P e with
      | some s => qP P E (.ixSl s) x i
      | none => .bad 32
    | _ => .bad 32
  | .index t x i => match und P t with
    | some (.array len e) => match xZ P e, xn P e with
      | some s, some a => qP P E (.ixAgg len s a) x i
      | _, _ => .bad 33
    | some .string => qP P E .ixStr x i
    | _ => .bad 33
  | .lookup t x i ok => match und P t with
    | some (.map kt et) => match xR P kt, kM P et with
      | some kk, some z => qP P E (.lookup kk z ok) x i
      | _, _ => .bad 34
    | _ => .bad 34
  | .mapUpdate t m k x => match und P t with
    | some (.map kt _) => match xR P kt, zd P E m, zd P E k, zd P E x with
      | some kk, some m, some k, some x => .mapupd kk m k x
      | _, _, _, _ => .bad 35
    | _ => .bad 35
  | .insert t m k x => match und P t with
    | some (.map kt _) => match xR P kt, zd P E m, zd P E k, zd P E x with
      | some kk, some m, some k, some x => .mapupd kk m k x
      | _, _, _, _ => .bad 35
    | _ => .bad 35
  | .range t x => match und P t with
    | some .string => y6 P E .rangeStr x
    | some (.map _ _) => y6 P E .rangeMap x
    | _ => .bad 36
  | .next it s => y6 P E (.next s) it
  | .entry it => y6 P E .entry it
  | .typeAssert x _ t ok => match und P t with
    | some (.interface _) => y6 P E (.tiface t (kM P t) ok) x
    | some _ => y6 P E (.tassert t (kM P t) ok) x
    | none => .bad 37
  | .extract t i => y6 P E (.extract i) t
  | .call c => zDQ P E c
  | .defer c => match c.callee with
    | .value f => match zd P E f, qA P E c.args.toList with
      | some f, some args => .defer f args
      | _, _ => .bad 38
    | _ => .bad 38
  | _ => .bad 39
def xE (F N : Nat) (d : Option Nat) : Option (Option Loc) := match d with
  | none => some none
  | some t => match Nat.ble (Nat.succ t) N with
   | false => none
   | true => match zo F t with
    | false => some none
    | true => match Nat.ble t 271 with
      | true => some (some (Loc.ofNat t))
      | false => none
def vK (F N : Nat) (all : List Oper) (ds : List (Option Nat)) (o : Oper) : x9 := match xE F N o.dst with
  | none => .i (.bad 40)
  | some d => match o.guard with
    | none => match d with
      | none => .i (zc P ⟨F, N, ds⟩ o.op)
      | some d => .o (zc P ⟨F, N, ds⟩ o.op) d
    | some (j, w) => match (nth all j).bind (·.dst) with
      | some t => match zd P ⟨F, N, ds⟩ (.tmp t) with
        | some x => .g x w (zc P ⟨F, N, ds⟩ o.op) d
        | none => .i (.bad 41)
      | none => .i (.bad 42)
def qb (F N : Nat) (all : List Oper) : List (Option Nat) → List Oper → List x9
  | _, [] => []
  | ds, o :: r => vK P F N all ds o :: qb F N all (o.dst :: ds) r
def zCb (o : Op) : Bool := match o with
  | .call c => match c.callee with
    | .builtin .recover => true
    | _ => false
  | _ => false
def xx (o : Op) : Bool := match o with
  | .store .. => true
  | .mapUpdate .. => true
  | .insert .. => true
  | .next .. => true
  | .range .. => true
  | .defer _ => true
  | .convert s d _ => match und P s, und P d with
    | some (.slice _), some (.slice _) => true
    | _, _ => false
  | .call c => match c.callee with
    | .builtin b => match b with
      | .len => false
      | .cap => false
      | .min => false
      | .max => false
      | _ => true
    | _ => true
  | _ => false
def vl (acc : List Nat) : List Edge → Nat
  | [] => 0
  | e :: r => if Region.binds .any e then Nat.lor (Nat.lor (Nat.shiftLeft 1 e.on) ((nth acc e.on).getD 0)) (vl acc r) else vl acc r
def kW : List Nat → List Oper → List Nat
  | acc, [] => acc
  | acc, o :: r => kW (acc ++ [vl acc o.after.toList]) r
def z6 (m : Nat) (done : List Nat) : List Nat → List Nat
  | [] => []
  | i :: r => if zo m i && !done.contains i then i :: z6 m done r else z6 m done r
def zE1 (anc : List Nat) (all : List Nat) : List Nat → List Nat → List Nat
  | [], done => done ++ z6 (Nat.sub (Nat.shiftLeft 1 all.length) 1) done all
  | e :: es, done => zE1 anc all es (done ++ z6 ((nth anc e).getD 0) done all ++ (if done.contains e then [] else [e]))
def zBU (m : Nat) : List Nat → Nat
  | [] => 0
  | e :: es => if zo m e then 0 else Nat.succ (zBU m es)
def zPN (p : Oper → Bool) : List Oper → Nat → List Nat
  | [], _ => []
  | o :: r, i => if p o then i :: zPN p r (i + 1) else zPN p r (i + 1)
def jB (F N : Nat) (ops : List Oper) (anc : List Nat) : List (Option Nat) → List Nat → List Nat → List zLF
  | _, _, [] => []
  | ds, effs, i :: r => match nth ops i with
    | none => [⟨.i (.bad 47), false, 0⟩]
    | some o => ⟨vK P F N ops ds o, xx P o.op, zBU ((nth anc i).getD 0) effs⟩ ::
        jB F N ops anc (o.dst :: ds) (if xx P o.op then i :: effs else effs) r
def zKV (ops : List Oper) (anc : List Nat) : List Nat := zE1 anc (List.range ops.length) (zPN (fun o => xx P o.op) ops 0) []
def zDF (m : Nat) : List Nat → List Nat → Bool
  | done, [] => Nat.beq done.length m
  | done, i :: r => !done.contains i && Nat.ble (Nat.succ i) m && zDF m (i :: done) r
def zJM (ops : List Oper) (anc : List Nat) : List Nat → List Nat → Bool
  | _, [] => true
  | done, i :: r => (match nth ops i with
    | some o => if xx P o.op then done.all fun j => zo ((nth anc i).getD 0) j else true
    | none => false) && zJM ops anc (i :: done) r
def zJT (anc : List Nat) (m : Nat) : List Nat → List Nat → Bool
  | _, [] => true
  | done, i :: r => ((List.range m).all fun j => !zo ((nth anc i).getD 0) j || done.contains j) && zJT anc m (i :: done) r
def vC (ops : List Oper) (o : Oper) : List Nat :=
  (o.op.operands.toList.filterMap fun | .tmp t => some t | _ => none) ++ (match o.guard with
    | some (j, _) => match (nth ops j).bind (·.dst) with
      | some t => [t]
      | none => []
    | none => [])
def zIW (ops : List Oper) (anc : List Nat) (m : Nat) : Bool :=
  (List.range m).all fun i => (List.range m).all fun j => match nth ops i, nth ops j with
    | some x, some y => match x.dst with
      | some t => (Nat.beq i j || !(decide (y.dst = some t))) && (!(vC ops y).contains t || (!Nat.beq i j && (zo ((nth anc j).getD 0) i || zo ((nth anc i).getD 0) j)))
      | none => true
    | _, _ => false
def zAu : List Oper → Nat → Bool
  | [], _ => true
  | o :: r, i => (o.after.toList.all fun e => !Region.binds .any e || Nat.ble (Nat.succ e.on) i) && zAu r (i + 1)
def zBk (ops : List Oper) (anc : List Nat) (order : List Nat) : Bool :=
  zDF ops.length [] order && zJM P ops anc [] order && zJT anc ops.length [] order && zIW ops anc ops.length && zAu ops 0
def zF7 (F N : Nat) (ops : List Oper) : CCode :=
  let anc := kW [] ops
  let order := zKV P ops anc
  if zBk P ops anc order then .dregion (jB P F N ops anc [] [] order) else .bad 48
def zR (F N : Nat) : Code → CCode
  | .skip => .skip
  | .label _ => .skip
  | .region _ ops dr => match dr with
    | false => .region (qb P F N ops.toList [] ops.toList)
    | true => zF7 P F N ops.toList
  | .seq a b => .seq (zR F N a) (zR F N b)
  | .cond x a b => match zd P ⟨F, N, []⟩ x with
    | some x => .cond x (zR F N a) (zR F N b)
    | none => .bad 43
  | .block id b => .block id (zR F N b)
  | .loop b => .loop (zR F N b)
  | .exit id => .exit id
  | .ret => .ret
  | .scope b => .scope (zR F N b)
  | _ => .bad 44
def bit (t : Nat) : Nat := Nat.shiftLeft 1 t
def zAs : List Operand → Nat
  | [] => 0
  | .tmp t :: r => Nat.lor (bit t) (zAs r)
  | _ :: r => zAs r
def zGC (all : List Oper) : List Oper → Nat
  | [] => 0
  | o :: r => Nat.lor (zAs o.op.operands.toList) (Nat.lor (match o.guard with | some (j, _) => zAs [.tmp ((((nth all j).bind (·.dst))).getD 4095)] | none => 0) (zGC all r))
def zGQ : List Oper → Nat
  | [] => 0
  | o :: r => match o.dst with
    | some t => Nat.lor (bit t) (zGQ r)
    | none => zGQ r
def zBY (c : Code) (x : Nat × Nat) : Nat × Nat := match c with
  | .region _ ops _ => let u := zGC ops.toList ops.toList; (Nat.lor x.1 u, Nat.lor x.2 (Nat.land x.1 u))
  | .seq a b => zBY b (zBY a x)
  | .cond y a b => let u := zAs [y]; zBY b (zBY a (Nat.lor x.1 u, Nat.lor x.2 (Nat.land x.1 u)))
  | .block _ b => zBY b x
  | .loop b => zBY b x
  | .scope b => zBY b x
  | _ => x
def ka (once : Nat) : Code → Nat
  | .region _ ops _ => Nat.land (zGQ ops.toList) (Nat.xor once (Nat.land once (zGC ops.toList ops.toList)))
  | .seq a b => Nat.lor (ka once a) (ka once b)
  | .cond _ a b => Nat.lor (ka once a) (ka once b)
  | .block _ b => ka once b
  | .loop b => ka once b
  | .scope b => ka once b
  | _ => 0
def zGp : List ResultVar → Nat
  | [] => 0
  | .tmp t :: r => Nat.lor (bit t) (zGp r)
  | .cell t _ :: r => Nat.lor (bit t) (zGp r)
def frameBits (fn : Func) (c : Code) : Nat :=
  let res := zGp fn.results.toList
  let u := zBY c (res, 0)
  Nat.lor (Nat.lor (Nat.lor u.2 (ka u.1 c)) res) (Nat.sub (bit (Nat.add fn.params.size fn.nfree)) 1)
def xL (F N : Nat) (r : ResultVar) : Option CRes := match r with
  | .tmp t => (zd P ⟨F, N, []⟩ (.tmp t)).map .tmp
  | .cell a t => match xn P t, xZ P t, zd P ⟨F, N, []⟩ (.tmp a) with
    | some true, some s, some x => some (.cellN x s)
    | some false, some _, some x => some (.cell1 x)
    | _, _, _ => none
def zDs (l : List Oper) : Bool := match l with
  | [] => true
  | o :: r => !zCb o.op && zDs r
def yC : Code → Bool
  | .region _ ops _ => zDs ops.toList
  | .seq a b => yC a && yC b
  | .cond _ a b => yC a && yC b
  | .block _ b => yC b
  | .loop b => yC b
  | .scope b => yC b
  | _ => true
def zA3 (F N : Nat) (fn : Func) (c : Code) : CFn := match yq (xL P F N) fn.results.toList with
  | some rs => if yC c then .mk (zR P F N c) rs else match c with
    | .seq (.region _ ops false) r => if yC r then .mkD (qb P F N ops.toList [] ops.toList) (zR P F N r) rs else .bad 50
    | _ => .bad 50
  | none => .bad 45
def compFn (f : FuncId) : CFn := match nth P.funcs.toList f with
  | none => .bad 46
  | some fn => match fn.body with
    | none => match zAX P fn with
      | some e => .ext e
      | none => .bad (20000 + f)
    | some c => if fn.name == "runtime.NumGoroutine" then .bad 49 else zA3 P (frameBits fn c) fn.ntmps fn c
end
end Go.Ev

namespace Go.Ev
noncomputable section
inductive OR where
  | val (v : CV)
  | read (v : CV)
  | alloc (o : CObj) (v : CV)
  | eff (v : CV) (h : zD) (n : Key)
  | call (f : FuncId) (args : List CV)
  | dfr (f : FuncId) (args : List CV)
  | recov
  | err (c : Nat)
  | fork (a b : OR)
def zEa (v : Option CV) (c : Nat) : OR := Option.rec (motive := fun _ => Nat → OR) (fun c => .err c) (fun v _ => .val v) v c
def zNg (v : Option CV) (c : Nat) : OR := Option.rec (motive := fun _ => Nat → OR) (fun c => .err c) (fun v _ => .read v) v c
def zPD (v : Option (List CV)) (c : Nat) : OR := Option.rec (motive := fun _ => Nat → OR) (fun c => .err c) (fun v _ => .val (.agg v)) v c
def zPn (v : Option (List CV)) (c : Nat) : OR := Option.rec (motive := fun _ => Nat → OR) (fun c => .err c) (fun v _ => .read (.agg v)) v c
def onL (v : Option (List CV)) (k : List CV → OR) (c : Nat) : OR := Option.rec (motive := fun _ => (List CV → OR) → Nat → OR) (fun _ c => .err c) (fun v k _ => k v) v k c
def onN (v : Option Nat) (k : Nat → OR) (c : Nat) : OR := Option.rec (motive := fun _ => (Nat → OR) → Nat → OR) (fun _ c => .err c) (fun v k _ => k v) v k c
def yY (b : Bool) (k : OR) (c : Nat) : OR := Bool.rec (motive := fun _ => OR → Nat → OR) (fun _ c => .err c) (fun k _ => k) b k c
def ifB (b : Bool) (t f : OR) : OR := Bool.rec (motive := fun _ => OR → OR → OR) (fun _ f => f) (fun t _ => t) b t f
def vL (n : Nat) (k : Nat → OR) : OR := Nat.rec (motive := fun _ => (Nat → OR) → OR) (fun k => k 0) (fun m _ k => k (Nat.succ m)) n k
def zCk (v : CV) (k : Key → Nat → OR) (e : Nat) : OR :=
  CV.rec (motive_1 := fun _ => (Key → Nat → OR) → Nat → OR) (motive_2 := fun _ => Unit)
    (fun _ _ e => .err e) (fun _ _ e => .err e) (fun _ _ _ e => .err e) (fun _ _ e => .err e) (fun _ _ e => .err e) (fun _ e => .err e) (fun x0 x1 k _ => k x0 x1) (fun _ e => .err e) (fun _ _ _ _ _ _ _ e => .err e) (fun _ e => .err e) (fun _ _ e => .err e) (fun _ _ _ _ _ _ e => .err e) (fun _ e => .err e) (fun _ _ _ _ e => .err e) (fun _ e => .err e) (fun _ _ _ e => .err e) (fun _ _ _ e => .err e) (fun _ _ e => .err e) (fun _ _ _ _ _ e => .err e) (fun _ _ _ e => .err e) (fun _ _ e => .err e) (fun _ _ _ e => .err e) (fun _ _ _ _ _ e => .err e) (fun _ e => .err e) () (fun _ _ _ _ => ()) v k e
def zNR (v : CV) (k : IntKind → Int → OR) (e : Nat) : OR :=
  CV.rec (motive_1 := fun _ => (IntKind → Int → OR) → Nat → OR) (motive_2 := fun _ => Unit)
    (fun _ _ e => .err e) (fun x0 k _ => k .i64 (.ofNat x0)) (fun x0 x1 k _ => k x0 x1) (fun _ _ e => .err e) (fun _ _ e => .err e) (fun _ e => .err e) (fun _ _ _ e => .err e) (fun _ e => .err e) (fun _ _ _ _ _ _ _ e => .err e) (fun _ e => .err e) (fun _ _ e => .err e) (fun _ _ _ _ _ _ e => .err e) (fun _ e => .err e) (fun _ _ _ _ e => .err e) (fun _ e => .err e) (fun _ _ _ e => .err e) (fun _ _ _ e => .err e) (fun _ _ e => .err e) (fun _ _ _ _ _ e => .err e) (fun _ _ _ e => .err e) (fun _ _ e => .err e) (fun _ _ _ e => .err e) (fun _ _ _ _ _ e => .err e) (fun _ e => .err e) () (fun _ _ _ _ => ()) v k e
def zQl (v : CV) (k : Nat → OR) (j : IntKind → Int → OR) (e : Nat) : OR :=
  CV.rec (motive_1 := fun _ => (Nat → OR) → (IntKind → Int → OR) → Nat → OR) (motive_2 := fun _ => Unit)
    (fun _ _ _ e => .err e) (fun x0 k _ _ => k x0) (fun x0 x1 _ j _ => j x0 x1) (fun _ _ _ e => .err e) (fun _ _ _ e => .err e) (fun _ _ e => .err e) (fun _ _ _ _ e => .err e) (fun _ _ e => .err e) (fun _ _ _ _ _ _ _ _ e => .err e) (fun _ _ e => .err e) (fun _ _ _ e => .err e) (fun _ _ _ _ _ _ _ e => .err e) (fun _ _ e => .err e) (fun _ _ _ _ _ e => .err e) (fun _ _ e => .err e) (fun _ _ _ _ e => .err e) (fun _ _ _ _ e => .err e) (fun _ _ _ e => .err e) (fun _ _ _ _ _ _ e => .err e) (fun _ _ _ _ e => .err e) (fun _ _ _ e => .err e) (fun _ _ _ _ e => .err e) (fun _ _ _ _ _ _ e => .err e) (fun _ _ e => .err e) () (fun _ _ _ _ => ()) v k j e
def vO (v : CV) (k : List Nat → OR) (e : Nat) : OR :=
  CV.rec (motive_1 := fun _ => (List Nat → OR) → Nat → OR) (motive_2 := fun _ => Unit)
    (fun _ _ e => .err e) (fun _ _ e => .err e) (fun _ _ _ e => .err e) (fun _ _ e => .err e) (fun x0 k _ => k x0) (fun _ e => .err e) (fun _ _ _ e => .err e) (fun _ e => .err e) (fun _ _ _ _ _ _ _ e => .err e) (fun _ e => .err e) (fun _ _ e => .err e) (fun _ _ _ _ _ _ e => .err e) (fun _ e => .err e) (fun _ _ _ _ e => .err e) (fun _ e => .err e) (fun _ _ _ e => .err e) (fun _ _ _ e => .err e) (fun _ _ e => .err e) (fun _ _ _ _ _ e => .err e) (fun _ _ _ e => .err e) (fun _ _ e => .err e) (fun _ _ _ e => .err e) (fun _ _ _ _ _ e => .err e) (fun _ e => .err e) () (fun _ _ _ _ => ()) v k e
def zJB (v : CV) (k : Bool → OR) (e : Nat) : OR :=
  CV.rec (motive_1 := fun _ => (Bool → OR) → Nat → OR) (motive_2 := fun _ => Unit)
    (fun x0 k _ => k x0) (fun _ _ e => .err e) (fun _ _ _ e => .err e) (fun _ _ e => .err e) (fun _ _ e => .err e) (fun _ e => .err e) (fun _ _ _ e => .err e) (fun _ e => .err e) (fun _ _ _ _ _ _ _ e => .err e) (fun _ e => .err e) (fun _ _ e => .err e) (fun _ _ _ _ _ _ e => .err e) (fun _ e => .err e) (fun _ _ _ _ e => .err e) (fun _ e => .err e) (fun _ _ _ e => .err e) (fun _ _ _ e => .err e) (fun _ _ e => .err e) (fun _ _ _ _ _ e => .err e) (fun _ _ _ e => .err e) (fun _ _ e => .err e) (fun _ _ _ e => .err e) (fun _ _ _ _ _ e => .err e) (fun _ e => .err e) () (fun _ _ _ _ => ()) v k e
def vV (v : CV) (z : OR) (k : Key → Nat → Nat → Nat → Nat → Bool → OR) (e : Nat) : OR :=
  CV.rec (motive_1 := fun _ => (OR) → (Key → Nat → Nat → Nat → Nat → Bool → OR) → Nat → OR) (motive_2 := fun _ => Unit)
    (fun _ _ _ e => .err e) (fun _ _ _ e => .err e) (fun _ _ _ _ e => .err e) (fun _ _ _ e => .err e) (fun _ _ _ e => .err e) (fun _ _ e => .err e) (fun _ _ _ _ e => .err e) (fun z _ _ => z) (fun x0 x1 x2 x3 x4 x5 _ k _ => k x0 x1 x2 x3 x4 x5) (fun _ _ e => .err e) (fun _ _ _ e => .err e) (fun _ _ _ _ _ _ _ e => .err e) (fun _ _ e => .err e) (fun _ _ _ _ _ e => .err e) (fun _ _ e => .err e) (fun _ _ _ _ e => .err e) (fun _ _ _ _ e => .err e) (fun _ _ _ e => .err e) (fun _ _ _ _ _ _ e => .err e) (fun _ _ _ _ e => .err e) (fun _ _ _ e => .err e) (fun _ _ _ _ e => .err e) (fun _ _ _ _ _ _ e => .err e) (fun _ _ e => .err e) () (fun _ _ _ _ => ()) v z k e
def zCh (v : CV) (z : OR) (k : Key → OR) (e : Nat) : OR :=
  CV.rec (motive_1 := fun _ => (OR) → (Key → OR) → Nat → OR) (motive_2 := fun _ => Unit)
    (fun _ _ _ e => .err e) (fun _ _ _ e => .err e) (fun _ _ _ _ e => .err e) (fun _ _ _ e => .err e) (fun _ _ _ e => .err e) (fun _ _ e => .err e) (fun _ _ _ _ e => .err e) (fun _ _ e => .err e) (fun _ _ _ _ _ _ _ _ e => .err e) (fun z _ _ => z) (fun x0 _ k _ => k x0) (fun _ _ _ _ _ _ _ e => .err e) (fun _ _ e => .err e) (fun _ _ _ _ _ e => .err e) (fun _ _ e => .err e) (fun _ _ _ _ e => .err e) (fun _ _ _ _ e => .err e) (fun _ _ _ e => .err e) (fun _ _ _ _ _ _ e => .err e) (fun _ _ _ _ e => .err e) (fun _ _ _ e => .err e) (fun _ _ _ _ e => .err e) (fun _ _ _ _ _ _ e => .err e) (fun _ _ e => .err e) () (fun _ _ _ _ => ()) v z k e
def zL5 (v : CV) (k : List CV → OR) (e : Nat) : OR :=
  CV.rec (motive_1 := fun _ => (List CV → OR) → Nat → OR) (motive_2 := fun _ => Unit)
    (fun _ _ e => .err e) (fun _ _ e => .err e) (fun _ _ _ e => .err e) (fun _ _ e => .err e) (fun _ _ e => .err e) (fun _ e => .err e) (fun _ _ _ e => .err e) (fun _ e => .err e) (fun _ _ _ _ _ _ _ e => .err e) (fun _ e => .err e) (fun _ _ e => .err e) (fun _ _ _ _ _ _ e => .err e) (fun _ e => .err e) (fun _ _ _ _ e => .err e) (fun _ e => .err e) (fun x0 _ k _ => k x0) (fun _ _ _ e => .err e) (fun _ _ e => .err e) (fun _ _ _ _ _ e => .err e) (fun _ _ _ e => .err e) (fun _ _ e => .err e) (fun _ _ _ e => .err e) (fun _ _ _ _ _ e => .err e) (fun _ e => .err e) () (fun _ _ _ _ => ()) v k e
def zPt (v : CV) (k : List CV → OR) (e : Nat) : OR :=
  CV.rec (motive_1 := fun _ => (List CV → OR) → Nat → OR) (motive_2 := fun _ => Unit)
    (fun _ _ e => .err e) (fun _ _ e => .err e) (fun _ _ _ e => .err e) (fun _ _ e => .err e) (fun _ _ e => .err e) (fun _ e => .err e) (fun _ _ _ e => .err e) (fun _ e => .err e) (fun _ _ _ _ _ _ _ e => .err e) (fun _ e => .err e) (fun _ _ e => .err e) (fun _ _ _ _ _ _ e => .err e) (fun _ e => .err e) (fun _ _ _ _ e => .err e) (fun _ e => .err e) (fun _ _ _ e => .err e) (fun x0 _ k _ => k x0) (fun _ _ e => .err e) (fun _ _ _ _ _ e => .err e) (fun _ _ _ e => .err e) (fun _ _ e => .err e) (fun _ _ _ e => .err e) (fun _ _ _ _ _ e => .err e) (fun _ e => .err e) () (fun _ _ _ _ => ()) v k e
def zIV (v : CV) (k : Fn → List CV → List CV → OR) (e : Nat) : OR :=
  CV.rec (motive_1 := fun _ => (Fn → List CV → List CV → OR) → Nat → OR) (motive_2 := fun _ => Unit)
    (fun _ _ e => .err e) (fun _ _ e => .err e) (fun _ _ _ e => .err e) (fun _ _ e => .err e) (fun _ _ e => .err e) (fun _ e => .err e) (fun _ _ _ e => .err e) (fun _ e => .err e) (fun _ _ _ _ _ _ _ e => .err e) (fun _ e => .err e) (fun _ _ e => .err e) (fun x0 x1 x2 _ _ k _ => k x0 x1 x2) (fun _ e => .err e) (fun _ _ _ _ e => .err e) (fun _ e => .err e) (fun _ _ _ e => .err e) (fun _ _ _ e => .err e) (fun _ _ e => .err e) (fun _ _ _ _ _ e => .err e) (fun _ _ _ e => .err e) (fun _ _ e => .err e) (fun _ _ _ e => .err e) (fun _ _ _ _ _ e => .err e) (fun _ e => .err e) () (fun _ _ _ _ => ()) v k e
def zA4 (v : CV) (k : TypeId → CV → OR) (z : OR) (e : Nat) : OR :=
  CV.rec (motive_1 := fun _ => (TypeId → CV → OR) → (OR) → Nat → OR) (motive_2 := fun _ => Unit)
    (fun _ _ _ e => .err e) (fun _ _ _ e => .err e) (fun _ _ _ _ e => .err e) (fun _ _ _ e => .err e) (fun _ _ _ e => .err e) (fun _ _ e => .err e) (fun _ _ _ _ e => .err e) (fun _ _ e => .err e) (fun _ _ _ _ _ _ _ _ e => .err e) (fun _ _ e => .err e) (fun _ _ _ e => .err e) (fun _ _ _ _ _ _ _ e => .err e) (fun _ _ e => .err e) (fun x0 x1 _ k _ _ => k x0 x1) (fun _ z _ => z) (fun _ _ _ _ e => .err e) (fun _ _ _ _ e => .err e) (fun _ _ _ e => .err e) (fun _ _ _ _ _ _ e => .err e) (fun _ _ _ _ e => .err e) (fun _ _ _ e => .err e) (fun _ _ _ _ e => .err e) (fun _ _ _ _ _ _ e => .err e) (fun _ _ e => .err e) () (fun _ _ _ _ => ()) v k z e
def zQz (v : CV) (k : IntKind → Int → OR) (u : IntKind → OR) (s : List Nat → OR) (e : Nat) : OR :=
  CV.rec (motive_1 := fun _ => (IntKind → Int → OR) → (IntKind → OR) → (List Nat → OR) → Nat → OR) (motive_2 := fun _ => Unit)
    (fun _ _ _ _ e => .err e) (fun x0 k _ _ _ => k .i64 (.ofNat x0)) (fun x0 x1 k _ _ _ => k x0 x1) (fun x0 _ u _ _ => u x0) (fun x0 _ _ s _ => s x0) (fun _ _ _ e => .err e) (fun _ _ _ _ _ e => .err e) (fun _ _ _ e => .err e) (fun _ _ _ _ _ _ _ _ _ e => .err e) (fun _ _ _ e => .err e) (fun _ _ _ _ e => .err e) (fun _ _ _ _ _ _ _ _ e => .err e) (fun _ _ _ e => .err e) (fun _ _ _ _ _ _ e => .err e) (fun _ _ _ e => .err e) (fun _ _ _ _ _ e => .err e) (fun _ _ _ _ _ e => .err e) (fun _ _ _ _ e => .err e) (fun _ _ _ _ _ _ _ e => .err e) (fun _ _ _ _ _ e => .err e) (fun _ _ _ _ e => .err e) (fun _ _ _ _ _ e => .err e) (fun _ _ _ _ _ _ _ e => .err e) (fun _ _ _ e => .err e) () (fun _ _ _ _ => ()) v k u s e
def zL6 (v : CV) (k : IntKind → Int → OR) (u : IntKind → OR) (e : Nat) : OR :=
  CV.rec (motive_1 := fun _ => (IntKind → Int → OR) → (IntKind → OR) → Nat → OR) (motive_2 := fun _ => Unit)
    (fun _ _ _ e => .err e) (fun x0 k _ _ => k .i64 (.ofNat x0)) (fun x0 x1 k _ _ => k x0 x1) (fun x0 _ u _ => u x0) (fun _ _ _ e => .err e) (fun _ _ e => .err e) (fun _ _ _ _ e => .err e) (fun _ _ e => .err e) (fun _ _ _ _ _ _ _ _ e => .err e) (fun _ _ e => .err e) (fun _ _ _ e => .err e) (fun _ _ _ _ _ _ _ e => .err e) (fun _ _ e => .err e) (fun _ _ _ _ _ e => .err e) (fun _ _ e => .err e) (fun _ _ _ _ e => .err e) (fun _ _ _ _ e => .err e) (fun _ _ _ e => .err e) (fun _ _ _ _ _ _ e => .err e) (fun _ _ _ _ e => .err e) (fun _ _ _ e => .err e) (fun _ _ _ _ e => .err e) (fun _ _ _ _ _ _ e => .err e) (fun _ _ e => .err e) () (fun _ _ _ _ => ()) v k u e
def zPV (v : CV) (k : Key → Nat → OR) (z : OR) : OR :=
  CV.rec (motive_1 := fun _ => (Key → Nat → OR) → OR → OR) (motive_2 := fun _ => Unit)
    (fun _ _ z => z) (fun _ _ z => z) (fun _ _ _ z => z) (fun _ _ z => z) (fun _ _ z => z) (fun _ z => z) (fun x0 x1 k _ => k x0 x1) (fun _ z => z) (fun _ _ _ _ _ _ _ z => z) (fun _ z => z) (fun _ _ z => z) (fun _ _ _ _ _ _ z => z) (fun _ z => z) (fun _ _ _ _ z => z) (fun _ z => z) (fun _ _ _ z => z) (fun _ _ _ z => z) (fun _ _ z => z) (fun _ _ _ _ _ z => z) (fun _ _ _ z => z) (fun _ _ z => z) (fun _ _ _ z => z) (fun _ _ _ _ _ z => z) (fun _ z => z) () (fun _ _ _ _ => ()) v k z
def zM1 (v : CV) (k : Key → Nat → SE → SE → OR) (z : OR) : OR :=
  CV.rec (motive_1 := fun _ => (Key → Nat → SE → SE → OR) → OR → OR) (motive_2 := fun _ => Unit)
    (fun _ _ z => z) (fun _ _ z => z) (fun _ _ _ z => z) (fun _ _ z => z) (fun _ _ z => z) (fun _ z => z) (fun _ _ _ z => z) (fun _ z => z) (fun _ _ _ _ _ _ _ z => z) (fun _ z => z) (fun _ _ z => z) (fun _ _ _ _ _ _ z => z) (fun _ z => z) (fun _ _ _ _ z => z) (fun _ z => z) (fun _ _ _ z => z) (fun _ _ _ z => z) (fun _ _ z => z) (fun x0 x1 x2 x3 k _ => k x0 x1 x2 x3) (fun _ _ _ z => z) (fun _ _ z => z) (fun _ _ _ z => z) (fun _ _ _ _ _ z => z) (fun _ z => z) () (fun _ _ _ _ => ()) v k z
def zPc (v : CV) (k : List CV → OR) (z : OR) : OR :=
  CV.rec (motive_1 := fun _ => (List CV → OR) → OR → OR) (motive_2 := fun _ => Unit)
    (fun _ _ z => z) (fun _ _ z => z) (fun _ _ _ z => z) (fun _ _ z => z) (fun _ _ z => z) (fun _ z => z) (fun _ _ _ z => z) (fun _ z => z) (fun _ _ _ _ _ _ _ z => z) (fun _ z => z) (fun _ _ z => z) (fun _ _ _ _ _ _ z => z) (fun _ z => z) (fun _ _ _ _ z => z) (fun _ z => z) (fun _ _ _ z => z) (fun _ _ _ z => z) (fun _ _ z => z) (fun _ _ _ _ _ z => z) (fun x0 _ k _ => k x0) (fun _ _ z => z) (fun _ _ _ z => z) (fun _ _ _ _ _ z => z) (fun _ z => z) () (fun _ _ _ _ => ()) v k z
def zLB (v : CV) (k : Nat → OR) (z : OR) : OR :=
  CV.rec (motive_1 := fun _ => (Nat → OR) → OR → OR) (motive_2 := fun _ => Unit)
    (fun _ _ z => z) (fun x0 k _ => k x0) (fun _ _ _ z => z) (fun _ _ z => z) (fun _ _ z => z) (fun _ z => z) (fun _ _ _ z => z) (fun _ z => z) (fun _ _ _ _ _ _ _ z => z) (fun _ z => z) (fun _ _ z => z) (fun _ _ _ _ _ _ z => z) (fun _ z => z) (fun _ _ _ _ z => z) (fun _ z => z) (fun _ _ _ z => z) (fun _ _ _ z => z) (fun _ _ z => z) (fun _ _ _ _ _ z => z) (fun _ _ _ z => z) (fun _ _ z => z) (fun _ _ _ z => z) (fun _ _ _ _ _ z => z) (fun _ z => z) () (fun _ _ _ _ => ()) v k z
def vU (v : CV) (k : Nat → OR) (e : Nat) : OR :=
  zQl v k (fun _ n => Int.rec (motive := fun _ => (Nat → OR) → Nat → OR) (fun m k _ => k m) (fun _ _ e => .err e) n k e) e
def jU (o : Option CObj) (k : List CV → OR) (e : Nat) : OR :=
  Option.rec (motive := fun _ => (List CV → OR) → Nat → OR) (fun _ e => .err e)
    (fun o => CObj.rec (motive := fun _ => (List CV → OR) → Nat → OR) (fun vs k _ => k vs) (fun _ _ e => .err e) (fun _ _ _ e => .err e) (fun _ _ _ e => .err e) (fun _ _ _ _ _ e => .err e) (fun _ _ _ e => .err e) (fun _ _ e => .err e) o) o k e
def wN (o : Option CObj) (k : List CV → OR) (e : Nat) : OR :=
  Option.rec (motive := fun _ => (List CV → OR) → Nat → OR) (fun _ e => .err e)
    (fun o => CObj.rec (motive := fun _ => (List CV → OR) → Nat → OR) (fun vs k _ => k vs) (fun vs k _ => k vs) (fun _ _ _ e => .err e) (fun _ _ _ e => .err e) (fun _ _ _ _ _ e => .err e) (fun _ vs k _ => k vs) (fun _ _ e => .err e) o) o k e
def wI (o : Option CObj) (k : List CE → Nat → OR) (e : Nat) : OR :=
  Option.rec (motive := fun _ => (List CE → Nat → OR) → Nat → OR) (fun _ e => .err e)
    (fun o => CObj.rec (motive := fun _ => (List CE → Nat → OR) → Nat → OR) (fun _ _ e => .err e) (fun _ _ e => .err e) (fun es c k _ => k es c) (fun _ _ _ e => .err e) (fun _ _ _ _ _ e => .err e) (fun _ _ _ e => .err e) (fun _ _ e => .err e) o) o k e
def zFY (o : Option CObj) (k : Bool → List CV → OR) (z : OR) : OR := match o with
  | some (.full u vs) => k u vs
  | _ => z
def zF4 (o : Option CObj) (k : List (CV × CV) → OR) (z : OR) : OR := match o with
  | some (.mapz es) => k es
  | _ => z
def zOJ (l : List CV) (k : Nat) : CV := List.rec (motive := fun _ => Nat → CV) (fun _ => .any) (fun x _ ih k => Nat.rec (motive := fun _ => CV) x (fun k _ => ih k) k) l k
def aE (i : Nat) : List CV → Tm → CV := fun es _ => zOJ es i
def aL (p : Loc) : List CV → Tm → CV := fun _ tm => qO p tm
def aK (v : CV) : List CV → Tm → CV := fun _ _ => v
def aV (es : List CV) (tm : Tm) (x : zS) : CV := zS.rec (motive := fun _ => List CV → Tm → CV) aE aL aK x es tm
def aVs (es : List CV) (tm : Tm) (l : List zS) : List CV := List.rec (motive := fun _ => List CV) [] (fun x _ ih => aV es tm x :: ih) l
abbrev X := List CV → Tm → zD → Key → OR
def xMv (x : zS) : X := fun es tm _ _ => .val (aV es tm x)
def zPh (c a b : zS) : X := fun es tm _ _ => zJB (aV es tm c) (fun t => ifB t (.val (aV es tm a)) (.val (aV es tm b))) 100
def zN6 (cs : List CV) : X := fun _ _ _ n => .alloc (.cells cs) (.ptr n 0)
def zQk (x : zS) : X := fun es tm _ n => onL (cellsOf (aV es tm x)) (fun cs => .alloc (.cells cs) (.ptr n 0)) 101
def zAR (s off : Nat) (cells : List CV) (v : Option (List CV)) : Option (List CV) :=
  Option.rec (motive := fun _ => Nat → List CV → Nat → Option (List CV)) (fun _ _ _ => none) (fun xs s cells off => qf xs s cells off) v s cells off
def vx (es : List CV) (tm : Tm) (ps : List zGB) (cells : List CV) : Option (List CV) :=
  List.rec (motive := fun _ => List CV → Option (List CV)) (fun cells => some cells)
    (fun p _ ih cells => Option.rec (motive := fun _ => Option (List CV)) none ih (zAR p.size p.off cells (cellsOf (aV es tm p.arg)))) ps cells
def zOa (zero : List CV) (ps : List zGB) : X := fun es tm _ _ => zPD (vx es tm ps zero) 102
def ifO (b : Bool) (t f : CObj) : CObj := Bool.rec (motive := fun _ => CObj → CObj → CObj) (fun _ f => f) (fun t _ => t) b t f
def zKm (zero : List CV) (len esz : Nat) (ps : List zGB) : X := fun es tm _ n => onL (vx es tm ps zero) (fun cs => .alloc (ifO (Nat.beq len 1 && Nat.beq esz 6) (.full true cs) (.cells cs)) (.sl n 0 len len esz true)) 103
def zJ0 : List CV → Option (List (List Nat))
  | [] => some []
  | .str s :: r => match zJ0 r with
    | some t => some (s :: t)
    | none => none
  | _ :: _ => none
def zQy (vs : List CV) (off i m : Nat) : Option CV := match vw vs off (Nat.succ m) with
  | some l => match zJ0 l with
    | some t => some (.few i t)
    | none => none
  | none => none
def zPR (v : CV) (h : zD) : OR := match v with
  | .elt b off i m => wN (yK b h) (fun vs => zNg (zQy vs off i m) 104) 105
  | _ => .err 106
def zMv (x : zS) : X := fun es tm h _ => zPV (aV es tm x) (fun b off => wN (yK b h) (fun vs => zNg (zDK vs off) 104) 105) (zPR (aV es tm x) h)
def zND (s : Nat) (x : zS) : X := fun es tm h _ => zCk (aV es tm x) (fun b off => wN (yK b h) (fun vs => zPn (vw vs off s) 107) 108) 109
def zNG (s : Nat) (a x : zS) : X := fun es tm h n => zCk (aV es tm a) (fun b off => jU (yK b h) (fun vs =>
  onL (cellsOf (aV es tm x)) (fun cs => yY (xC cs) (onL (qf cs s vs off) (fun l => .eff .undef (yn (some (.cells l)) b h) n) 110) 111) 112) 113) 114
def zDd (v : CV) : OR := match v with
  | .nilptr => .err 115
  | .niliface => .err 115
  | .nilfunc => .err 115
  | .func (.method _) _ _ => .err 116
  | .any => .err 116
  | v => .val v
def zMJ (x : zS) : X := fun es tm _ _ => zPV (aV es tm x) (fun b o => .val (.ptr b o)) (zDd (aV es tm x))
class Sym where
  val : SE → Value
  one : ∀ e, (∃ k n, val e = .int k n) ∨ ∃ s, val e = .string s
  bin : BinOp → CV → CV → Option (List CV)
  cv : IntKind → CV → Option (List CV)
  arg : Key → Option Value
variable [Sym]
def forkL (c : CV) (l : List CV) : OR := List.rec (motive := fun _ => CV → OR) (fun c => .val c) (fun d _ ih c => .fork (.val c) (ih d)) l c
def zOT (o : Option (List CV)) (e : Nat) : OR := match o with
  | none => .err e
  | some l => match l with
    | [] => .err e
    | c :: cs => forkL c cs
def zM3 (v : CV) : Bool := match v with
  | .sym _ => true
  | .sst _ => true
  | .few _ _ => true
  | _ => false
def wb : OR := .fork (.val (.bool true)) (.val (.bool false))
def zII (k : IntKind) (m : Nat) : OR := Nat.rec (motive := fun _ => OR) (.val (qj k 0)) (fun i ih => .fork ih (.val (qj k (Nat.succ i)))) m
def zIH (k : IntKind) (m : Nat) : OR := Nat.rec (motive := fun _ => OR) (.val (qj k 0)) (fun i ih => .fork ih (.fork (.val (qj k (Nat.succ i))) (.val (.int k (.negSucc i))))) m
def qR (op : BinOp) (j k : IntKind) : OR := yY (kEq j k) (match op with
  | .add => .val (.anyi k)
  | .sub => .val (.anyi k)
  | .mul => .val (.anyi k)
  | .and => .val (.anyi k)
  | .or => .val (.anyi k)
  | .xor => .val (.anyi k)
  | .andNot => .val (.anyi k)
  | .eql => wb
  | .neq => wb
  | .lss => wb
  | .leq => wb
  | .gtr => wb
  | .geq => wb
  | _ => .err 117) 118
def zD1 (op : BinOp) (k : IntKind) (b : Int) : OR := match op with
  | .and => match b with
    | .ofNat m => yY (Nat.ble m 127) (zII k m) 117
    | .negSucc _ => .val (.anyi k)
  | .rem => match b with
    | .ofNat m => match m with
      | 0 => .err 117
      | m + 1 => yY (Nat.ble m 127) (match k.signed with
        | true => zIH k m
        | false => .val (.anyi k)) 117
    | .negSucc _ => .err 117
  | .quo => match b with
    | .ofNat m => match m with
      | 0 => .err 117
      | _ + 1 => .val (.anyi k)
    | .negSucc _ => .val (.anyi k)
  | .shl => match b with
    | .ofNat _ => .val (.anyi k)
    | .negSucc _ => .err 117
  | .shr => match b with
    | .ofNat _ => .val (.anyi k)
    | .negSucc _ => .err 117
  | op => qR op k k
def zIC (op : BinOp) (x y : CV) : OR := zQz x
  (fun k a => zL6 y (fun j b => yY (kEq k j || yl op) (zEa (yL op k a b) 117) 118) (fun j => qR op j k) 119)
  (fun k => zL6 y (fun j b => yY (kEq k j || yl op) (zD1 op k b) 118) (fun j => qR op j k) 119)
  (fun a => vO y (fun b => zEa (zNd op a b) 120) 121) 122
def zNQ (op : BinOp) (a m : Nat) : OR := match op with
  | .gtr => ifB (Nat.ble a m) (.val (.bool false)) wb
  | .leq => ifB (Nat.ble a m) (.val (.bool true)) wb
  | .lss => ifB (Nat.ble (Nat.succ a) m) (.val (.bool true)) wb
  | .geq => ifB (Nat.ble (Nat.succ a) m) (.val (.bool false)) wb
  | _ => .err 119
def jE (op : BinOp) (x y : CV) : OR := match x, y with
  | .nat a, .big m => zNQ op a m
  | x, y => match zM3 x || zM3 y with
    | true => zOT (Sym.bin op x y) 117
    | false => zIC op x y
def zIv (op : BinOp) (a b : Nat) (x y : CV) : OR := Option.rec (motive := fun _ => BinOp → CV → CV → OR) (fun op x y => jE op x y) (fun v _ _ _ => .val v) (zFI op a b) op x y
def zNq (op : BinOp) (x y : zS) : X := fun es tm _ _ =>
  zLB (aV es tm x) (fun a => zLB (aV es tm y) (fun b => zIv op a b (aV es tm x) (aV es tm y)) (jE op (aV es tm x) (aV es tm y))) (jE op (aV es tm x) (aV es tm y))
def vi : EqK → CV → CV → Option Bool
  | .bool, .bool a, .bool b => some (a == b)
  | .int, .nat a, .nat b => some (Nat.beq a b)
  | .int, .int k a, .int j b => match kEq k j with
    | true => some (yt a b)
    | false => none
  | .int, .nat _, .int .i64 (.negSucc _) => some false
  | .int, .int .i64 (.negSucc _), .nat _ => some false
  | .str, .str a, .str b => some (xg a b)
  | _, _, _ => none
def eqFields (xs ys : List CV) : List (Nat × EqK) → Option Bool
  | [] => some true
  | (o, k) :: r => match zDK xs o, zDK ys o with
    | some x, some y => match vi k x y with
      | some true => eqFields xs ys r
      | some false => some false
      | none => none
    | _, _ => none
def eqC (k : EqK) (cst : Bool) (x y : CV) : Option Bool := match k with
  | .bool => vi .bool x y
  | .int => none
  | .str => none
  | .pointer => match x, y with
    | .nilptr, .nilptr => some true
    | .nilptr, .ptr _ _ => some false
    | .ptr _ _, .nilptr => some false
    | _, _ => none
  | .iface => match x, y with
    | .niliface, .niliface => if cst then some true else none
    | .niliface, .iface _ _ => some false
    | .iface _ _, .niliface => some false
    | _, _ => none
  | .slice => match x, y with
    | .nilsl, .nilsl => some true
    | .nilsl, .sl .. => some false
    | .sl .., .nilsl => some false
    | _, _ => none
  | .map => match x, y with
    | .nilmap, .nilmap => some true
    | .nilmap, .map _ => some false
    | .map _, .nilmap => some false
    | _, _ => none
  | .func => match x, y with
    | .nilfunc, .nilfunc => some true
    | .nilfunc, .func .. => some false
    | .func .., .nilfunc => some false
    | _, _ => none
  | .struct fs => match x, y with
    | .agg xs, .agg ys => eqFields xs ys fs
    | _, _ => none
def xEq (neg : Bool) (k : EqK) (cst : Bool) (x y : zS) : X := fun es tm _ _ => match eqC k cst (aV es tm x) (aV es tm y) with
  | some b => .val (.bool (xor neg b))
  | none => .err 123
def xUn (op : UnOp) (x : zS) : X := fun es tm _ _ => match op with
  | .neg => zNR (aV es tm x) (fun k n => .val (zU k (ya k (Int.sub (.ofNat 0) n)))) 124
  | .xor => zNR (aV es tm x) (fun k n => zEa (zPQ k (if k.signed then -1 else k.max) n) 125) 126
  | .not => zJB (aV es tm x) (fun b => .val (.bool (zAI b))) 127
  | .plus => .err 128
def zCV (k : IntKind) (v : CV) : OR := match zM3 v with
  | true => zOT (Sym.cv k v) 129
  | false => zL6 v (fun _ a => .val (zU k (ya k a))) (fun _ => .val (.anyi k)) 129
def zMi (k : IntKind) (x : zS) : X := fun es tm _ _ => zCV k (aV es tm x)
def zMy (x : zS) : X := fun es tm _ _ => vO (aV es tm x) (fun s => .val (.str s)) 130
def wU (s : List Nat) : List CV := List.rec (motive := fun _ => List CV) [] (fun b _ ih => .int .u8 (.ofNat b) :: ih) s
def ki (v : CV) : Option Nat := match v with
  | .int .u8 (.ofNat b) => match Nat.ble b 255 with
    | true => some b
    | false => none
  | _ => none
def j0 (l : List CV) : Option (List Nat) :=
  List.rec (motive := fun _ => Option (List Nat)) (some []) (fun v _ ih => Option.rec (motive := fun _ => Option (List Nat) → Option (List Nat)) (fun _ => none) (fun b r => zJ2 b r) (ki v) ih) l
def zPg (x : zS) : X := fun es tm _ n => vO (aV es tm x) (fun l => vL (zA9 l) fun k => .alloc (.cells (wU l)) (.sl n 0 k k 1 false)) 131
def zKi (x : zS) : X := fun es tm h n => vV (aV es tm x) (.err 132) (fun b off len cap esz ex => jU (yK b h) (fun _ => .eff (.sl b off len cap esz ex) h n) 133) 134
def zQC (v : Option (List Nat)) (c : Nat) : OR := Option.rec (motive := fun _ => Nat → OR) (fun c => .err c) (fun v _ => .val (.str v)) v c
def zF2 (v : CV) : Bool := match v with
  | .int k (.ofNat b) => kEq k .u8 && Nat.ble b 255
  | .sym e => kEq e.k .u8 && (match Sym.bin .leq (.sym e) (.int .u8 (.ofNat 255)), Sym.bin .geq (.sym e) (.int .u8 (.ofNat 0)) with
    | some [.bool true], some [.bool true] => true
    | _, _ => false)
  | _ => false
def zAZ : List CV → Bool
  | [] => true
  | v :: r => zF2 v && zAZ r
def zIX (cs : List CV) : OR := match j0 cs with
  | some r => .read (.str r)
  | none => match zAZ cs with
    | true => .read (.sst cs)
    | false => .err 135
def zPm (x : zS) : X := fun es tm h _ => vV (aV es tm x) (.val (.str [])) (fun b off len _ _ _ => wN (yK b h) (fun vs =>
  onL (vw vs off len) zIX 136) 137) 138
def zNt (t : TypeId) (x : zS) : X := fun es tm _ _ => .val (.iface t (aV es tm x))
def zPs (fn : Fn) (a b : List zS) : X := fun es tm _ _ => .val (.func fn (aVs es tm a) (aVs es tm b))
def zMC : X := fun _ _ _ n => .alloc (.map [] 0) (.map n)
def zHO (zero : List CV) (esz bytes : Nat) (l c : zS) : X := fun es tm _ n => vU (aV es tm l) (fun l => vU (aV es tm c) (fun c =>
  yY (Nat.ble l c && Nat.ble (Nat.mul c esz) 100000 && Nat.ble (Nat.mul bytes c) 1000000)
    (vL l fun l => vL c fun c => .alloc (.cells (jc zero c)) (.sl n 0 l c esz true)) 139) 140) 141
def uz (es : List CV) (tm : Tm) (x : Option zS) (y d : Nat) (k : Nat → OR) (e : Nat) : OR :=
  Option.rec (motive := fun _ => Nat → (Nat → OR) → OR) (fun d k => k d) (fun x _ k => vU (aV es tm x) (fun i => yY (Nat.ble i y) (k i) e) e) x d k
def qZ (es : List CV) (tm : Tm) (len cap : Nat) (lo hi mx : Option zS) (k : Nat → Nat → Nat → OR) (e : Nat) : OR :=
  uz es tm mx cap cap (fun m => uz es tm hi m len (fun h => uz es tm lo h 0 (fun l => k l h m) e) e) e
def zKL (b : Key) (off esz : Nat) (ex : Bool) : Nat → Nat → Nat → OR := fun l h m =>
  yY (Nat.ble h m && Nat.ble l h) (vL (Nat.add off (Nat.mul l esz)) fun o => vL (Nat.sub h l) fun hl => vL (Nat.sub m l) fun ml => .val (.sl b o hl ml esz ex)) 142
def zMU (len esz : Nat) (x : zS) (lo hi mx : Option zS) : X := fun es tm _ _ => zCk (aV es tm x) (fun b off =>
  qZ es tm len len lo hi mx (zKL b off esz true) 143) 144
def uB (es : List CV) (tm : Tm) (h : zD) (b : Key) (off cap esz : Nat) (ex : Bool) (lo hi mx : Option zS) (k0 : OR) : OR := match ex, lo, mx, hi with
  | false, none, none, some y => match aV es tm y with
    | .nat m => match Nat.ble m cap, cap with
      | false, _ + 1 => jU (yK b h) (fun vs => yY (Nat.ble (Nat.add off (Nat.mul m esz)) (uW vs)) (vL m fun m => .read (.sl b off m m esz false)) 146) 146
      | _, _ => k0
    | _ => k0
  | _, _, _, _ => k0
def zPe (esz : Nat) (x : zS) (lo hi mx : Option zS) : X := fun es tm h _ => vV (aV es tm x)
  (qZ es tm 0 0 lo hi mx (fun _ _ _ => .val .nilsl) 145)
  (fun b off len cap s ex => yY (Nat.beq s esz) (uB es tm h b off cap esz ex lo hi mx (qZ es tm len cap lo hi mx (zKL b off esz (ex || mx.isSome)) 146)) 147) 148
def zN9 (x : zS) (lo hi : Option zS) : X := fun es tm _ _ => vO (aV es tm x) (fun s =>
  vL (zA9 s) fun n => qZ es tm n n lo hi none (fun l h _ => yY (Nat.ble l h) (zQC (zPU s l (Nat.sub h l)) 149) 149) 150) 151
def zJ5 (k : Nat) (x : zS) : X := fun es tm _ _ => zCk (aV es tm x) (fun b off => vL (Nat.add off k) fun o => .val (.ptr b o)) 152
def zMh (agg : Bool) (s : Nat) (cs : List CV) (off : Nat) (e : Nat) : OR := Bool.rec (motive := fun _ => OR) (zEa (zDK cs off) e) (zPD (vw cs off s) e) agg
def zPr (agg : Bool) (off s : Nat) (x : zS) : X := fun es tm _ _ => zL5 (aV es tm x) (fun cs => zMh agg s cs off 153) 154
def zN3 (len esz : Nat) (x i : zS) : X := fun es tm _ _ => zCk (aV es tm x) (fun b off => vU (aV es tm i) (fun i =>
  yY (Nat.ble (Nat.succ i) len) (vL (Nat.add off (Nat.mul i esz)) fun o => .val (.ptr b o)) 155) 156) 157
def uY : List (Nat × Int) → List (Nat × Int) → Bool
  | [], [] => true
  | (i, a) :: l, (j, b) :: m => Nat.beq i j && yt a b && uY l m
  | _, _ => false
def zOH (a b : SE) : Bool := kEq a.k b.k && yt a.c b.c && uY a.l b.l
def zNi (b : Key) (s : Nat) (e n : SE) (esz : Nat) (i : CV) : OR := match i with
  | .sym j => match zOH j e && Nat.beq s esz with
    | true => match Sym.bin .leq (.nat 0) (.sym e), Sym.bin .lss (.sym e) (.sym n) with
      | some [.bool true], some [.bool true] => .val (.ptr b 0)
      | _, _ => .err 320
    | false => .err 321
  | _ => .err 322
def zDY (x y : CV) : Option Bool := match Sym.cv .i64 x, Sym.bin .leq x y, Sym.bin .geq x y with
  | some _, some [.bool a], some [.bool b] => some (a && b)
  | _, _, _ => none
def zHH (i : CV) : CV := match i with
  | .sym j => match Sym.bin .andNot (.sym j) (.nat 0) with
    | some [.nat k] => match zDY (.sym j) (.nat k) with
      | some true => .nat k
      | _ => .sym j
    | _ => .sym j
  | i => i
def zP3 (v : CV) : CV := match v with
  | .few i t => match zHH (.sym ⟨.i64, 0, [(i, 1)]⟩) with
    | .nat k => match nth t k with
      | some s => .str s
      | none => v
    | _ => v
  | v => v
def zNV (esz : Nat) (b : Key) (off len : Nat) (v : CV) (z : OR) : OR := match v with
  | .sym e => match e.l with
    | [(i, a)] => match kEq e.k .i64 && yt e.c 0 && yt a 1 && Nat.beq esz 1, Sym.bin .geq (.sym e) (.nat 0), Sym.bin .leq (.sym e) (.nat (Nat.sub len 1)), len with
      | true, some [.bool true], some [.bool true], m + 1 => .val (.elt b off i m)
      | _, _, _, _ => z
    | _ => z
  | _ => z
def zPd (esz : Nat) (x i : zS) : X := fun es tm _ _ => zM1 (aV es tm x) (fun b s e n => zNi b s e n esz (aV es tm i)) <| vV (aV es tm x) (.err 158) (fun b off len _ _ _ => zNV esz b off len (zHH (aV es tm i)) <| vU (zHH (aV es tm i)) (fun i =>
  yY (Nat.ble (Nat.succ i) len) (vL (Nat.add off (Nat.mul i esz)) fun o => .val (.ptr b o)) 159) 160) 161
def zMH (len esz : Nat) (agg : Bool) (x i : zS) : X := fun es tm _ _ => zL5 (aV es tm x) (fun cs => vU (aV es tm i) (fun i =>
  yY (Nat.ble (Nat.succ i) len) (zMh agg esz cs (Nat.mul i esz) 162) 163) 164) 165
def zMT (x i : zS) : X := fun es tm _ _ => vO (aV es tm x) (fun s => vU (aV es tm i) (fun i => onN (zOD s i) (fun b => .val (.int .u8 (.ofNat b))) 166) 167) 168
def zAw : List CV → Bool
  | [] => true
  | .nat _ :: r => zAw r
  | .int _ _ :: r => zAw r
  | _ => false
def zBR : List CV → List CV → Nat → Option Bool
  | [], [], 0 => some true
  | x :: a, y :: b, n + 1 => match vi .int x y with
    | some true => zBR a b n
    | some false => some false
    | none => none
  | _, _, _ => none
def ug : jJ → CV → Bool
  | .ints n, .agg cs => Nat.beq (uW cs) n && zAw cs
  | .int, .nat _ => true
  | .int, .int _ _ => true
  | .str, .str _ => true
  | .bool, .bool _ => true
  | .int, .sym e => (Sym.cv .i64 (.sym e)).isSome
  | _, _ => false
def qw : jJ → CV → CV → Option Bool
  | .ints n, .agg a, .agg b => zBR a b n
  | .int, .nat a, .nat b => some (Nat.beq a b)
  | .int, .int j a, .int k b => match kEq j k with
    | true => some (yt a b)
    | false => none
  | .str, .str a, .str b => some (xg a b)
  | .bool, .bool a, .bool b => some (a == b)
  | .int, .sym e, y => zDY (.sym e) y
  | .int, .nat a, .sym e => zDY (.nat a) (.sym e)
  | .int, .int k a, .sym e => zDY (.int k a) (.sym e)
  | _, _, _ => none
def wK (kk : jJ) (k : CV) : List CE → Option (Option CV)
  | [] => some none
  | e :: es => match qw kk k e.key with
    | some true => match wK kk k es with
      | some none => some (some e.val)
      | _ => none
    | some false => wK kk k es
    | none => none
def zHM (kk : jJ) (k v : CV) : List CE → Option (List CE)
  | [] => none
  | e :: es => match qw kk k e.key with
    | some true => some (⟨k, v, e.born⟩ :: es)
    | some false => match zHM kk k v es with
      | none => none
      | some r => some (e :: r)
    | none => none
def zIf (kk : jJ) (k : CV) : List CE → Option (List CE)
  | [] => none
  | e :: es => match qw kk k e.key with
    | some true => some es
    | some false => match zIf kk k es with
      | none => none
      | some r => some (e :: r)
    | none => none
def okV (ok : Bool) (v : CV) : CV := match ok with
  | true => .tup [v, .bool true]
  | false => v
def zA2 (kk : jJ) (z : CV) (ok : Bool) (k : CV) (es : List CE) : OR := yY (ug kk k) (match wK kk k es with
  | some (some v) => .read (okV ok v)
  | some none => .read (match ok with | true => .tup [z, .bool false] | false => z)
  | none => .err 169) 170
def noZ (kk : jJ) (k : CV) : List (CV × CV) → Bool
  | [] => true
  | q :: r => match qw kk k q.1 with
    | some false => noZ kk k r
    | _ => false
def zE8 (kk : jJ) (k : CV) : List (CV × CV) → Option CV
  | [] => none
  | q :: r => match qw kk k q.1 with
    | some true => match noZ kk k r with
      | true => some q.2
      | false => none
    | some false => zE8 kk k r
    | none => none
def zCv (kk : jJ) (k v : CV) : List (CV × CV) → List (CV × CV)
  | [] => []
  | q :: r => match qw kk k q.1 with
    | some true => (k, v) :: r
    | _ => q :: zCv kk k v r
def zIs : CV → Bool
  | .str [] => true
  | _ => false
def zO4 (kk : jJ) (z : CV) (ok : Bool) (k : CV) (es : List (CV × CV)) : OR := yY (!ok && zIs z && ug kk k) (match zE8 kk k es with
  | some v => .read (zP3 v)
  | none => .err 234) 235
def zKI (kk : jJ) (z : CV) (ok : Bool) (x k : zS) : X := fun es tm h _ => zCh (aV es tm x) (zA2 kk z ok (aV es tm k) [])
  (fun b => zF4 (yK b h) (fun l => zO4 kk z ok (aV es tm k) l) <| wI (yK b h) (fun l _ => zA2 kk z ok (aV es tm k) l) 171) 172
def zKu (kk : jJ) (m k v : zS) : X := fun es tm h n => zCh (aV es tm m) (.err 173) (fun b => zF4 (yK b h) (fun l => yY (ug kk (aV es tm k)) (match zE8 kk (aV es tm k) l with
    | some _ => .eff .undef (yn (some (.mapz (zCv kk (aV es tm k) (aV es tm v) l))) b h) n
    | none => .err 236) 237) <| wI (yK b h) (fun l clock =>
  yY (ug kk (aV es tm k)) (match wK kk (aV es tm k) l with
    | some (some _) => match zHM kk (aV es tm k) (aV es tm v) l with
      | some l' => .eff .undef (yn (some (.map l' clock)) b h) n
      | none => .err 174
    | some none => vL (Nat.succ clock) fun c => .eff .undef (yn (some (.map (l ++ [⟨aV es tm k, aV es tm v, clock⟩]) c)) b h) n
    | none => .err 175) 176) 177) 178
def zEZ (x : zS) : X := fun es tm _ n => vO (aV es tm x) (fun s => .alloc (.striter s 0) (.ptr n 0)) 179
def zE3 (x : zS) : X := fun es tm h n => zCh (aV es tm x) (.alloc (.mapiter none 0 [] 0) (.ptr n 0)) (fun b => wI (yK b h) (fun _ clock =>
  .eff (.ptr n 0) (yn (some (.mapiter (some b) clock [] clock)) n h) n.succ) 180) 181
def zIB (x : Nat) (l : List Nat) : Bool := List.rec (motive := fun _ => Bool) false (fun y _ ih => Bool.rec (motive := fun _ => Bool) ih true (Nat.beq x y)) l
def zEQ (seen : List Nat) : List CE → List CE
  | [] => []
  | e :: es => match zIB e.born seen with
    | true => zEQ seen es
    | false => e :: zEQ seen es
def zAM (last : Nat) : List CE → Bool
  | [] => true
  | e :: es => Nat.ble last e.born && zAM last es
def zNh (l : List Nat) : Bool := match l with
  | [] => true
  | _ => false
def zIu (l : List CE) : Bool := match l with
  | [] => true
  | _ => false
def zDc (since : Nat) : List CE → Bool
  | [] => true
  | e :: es => Nat.ble (Nat.succ e.born) since && zDc since es
def zCG (f : CE → OR) : CE → List CE → OR
  | e, [] => f e
  | e, e' :: l => .fork (f e) (zCG f e' l)
def zGT (b : Key) (h : zD) (n : Key) (s : List Nat) (pos : Nat) : OR := match zOD s pos with
  | none => .eff (.tup [.bool false]) h n
  | some c => yY (Nat.ble c 127)
    (vL (Nat.succ pos) fun p => .eff (.tup [.bool true, .nat pos, .int .i32 (.ofNat c)]) (yn (some (.striter s p)) b h) n) 182
def zOU (b : Key) (h : zD) (n : Key) (m : Key) (since : Nat) (seen : List Nat) (last : Nat) : OR := wI (yK m h) (fun es clock =>
  match !zNh seen && !zIu es && zAM last es with
  | true => .err 183
  | false => match zEQ seen es with
    | [] => .eff (.tup [.bool false]) h n
    | e :: l => yY (zDc since (e :: l)) (zCG (fun e => .eff (.tup [.bool true, e.key, e.val]) (yn (some (.mapiter (some m) since (seen ++ [e.born]) clock)) b h) n) e l) 184) 186
def zNS (s : Bool) (b : Key) (h : zD) (n : Key) (o : Option CObj) : OR := match o, s with
  | some (.striter s pos), true => zGT b h n s pos
  | some (.mapiter none _ _ _), false => .eff (.tup [.bool false]) h n
  | some (.mapiter (some m) since seen last), false => zOU b h n m since seen last
  | _, _ => .err 187
def zPx (s : Bool) (x : zS) : X := fun es tm h n => zCk (aV es tm x) (fun b off => yY (Nat.beq off 0) (zNS s b h n (yK b h)) 188) 189
def zKb : List Nat → Option Nat
  | [] => none
  | [x] => some x
  | _ :: y :: r => zKb (y :: r)
def zGd (b : Nat) : List CE → Bool
  | [] => true
  | e :: es => match Nat.beq e.born b with
    | true => false
    | false => zGd b es
def zHz (b : Nat) : List CE → Option CE
  | [] => none
  | e :: es => match Nat.beq e.born b with
    | true => match zGd b es with
      | true => some e
      | false => none
    | false => zHz b es
def zIJ (h : zD) (o : Option CObj) : OR := match o with
  | some (.mapiter (some m) _ seen stepped) => match zKb seen with
    | some st => wI (yK m h) (fun es clock => match Nat.beq clock stepped, zHz st es with
      | true, some e => .read (.tup [e.key, e.val])
      | _, _ => .err 190) 191
    | none => .err 192
  | _ => .err 193
def zL8 (x : zS) : X := fun es tm h _ => zCk (aV es tm x) (fun b off => yY (Nat.beq off 0) (zIJ h (yK b h)) 194) 195
def noV (ok : Bool) (z : Option CV) : OR := match ok, z with
  | true, some z => .val (.tup [z, .bool false])
  | _, _ => .err 196
def zHV (t : TypeId) (z : Option CV) (ok : Bool) (x : zS) : X := fun es tm _ _ => zA4 (aV es tm x)
  (fun d v => ifB (Nat.beq d t) (.val (okV ok v)) (noV ok z)) (noV ok z) 197
def zMt (P : Program) (t d : TypeId) : Option Bool := match und P t, P.info? d with
  | some (.interface want), some i => some (Instr.missingMethod want i.methods).isNone
  | _, _ => none
def zKX (P : Program) (t : TypeId) (z : Option CV) (ok : Bool) (x : zS) : X := fun es tm _ _ => zA4 (aV es tm x)
  (fun d v => match zMt P t d with
    | some true => .val (okV ok (.iface d v))
    | some false => noV ok z
    | none => .err 198) (noV ok z) 199
def zHf (i : Nat) (x : zS) : X := fun es tm _ _ => zPt (aV es tm x) (fun vs => zEa (zDK vs i) 200) 201
inductive wl where
  | val (v : CV)
  | var (b : Key) (off : Nat)
def uV (h : zD) (b : Key) : Option (List CV) := match yK b h with
  | some (.cells vs) => some vs
  | some (.ro vs) => some vs
  | _ => none
def zKQ (agg : Bool) (s : Nat) (cs : List CV) (off : Nat) : Option CV := match agg with
  | true => (vw cs off s).map .agg
  | false => zDK cs off
section
variable (P : Program)
def zJ1 (h : zD) (t : TypeId) (b : Key) (off : Nat) : Option CV := match xn P t, xZ P t, uV h b with
  | some a, some s, some vs => zKQ a s vs off
  | _, _, _ => none
def wl.get (h : zD) (t : TypeId) : wl → Option CV
  | .val v => some v
  | .var b off => zJ1 P h t b off
def zGK (s : FieldStep) : Option Field := match und P s.struct with
  | some (.struct fs) => match nth fs.toList s.index with
    | some f => match xZ P f.type with
      | some (_ + 1) => some f
      | _ => none
    | none => none
  | _ => none
def ko (h : zD) : List FieldStep → TypeId → wl → Option (TypeId × wl)
  | [], t, x => some (t, x)
  | s :: rest, t, x => match zGK P s with
    | none => none
    | some f => match s.deref with
      | true => match x.get P h t with
        | some (.ptr b off) => ko h rest f.type (.var b (Nat.add off f.offset))
        | _ => none
      | false => match x with
        | .var b off => ko h rest f.type (.var b (Nat.add off f.offset))
        | .val (.agg cs) => match xn P f.type, xZ P f.type with
          | some a, some s => match zKQ a s cs f.offset with
            | some v => ko h rest f.type (.val v)
            | none => none
          | _, _ => none
        | .val _ => none
def uM (h : zD) (xt : TypeId) (x : wl) (pr : Bool) : Option CV := match und P xt, pr, x with
  | some (.pointer _), true, x => x.get P h xt
  | some (.pointer e), false, x => match x.get P h xt with
    | some (.ptr b off) => zJ1 P h e b off
    | _ => none
  | some _, true, .var b off => some (.ptr b off)
  | some _, true, .val _ => none
  | some _, false, x => x.get P h xt
  | none, _, _ => none
def wg (name : String) : List Method → Option Method
  | [] => none
  | m :: r => if m.name == name then some m else wg name r
def zGg (t : TypeId) (name : String) : Option Method := (P.info? t).bind fun i => wg name i.methods.toList
def zCC (h : zD) : Nat → TypeId → CV → String → Option (FuncId × CV)
  | 0, _, _, _ => none
  | d + 1, t, v, name => match zGg P t name with
    | none => none
    | some m => match ko P h m.path.toList t (.val v) with
      | none => none
      | some (xt, x) => match m.func with
        | none => match x.get P h xt with
          | some (.iface t' v') => zCC h d t' v' name
          | _ => none
        | some (f, pr) => match uM P h xt x pr with
          | some r => some (f, r)
          | none => none
def zFh (h : zD) (recv : CV) (name : String) (args : List CV) : OR := zA4 recv
  (fun t v => match zCC P h 8 t v name with
    | some (f, r) => .call f (r :: args)
    | none => .err 202) (.err 203) 204
def zMX (h : zD) (f : CV) (args : List CV) : OR := zIV f (fun fn first captured => match fn with
    | .func g => .call g (zBQ first (zBQ args captured))
    | .method name => match zBQ first args with
      | recv :: rest => zFh P h recv name rest
      | [] => .err 205
    | .methodOf t name => match zBQ first args with
      | recv :: rest => match und P t with
        | some (.interface _) => zFh P h recv name rest
        | some _ => zFh P h (.iface t recv) name rest
        | none => .err 206
      | [] => .err 207
    | .via t path g pr => match zBQ first args with
      | recv :: rest => match ko P h path.toList t (.val recv) with
        | some (xt, x) => match uM P h xt x pr with
          | some r => .call g (r :: rest)
          | none => .err 208
        | none => .err 209
      | [] => .err 210
    | _ => .err 211) 212
end
def zGt (c : Nat) (l : List Nat) : Nat := List.rec (motive := fun _ => Nat) 0 (fun x _ ih => Bool.rec (motive := fun _ => Nat) ih (Nat.succ ih) (Nat.beq x c)) l
def zBK (c : Nat) : List Nat → Nat → Option Nat
  | [], _ => none
  | x :: r, i => match Nat.beq x c with
    | true => some i
    | false => zBK c r (Nat.succ i)
def zBh (e : Ext) (args : List CV) (h : zD) (n : Key) : OR := match e, args with
  | .count, [a, b] => vO a (fun s => onN (ki b) (fun c => .val (jn (zGt c s))) 213) 214
  | .indexByte, [a, b] => vO a (fun s => onN (ki b) (fun c => match zBK c s 0 with
    | some i => .val (jn i)
    | none => .val (.int .i64 (.negSucc 0))) 215) 216
  | .cmp, [a, b] => vO a (fun s => vO b (fun t => ifB (xg s t) (.val (.nat 0)) (ifB (vb s t) (.val (.int .i64 (.negSucc 0))) (.val (.nat 1)))) 223) 224
  | .overlaps, [a, b] => vV a (.err 225) (fun k _ l _ _ _ => vV b (.err 226) (fun j _ m _ _ _ => yY (!decide (j = k)) (zFY (yK k h) (fun u _ => yY u (jU (yK j h) (fun vs => yY (Nat.ble 1 (uW vs)) (.eff (.bool false) h n) 227) 228) 233) (.err 229)) 230) 231) 232
  | .mapsClone, [a] => zA4 a (fun t v => zCh v (.err 217) (fun b => wI (yK b h) (fun es clock =>
      .eff (.iface t (.map n)) (yn (some (.map es clock)) n h) n.succ) 218) 219) (.err 220) 221
  | _, _ => .err 222
def zPy (f : FuncId) (args : List zS) : X := fun es tm _ _ => .call f (aVs es tm args)
def zPw (e : Ext) (args : List zS) : X := fun es tm h n => zBh e (aVs es tm args) h n
def zNc (P : Program) (f : zS) (args : List zS) : X := fun es tm h _ => zMX P h (aV es tm f) (aVs es tm args)
def zJL (P : Program) (r : zS) (name : String) (args : List zS) : X := fun es tm h _ => zFh P h (aV es tm r) name (aVs es tm args)
def zID (h : zD) (s : Nat) (x : CV) (k : Nat → List CV → OR) (n : Nat → Nat) (e : Nat) : OR := match x with
  | .str l => yY (Nat.beq s 1) (onL ((zG9 l (n (zA9 l))).map wU) (fun cs => k (n (zA9 l)) cs) e) e
  | x => vV x (k 0 []) (fun b off len _ _ _ => wN (yK b h) (fun vs => onL (vw vs off (Nat.mul (n len) s)) (fun cs => k (n len) cs) e) e) e
def zFL (esz k : Nat) (xs : List CV) (sv : CV) (h : zD) (n : Key) : OR := vV sv
    (match k with
     | 0 => .eff .nilsl h n
     | k + 1 => yY (Nat.ble k 99999) (vL k fun k => .eff (.sl n 0 (Nat.succ k) (Nat.succ k) esz false) (yn (some (.cells xs)) n h) n.succ) 223)
    (fun b off len cap s ex => yY (Nat.beq s esz) (zFY (yK b h) (fun _ vs => vL (Nat.add len k) fun need =>
      yY ((match ex with | true => Nat.ble (Nat.succ cap) need | false => Nat.ble 1 need && Nat.ble (Nat.succ (uW vs)) (Nat.add off (Nat.mul need esz))) && Nat.ble need 100000) (onL (vw vs off (Nat.mul len esz)) (fun old =>
        .eff (.sl n 0 need need esz false) (yn (some (.cells (zBQ old xs))) n h) n.succ) 225) 226) <| jU (yK b h) (fun vs => vL (Nat.add len k) fun need =>
      ifB (Nat.ble need cap)
        (onL (qf xs (Nat.mul k esz) vs (Nat.add off (Nat.mul len esz))) (fun l => .eff (.sl b off need cap esz ex) (yn (some (.cells l)) b h) n) 224)
        (yY (Nat.ble need 100000) (onL (vw vs off (Nat.mul len esz)) (fun old =>
          .eff (.sl n 0 need need esz false) (yn (some (.cells (zBQ old xs))) n (Bool.rec (motive := fun _ => zD) (yn none b h) h ex)) n.succ) 225) 226)) 227) 228) 229
def uI (esz _bytes : Nat) (s x : zS) : X := fun es tm h n => zID h esz (aV es tm x) (fun k xs => yY (xC xs) (zFL esz k xs (aV es tm s) h n) 230)
    (fun k => k) 231
def zJP (zero : List CV) (esz : Nat) (s x : zS) : X := fun es tm h n => vU (aV es tm x) (fun k => yY (Nat.ble k 1000) (vL k fun k => yY (xC (jc zero k)) (zFL esz k (jc zero k) (aV es tm s) h n) 234) 234) 234
def zMZ (x : CV) (k : Nat → OR) (e : Nat) : OR := match x with
  | .str l => k (zA9 l)
  | x => vV x (k 0) (fun _ _ len _ _ _ => k len) e
def zEM (esz : Nat) (d x : zS) : X := fun es tm h n => zMZ (aV es tm d) (fun dl => zID h esz (aV es tm x) (fun k xs => vV (aV es tm d)
    (.eff (.nat 0) h n)
    (fun b off _ _ _ _ => jU (yK b h) (fun vs => yY (xC xs) (onL (qf xs (Nat.mul k esz) vs off) (fun l => .eff (jn k) (yn (some (.cells l)) b h) n) 232) 233) 234) 235)
    (fun xl => Nat.min xl dl) 236) 237
def zKr (x : zS) : X := fun es tm _ _ => zPc (aV es tm x) (fun l => .val (jn (uW l))) <| vO (aV es tm x) (fun s => .val (jn (zA9 s))) 238
def zNu (x : zS) : X := fun es tm _ _ => zM1 (aV es tm x) (fun _ _ _ n => .val (.sym n)) <| vV (aV es tm x) (.val (.nat 0)) (fun _ _ len _ _ _ => .val (.nat len)) 239
def zKR (x : zS) : X := fun es tm h _ => zCh (aV es tm x) (.val (.nat 0)) (fun b => wI (yK b h) (fun l _ => .read (jn (zOd l))) 240) 241
def zNe (vs : List CV) (k : Nat) : List CV := zBQ vs (jc [.any] (Nat.sub k (uW vs)))
def zM4 (b : Key) (off len cap esz : Nat) (h : zD) (n : Key) : OR := ifB (Nat.ble (Nat.succ len) cap) (.val (.big cap))
  (jU (yK b h) (fun vs => yY (Nat.ble 1 cap) (.fork (.eff (.nat cap) (yn (some (.full false (zNe vs (Nat.add off (Nat.mul cap esz))))) b h) n)
    (.eff (.big (Nat.succ cap)) (yn (some (.cells (zNe vs (Nat.add off (Nat.mul (Nat.succ cap) esz))))) b h) n)) 242) 242)
def zNC (x : zS) : X := fun es tm h n => vV (aV es tm x) (.val (.nat 0)) (fun b off len cap esz ex => ifB ex (.val (.nat cap)) (zM4 b off len cap esz h n)) 243
def zJ9 (kk : jJ) (m k : zS) : X := fun es tm h n => yY (ug kk (aV es tm k)) (zCh (aV es tm m) (.eff (.tup []) h n) (fun b => wI (yK b h) (fun l clock =>
  match wK kk (aV es tm k) l with
  | some (some _) => match zIf kk (aV es tm k) l with
    | some l' => .eff (.tup []) (yn (some (.map l' clock)) b h) n
    | none => .err 244
  | some none => .eff (.tup []) h n
  | none => .err 245) 246) 247) 248
def zEX (x : zS) : X := fun es tm h n => zCh (aV es tm x) (.eff (.tup []) h n) (fun b => wI (yK b h) (fun _ clock => .eff (.tup []) (yn (some (.map [] clock)) b h) n) 249) 250
def zIc (zero : List CV) (esz : Nat) (x : zS) : X := fun es tm h n => vV (aV es tm x) (.eff (.tup []) h n) (fun b off len _ _ _ => jU (yK b h) (fun vs =>
  yY (xC zero) (onL (qf (jc zero len) (Nat.mul len esz) vs off) (fun l => .eff (.tup []) (yn (some (.cells l)) b h) n) 251) 252) 253) 254
def intOf : CV → Option (IntKind × Int)
  | .nat n => some (.i64, .ofNat n)
  | .int k n => some (k, n)
  | _ => none
def zOw (mx : Bool) (k : IntKind) : Int → List CV → Option CV
  | a, [] => some (zU k a)
  | a, v :: r => match intOf v with
    | some (j, b) => match kEq k j with
      | true => zOw mx k (match mx with
        | true => (match kE a b with | true => b | false => a)
        | false => (match kE b a with | true => b | false => a)) r
      | false => none
    | none => none
def zIw (mx : Bool) : CV → List CV → Option CV
  | x, [] => some x
  | x, v :: r => match Sym.cv .i64 x, Sym.bin .lss (Bool.rec (motive := fun _ => CV) v x mx) (Bool.rec (motive := fun _ => CV) x v mx) with
    | some _, some [.bool b] => zIw mx (Bool.rec (motive := fun _ => CV) x v b) r
    | some _, _ => match Sym.bin .leq (Bool.rec (motive := fun _ => CV) v x mx) (Bool.rec (motive := fun _ => CV) x v mx) with
      | some [.bool true] => zIw mx v r
      | _ => none
    | none, _ => none
def zQg (mx : Bool) (x : CV) (r : List CV) : Option CV := match intOf x with
  | some (k, a) => match zOw mx k a r with
    | some v => some v
    | none => zIw mx x r
  | none => zIw mx x r
def zKl (mx : Bool) (x : zS) (r : List zS) : X := fun es tm _ _ => zEa (zQg mx (aV es tm x) (aVs es tm r)) 255
def zMj (f : zS) (args : List zS) : X := fun es tm _ _ => zIV (aV es tm f) (fun fn first captured => match fn with
  | .func g => .dfr g (zBQ first (zBQ (aVs es tm args) captured))
  | _ => .err 256) 257
def zMs : X := fun _ _ _ _ => .recov
def zQe (c : Nat) : X := fun _ _ _ _ => .err (Nat.add 1000 c)
def yA (P : Program) (op : COp) : X :=
  COp.rec (motive := fun _ => X) xMv zPh zN6 zQk zOa zKm zMv zND zNG zMJ zNq xEq xUn zMi zMy zPg zKi zPm
    zNt zPs zMC zHO zMU zPe zN9 zJ5 zPr zN3 zPd zMH zMT zKI zKu zEZ zE3 zPx zL8
    zHV (zKX P) zHf zPy zPw (zNc P) (zJL P) uI zJP zEM zKr zNu zKR zNC zJ9 zEX zIc zKl
    zMj zMs zQe op
inductive CX where
  | normal
  | exit (id : Nat)
  | ret
abbrev xM := List (FuncId × List CV)
inductive R where
  | ok (e : CX) (tm : Tm) (ds : xM) (h : zD) (n : Key)
  | ret (v : CV) (h : zD) (n : Key)
  | err (c : Nat)
  | fork (a b : R)
abbrev yS := Bool → FuncId → List CV → zD → Key → R
abbrev K := Tm → xM → zD → Key → R
abbrev KE := List CV → K
def zx (d : Option Loc) (v : CV) (tm : Tm) (k : Tm → R) : R := Option.rec (motive := fun _ => CV → Tm → (Tm → R) → R) (fun _ tm k => k tm) (fun p v tm k => k (kL v p tm)) d v tm k
abbrev vj := yS → KE → Option Loc → List CV → K
def zQx (v : CV) : vj := fun _ k d es tm ds h n => zx d v tm fun tm => k (v :: es) tm ds h n
def zPO (o : CObj) (v : CV) : vj := fun _ k d es tm ds h n => zx d v tm fun tm => k (v :: es) tm ds (yn (some o) n h) n.succ
def zQR (v : CV) (h : zD) (n : Key) : vj := fun _ k d es tm ds _ _ => zx d v tm fun tm => k (v :: es) tm ds h n
def zQr (f : FuncId) (args : List CV) : vj := fun call k d es tm ds h n =>
  R.rec (motive := fun _ => R) (fun _ _ _ _ _ => .err 300) (fun v h n => zx d v tm fun tm => k (v :: es) tm ds h n) (fun c => .err c) (fun _ _ a b => .fork a b) (call false f args h n)
def zRa (f : FuncId) (args : List CV) : vj := fun _ k d es tm ds h n => zx d .undef tm fun tm => k (.undef :: es) tm ((f, args) :: ds) h n
def zPZ : vj := fun _ k d es tm ds h n => zx d .niliface tm fun tm => k (.niliface :: es) tm ds h n
def zQS (c : Nat) : vj := fun _ _ _ _ _ _ _ _ => .err c
def zQq (_ _ : OR) (a b : vj) : vj := fun call k d es tm ds h n => .fork (a call k d es tm ds h n) (b call k d es tm ds h n)
def after (r : OR) : vj := OR.rec (motive := fun _ => vj) zQx zQx zPO zQR zQr zRa zPZ zQS zQq r
def qq (w : Bool) (v : CV) : Bool := match v with
  | .bool b => match b, w with
    | true, true => true
    | false, false => true
    | _, _ => false
  | _ => false
def jx (v : CV) : Bool := match v with
  | .any => false
  | _ => true
def iI (P : Program) (call : yS) (op : COp) (k : KE) : KE := fun es tm ds h n => after (yA P op es tm h n) call k none es tm ds h n
def iO (P : Program) (call : yS) (op : COp) (d : Loc) (k : KE) : KE := fun es tm ds h n => after (yA P op es tm h n) call k (some d) es tm ds h n
def iG (P : Program) (call : yS) (x : zS) (w : Bool) (op : COp) (d : Option Loc) (k : KE) : KE := fun es tm ds h n =>
  Bool.rec (motive := fun _ => R)
    (Bool.rec (motive := fun _ => R) (.err 299) (zx d .undef tm fun tm => k (.undef :: es) tm ds h n) (jx (aV es tm x)))
    (after (yA P op es tm h n) call k d es tm ds h n) (qq w (aV es tm x))
def zPM (P : Program) (call : yS) (i : x9) : KE → KE := x9.rec (motive := fun _ => KE → KE) (iI P call) (iO P call) (iG P call) i
def yb (P : Program) (call : yS) (l : List x9) : KE :=
  List.rec (motive := fun _ => KE) (fun _ tm ds h n => .ok .normal tm ds h n) (fun i _ ih => zPM P call i ih) l
mutual
def CV.beq : CV → CV → Bool
  | .bool a, .bool b => a == b
  | .nat a, .nat b => Nat.beq a b
  | .int k a, .int j b => kEq k j && yt a b
  | .sym a, .sym b => kEq a.k b.k && yt a.c b.c && uY a.l b.l
  | .str a, .str b => xg a b
  | .nilptr, .nilptr => true
  | .ptr a b, .ptr c d => decide (a = c) && Nat.beq b d
  | .nilsl, .nilsl => true
  | .sl a b c d e f, .sl a' b' c' d' e' f' => decide (a = a') && Nat.beq b b' && Nat.beq c c' && Nat.beq d d' && Nat.beq e e' && f == f'
  | .nilmap, .nilmap => true
  | .map a, .map b => decide (a = b)
  | .func f a b, .func g c d => decide (f = g) && CV.beqs a c && CV.beqs b d
  | .nilfunc, .nilfunc => true
  | .iface t v, .iface u w => Nat.beq t u && CV.beq v w
  | .niliface, .niliface => true
  | .agg a, .agg b => CV.beqs a b
  | .tup a, .tup b => CV.beqs a b
  | .sst a, .sst b => CV.beqs a b
  | _, _ => false
def CV.beqs : List CV → List CV → Bool
  | [], [] => true
  | a :: as, b :: bs => CV.beq a b && CV.beqs as bs
  | _, _ => false
end
abbrev KD := List CV → List zD → K
def qV (P : Program) (op : COp) (es : List CV) (tm : Tm) (n : Key) (v : CV) : Nat → List zD → Bool
  | 0, _ => true
  | _ + 1, [] => true
  | c + 1, h :: hs => match yA P op es tm h n with
    | .read w => CV.beq v w && qV P op es tm n v c hs
    | _ => false
def zJc (call : yS) (d : Option Loc) (k : KD) (r : OR) : KD := fun es hs tm ds h n => match r with
  | .val v => zx d v tm fun tm => k (v :: es) (h :: hs) tm ds h n
  | .read v => zx d v tm fun tm => k (v :: es) (h :: hs) tm ds h n
  | .alloc o v => zx d v tm fun tm => k (v :: es) (h :: hs) tm ds (yn (some o) n h) n.succ
  | .eff v h' n' => zx d v tm fun tm => k (v :: es) (h :: hs) tm ds h' n'
  | .call f args => R.rec (motive := fun _ => R) (fun _ _ _ _ _ => .err 300) (fun v h' n' => zx d v tm fun tm => k (v :: es) (h :: hs) tm ds h' n') (fun c => .err c)
      (fun _ _ a b => .fork a b) (call false f args h n)
  | .err c => .err c
  | _ => .err 312
def dNo (P : Program) (op : COp) (d : Option Loc) (chk : Nat) (k : KD) (r : OR) : KD := fun es hs tm ds h n => match r with
  | .val v => zx d v tm fun tm => k (v :: es) hs tm ds h n
  | .read v => match qV P op es tm n v chk hs with
    | true => zx d v tm fun tm => k (v :: es) hs tm ds h n
    | false => .err 311
  | .alloc o v => zx d v tm fun tm => k (v :: es) hs tm ds (yn (some o) n h) n.succ
  | .err c => .err c
  | _ => .err 313
def dOp (P : Program) (call : yS) (op : COp) (d : Option Loc) (e : Bool) (chk : Nat) (k : KD) : KD := fun es hs tm ds h n => match e with
  | true => zJc call d k (yA P op es tm h n) es hs tm ds h n
  | false => dNo P op d chk k (yA P op es tm h n) es hs tm ds h n
def zDi (d : Option Loc) (e : Bool) (k : KD) : KD := fun es hs tm ds h n => zx d .undef tm fun tm => k (.undef :: es) (match e with | true => h :: hs | false => hs) tm ds h n
def evD (P : Program) (call : yS) : List zLF → KD
  | [], _, _, tm, ds, h, n => .ok .normal tm ds h n
  | i :: r, es, hs, tm, ds, h, n => match i.ins with
    | .i op => dOp P call op none i.eff i.chk (evD P call r) es hs tm ds h n
    | .o op d => dOp P call op (some d) i.eff i.chk (evD P call r) es hs tm ds h n
    | .g x w op d => match qq w (aV es tm x) with
      | true => dOp P call op d i.eff i.chk (evD P call r) es hs tm ds h n
      | false => match jx (aV es tm x) with
        | true => zDi d i.eff (evD P call r) es hs tm ds h n
        | false => .err 299
def xp (k : K) (r : R) : R := R.rec (motive := fun _ => R) (fun e tm ds h n => CX.rec (motive := fun _ => R) (k tm ds h n) (fun id => .ok (.exit id) tm ds h n) (.ok .ret tm ds h n) e)
  (fun _ _ _ => .err 301) (fun c => .err c) (fun _ _ a b => .fork a b) r
def wi (id : Nat) (r : R) : R := R.rec (motive := fun _ => R) (fun e tm ds h n => CX.rec (motive := fun _ => R) (.ok .normal tm ds h n)
    (fun i => Bool.rec (motive := fun _ => R) (.ok (.exit i) tm ds h n) (.ok .normal tm ds h n) (Nat.beq i id)) (.ok .ret tm ds h n) e)
  (fun _ _ _ => .err 301) (fun c => .err c) (fun _ _ a b => .fork a b) r
def zFa (a b : K) (v : CV) : K := match v with
  | .bool true => a
  | .bool false => b
  | _ => fun _ _ _ _ => .err 302
def ub (fuel : Nat) (b : K) : K := Nat.rec (motive := fun _ => K) (fun _ _ _ _ => .err 303) (fun _ ih tm ds h n => xp ih (b tm ds h n)) fuel
def vk : Nat := 100000
def zi (P : Program) (call : yS) (c : CCode) : K :=
  CCode.rec (motive := fun _ => K)
    (fun tm ds h n => .ok .normal tm ds h n)
    (fun ops => yb P call ops [])
    (fun ops => evD P call ops [] [])
    (fun _ _ a b tm ds h n => xp b (a tm ds h n))
    (fun x _ _ a b tm ds h n => zFa a b (aV [] tm x) tm ds h n)
    (fun id _ b tm ds h n => wi id (b tm ds h n))
    (fun _ b => ub vk b)
    (fun id tm ds h n => .ok (.exit id) tm ds h n)
    (fun tm ds h n => .ok .ret tm ds h n)
    (fun _ b => b)
    (fun c _ _ _ _ => .err (Nat.add 2000 c)) c
def zMR (h : zD) (tm : Tm) (r : CRes) : Option CV := match r with
  | .tmp x => some (aV [] tm x)
  | .cell1 x => match aV [] tm x with
    | .ptr b off => match uV h b with
      | some cs => zDK cs off
      | none => none
    | _ => none
  | .cellN x s => match aV [] tm x with
    | .ptr b off => match uV h b with
      | some cs => (vw cs off s).map .agg
      | none => none
    | _ => none
def zAx (h : zD) (tm : Tm) : List CRes → Option (List CV)
  | [] => some []
  | r :: rs => match zMR h tm r with
    | none => none
    | some v => match zAx h tm rs with
      | none => none
      | some vs => some (v :: vs)
def zBa (h : zD) (tm : Tm) (rs : List CRes) : Option CV := match zAx h tm rs with
  | some [v] => some v
  | some vs => some (.tup vs)
  | none => none
def qE : List CV → Nat → Tm → Tm
  | [], _, t => t
  | v :: vs, i, t => match Nat.ble i 271 with
    | true => qE vs (Nat.succ i) (kL v (Loc.ofNat i) t)
    | false => t
def kv (call : yS) (k : zD → Key → R) : xM → zD → Key → R
  | [], h, n => k h n
  | (f, args) :: r, h, n => R.rec (motive := fun _ => R) (fun _ _ _ _ _ => .err 300) (fun _ h n => kv call k r h n) (fun c => .err c) (fun _ _ a b => .fork a b) (call true f args h n)
def zBM (rs : List CRes) (tm : Tm) (h : zD) (n : Key) : R := match zBa h tm rs with
  | some v => .ret v h n
  | none => .err 305
def qp (d : Bool) (call : yS) (rs : List CRes) (tm : Tm) (ds : xM) (h : zD) (n : Key) : R := match ds with
  | [] => zBM rs tm h n
  | f :: ds => match d with
    | false => kv call (fun h n => zBM rs tm h n) (f :: ds) h n
    | true => .err 306
def yg (d : Bool) (call : yS) (rs : List CRes) (r : R) : R := R.rec (motive := fun _ => R)
  (fun e tm ds h n => CX.rec (motive := fun _ => R) (qp d call rs tm ds h n) (fun _ => .err 307) (qp d call rs tm ds h n) e) (fun _ _ _ => .err 308) (fun c => .err c) (fun _ _ a b => .fork a b) r
abbrev NatF := Sym → Bool → List CV → zD → Key → R
abbrev Nats := FuncId → Option NatF
def zMm (r : OR) (h : zD) (n : Key) : R := match r with
  | .val v => .ret v h n
  | .eff v h n => .ret v h n
  | .err c => .err c
  | _ => .err 309
def ua (P : Program) (d : Bool) (call : yS) (fn : CFn) (args : List CV) (h : zD) (n : Key) : R :=
  CFn.rec (motive := fun _ => R) (fun body res => yg d call res (zi P call body (qE args 0 .nil) [] h n))
    (fun ops body res => match d with
      | true => yg true call res (xp (zi P call body) (yb P call ops [] (qE args 0 .nil) [] h n))
      | false => .err 311)
    (fun e => match d with
      | true => .err 313
      | false => zMm (zBh e args h n) h n) (fun c => .err (Nat.add 3000 c)) fn
def ev (P : Program) (code : FuncId → CFn) (nat : Nats) (fuel : Nat) : yS :=
  Nat.rec (motive := fun _ => yS) (fun _ _ _ _ _ => .err 310)
    (fun _ ih d f args h n => Option.rec (motive := fun _ => R) (ua P d ih (code f) args h n) (fun g => g ‹Sym› d args h n) (nat f)) fuel
end
end Go.Ev


