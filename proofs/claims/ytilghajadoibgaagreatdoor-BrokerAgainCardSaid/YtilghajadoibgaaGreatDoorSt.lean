/- The states at the loops' heads, made by functions of what has been done. -/
import Derived.Test.YtilghajadoibgaaGreatDoorMm
namespace Go.Ev
open Go.Proofs
set_option maxRecDepth 1000000
noncomputable section
def wk0 : Key := .mk .d0 .d0 .d6 .d4
def wk1 : Key := .mk .d0 .d0 .d6 .d5
def wsL : List (Key × Nat) := [(wk0, 1), (wk1, 1)]
def lensL : List (Key × Nat) := [(wk0, 1), (wk1, 2)]
def ksL : List (Key × Bool) := [(wk0, true), (wk1, true)]
def n1 : Key := .mk .d0 .d0 .d7 .d0
def ccL : CCode := bodyF c3
def rsL : List CRes := resF c3
def pthA : List Stp := [.r, .r, .r, .r, .r, .r, .l, .r, .b]
def pthB : List Stp := [.r, .r, .r, .r, .r, .r, .r, .r, .l, .r, .b]
def pthD : List Stp := [.r, .r, .r, .r, .r, .r, .r, .r, .r, .r, .r, .r, .r, .r, .r, .r, .l, .r, .b]
def eS : Lf := ⟨[(0, 0), (0, 9223372036854775807), (0, 9223372036854775807)], [], [], [], 1002⟩
def winV (k : Key) (j : Nat) : CV := .win k 1 ⟨.i64, .ofNat 0, [(0, .ofNat 1)]⟩ ⟨.i64, .ofNat 0, [(j, .ofNat 1)]⟩
def argsL : List CV := [winV wk0 1, winV wk1 2]
def tK (n : Nat) : Key := .mk .d0 .d1 (.ofN (n / 16 - 16)) (.ofN (n % 16))
def tN (n : Nat) : CV := .nat n
def tS (i : Nat) : CV := .sym ⟨.i64, .ofNat 0, [(i, .ofNat 1)]⟩
def tA (i : Nat) : CV := .sym ⟨.u8, .ofNat 65, [(i, .ofNat 1)]⟩
def tU (n : Nat) : CV := .int .u8 (.ofNat n)
def tP (k : Nat) : CV := .ptr (tK k) 0
def tL (k off n esz : Nat) : CV := .sl (tK k) off n n esz false
def tM (k : Nat) : CV := .map (tK k)
def tB (b : Bool) : CV := .bool b
def tE : CV := .str []
def tpl (k : Nat) : CV := tL k 0 2 1
def mE : CObj := .map [] 0
def ifN (b : Bool) (x y : CV) : CV := match b with
  | true => x
  | false => y
def ifL {α : Type} (b : Bool) (x : List α) : List α := match b with
  | true => x
  | false => []
def anys : Nat → List CV
  | 0 => []
  | n + 1 => .any :: anys n
/-- a thing that went out -/
def one (d : Bool) (q x p : CV) : List CV := [tN 1, tN 3, tB d, q, tB false, x, .str [116], p, tN 0, .nilsl, .nilsl, .nilsl, .nilsl, tB false, tN 0, tE, tB false, tE, .nilsl, tN 0, tB false, .nilsl, tB false, tE, tB false, .nilsl, tB false, tB false]
def fly (x q p n : CV) : List CV := [x, q, .str [116], p, q, tB false, .str [98], tN 0, .nilsl, tN 1, n, tN 0, q, tB false, .nilsl, tE]
def flyR (x : CV) : List CV := [x, tN 3, .str [116], .nilsl, tN 0, tB false, tE, tN 0, .nilsl, tN 0, tN 0, tN 0, tN 2, tB false, .nilsl, tE]
def conn (a : Nat) (nm : CV) (x y : Nat) (l : CV) : CObj := .cells [tP a, nm, tB false, tN 0, tN 4294967295, tN 65535, tN 268435460, tN 0, tE, tE, tB false, tE, .nilsl, tN 0, tB false, tE, tN 0, .nilsl, tN 0, tN 0, tN 0, tN 0, tN 0, tP x, tP y, tN 1, .nilsl, l]
def brk (k : Nat) (n : CV) : CObj := .cells [tN 1, tB true, tL k 0 1 2, tN 1, n, tN 0, .niliface, .iface 143 (tP (k + 1)), .iface 143 (tP (k + 2)), .niliface, .niliface, .niliface, .niliface, .niliface, .niliface, tM (k + 3), tP (k + 4), tM (k + 5), tM (k + 6), .nilsl, .nilsl, .nilsl, tM (k + 7)]
def idsE : List CV → Nat → List CE
  | [], _ => []
  | x :: l, k => ⟨x, .agg [], k⟩ :: idsE l (k + 1)
def tlE (k c1 c2 sa buf had : Nat) (nf sf : Nat) (fl : List CV) (ids : List CV) (pls : List CObj) (se qr fk sp id z : Nat) : List CObj :=
  [.cells [.str [117], tL (k + 8) 0 1 1], conn c1 (.str [97]) (c1 + 1) (c1 + 2) (ifN (Nat.beq buf 0) .nilsl (.sl (tK (c1 + 3)) buf 0 0 1 false)), conn c2 (.str [98]) (c2 + 1) (c2 + 2) .nilsl,
   .map [⟨.str [97], tP sa, 0⟩, ⟨.str [98], tP (sa + 1), 1⟩] 2, .cells [tM (sa + 2)], mE, mE,
   .map [⟨tN 1, .func (.func 31) [] [], 0⟩, ⟨tN 2, .func (.func 32) [] [], 1⟩, ⟨tN 3, .func (.func 33) [] [], 2⟩, ⟨tN 4, .func (.func 34) [] [], 3⟩, ⟨tN 5, .func (.func 35) [] [], 4⟩, ⟨tN 6, .func (.func 36) [] [], 5⟩] 6, .cells [tU 115],
   .cells [tN 1, tP (sa + 3)], .cells [tN 4, tM (sa + 4)], .cells [tN 0, tM (sa + 5)]] ++ ifL (Nat.ble 1 buf) [.cells (anys buf)] ++
  [.cells [tN 2, tP (sa + 6)], .cells [tN 4, tM (sa + 7)], .cells [tN 0, tM (sa + 8)],
   .cells [tP se, .str [97], tN 4294967295, tN 0, tB true, tL (se + 1) 0 1 6, ifN (Nat.beq had 0) .nilsl (tL qr 14 0 14), ifN (Nat.beq had 0) .nilsl (tL fk 0 nf 16), tP sp],
   .cells [tP (sp + 1), .str [98], tN 4294967295, tN 0, tB true, .nilsl, .nilsl, .nilsl, tP (sp + 2)],
   mE, .cells [tN 512, .nilsl, tN 0], mE, mE, .cells [tN 512, .nilsl, tN 0], mE, mE, .cells [tM id], .cells [.str [116], tN 2, tB false, tB false, tN 0, tN 0]] ++
  ifL (Nat.ble 1 had) [.cells (anys 14), .cells fl] ++
  [.cells [tM z], .cells [tM (z + 1)], .cells [tM (z + 2)], .map (idsE ids 0) sf] ++ pls ++ [mE, mE, mE]
/-- all that hangs on the broker; fl: the flights, by their first payload's name -/
def tlD (k c2 buf had nf : Nat) (fl : Nat → List CV) (ids : List CV) (pls : List CObj) (np se : Nat) : List CObj :=
  tlE k (k + 9) c2 (c2 + 3) buf had nf nf (fl (se + 2 * had + 6)) ids pls se (se + 2) (se + 2 + had) (se + 2 + 2 * had) (se + 2 * had + 5) (se + 2 * had + 6 + np)
def tlC (k buf had nf : Nat) (fl : Nat → List CV) (ids : List CV) (pls : List CObj) (np : Nat) : List CObj :=
  tlD k (k + 12 + Nat.min buf 1) buf had nf fl ids pls np (k + 12 + Nat.min buf 1 + 3 + 9)
def num : Nat → List CObj → List (Key × CObj)
  | _, [] => []
  | n, o :: l => (tK n, o) :: num (n + 1) l
/-- a word by its number: the last n signs; true: released -/
def wOf : Nat → Nat → List Bool
  | 0, _ => []
  | n + 1, c => Nat.beq (c / 2 ^ n % 2) 1 :: wOf n c
def enc : List Bool → Nat → Nat
  | [], a => a
  | true :: r, a => enc r (2 * a + 1)
  | false :: r, a => enc r (2 * a)
/-- the first that is left out of the word -/
def cutW : List Bool → List Bool
  | [] => []
  | false :: r => r
  | true :: r => true :: cutW r
def cL : List Bool → Nat
  | [] => 0
  | true :: r => cL r
  | false :: r => cL r + 1
/-- what is left, from a payload's name on; v: the first of its variables -/
def rowL (d : Bool) (p v : Nat) : List Bool → Nat → Nat → List CV
  | [], _, _ => []
  | true :: r, k, j => rowL d p v r (k + 1) j
  | false :: r, k, j => one d (tS (v + 2 * j)) (tS (3 + k)) (tpl (p + j)) ++ rowL d p v r (k + 1) (j + 1)
def rowR : List Bool → Nat → List CV
  | [], _ => []
  | true :: r, k => one false .any (tS (3 + k)) .any ++ rowR r (k + 1)
  | false :: r, k => rowR r (k + 1)
def rowF (v p : Nat) : List Bool → Nat → Nat → List CV
  | [], _, _ => []
  | true :: r, k, j => flyR (tS (3 + k)) ++ rowF v p r (k + 1) j
  | false :: r, k, j => fly (tS (3 + k)) (tS (v + 2 * j)) (tpl (p + j)) (.anyi .i64) ++ rowF v p r (k + 1) (j + 1)
def payL (v : Nat) : Nat → Nat → List CObj
  | 0, _ => []
  | n + 1, j => .cells [tA (v + 2 * j + 1), tU 97] :: payL v n (j + 1)
/-- those that wait: from number i on -/
def rowW (p v : Nat) : Nat → Nat → Nat → List CV
  | 0, _, _ => []
  | n + 1, i, j => one false (tS (v + 2 * j)) (tN (i + 1)) (tpl (p + j)) ++ rowW p v n (i + 1) (j + 1)
def flyW (p v : Nat) : Nat → Nat → Nat → List CV
  | 0, _, _ => []
  | n + 1, i, j => fly (tN (i + 1)) (tS (v + 2 * j)) (tpl (p + j)) (tN (i + 1)) ++ flyW p v n (i + 1) (j + 1)
def idL : Nat → Nat → List CV
  | 0, _ => []
  | n + 1, k => tS (3 + k) :: idL n (k + 1)
def idW : Nat → Nat → List CV
  | 0, _ => []
  | n + 1, i => tN (i + 1) :: idW n (i + 1)
def reB (a b : Int) : Nat → List (Int × Int)
  | 0 => []
  | n + 1 => (a, b) :: reB a b n
def reQ : Nat → List (Int × Int)
  | 0 => []
  | n + 1 => (1, 2) :: (0, 7) :: reQ n
def fa2 (hi : Int) (j : Nat) : Nat → Nat → List (LL × Int × Int)
  | 0, _ => []
  | n + 1, k => ([(3 + j, .negSucc 0), (3 + k, .ofNat 1)], .ofNat (k - j), hi) :: fa2 hi j n (k + 1)
def fac (hi : Int) : Nat → Nat → List (LL × Int × Int)
  | 0, _ => []
  | n + 1, j => fa2 hi j n (j + 1) ++ fac hi n (j + 1)
def mkT (l : List (Nat × CV)) (o : List CObj) (b : List (Int × Int)) (f : List (LL × Int × Int)) : TS := ⟨l, num 256 o, tK (256 + o.length), b, f, []⟩
def b3 (i : Nat) : List (Int × Int) := [(.ofNat i, .ofNat i), (0, 9223372036854775807), (0, 9223372036854775807)]
/-- m went out, of i it is told what comes of them; w: of which something is left; nw, nl: its length, what is left; a: those that wait -/
def oB (m i : Nat) (w : List Bool) (nw nl nr a br : Nat) : List CObj :=
  [.cells [tP br, tB false]] ++ ifL (Nat.ble 1 m) [.cells (anys (28 * i) ++ rowW (br + 1) (3 + nw + 2 * nl) a i 0)] ++ ifL (Nat.ble 1 nl) [.cells (rowL false (br + 1 + a) (3 + nw) w 0 0)] ++ ifL (Nat.ble 1 nr) [.cells (rowR w 0)] ++
  [brk (br + 1 + a + nl) (tN m)] ++ payL (3 + nw + 2 * nl) a 0 ++ payL (3 + nw) nl 0 ++
  tlC (br + 1 + a + nl) 0 (Nat.min m 1) (nw + a) (fun p => rowF (3 + nw) p w 0 0 ++ flyW (p + nl) (3 + nw + 2 * nl) a i 0) (idL nw 0 ++ idW a i) (payL (3 + nw) nl 0 ++ payL (3 + nw + 2 * nl) a 0) (nl + a)
def lB (m nl nr lf : Nat) : List (Nat × CV) := [(1, winV wk1 2), (5, tP 256), (6, ifN (Nat.beq m 0) .nilsl (tL 257 0 m 28)), (11, ifN (Nat.beq nl 0) .nilsl (tL lf 0 nl 28)), (12, ifN (Nat.beq nr 0) .nilsl (tL (lf + Nat.min nl 1) 0 nr 28)), (13, tS 0)]
def tsB3 (m i : Nat) (w : List Bool) (nw nl nr a : Nat) : TS :=
  mkT (lB m nl nr (257 + Nat.min m 1)) (oB m i w nw nl nr a (257 + Nat.min m 1 + Nat.min nl 1 + Nat.min nr 1)) (b3 i ++ reB 1 (.ofNat (Nat.max i 1)) nw ++ reQ nl ++ reQ a) (fac (.ofNat (Nat.max (i - 1) 1)) nw 0)
def tsB2 (m i : Nat) (w : List Bool) (nw nl : Nat) : TS := tsB3 m i w nw nl (nw - nl) (m - i)
def tsB1 (m i n : Nat) (w : List Bool) : TS := tsB2 m i w n (cL w)
/-- by the word's number -/
def tsB (m i c : Nat) : TS := tsB1 m i (Nat.log2 c) (wOf (Nat.log2 c) c)
def tsA (i : Nat) : TS := mkT [(0, winV wk0 1), (1, winV wk1 2), (5, tP 256), (6, ifN (Nat.beq i 0) .nilsl (tL 257 0 i 28)), (7, tS 0)] (oB i 0 [] 0 0 0 i (257 + Nat.min i 1)) (b3 i ++ reQ i) []
/-- of n left ones i are done; w: what is still in flight -/
def oD (n i : Nat) (w : List Bool) (nw nl nr had br : Nat) : List CObj :=
  [.cells [tP br, tB false]] ++ ifL (Nat.ble 1 n) [.cells (anys (28 * i) ++ rowL false (br + 1) (3 + nw) w 0 0)] ++ [.cells (anys (28 * (1 + nr + i)) ++ rowL true (br + 1 + nl) (3 + nw) w 0 0)] ++
  [brk (br + 1 + nl + nl) (.anyi .i64)] ++ payL (3 + nw) nl 0 ++ payL (3 + nw) nl 0 ++ tlC (br + 1 + nl + nl) n had nw (fun p => rowF (3 + nw) p w 0 0) (idL nw 0) (payL (3 + nw) nl 0) nl
def tsD2 (n i : Nat) (w : List Bool) (nw nl nr had : Nat) : TS :=
  mkT [(5, tP 256), (11, ifN (Nat.beq n 0) .nilsl (tL 257 0 n 28)), (15, .sl (tK (257 + Nat.min n 1)) (28 * (1 + nr)) n n 28 false), (17, tS 0)] (oD n i w nw nl nr had (258 + Nat.min n 1)) (b3 i ++ reB 1 8 nw ++ reQ nl) (fac 7 nw 0)
def tsD1 (i n : Nat) (w : List Bool) (nl had : Nat) : TS := tsD2 (i + nl) i w n nl (n - nl) had
def tsD0 (i n had : Nat) (w : List Bool) : TS := tsD1 i n w (cL w) had
def tsD (i n c had : Nat) : TS := tsD0 i n had (wOf n c)
def gB2 (m r : Nat) : TS := bif Nat.ble 502 r then tsB m 8 (r - 501) else bif Nat.ble 247 r then tsB m 7 (r - 246) else bif Nat.ble 120 r then tsB m 6 (r - 119) else bif Nat.ble 57 r then tsB m 5 (r - 56) else bif Nat.ble 26 r then tsB m 4 (r - 25) else bif Nat.ble 11 r then tsB m 3 (r - 10) else bif Nat.ble 4 r then tsB m 2 (r - 3) else bif Nat.ble 1 r then tsB m 1 (r - 0) else tsB m 0 1
/-- the states by their numbers -/
def gB (k : Nat) : TS := bif Nat.ble 968 k then gB2 8 (k - 968) else bif Nat.ble 466 k then gB2 7 (k - 466) else bif Nat.ble 219 k then gB2 6 (k - 219) else bif Nat.ble 99 k then gB2 5 (k - 99) else bif Nat.ble 42 k then gB2 4 (k - 42) else bif Nat.ble 16 k then gB2 3 (k - 16) else bif Nat.ble 5 k then gB2 2 (k - 5) else bif Nat.ble 1 k then gB2 1 (k - 1) else gB2 0 (k - 0)
def nB (m i c : Nat) : Nat := 2 ^ (m + 2) - 4 - 3 * m - m * (m - 1) / 2 + (2 ^ (i + 1) - 2 - i) + (c - 1)
def gD2 (l r : Nat) : TS := tsD (r / 2 ^ l) l (2 ^ l + r % 2 ^ l) 1
def gD (k : Nat) : TS := bif Nat.ble 1013 k then tsD 0 0 1 0 else bif Nat.ble 757 k then gD2 8 (k - 757) else bif Nat.ble 501 k then gD2 7 (k - 501) else bif Nat.ble 309 k then gD2 6 (k - 309) else bif Nat.ble 181 k then gD2 5 (k - 181) else bif Nat.ble 101 k then gD2 4 (k - 101) else bif Nat.ble 53 k then gD2 3 (k - 53) else bif Nat.ble 25 k then gD2 2 (k - 25) else bif Nat.ble 9 k then gD2 1 (k - 9) else gD2 0 k
def oF : Nat → Nat
  | 0 => 0
  | 1 => 9
  | 2 => 25
  | 3 => 53
  | 4 => 101
  | 5 => 181
  | 6 => 309
  | 7 => 501
  | 8 => 757
  | _ => 0
def nD (i l c : Nat) : Nat := oF l + i * 2 ^ l + (c - 2 ^ l)
def gA (k : Nat) : TS := tsA k
def TsA : List TS := mkTs gA 9 9
def TsB : List TS := mkTs gB 1981 1981
def TsD : List TS := mkTs gD 1014 1014
def nxA : Nx := ⟨TsB, [.r, .r, .r, .r, .r, .r], [.r, .b], [.r, .l, .r, .b]⟩
def nxB : Nx := ⟨TsD, [.r, .r, .r, .r, .r, .r, .r, .r], [.r, .b], [.r, .r, .r, .r, .r, .r, .r, .l, .r, .b]⟩
/-! the cases of a pass, and to which states they lead -/
abbrev Tss : Type := List (List Nat × List Nat)
def trA (i : Nat) : LTree := .cmp [(0, 1), (1, -1)] 0 (bif Nat.ble i 7 then .cellI 0 (.and 1000 1 fun _ => .leaf) else .leaf) .leaf
def goA (i : Nat) : Tss := bif Nat.ble i 7 then [([i + 1], []), ([i + 1], []), ([], [nB i 0 1])] else [([], [nB i 0 1]), ([], [nB i 0 1])]
def trB1 (v u : Nat) : LTree := .cmp [(0, 1), (2, -1)] 0 (.cellI 1 (.mask 1000 3 (.cmp [(u, 1)] 1 .leaf (.cmp [(u, 1)] 2 (.pin v fun _ => .leaf) (.pin v fun _ => .leaf))))) .leaf
def trB0 (m i n : Nat) (w : List Bool) : LTree := bif Nat.beq i m then .leaf else trB1 (3 + n + 2 * cL w) (3 + n + 2 * cL w + 2 * (m - i))
def goB1 (l r d : Nat) : Tss := [([l], []), ([d], []), ([r], []), ([d], []), ([d], []), ([l], [])]
def goB0 (m i c : Nat) : Tss := bif Nat.beq i m then [([], [bif Nat.beq m 0 then 1013 else nD 0 (Nat.log2 c) c])] else goB1 (nB m (i + 1) (2 * c)) (nB m (i + 1) (2 * c + 1)) (nB m (i + 1) c)
def trD0 (n : Nat) (w : List Bool) : LTree := bif Nat.beq (cL w) 0 then .leaf else .pin (3 + n) fun _ => .leaf
def goD1 (t : Nat) : Tss := [([t], []), ([t], [])]
def goD0 (i n : Nat) (w : List Bool) : Tss := bif Nat.beq (cL w) 0 then [([], [])] else goD1 (nD (i + 1) (n - 1) (enc (cutW w) 1))
abbrev gzA (s : Nat → Int) (A : Key → Option Value) (k : Nat) : Bool := stateY Tryz.prog codeN natX 1000 100 wsL lensL ksL gA 9 (some nxA) pthA ccL rsL (gA k) (trA k) (goA k) s A
/-- a state of the second loop: m, i and the word's number -/
def gzB (s : Nat → Int) (A : Key → Option Value) (m i c : Nat) : Bool := stateY Tryz.prog codeN natX 1000 100 wsL lensL ksL gB 1981 (some nxB) pthB ccL rsL (tsB m i c) (trB0 m i (Nat.log2 c) (wOf (Nat.log2 c) c)) (goB0 m i c) s A
def gzD (s : Nat → Int) (A : Key → Option Value) (i n h c : Nat) : Bool := stateY Tryz.prog codeN natX 1000 100 wsL lensL ksL gD 1014 none pthD ccL rsL (tsD i n c h) (trD0 n (wOf n c)) (goD0 i n (wOf n c)) s A
end
end Go.Ev
