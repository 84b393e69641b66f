/- The states at the loops' heads, made by functions of what is subscribed. -/
import Derived.Test.YtkolecenifiaaaaGreatDoorMm
namespace Go.Ev
open Go.Proofs
set_option maxRecDepth 1000000
set_option linter.unusedVariables false
noncomputable section
def wk0:Key:=.mk .d0 .d0 .d6 .d4
def wsL:List (Key × Nat):=[(wk0,1)]
def lensL:List (Key × Nat):=[(wk0,1)]
def ksL:List (Key × Kd):=[(wk0,.i)]
def n1:Key:=.mk .d0 .d0 .d7 .d0
def ccL:CCode:=bodyF c3
def rsL:List CRes:=resF c3
def pthA:List Stp:=[.r,.r,.r,.r,.r,.r,.r,.l,.r,.b]
def pthB:List Stp:=[.r,.r,.r,.r,.r,.r,.r,.r,.r,.r,.r,.r,.r,.l,.r,.b]
def winV:CV:=.win wk0 1 ⟨.i64,.ofNat 0,[(0,.ofNat 1)]⟩ ⟨.i64,.ofNat 0,[(1,.ofNat 1)]⟩
def vN(j:Nat):CV:=.sym ⟨.i64,.ofNat 0,[(j,.ofNat 1)]⟩
def qV(k:Nat):CV:=.sym ⟨.i64,.ofNat 1,[(Nat.add 3 k,.ofNat 1)]⟩
def eS:Lf:=⟨[(0,0),(0,9223372036854775807),(-9223372036854775808,9223372036854775807),(0,0),(0,0),(0,0),(0,0),(0,0),(0,0),(0,0),(0,0),(0,0),(0,0),(0,0),(0,0),(0,0),(0,0)],[],[],[],1000⟩
def argsL:List CV:=[winV,vN 2]
def kN(n:Nat):Key:=Key.ofNat n
def row7(f:Nat->CV):List CV:=[f 0,f 1,f 2,f 3,f 4,f 5,f 6]
def bitB(m k:Nat):Bool:=Nat.beq (Nat.mod (Nat.div m (Nat.pow 2 k)) 2) 1
def dig(t k:Nat):Nat:=Nat.mod (Nat.div t (Nat.pow 3 k)) 3
/-- those of n numbers from the j-th on for which f holds -/
def selL(f:Nat->Bool)(n:Nat):Nat->List Nat:=Nat.rec (motive:=λ_=>Nat->List Nat) (λ_=>[]) (λ_ ih j=>bif f j then j::ih (Nat.succ j)else ih (Nat.succ j)) n
def cntL(l:List Nat):Nat:=List.rec (motive:=λ_=>Nat) 0 (λ_ _ ih=>Nat.succ ih) l
def cntB(m:Nat):Nat:=cntL (selL (bitB m) 7 0)
def sesC(m k:Nat)(f:List Nat)(r:List CV):List CV:=bif bitB m k then .str f::vN (Nat.add 3 k)::.bool false::.bool false::.nat 0::vN (Nat.add 10 k)::r else r
def sesR(m:Nat):List CV:=sesC m 2 [35] (sesC m 6 [43] (sesC m 3 [43,47,97] (sesC m 4 [116,47,35] (sesC m 1 [116,47,43] (sesC m 0 [116,47,97] (sesC m 5 [117] []))))))
def nmX(l:List CObj):Nat->List (Key × CObj):=List.rec (motive:=λ_=>Nat->List (Key × CObj)) (λ_=>[]) (λo _ ih n=>(kN n,o)::ih (Nat.succ n)) l
def lstA:List (Nat × CV):=[(0,winV),(1,(sm 0 2 1)),(5,(p0 y0)),(6,(sl y1 0 7 7)),(7,(sl y2 0 7 7)),(8,(sl y3 0 7 7)),(9,(sm 0 0 1))]
def lstM:List (Nat × CV):=[(1,(sm 0 2 1)),(5,(p0 y0)),(6,(sl y1 0 7 7)),(7,(sl y2 0 7 7)),(8,(sl y3 0 7 7))]
def objA1(m:Nat):List CObj:=[(.cells [(p0 y4),(.bool false)]),P86,(.cells (row7 λk=>bif bitB m k then qV k else .nat 0)),(.cells (row7 λk=>bif bitB m k then vN (Nat.add 10 k)else .nat 0)),P87,(.cells [(.str [117]),(sf y13 0 1 1)]),P88,P89,P90,(.cells [(.map y22)]),(.map [] 0),(.map [] 0),P44,(.cells [(u 115)]),(.cells [(.nat 1),(p0 y23)]),(.cells [(.nat 4),(.map y24)]),(.cells [(.nat 0),(.map y25)]),(.cells [(.nat 2),(p0 y26)]),(.cells [(.nat 4),(.map y27)]),(.cells [(.nat 0),(.map y28)]),(.cells [(p0 y29),(.str [97]),(.nat 4294967295),(.nat 0),(.bool true),(.sl y30 0 (cntB m) (cntB m) 6 false),.nilsl,.nilsl,(p0 y31)]),(.cells [(p0 y32),(.str [98]),(.nat 4294967295),(.nat 0),(.bool true),.nilsl,.nilsl,.nilsl,(p0 y33)]),(.map [] 0),(.cells [(.nat 512),.nilsl,(.nat 0)]),(.map [] 0),(.map [] 0),(.cells [(.nat 512),.nilsl,(.nat 0)]),(.map [] 0),(.map [] 0),(.cells [(.map y34)]),(.cells (sesR m)),(.cells [(.map y35)]),(.cells [(.map y36)]),(.cells [(.map y37)]),(.map [] 0),(.map [] 0),(.map [] 0),(.map [] 0)]
def objA0:List CObj:=[(.cells [(p0 y4),(.bool false)]),P86,P91,P91,P87,(.cells [(.str [117]),(sf y13 0 1 1)]),P88,P89,P90,(.cells [(.map y22)]),(.map [] 0),(.map [] 0),P44,(.cells [(u 115)]),(.cells [(.nat 1),(p0 y23)]),(.cells [(.nat 4),(.map y24)]),(.cells [(.nat 0),(.map y25)]),(.cells [(.nat 2),(p0 y26)]),(.cells [(.nat 4),(.map y27)]),(.cells [(.nat 0),(.map y28)]),(.cells [(p0 y29),(.str [97]),(.nat 4294967295),(.nat 0),(.bool true),.nilsl,.nilsl,.nilsl,(p0 y30)]),(.cells [(p0 y31),(.str [98]),(.nat 4294967295),(.nat 0),(.bool true),.nilsl,.nilsl,.nilsl,(p0 y32)]),(.map [] 0),(.cells [(.nat 512),.nilsl,(.nat 0)]),(.map [] 0),(.map [] 0),(.cells [(.nat 512),.nilsl,(.nat 0)]),(.map [] 0),(.map [] 0),(.cells [(.map y33)]),(.cells [(.map y34)]),(.cells [(.map y35)]),(.cells [(.map y36)]),(.map [] 0),(.map [] 0),(.map [] 0),(.map [] 0)]
def bB(m:Nat)(n:Nat)(q:Int × Int):Nat->List (Int × Int):=Nat.rec (motive:=λ_=>Nat->List (Int × Int)) (λ_=>[]) (λ_ ih k=>(bif bitB m k then q else(0,0))::ih (Nat.succ k)) n
def tsA(m:Nat):TS:=match m with
 | 0=>⟨lstA,nmX objA0 256,kN 293,(0,12)::(0,9223372036854775807)::(-9223372036854775808,9223372036854775807)::(bB 0 7 (0,2) 0++bB 0 7 (0,7) 0),[],[],[]⟩
 |m=>⟨lstA,nmX (objA1 m) 256,kN 294,(0,12)::(0,9223372036854775807)::(-9223372036854775808,9223372036854775807)::(bB m 7 (0,2) 0++bB m 7 (0,7) 0),[],[],[]⟩
/-- behind loop A -/
def tsM(m:Nat):TS:=match m with
 | 0=>⟨lstM,nmX objA0 256,kN 293,(0,13)::(0,9223372036854775807)::(-9223372036854775808,9223372036854775807)::(bB 0 7 (0,2) 0++bB 0 7 (0,7) 0),[],[],[]⟩
 |m=>⟨lstM,nmX (objA1 m) 256,kN 294,(0,13)::(0,9223372036854775807)::(-9223372036854775808,9223372036854775807)::(bB m 7 (0,2) 0++bB m 7 (0,7) 0),[],[],[]⟩
/-! loop B: k: which of the five that match are there (bits); j: how many have numbers; q: the class (0: nothing is asked of the greatest; 1: 0 and one is the greatest; ..) -/
def PL(k:Nat):List Nat:=selL (bitB k) 5 0
def NZ(t:Nat):List Nat:=selL (λi=>Nat.beq (dig t i) 2) 5 0
def cN(t:Nat):Nat:=cntL (NZ t)
def mkP(t:Nat):Nat:=Nat.add (bif Nat.ble 1 (dig t 0)then 1 else 0) (Nat.add (bif Nat.ble 1 (dig t 1)then 2 else 0) (Nat.add (bif Nat.ble 1 (dig t 2)then 4 else 0) (Nat.add (bif Nat.ble 1 (dig t 3)then 8 else 0) (bif Nat.ble 1 (dig t 4)then 16 else 0))))
def pC(k:Nat):Nat:=cntL (PL k)
def sameC(k:Nat):Bool:=Nat.ble (pC k) 2 || Nat.beq (Nat.mod k 4) 0
def lesC(k:Nat):Nat:=Nat.sub (pC k) 1
/-- where the second chain begins, where the numbers in order do -/
def c2O(k:Nat):Nat:=bif sameC k then 19 else Nat.add 19 (lesC k)
def nCh(k:Nat):Nat:=bif sameC k then lesC k else Nat.add (lesC k) (lesC k)
def yO(k:Nat):Nat:=Nat.add 19 (nCh k)
def hd0(l:List Nat):Nat:=match l with
 | []=>0|x::_=>x
def tl0(l:List Nat):List Nat:=match l with
 | []=>[]
 |_::r=>r
/-- the greatest, by the program's chain, by the law's -/
def M1(k:Nat):Nat:=bif Nat.ble (pC k) 1 then Nat.add 3 (hd0 (PL k))else Nat.add 19 (Nat.sub (pC k) 2)
def M2(k:Nat):Nat:=bif Nat.ble (pC k) 1 then Nat.add 3 (hd0 (PL k))else Nat.add (c2O k) (Nat.sub (pC k) 2)
def poL(k:Nat):List Nat:=(bif bitB k 2 then [2]else [])++((bif bitB k 3 then [3]else [])++((bif bitB k 4 then [4]else [])++((bif bitB k 1 then [1]else [])++(bif bitB k 0 then [0]else []))))
def chR(v cur:Nat):List Nat->List SRule
 | []=>[]
 |k::r=>maxR cur (Nat.add 3 k) v::chR (Nat.succ v) v r
def c2R(k:Nat):List SRule:=match PL k with
 | []=>[]
 |x::r=>chR (c2O k) (Nat.add 3 x) r
def yQ(k q:Nat):Nat:=match k,q with
 | 0,0=>0| 0,1=>1| 0,_=>2|_,0=>0|_,1=>1|_,2=>1|_,_=>2
def seqV(v:Nat)(n:Nat):List CV:=Nat.rec (motive:=λ_=>Nat->List CV) (λ_=>[]) (λ_ ih v=>vN v::ih (Nat.succ v)) n v
def qI(k q:Nat):CV:=match q with
 | 0=>.nat 0| 1=>vN (Nat.add 3 (hd0 (poL k)))| 2=>vN 17|_=>vN (M1 k)
def rstO(k j q:Nat):List CObj:=match k with
 | 0=>(match q with
  | 0=>[(.cells [(p0 y5),(.bool false)]),(.cells [(.nat 0),(.bool false),(vN 17),(.bool false),(.nat 0),st0,(sl y6 0 1 1),(.nat 0),.nilsl,.nilsl,.nilsl,.nilsl,(.bool false),(.nat 0),(.str []),(.bool false),(.str []),.nilsl,(.nat 0),(.bool false),.nilsl,(.bool false),(.str []),(.bool false),.nilsl,(.bool false)]),P77,(.cells [(u 120)]),(.cells [(.str [117]),(sf y16 0 1 1)]),P78,P79,P80,(.cells [(.map y25)]),(.map [] 0),(.map [] 0),P81,P44,(.cells [(u 115)]),(.cells [(.nat 1),(p0 y27)]),(.cells [(.nat 4),(.map y28)]),(.cells [(.nat 0),(.map y29)]),(.cells [(.nat 2),(p0 y30)]),(.cells [(.nat 4),(.map y31)]),(.cells [(.nat 0),(.map y32)]),P82,P83,(.map [] 0),(.cells [(u 120)]),(.cells [(.nat 512),.nilsl,(.nat 0)]),(.map [] 0),(.map [] 0),(.cells [(.nat 512),.nilsl,(.nat 0)]),(.map [] 0),(.map [] 0),(.cells [(.map y37)]),(.cells [(.map y38)]),(.cells [(.map y39)]),(.cells [(.map y40)]),(.map [] 0),(.map [] 0),(.map [] 0),(.map [] 0)]
  | 1=>[(.cells [(p0 y5),(.bool false)]),(.cells [(.nat 0),(.bool false),(vN 17),(.bool false),(.nat 3),st0,(sl y6 0 1 1),(.nat 0),.nilsl,.nilsl,.nilsl,.nilsl,(.bool false),(.nat 0),(.str []),(.bool false),(.str []),.nilsl,(.nat 0),(.bool false),.nilsl,(.bool false),(.str []),(.bool false),.nilsl,(.bool false)]),P77,(.cells [(u 120)]),(.cells [(.str [117]),(sf y16 0 1 1)]),P78,P79,P80,(.cells [(.map y25)]),(.map [] 0),(.map [] 0),(.cells [st0,(sf y26 0 1 1),(vN 17),(.bool false),(.str [98]),(.nat 0),.nilsl,(.nat 1),(.nat 1),(.nat 0)]),P44,(.cells [(u 115)]),(.cells [(.nat 1),(p0 y27)]),(.cells [(.nat 4),(.map y28)]),(.cells [(.nat 0),(.map y29)]),(.cells [(.nat 2),(p0 y30)]),(.cells [(.nat 4),(.map y31)]),(.cells [(.nat 0),(.map y32)]),P82,P83,(.map [] 0),(.cells [(u 120)]),(.cells [(.nat 512),.nilsl,(.nat 0)]),(.map [] 0),(.map [] 0),(.cells [(.nat 512),.nilsl,(.nat 0)]),(.map [] 0),(.map [] 0),(.cells [(.map y37)]),(.cells [(.map y38)]),(.cells [(.map y39)]),(.cells [(.map y40)]),(.map [] 0),(.map [] 0),(.map [] 0),(.map [] 0)]
  |_=>[(.cells [(p0 y5),(.bool false)]),(.cells [(.nat 0),(.bool false),(vN 17),(.bool false),(.nat 3),st0,(sl y6 0 1 1),(.nat 0),.nilsl,.nilsl,.nilsl,.nilsl,(.bool false),(.nat 0),(.str []),(.bool false),(.str []),.nilsl,(.nat 0),(.bool false),.nilsl,(.bool false),(.str []),(.bool false),.nilsl,(.bool false)]),P77,(.cells [(u 120)]),(.cells [(.str [117]),(sf y16 0 1 1)]),P78,P79,P80,(.cells [(.map y25)]),(.map [] 0),(.map [] 0),(.cells [st0,(sf y26 0 1 1),(vN 17),(.bool false),(.str [98]),(.nat 0),.nilsl,(.nat 1),(.nat 1),(.nat 0)]),P44,(.cells [(u 115)]),(.cells [(.nat 1),(p0 y27)]),(.cells [(.nat 4),(.map y28)]),(.cells [(.nat 0),(.map y29)]),(.cells [(.nat 2),(p0 y30)]),(.cells [(.nat 4),(.map y31)]),(.cells [(.nat 0),(.map y32)]),P82,P83,(.map [] 0),(.cells [(u 120)]),(.cells [(.nat 512),.nilsl,(.nat 0)]),(.map [] 0),(.map [] 0),(.cells [(.nat 512),.nilsl,(.nat 0)]),(.map [] 0),(.map [] 0),(.cells [(.map y37)]),(.cells [(.map y38)]),(.cells [(.map y39)]),(.cells [(.map y40)]),(.map [] 0),(.map [] 0),(.map [] 0),(.map [⟨(.nat 3),(.agg []),0⟩] 1)])
 |k=>(match j with
  | 0=>(match yQ k q with
   | 0=>[(.cells [(p0 y5),(.bool false)]),(.cells [(.nat 0),(.bool false),(vN 17),(.bool false),(.nat 0),st0,(sl y6 0 1 1),(.nat 0),.nilsl,.nilsl,.nilsl,.nilsl,(.bool false),(.nat 0),(.str []),(.bool false),(.str []),.nilsl,(.nat 0),(.bool false),.nilsl,(.bool false),(.str []),(.bool false),.nilsl,(.bool false)]),P77,(.cells [(u 120)]),(.cells [(.str [117]),(sf y16 0 1 1)]),P78,P79,P80,(.cells [(.map y25)]),(.map [] 0),(.map [] 0),P81,P44,(.cells [(u 115)]),(.cells [(.nat 1),(p0 y27)]),(.cells [(.nat 4),(.map y28)]),(.cells [(.nat 0),(.map y29)]),(.cells [(.nat 2),(p0 y30)]),(.cells [(.nat 4),(.map y31)]),(.cells [(.nat 0),(.map y32)]),P84,P85,(.map [] 0),(.cells [(u 120)]),(.cells [(.nat 512),.nilsl,(.nat 0)]),(.map [] 0),(.map [] 0),(.cells [(.nat 512),.nilsl,(.nat 0)]),(.map [] 0),(.map [] 0),(.cells [(.map y38)]),(.cells [st0,(sf y39 0 1 1),(.nat 0),(.bool false),(.str [98]),(.nat 0),.nilsl,(.nat 1),(.nat 1),(.nat 0),(qI k q),(.bool false),.nilsl,(.str [])]),(.cells [(.map y40)]),(.cells [(.map y41)]),(.cells [(.map y42)]),(.map [] 0),(.cells [(u 120)]),(.map [] 0),(.map [] 0),(.map [] 0)]
   | 1=>[(.cells [(p0 y5),(.bool false)]),(.cells [(.nat 0),(.bool false),(vN 17),(.bool false),(.nat 3),st0,(sl y6 0 1 1),(.nat 0),.nilsl,.nilsl,.nilsl,.nilsl,(.bool false),(.nat 0),(.str []),(.bool false),(.str []),.nilsl,(.nat 0),(.bool false),.nilsl,(.bool false),(.str []),(.bool false),.nilsl,(.bool false)]),P77,(.cells [(u 120)]),(.cells [(.str [117]),(sf y16 0 1 1)]),P78,P79,P80,(.cells [(.map y25)]),(.map [] 0),(.map [] 0),(.cells [st0,(sf y26 0 1 1),(vN 17),(.bool false),(.str [98]),(.nat 0),.nilsl,(.nat 1),(.nat 1),(.nat 0)]),P44,(.cells [(u 115)]),(.cells [(.nat 1),(p0 y27)]),(.cells [(.nat 4),(.map y28)]),(.cells [(.nat 0),(.map y29)]),(.cells [(.nat 2),(p0 y30)]),(.cells [(.nat 4),(.map y31)]),(.cells [(.nat 0),(.map y32)]),P84,P85,(.map [] 0),(.cells [(u 120)]),(.cells [(.nat 512),.nilsl,(.nat 0)]),(.map [] 0),(.map [] 0),(.cells [(.nat 512),.nilsl,(.nat 0)]),(.map [] 0),(.map [] 0),(.cells [(.map y38)]),(.cells [st0,(sf y39 0 1 1),(vN 17),(.bool false),(.str [98]),(.nat 0),.nilsl,(.nat 1),(.nat 1),(.nat 0),(qI k q),(.bool false),.nilsl,(.str [])]),(.cells [(.map y40)]),(.cells [(.map y41)]),(.cells [(.map y42)]),(.map [] 0),(.cells [(u 120)]),(.map [] 0),(.map [] 0),(.map [] 0)]
   |_=>[(.cells [(p0 y5),(.bool false)]),(.cells [(.nat 0),(.bool false),(vN 17),(.bool false),(.nat 3),st0,(sl y6 0 1 1),(.nat 0),.nilsl,.nilsl,.nilsl,.nilsl,(.bool false),(.nat 0),(.str []),(.bool false),(.str []),.nilsl,(.nat 0),(.bool false),.nilsl,(.bool false),(.str []),(.bool false),.nilsl,(.bool false)]),P77,(.cells [(u 120)]),(.cells [(.str [117]),(sf y16 0 1 1)]),P78,P79,P80,(.cells [(.map y25)]),(.map [] 0),(.map [] 0),(.cells [st0,(sf y26 0 1 1),(vN 17),(.bool false),(.str [98]),(.nat 0),.nilsl,(.nat 1),(.nat 1),(.nat 0)]),P44,(.cells [(u 115)]),(.cells [(.nat 1),(p0 y27)]),(.cells [(.nat 4),(.map y28)]),(.cells [(.nat 0),(.map y29)]),(.cells [(.nat 2),(p0 y30)]),(.cells [(.nat 4),(.map y31)]),(.cells [(.nat 0),(.map y32)]),P84,P85,(.map [] 0),(.cells [(u 120)]),(.cells [(.nat 512),.nilsl,(.nat 0)]),(.map [] 0),(.map [] 0),(.cells [(.nat 512),.nilsl,(.nat 0)]),(.map [] 0),(.map [] 0),(.cells [(.map y38)]),(.cells [st0,(sf y39 0 1 1),(vN 17),(.bool false),(.str [98]),(.nat 0),.nilsl,(.nat 1),(.nat 1),(.nat 0),(qI k q),(.bool false),.nilsl,(.str [])]),(.cells [(.map y40)]),(.cells [(.map y41)]),(.cells [(.map y42)]),(.map [] 0),(.cells [(u 120)]),(.map [] 0),(.map [] 0),(.map [⟨(.nat 3),(.agg []),0⟩] 1)])
  |j=>(match yQ k q with
   | 0=>[(.cells [(p0 y5),(.bool false)]),(.cells [(.nat 0),(.bool false),(vN 17),(.bool false),(.nat 0),st0,(sl y6 0 1 1),(.nat 0),.nilsl,.nilsl,.nilsl,.nilsl,(.bool false),(.nat 0),(.str []),(.bool false),(.str []),.nilsl,(.nat 0),(.bool false),.nilsl,(.bool false),(.str []),(.bool false),.nilsl,(.bool false)]),P77,(.cells [(u 120)]),(.cells [(.str [117]),(sf y16 0 1 1)]),P78,P79,P80,(.cells [(.map y25)]),(.map [] 0),(.map [] 0),P81,P44,(.cells [(u 115)]),(.cells [(.nat 1),(p0 y27)]),(.cells [(.nat 4),(.map y28)]),(.cells [(.nat 0),(.map y29)]),(.cells [(.nat 2),(p0 y30)]),(.cells [(.nat 4),(.map y31)]),(.cells [(.nat 0),(.map y32)]),P84,P85,(.map [] 0),(.cells [(u 120)]),(.cells [(.nat 512),.nilsl,(.nat 0)]),(.map [] 0),(.map [] 0),(.cells [(.nat 512),.nilsl,(.nat 0)]),(.map [] 0),(.map [] 0),(.cells [(.map y38)]),(.cells [st0,(sf y39 0 1 1),(.nat 0),(.bool false),(.str [98]),(.nat 0),.nilsl,(.nat 1),(.nat 1),(.nat 0),(qI k q),(.bool false),(.sl y40 0 j j 1 false),(.str [])]),(.cells [(.map y41)]),(.cells [(.map y42)]),(.cells [(.map y43)]),(.map [] 0),(.cells [(u 120)]),(.cells (seqV (yO k) j)),(.map [] 0),(.map [] 0),(.map [] 0)]
   | 1=>[(.cells [(p0 y5),(.bool false)]),(.cells [(.nat 0),(.bool false),(vN 17),(.bool false),(.nat 3),st0,(sl y6 0 1 1),(.nat 0),.nilsl,.nilsl,.nilsl,.nilsl,(.bool false),(.nat 0),(.str []),(.bool false),(.str []),.nilsl,(.nat 0),(.bool false),.nilsl,(.bool false),(.str []),(.bool false),.nilsl,(.bool false)]),P77,(.cells [(u 120)]),(.cells [(.str [117]),(sf y16 0 1 1)]),P78,P79,P80,(.cells [(.map y25)]),(.map [] 0),(.map [] 0),(.cells [st0,(sf y26 0 1 1),(vN 17),(.bool false),(.str [98]),(.nat 0),.nilsl,(.nat 1),(.nat 1),(.nat 0)]),P44,(.cells [(u 115)]),(.cells [(.nat 1),(p0 y27)]),(.cells [(.nat 4),(.map y28)]),(.cells [(.nat 0),(.map y29)]),(.cells [(.nat 2),(p0 y30)]),(.cells [(.nat 4),(.map y31)]),(.cells [(.nat 0),(.map y32)]),P84,P85,(.map [] 0),(.cells [(u 120)]),(.cells [(.nat 512),.nilsl,(.nat 0)]),(.map [] 0),(.map [] 0),(.cells [(.nat 512),.nilsl,(.nat 0)]),(.map [] 0),(.map [] 0),(.cells [(.map y38)]),(.cells [st0,(sf y39 0 1 1),(vN 17),(.bool false),(.str [98]),(.nat 0),.nilsl,(.nat 1),(.nat 1),(.nat 0),(qI k q),(.bool false),(.sl y40 0 j j 1 false),(.str [])]),(.cells [(.map y41)]),(.cells [(.map y42)]),(.cells [(.map y43)]),(.map [] 0),(.cells [(u 120)]),(.cells (seqV (yO k) j)),(.map [] 0),(.map [] 0),(.map [] 0)]
   |_=>[(.cells [(p0 y5),(.bool false)]),(.cells [(.nat 0),(.bool false),(vN 17),(.bool false),(.nat 3),st0,(sl y6 0 1 1),(.nat 0),.nilsl,.nilsl,.nilsl,.nilsl,(.bool false),(.nat 0),(.str []),(.bool false),(.str []),.nilsl,(.nat 0),(.bool false),.nilsl,(.bool false),(.str []),(.bool false),.nilsl,(.bool false)]),P77,(.cells [(u 120)]),(.cells [(.str [117]),(sf y16 0 1 1)]),P78,P79,P80,(.cells [(.map y25)]),(.map [] 0),(.map [] 0),(.cells [st0,(sf y26 0 1 1),(vN 17),(.bool false),(.str [98]),(.nat 0),.nilsl,(.nat 1),(.nat 1),(.nat 0)]),P44,(.cells [(u 115)]),(.cells [(.nat 1),(p0 y27)]),(.cells [(.nat 4),(.map y28)]),(.cells [(.nat 0),(.map y29)]),(.cells [(.nat 2),(p0 y30)]),(.cells [(.nat 4),(.map y31)]),(.cells [(.nat 0),(.map y32)]),P84,P85,(.map [] 0),(.cells [(u 120)]),(.cells [(.nat 512),.nilsl,(.nat 0)]),(.map [] 0),(.map [] 0),(.cells [(.nat 512),.nilsl,(.nat 0)]),(.map [] 0),(.map [] 0),(.cells [(.map y38)]),(.cells [st0,(sf y39 0 1 1),(vN 17),(.bool false),(.str [98]),(.nat 0),.nilsl,(.nat 1),(.nat 1),(.nat 0),(qI k q),(.bool false),(.sl y40 0 j j 1 false),(.str [])]),(.cells [(.map y41)]),(.cells [(.map y42)]),(.cells [(.map y43)]),(.map [] 0),(.cells [(u 120)]),(.cells (seqV (yO k) j)),(.map [] 0),(.map [] 0),(.map [⟨(.nat 3),(.agg []),0⟩] 1)]))
def xO(k j q:Nat):List (Key × CObj):=nmX (rstO k j q) 259
def repQ(q:Int × Int)(n:Nat):List (Int × Int):=Nat.rec (motive:=λ_=>List (Int × Int)) [] (λ_ ih=>q::ih) n
/-- a quality's bounds -/
def uB(k q i:Nat):Int × Int:=match q with
 | 1=>(bif bitB k i then(0,0)else(0,2))
 | 2=>(bif Nat.beq (pC k) 1&&bitB k i then(1,2)else(0,2))
 |_=>(0,2)
/-- the bounds of a chain of n (the last one is the greatest) -/
def chB(q n:Nat):List (Int × Int):=match n with
 | 0=>[]
 |n+1=>(match q with
  | 1=>repQ (0,0) (Nat.succ n)| 2=>repQ (0,2) n++[(1,2)]
  |_=>repQ (0,2) (Nat.succ n))
def chBs(k q:Nat):List (Int × Int):=bif sameC k then chB q (lesC k)else chB q (lesC k)++chB q (lesC k)
def mkB5(f g:Nat->Int × Int):List (Int × Int):=[f 0,f 1,f 2,f 3,f 4,(0,2),(0,2),g 0,g 1,g 2,g 3,g 4,(0,7),(0,7)]
def nBd(t i:Nat):Int × Int:=match dig t i with
 | 2=>(1,7)
 | 1=>(0,0)
 |_=>(0,7)
def hdB(r:List (Int × Int)):List (Int × Int):=(0,14)::(0,9223372036854775807)::(-9223372036854775808,9223372036854775807)::r
def yBo(y:Nat):List (Int × Int):=[(.ofNat y,.ofNat y),(-1,0)]
def hB(t k q:Nat):List (Int × Int):=hdB (mkB5 (uB k q) (nBd t)++(yBo (yQ k q)++(chBs k q++repQ (1,7) (cN t))))
def xB(k j q:Nat):List (Int × Int):=hdB (mkB5 (uB k q) (λ_=>(0,7))++(yBo (yQ k q)++(chBs k q++repQ (1,7) j)))
def rB(t k n c j:Nat):List (Int × Int):=hdB (mkB5 (λ_=>(0,2)) (nBd t)++((0,2)::(-1,0)::(repQ (0,2) (nCh k)++(repQ (1,Int.ofNat n - 1) c++repQ (.ofNat n,7) (Nat.sub j c)))))
def numV(l:List Nat):List Nat:=List.rec (motive:=λ_=>List Nat) [] (λk _ ih=>Nat.add 10 k::ih) l
def sRl(t k:Nat):List SRule:=match NZ t with
 | []=>[]
 |l=>[srtRule (yO k) (cntL l) (numV l)]
def iV(c:Nat):CV:=match c with
 | 0=>.nilsl|c=>.sl (kN 310) 0 c c 1 false
def lcB(c c0 n:Nat):List (Nat × CV):=[(6,(sl y0 0 7 7)),(7,(sl y1 0 7 7)),(8,(sl y2 0 7 7)),(5,(p0 y3)),(12,(p0 y4)),(13,.nat c),(14,(.int .i64 (.negSucc 0))),(15,iV c0),(16,.nat n)]
def fil0:CObj:=(.cells [st0,st3,(.str [35]),st1,st2,(.str [117]),(.str [43])])
def q5(k i:Nat)(x:Nat->CV):CV:=bif bitB k i then x i else .nat 0
def smB(k c:Nat)(nr:List CV):List (Key × CObj):=(kN 256,fil0)::(kN 257,.cells [q5 k 0 qV,q5 k 1 qV,q5 k 2 qV,q5 k 3 qV,q5 k 4 qV,.anyi .i64,.anyi .i64])::(kN 258,.cells nr)::(match c with
 | 0=>[]
 |c=>[(kN 310,.cells (seqV (yO k) c))])
def n10(i:Nat):CV:=vN (Nat.add 10 i)
def numR(k:Nat):List CV:=[q5 k 0 n10,q5 k 1 n10,q5 k 2 n10,q5 k 3 n10,q5 k 4 n10,.anyi .i64,.anyi .i64]
/-- the state of a round: n, c numbers are below n; the last one: the loop's end -/
def tsR2(t k j c n c0:Nat):TS:=⟨lcB c c0 n,smB k c0 (numR k),kN 311,rB t k n c0 j,ascA (yO k) 6 0 j,sRl t k,[]⟩
def tsX(k j c:Nat):TS:=⟨lcB c j 8,smB k j [.any,.any,.any,.any,.any,.any,.any],kN 311,hdB (mkB5 (λ_=>(0,2)) (λ_=>(0,7))++((0,2)::(-1,0)::(repQ (0,2) (nCh k)++repQ (1,7) j))),[],[],[]⟩
def MsX(j:Nat):Nat:=Nat.succ (Nat.mul 6 (Nat.succ j))
def tsR1(t k j c i:Nat):TS:=bif Nat.beq i (MsX j)then tsX k j c else(match i with
 | 0=>tsR2 t k j c 1 0|i+1=>tsR2 t k j c (Nat.add 2 (Nat.div i (Nat.succ j))) (Nat.mod i (Nat.succ j)))
/-- r: 243: as 0, but the answer was another one -/
def tOf(r:Nat):Nat:=bif Nat.beq r 243 then 0 else r
def cOf(r:Nat):Nat:=bif Nat.beq r 243 then 16 else 0
def tsR(r i:Nat):TS:=tsR1 (tOf r) (mkP (tOf r)) (cN (tOf r)) (cOf r) i
def MsR(r:Nat):Nat:=MsX (cN (tOf r))
/-- how many numbers are n; which -/
def sbT(n:Nat)(k:Nat)(l:List Nat):LTree:=match l with
 | []=>.leaf|l=>.subs n (seqN (yO k) (cntL l)) (numV l) .leaf
def eqT(n k:Nat)(l:List Nat)(v:Nat)(u:Nat):LTree:=match u with
 | 0=>sbT n k l|u+1=>.cmpb v (Int.ofNat n+1) (eqT n k l (Nat.succ v) u) (sbT n k l)
def nOf(j i:Nat):Nat:=match i with
 | 0=>1|i+1=>Nat.add 2 (Nat.div i (Nat.succ j))
def cAt(j i:Nat):Nat:=match i with
 | 0=>0|i+1=>Nat.mod i (Nat.succ j)
def trR(r i:Nat):LTree:=eqT (nOf (cN (tOf r)) i) (mkP (tOf r)) (NZ (tOf r)) (Nat.add (yO (mkP (tOf r))) (cAt (cN (tOf r)) i)) (Nat.sub (cN (tOf r)) (cAt (cN (tOf r)) i))
def chooseN:Nat->Nat->Nat
 |_,0=>1| 0,_+1=>0|n+1,k+1=>Nat.add (chooseN n k) (chooseN n (k+1))
def repN(x n:Nat)(r:List Nat):List Nat:=Nat.rec (motive:=λ_=>List Nat) r (λ_ ih=>x::ih) n
def toI(j n c:Nat):Nat:=bif Nat.beq n 8 then MsX j else Nat.succ (Nat.add (Nat.mul (Nat.sub n 2) (Nat.succ j)) c)
/-- to which states a round leads: d of them are n, from the most on -/
def goR1(j n c:Nat):Nat->List Nat
 | 0=>repN (toI j (Nat.succ n) c) 1 []|d+1=>repN (toI j (Nat.succ n) (Nat.add c (Nat.succ d))) (chooseN j (Nat.succ d)) (goR1 j n c d)
def goR2(j n c:Nat):List Nat:=bif Nat.beq n 7 then repN (MsX j) (chooseN j (Nat.sub j c)) []else goR1 j n c (Nat.sub j c)
def goR(r i:Nat):List Nat:=goR2 (cN (tOf r)) (nOf (cN (tOf r)) i) (cAt (cN (tOf r)) i)
def prsL:List (Key × Key):=[(kN 256,kN 256),(kN 257,kN 257),(kN 258,kN 258),(kN 259,kN 259),(kN 260,kN 260)]
def ksS:List Key:=[kN 256,kN 257,kN 258,kN 310]
def rq(r:Nat)(s:Nat->Int)(A:Key->Option Value)(i:Nat):Bool:=rndQ Tryz.prog codeN natX 1000 pthB ccL prsL (kN 310) 15 (tsR r) (MsR r) (trR r i) (goR r i) s A i
abbrev RS(a n:Nat):Prop:=∀s A,statesM (λr=>statesM (rq r s A) 0 (MsR r)) a n=true
abbrev RT(r a n:Nat):Prop:=∀s A,statesM (rq r s A) a n=true
/-! the ends -/
def fX(k q:Nat):List (LL × Int × Int):=bif Nat.beq (yQ k q) 2 && !(sameC k)then [([(M2 k,1),(M1 k,-1)],0,0)]else []
def eX(k j q:Nat):Lf:=⟨xB k j q,fX k q,c2R k,[],1000⟩
def wtX(k j q:Nat):WT:=match k with
 | 0=>.fin (Nat.add 36 (Nat.min q 2))|k=>bif Nat.beq q 3 then .cut (M1 k) 1 (.fin (Nat.add (Nat.mul 6 j) 3)) (.cut (M1 k) 2 (.fin (Nat.add (Nat.mul 6 j) 4)) (.fin (Nat.add (Nat.mul 6 j) 5)))else .fin (Nat.add (Nat.mul 6 j) q)
def coX(k q:Nat):Nat:=match k,q with
 | 0,0=>0| 0,_=>16|_,_=>0
def exQ(k j q:Nat)(s:Nat->Int)(A:Key->Option Value):Bool:=goW Tryz.prog codeN natX natE 1000 pthB ccL rsL (mkH .nil (xO k j q)) s A (wtX k j q) (eX k j q) (tsX k j (coX k q)).locs (tsX k j (coX k q)).objs (tsX k j (coX k q)).n
def exV(x:Nat):Bool:=Nat.ble (Nat.mod (Nat.div x 4) 6) (pC (Nat.div x 24))
def exS(s:Nat->Int)(A:Key->Option Value)(x:Nat):Bool:=bif exV x then exQ (Nat.div x 24) (Nat.mod (Nat.div x 4) 6) (Nat.mod x 4) s A else true
abbrev RX(a n:Nat):Prop:=∀s A,statesM (exS s A) a n=true
/-! the heads -/
def rOf(t q:Nat):Nat:=match t,q with
 | 0,0=>0| 0,_=>243|t,_=>t
def tsB2(r k j q:Nat):TS:=⟨(tsR r 0).locs,(tsR r 0).objs++xO k j q,(tsR r 0).n,hB (tOf r) k q,(tsR r 0).f++(eX k j q).f,(tsR r 0).r++(eX k j q).r,[]⟩
def tsB(t q:Nat):TS:=tsB2 (rOf t q) (mkP t) (cN t) q
def gA(m:Nat):TS:=tsA m
def gB(x:Nat):TS:=tsB (Nat.div x 4) (Nat.mod x 4)
def TsA:List TS:=mkTs gA 128 128
def TsB:List TS:=mkTs gB 972 972
def TsM:List TS:=mkTs tsM 128 128
def nxA:Nx:=⟨TsM,[.r,.r,.r,.r,.r,.r,.r],[.r,.b],[.r,.r,.r,.r,.r,.l,.r,.b],true⟩
def hdQ(x:Nat):Bool:=(λr k j q=>wkB (hB (tOf r) k q) (tsR r 0).b&&wkB (hB (tOf r) k q) (eX k j q).b&&restB (kN 310) (kN 311).ix (xO k j q)&&noKeys (mkH .nil (xO k j q)) ksS) (rOf (Nat.div x 4) (Nat.mod x 4)) (mkP (Nat.div x 4)) (cN (Nat.div x 4)) (Nat.mod x 4)
def tkQ(r i:Nat):Bool:=decide ((tsR r i).n=kN 311)&&okS ksS (tsR r i).objs
/-! loop A -/
abbrev Tss:Type:=List (List Nat × List Nat)
def chT(v cur:Nat)(t:LTree)(l:List Nat):LTree:=match l with
 | []=>t|k::r=>.max1 cur (Nat.add 3 k) (chT (Nat.succ v) v t r)
def mxT(k:Nat)(t:LTree):LTree:=bif sameC k then chT 19 (Nat.add 3 (hd0 (PL k))) t (tl0 (PL k))else
 chT 19 (Nat.add 3 (hd0 (poL k))) (chT (c2O k) (Nat.add 3 (hd0 (PL k))) (.eqm (M2 k) (M1 k) t) (tl0 (PL k))) (tl0 (poL k))
def narL(l:List Nat)(t:LTree):LTree:=List.rec (motive:=λ_=>LTree) t (λv _ ih=>.nar v ih) l
/-- v + n - 1, .., v -/
def dwn(v n:Nat):List Nat:=Nat.rec (motive:=λ_=>List Nat) [] (λj ih=>Nat.add v j::ih) n
def dwn3(l:List Nat):List Nat:=List.rec (motive:=λ_=>List Nat) [] (λx _ ih=>Nat.add 3 x::ih) l
def narT(k:Nat)(t:LTree):LTree:=bif Nat.ble (pC k) 1 then t else narL (dwn 19 (Nat.sub (pC k) 2)) (narL (bif sameC k then []else M2 k::dwn (c2O k) (Nat.sub (pC k) 2)) (narL (dwn3 (PL k)) t))
def srtT(t:Nat):LTree:=match NZ t with
 | []=>.leaf|l=>.srtv (numV l) 1 7 .leaf
def yT(t k:Nat):LTree:=.pin 17 λy=>match y with
 | 0=>srtT t| 1=>.cmpb (M1 k) 1 (narT k (srtT t)) (srtT t)|_=>srtT t
def endP(t:Nat):LTree:=match mkP t with
 | 0=>.pin 17 λ_=>.leaf
 |k=>mxT k (yT t k)
def nzT(t:Nat)(l:List Nat):LTree:=match l with
 | []=>endP t|k::r=>.cmpb (Nat.add 10 k) 1 (nzT (Nat.add t (Nat.pow 3 k)) r) (nzT (Nat.add t (Nat.mul 2 (Nat.pow 3 k))) r)
def endT(m:Nat):LTree:=.w3 2 (nzT 0 (PL m))
def hdsE(t:Nat):Tss:=match t with
 | 0=>[([],[0]),([],[1]),([],[2])]
 |t=>[([],[Nat.mul 4 t]),([],[Nat.add (Nat.mul 4 t) 1]),([],[Nat.add (Nat.mul 4 t) 2]),([],[Nat.add (Nat.mul 4 t) 3])]
def goZ(t:Nat)(l:List Nat):Tss:=match l with
 | []=>hdsE t|k::r=>goZ (Nat.add t (Nat.pow 3 k)) r++goZ (Nat.add t (Nat.mul 2 (Nat.pow 3 k))) r
def kndT:LTree:=.shr 1000 6 (.maskz 1002 7 .leaf .leaf)
def actT:LTree:=.cellI 0 (.shr 1000 4 (.remv 1001 2 (.cmpb 17 0 kndT kndT)))
def trA(_:Nat):LTree:=.cmp [(0,1),(1,-1)] 0 (.cmpb 0 12 actT .leaf) .leaf
/-- a filter that is new is laid in order: ahead of another one, slices.overlaps has two answers -/
def oneA(m k l:Nat)(r:List Nat):List Nat:=bif bitB m k then m::r else bif Nat.beq (Nat.land m l) 0 then Nat.lor m (Nat.pow 2 k)::r else Nat.lor m (Nat.pow 2 k)::Nat.lor m (Nat.pow 2 k)::r
def seven(m:Nat):List Nat × List Nat:=(oneA m 0 32 (oneA m 1 33 (oneA m 2 123 (oneA m 3 51 (oneA m 4 35 (oneA m 5 0 (oneA m 6 59 [])))))),[])
def goA(m:Nat):Tss:=[seven m,seven m,seven m,seven m,([],[m]),([],[m])]
def nLM(m:Nat):Nat:=bif Nat.beq (pC m) 0 then 3 else Nat.mul 4 (Nat.pow 2 (pC m))
def gzA(s:Nat->Int)(A:Key->Option Value)(m:Nat):Bool:=stateY Tryz.prog codeN natX 1000 100 wsL lensL ksL gA 128 (some nxA) pthA ccL rsL (tsA m) (trA m) (goA m) s A
abbrev gzM(s:Nat->Int)(A:Key->Option Value)(m a n:Nat):Bool:=stateMP Tryz.prog codeN natX 1000 100 wsL lensL ksL TsB [.r,.r,.r,.r,.r,.l,.r,.b] [.r,.r,.r,.r,.r,.r,.r] ccL (tsM m) (endT m) (goZ 0 (PL m)) a n s A
abbrev RA(a n:Nat):Prop:=∀s A,statesM (gzA s A) a n=true
def nCk(m:Nat):Nat:=Nat.div (Nat.add (nLM m) 7) 8
def gzC(s:Nat->Int)(A:Key->Option Value)(m j:Nat):Bool:=gzM s A m (Nat.mul 8 j) (Nat.min 8 (Nat.sub (nLM m) (Nat.mul 8 j)))
abbrev RM(a n:Nat):Prop:=∀s A,statesM (λm=>statesM (gzC s A m) 0 (nCk m)) a n=true
abbrev RN(m a n:Nat):Prop:=∀s A,statesM (gzC s A m) a n=true
def lnM(m:Nat):Bool:=stateY0 ksL lensL (tsM m) (endT m) (nLM m)
abbrev RL(a n:Nat):Prop:=(Nat->Int)->(Key->Option Value)->statesM lnM a n=true
end
end Go.Ev
