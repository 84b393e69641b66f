/- The states at the loops' heads, made by functions of what has been done. -/
import Derived.Test.YtppmmlkamcclkaaGreatDoorMm
namespace Go.Ev
open Go.Proofs
set_option maxRecDepth 1000000
set_option linter.unusedVariables false
noncomputable section
def wk0:Key:=.mk .d0 .d0 .d6 .d4
def wq (j:Nat):Key:=.mk .d0 .d0 .d7 (.ofN j)
def n1:Key:=.mk .d0 .d0 .d7 .d8
def wsL:List (Key × Nat):=[(wk0,0),(wq 0,0),(wq 1,0),(wq 2,0),(wq 3,0),(wq 4,0),(wq 5,0),(wq 6,0),(wq 7,0)]
def lensL:List (Key × Nat):=[(wk0,1),(wq 0,2),(wq 1,3),(wq 2,4),(wq 3,5),(wq 4,6),(wq 5,7),(wq 6,8),(wq 7,9)]
def ksL:List (Key × Kd):=[(wk0,.w 1),(wq 0,.q),(wq 1,.q),(wq 2,.q),(wq 3,.q),(wq 4,.q),(wq 5,.q),(wq 6,.q),(wq 7,.q)]
def ccL:CCode:=bodyF c3
def rsL:List CRes:=resF c3
def pthA:List Stp:=[.r,.r,.r,.r,.r,.r,.r,.l,.r,.b]
def pthB:List Stp:=[.r,.r,.r,.r,.r,.r,.r,.r,.r,.l,.b]
def pthC:List Stp:=[.r,.r,.r,.r,.r,.r,.r,.r,.r,.r,.l,.r,.b]
def wn0:CV:=.win wk0 1 ⟨.i64,.ofNat 0,[]⟩ ⟨.i64,.ofNat 0,[(1,.ofNat 1)]⟩
def argsL:List CV:=[wn0,sI 10]
def eS0:Lf:=⟨(-1,-1)::(0,9223372036854775807)::(reN (0,2) 8++[(-9223372036854775808,9223372036854775807)]),[],[],[],1000⟩
/-- all that hangs on the broker: n are published, r wait, out are gone, of which those of fl fly -/
def obC (n out r m:Nat) (fl:List Nat) (q f ke kid:Nat):List CObj:=
 [.cells [pT (o_ 1),bF],.cells (bk (o_ 2) (nN n) (ifc (o_ 3)) .niliface (ifc (o_ 4)) (o_ 5) (o_ 6) (o_ 7) (o_ 8) .any (o_ 9)),.cells [.str [117],sT (o_ 10) 0 1 1],.cells (cn (o_ 11) cA (nN 0) (o_ 12) (o_ 13)),.cells (cn (o_ 14) cP nvr (o_ 15) (o_ 16)),
  mp2 cA (o_ 17) 0 cP (o_ 18) 1 2,.cells [.map (o_ 19)],mE,mE,evM,.cells [uN 115],.cells [nN 1,pT (o_ 20)],.cells [nN 4,.map (o_ 21)],.cells [nN 0,.map (o_ 22)],.cells [nN 3,pT (o_ 23)],.cells [nN 4,.map (o_ 24)],.cells [nN 0,.map (o_ 25)],
  .cells (sess (o_ 26) cA (nN 0) (sT (o_ 27) 0 1 6) (ifN q .nilsl (sT (o_ 28) (14*out) r 14)) (ifN f .nilsl (sT (o_ (28+q)) 0 m 16)) (o_ ke)),.cells (sess (o_ (ke+1)) cP nvr .nilsl .nilsl .nilsl (o_ (ke+2))),
  .map [⟨shr,sT (o_ (ke+3)) 0 1 1,0⟩] 1,.cells [nN 512,.nilsl,nN 0],mE,mE,.cells [nN 512,.nilsl,nN 0],mE,mE,.cells [.map (o_ kid)],.cells subR6] ++
 ifN q [] [CObj.cells (reN .any (14*out)++rowN (fun i=>itm (o_ (kid+1+i)) (sI (2+out+i)) (nN (out+i+1))) 0 r)] ++
 ifN f [] [CObj.cells (mapI (fun j i=>nN (i+1)::sI (2+j)::itm (o_ (kid+1+r+i)) (sI (2+j)) (nN (j+1))) fl 0)] ++
 [CObj.cells [.map (o_ (kid+1+r+m))],CObj.cells [.map (o_ (kid+2+r+m))],CObj.cells [.map (o_ (kid+3+r+m))],CObj.cells [cA],idM m]++rowN (fun i=>[pyC (uN (65+out+i))]) 0 r++fl.map (fun j=>pyC (uN (65+j)))++[mE,mE,mE]
def ob2 (n out r m:Nat) (fl:List Nat):List CObj:=obC n out r m fl (min n 1) (min m 1) (28+min n 1+min m 1) (32+min n 1+min m 1)
/-- the places of a number's bits -/
def whB (mask:Nat):Nat→Nat→List Nat
 | _,0=>[]
 | j,n+1=>bif Nat.beq (mask / 2 ^ j % 2) 1 then j::whB mask (j+1) n else whB mask (j+1) n
def ob1 (n out:Nat) (fl:List Nat):List CObj:=ob2 n out (n - out) fl.length fl
def ob (n out mask:Nat):List CObj:=ob1 n out (whB mask 0 out)
def lnB (L:Nat):Int × Int:=ifN (8 - L) (8,9223372036854775807) (Int.ofNat L,Int.ofNat L)
def kdB (out mask:Nat):List (Int × Int):=rowN (fun j=>[bif Nat.ble (j+1) out then ifN (mask / 2 ^ j % 2) (0,0) (1,2) else (0,2)]) 0 8
def mkT (st:Nat) (l:List (Nat × CV)) (o:List CObj) (L:Nat) (kd:List (Int × Int)) (m7:Int × Int):TS:=⟨(0,wn0)::(5,pT (o_ 0))::(6,.nilsl)::l,zpO 0 o,o_ o.length,(Int.ofNat st,Int.ofNat st)::lnB L::(kd++[(-9223372036854775808,9223372036854775807),m7]),[],[rv .and 10 7 (.sym (sv 11))]⟩
def tsA (L i:Nat):TS:=mkT i [(1,sI 10),(7,nN i),(8,nN i)] (ob i 0 0) L (reN (0,2) 8) (0,7)
def tsB2 (n out mask:Nat):TS:=mkT (n+1+out) [(1,sI 10),(7,nN n),(10,nN out)] (ob n out mask) n (kdB out mask) (Int.ofNat out,7)
def tsC2 (n out mask:Nat):TS:=mkT (n+2+out) [(7,nN n),(10,nN out),(13,nN 0)] (ob n out mask) n (kdB out mask) (0,7)
/-- by c: one bit more than are gone -/
def tsB (n c:Nat):TS:=tsB2 n (Nat.log2 c) (c - 2 ^ Nat.log2 c)
def tsC (n c:Nat):TS:=tsC2 n (Nat.log2 c) (c - 2 ^ Nat.log2 c)
def gA (k:Nat):TS:=bif Nat.ble 36 k then tsA 8 (k - 36) else bif Nat.ble 28 k then tsA 7 (k - 28) else bif Nat.ble 21 k then tsA 6 (k - 21) else bif Nat.ble 15 k then tsA 5 (k - 15) else bif Nat.ble 10 k then tsA 4 (k - 10) else bif Nat.ble 6 k then tsA 3 (k - 6) else bif Nat.ble 3 k then tsA 2 (k - 3) else bif Nat.ble 1 k then tsA 1 (k - 1) else tsA 0 (k - 0)
def gB (k:Nat):TS:=bif Nat.ble 502 k then tsB 8 (k - 502+1) else bif Nat.ble 247 k then tsB 7 (k - 247+1) else bif Nat.ble 120 k then tsB 6 (k - 120+1) else bif Nat.ble 57 k then tsB 5 (k - 57+1) else bif Nat.ble 26 k then tsB 4 (k - 26+1) else bif Nat.ble 11 k then tsB 3 (k - 11+1) else bif Nat.ble 4 k then tsB 2 (k - 4+1) else bif Nat.ble 1 k then tsB 1 (k - 1+1) else tsB 0 (k - 0+1)
def gC (k:Nat):TS:=bif Nat.ble 502 k then tsC 8 (k - 502+1) else bif Nat.ble 247 k then tsC 7 (k - 247+1) else bif Nat.ble 120 k then tsC 6 (k - 120+1) else bif Nat.ble 57 k then tsC 5 (k - 57+1) else bif Nat.ble 26 k then tsC 4 (k - 26+1) else bif Nat.ble 11 k then tsC 3 (k - 11+1) else bif Nat.ble 4 k then tsC 2 (k - 4+1) else bif Nat.ble 1 k then tsC 1 (k - 1+1) else tsC 0 (k - 0+1)
def nA (L i:Nat):Nat:=L*(L+1) / 2+i
def preN:Nat→Nat
 | 0=>0
 | 1=>1
 | 2=>4
 | 3=>11
 | 4=>26
 | 5=>57
 | 6=>120
 | 7=>247
 | _=>502
def nB (n c:Nat):Nat:=preN n+c - 1
def TsA:List TS:=mkTs gA 45 45
def TsB:List TS:=mkTs gB 757 757
def TsC:List TS:=mkTs gC 757 757
def nxA:Nx:=⟨TsB,[.r,.r,.r,.r,.r,.r,.r],[.r,.b],[.r,.l,.b]⟩
def nxB:Nx:=⟨TsC,[.r,.r,.r,.r,.r,.r,.r,.r,.r],[.b],[.l,.r,.b]⟩
abbrev Tss:Type:=List (List Nat × List Nat)
def cutT:Nat→Nat→LTree
 | _,0=>.leaf
 | i,n+1=>.cmp [(1,1)] (Int.ofNat i) .leaf (cutT (i+1) n)
def trS:LTree:=.mask 10 7 (cutT 1 8)
def trA (L i:Nat):LTree:=bif Nat.beq i L then (bif Nat.beq L 8 then .cmp [(1,1)] 9 .leaf .leaf else .leaf) else .wcells 0 (i+1) (.pin (2+i) fun _=>.leaf)
def goA (L i:Nat):Tss:=bif Nat.beq i L then (bif Nat.beq L 8 then [([],[nB L 1]),([],[nB L 1])] else [([],[nB L 1])]) else [([nA L (i+1)],[]),([nA L (i+1)],[]),([nA L (i+1)],[])]
def trB2 (n out:Nat):LTree:=bif Nat.ble (out+1) (min n 7) then .cmp [(11,1)] (Int.ofNat out+1) .leaf (.pin (2+out) fun _=>.leaf) else .leaf
def goB2 (n out mask c:Nat):Tss:=bif Nat.ble (out+1) (min n 7) then [([],[nB n c]),([nB n (2 ^ (out+1)+mask)],[]),([nB n (2 ^ (out+1)+mask+2 ^ out)],[]),([nB n (2 ^ (out+1)+mask+2 ^ out)],[])] else [([],[nB n c])]
def trB (n c:Nat):LTree:=trB2 n (Nat.log2 c)
def goB (n c:Nat):Tss:=goB2 n (Nat.log2 c) (c - 2 ^ Nat.log2 c) c
def trC (n:Nat):LTree:=ifN n .leaf (.wcells 0 n .leaf)
/-- the third loop: of what flies which quality it has, of what waits whether it is wanted -/
def wtC (out r mask:Nat):Nat→Nat→Nat→Nat→Nat→WT
 | 0,_,m,c1,c2=>.fin (((out*8+m)*9+r)*256+(c1*2 ^ r+c2))
 | u+1,i,m,c1,c2=>bif Nat.ble (i+1) out then (bif Nat.beq (mask / 2 ^ i % 2) 1 then .pin (2+i) (fun j=>wtC out r mask u (i+1) (m+1) (2*c1+j) c2) else .pass (wtC out r mask u (i+1) m c1 c2)) else
  .cut (2+i) 1 (.pass (wtC out r mask u (i+1) m c1 (2*c2))) (.join (2+i) (wtC out r mask u (i+1) m c1 (2*c2+1)))
def wtD (n c:Nat):WT:=wtC (Nat.log2 c) (n - Nat.log2 c) (c - 2 ^ Nat.log2 c) n 0 0 0 0
abbrev gzA (s:Nat→Int) (A:Key→Option Value) (L i:Nat):Bool:=stateY Tryz.prog codeN nat0 1000 100 wsL lensL ksL gA 45 (some nxA) pthA ccL rsL (tsA L i) (trA L i) (goA L i) s A
abbrev gzB (s:Nat→Int) (A:Key→Option Value) (n c:Nat):Bool:=stateY Tryz.prog codeN natB 1000 100 wsL lensL ksL gB 757 (some nxB) pthB ccL rsL (tsB n c) (trB n c) (goB n c) s A
abbrev gzC (s:Nat→Int) (A:Key→Option Value) (n c d k:Nat):Bool:=stateP Tryz.prog codeN nat0 natE 1000 pthC ccL rsL ksL lensL (tsC n c) (trC n) (wtD n c) d s A k
abbrev RA (L:Nat):Prop:=∀ s A,statesM (gzA s A L) 0 (L+1)=true
abbrev RB (n a k:Nat):Prop:=∀ s A,statesM (gzB s A n) a k=true
abbrev RC (n a k:Nat):Prop:=∀ s A,statesM (fun c=>gzC s A n c 0 0) a k=true
abbrev RD (n c d k:Nat):Prop:=∀ s A,gzC s A n c d k=true
end
end Go.Ev
