/- Calls that come again and again, taken by summaries: what they touch of memory, and what they leave; each one is a run of the evaluator. -/
import Derived.Test.YtppmmlkamcclkaaGreatDoorTop
namespace Go.Ev
open Go.Proofs
set_option maxRecDepth 1000000
set_option linter.unusedVariables false
noncomputable section
def e_ (i:Nat):Key:=.mk .d8 .d0 (.ofN (i / 16)) (.ofN (i % 16))
def o_ (i:Nat):Key:=.mk .d0 .d1 (.ofN (i / 16)) (.ofN (i % 16))
def nN (n:Nat):CV:=.nat n
def sI (i:Nat):CV:=.sym ⟨.i64,.ofNat 0,[(i,.ofNat 1)]⟩
def lI (i:Nat):CV:=.sym ⟨.u8,.ofNat 0,[(i,.ofNat 1)]⟩
def uN (n:Nat):CV:=.int .u8 (.ofNat n)
def bT:CV:=.bool true
def bF:CV:=.bool false
def sT (k:Key) (off n esz:Nat):CV:=.sl k off n n esz false
def pT (k:Key):CV:=.ptr k 0
def eS:CV:=.str []
def cA:CV:=.str [97]
def cB:CV:=.str [98]
def cP:CV:=.str [112,117,98]
def shr:CV:=.str [36,115,104,97,114,101,47,103,47,116]
def ifc (k:Key):CV:=.iface 136 (pT k)
def nvr:CV:=nN 4294967295
def mE:CObj:=.map [] 0
def itm (p:Key) (q num:CV):List CV:=[.str [116],sT p 0 2 1,q,bF,cP,nN 0,.nilsl,nN 1,num,nN 0,q,bF,.nilsl,shr]
def pyC (l:CV):CObj:=.cells [l,uN 97]
def pyR (l:CV):CObj:=.ro [l,uN 97]
def rowN {α:Type} (f:Nat→List α):Nat→Nat→List α
 | _,0=>[]
 | i,n+1=>f i++rowN f (i+1) n
def reN {α:Type} (x:α):Nat→List α
 | 0=>[]
 | n+1=>x::reN x n
def ifN {α:Type} (n:Nat) (x y:α):α:=match n with
 | 0=>x
 | _+1=>y
def cn (a:Key) (nm mx:CV) (b c:Key):List CV:=[pT a,nm,bF,nN 0,mx,nN 65535,nN 268435460,nN 0,eS,eS,bF,eS,.nilsl,nN 0,bF,eS,nN 0,.nilsl,nN 0,nN 0,nN 0,nN 0,nN 0,pT b,pT c,nN 1,.nilsl,.nilsl]
def bk (us:Key) (num l1 l2 l3:CV) (ss bo ke wi:Key) (told:CV) (ev:Key):List CV:=[nN 1,bT,sT us 0 1 2,nN 1,num,nN 0,.niliface,l1,l2,l3,.niliface,.niliface,.niliface,.niliface,.niliface,.map ss,pT bo,.map ke,.map wi,.nilsl,told,.nilsl,.map ev]
def evM:CObj:=.map [⟨nN 1,.func (.func 31) [] [],0⟩,⟨nN 2,.func (.func 32) [] [],1⟩,⟨nN 3,.func (.func 33) [] [],2⟩,⟨nN 4,.func (.func 34) [] [],3⟩,⟨nN 5,.func (.func 35) [] [],4⟩,⟨nN 6,.func (.func 36) [] [],5⟩] 6
def sess (p:Key) (nm ex:CV) (sub q f:CV) (g:Key):List CV:=[pT p,nm,ex,nN 0,bT,sub,q,f,pT g]
def msg (c:Nat) (q id p:CV):List CV:=[nN c,nN 3,bF,q,bF,id,.str [116],p,nN 0,.nilsl,.nilsl,.nilsl,.nilsl,bF,nN 0,eS,bF,eS,.nilsl,nN 0,bF,.nilsl,bF,eS,bF,.nilsl,bF,bF]
def zrF:List CV:=[nN 0,nN 0,eS,.nilsl,nN 0,bF,eS,nN 0,.nilsl,nN 0,nN 0,nN 0,nN 0,bF,.nilsl,eS]
def subR:List CV:=[shr,nN 2,bF,bF,nN 0]
def subR6:List CV:=[shr,nN 2,bF,bF,nN 0,nN 0]
def mp2 (a:CV) (k:Key) (i:Nat) (b:CV) (j:Key) (l c:Nat):CObj:=.map [⟨a,pT k,i⟩,⟨b,pT j,l⟩] c
def zpO:Nat→List CObj→List (Key × CObj)
 | _,[]=>[]
 | i,o::r=>(o_ i,o)::zpO (i+1) r
def mkF (a:List CV) (o:List CObj) (x:Nat) (b:List (Int × Int)) (p:List Po) (r:List (Nat × CObj)) (w:List Nat):Fs:=⟨a,zpO 0 o,rowN (fun i=>[e_ i]) 0 x,256+o.length,e_ x,(0,0)::b,p,r.map fun q=>(e_ q.1,q.2),0,w⟩
def cnt (i n:Nat):List Nat:=rowN (fun i=>[i]) i n
/-- words: the last digits first counted -/
def bitL:Nat→Nat→List Nat
 | 0,_=>[]
 | n+1,c=>(c / 2 ^ n % 2)::bitL n c
/-- which of them are d -/
def whN (d:Nat):List Nat→Nat→List Nat
 | [],_=>[]
 | x::r,i=>bif Nat.beq x d then i::whN d r (i+1) else whN d r (i+1)
def mapI (f:Nat→Nat→List CV):List Nat→Nat→List CV
 | [],_=>[]
 | x::r,i=>f x i++mapI f r (i+1)
def payI (f:Nat→CObj) (k:Nat→Key):List Nat→Nat→List (Key × CObj)
 | [],_=>[]
 | _::r,i=>(k i,f i)::payI f k r (i+1)
def cpE:Fs:=mkF [.agg (itm (e_ 0) (sI 1) (sI 2))] [] 1 [(1,2),(1,8),(65,72)] [⟨.agg (itm (o_ 0) (sI 1) (sI 2)),[(o_ 0,pyC (lI 3))]⟩] [(0,pyR (lI 3))] [1]
/-- an item for the other member: j wait there -/
def gvO (j:Nat) (q:CV):List CObj:=[mp2 cB (o_ 1) 0 cP (e_ 9) 1 2,CObj.cells (sess (e_ 10) cB nvr (sT (e_ 11) 0 1 6) q .nilsl (e_ 12)),CObj.map [⟨shr,.sl (e_ 15) 0 1 2 1 false,0⟩] 1]
def gvR (j:Nat):List CV:=rowN (fun i=>itm (e_ (16+i)) (sI (2+i)) (sI (j+3+i))) 0 j
def gvE (j:Nat):Fs:=mkF [pT (e_ 0),.agg ((itm (e_ 1) (sI 1) (sI (j+2))).take 10),shr] (gvO j (ifN j .nilsl (sT (o_ 3) 0 j 14))++ifN j [] [CObj.cells (gvR j)]) (16+j) ((1,2)::reN (1,2) j++(1,8)::reN (1,8) j++[(0,8),(65,72)])
 [⟨bT,zpO 0 (gvO j (sT (o_ (3+min j 1)) 0 (j+1) 14))++[(o_ (3+min j 1),CObj.cells (gvR j++itm (o_ (4+min j 1)) (sI 1) (sI (j+2)))),(o_ (4+min j 1),pyC (lI (2*j+4)))]⟩]
 [(0,CObj.ro (bk (e_ 2) (sI (2*j+3)) .niliface (ifc (e_ 3)) (ifc (e_ 4)) (o_ 0) (e_ 5) (e_ 6) (e_ 7) .nilsl (e_ 8))),(1,pyR (lI (2*j+4))),(5,CObj.ro [.map (o_ 2)]),(9,CObj.ro (sess (e_ 13) cP nvr .nilsl .nilsl .nilsl (e_ 14))),(11,.ro subR6),(15,CObj.ro [cB,eS])]
 ([1,2,0,3,0,4,0,5]++ifN j [6] [0,6])
def dnO (q:CV) (l:Nat) (f:List CV) (ids:CObj):List CObj:=[CObj.cells [pT (o_ 1),bF],CObj.cells (bk (e_ 1) (sI 2) .niliface (ifc (o_ 2)) (ifc (e_ 2)) (o_ 3) (e_ 3) (e_ 4) (e_ 5) .nilsl (o_ 4)),CObj.cells (cn (e_ 6) cB nvr (e_ 7) (e_ 8)),mp2 cB (o_ 5) 0 cP (e_ 9) 1 2,evM,CObj.cells (sess (e_ 10) cB nvr (sT (e_ 11) 0 1 6) q (.sl (o_ 7) 0 l 1 16 false) (e_ 13)),CObj.cells [nN 512,.nilsl,nN 0],CObj.cells f,ids]
def idM (m:Nat):CObj:=CObj.map (rowN (fun i=>[⟨nN (i+1),.agg [],i⟩]) 0 m) m
/-- an acknowledgement, where so many wait from a place on -/
def dnE (off r:Nat):Fs:=mkF [pT (o_ 0),.agg (msg 2 (sI 1) (nN 1) (sT (e_ 0) 0 2 1))] (dnO (sT (e_ 12) off r 14) 1 (nN 1::sI 1::itm (e_ 14) (sI 1) (sI 3)) (idM 1)) 15 [(1,2),(0,8),(1,8)]
 [⟨.tup [],zpO 0 (dnO (sT (e_ 12) off r 14) 0 zrF (CObj.map [] 1))⟩] [(6,CObj.ro [nN 2,pT (o_ 6)]),(10,CObj.ro [.map (o_ 8)])] [0,0,0,0,0,1,0,0,2,0,0]
def cmO (l2 told:CV) (ss:CObj):List CObj:=[CObj.cells [pT (o_ 1),bF],CObj.cells (bk (e_ 1) (sI 1) (ifc (e_ 2)) l2 (ifc (e_ 3)) (o_ 2) (e_ 4) (e_ 5) (o_ 3) told (o_ 4)),ss,mE,evM]
def cmE:Fs:=mkF [pT (o_ 0),nN 2,.agg [nN 1,bF,nN 0,bF,nN 0,eS,.nilsl,nN 0,.nilsl,.sl (e_ 0) 0 1 1 5 true,.nilsl,.nilsl,bF,nN 0,cB,bF,eS,.nilsl,nN 0,bF,.nilsl,bF,eS,bF,.nilsl,bF]] (cmO .niliface .any (mp2 cA (e_ 13) 0 cP (e_ 14) 1 2)) 15 [(0,8)]
 [⟨bF,zpO 0 (cmO (ifc (o_ 5)) .nilsl (CObj.map [⟨cA,pT (e_ 13),0⟩,⟨cP,pT (e_ 14),1⟩,⟨cB,pT (o_ 6),2⟩] 3)++[CObj.cells (cn (o_ 7) cB nvr (o_ 8) (o_ 9)),CObj.cells (sess (o_ 10) cB nvr .nilsl .nilsl .nilsl (o_ 11)),CObj.cells [nN 2,pT (o_ 12)],CObj.cells [nN 4,.map (o_ 13)],CObj.cells [nN 0,.map (o_ 14)],CObj.cells [.map (o_ 15)],CObj.cells [.map (o_ 16)],CObj.cells [nN 512,.nilsl,nN 0],mE,mE,mE,mE])⟩]
 [(0,CObj.ro [nN 17,nvr,eS,eS,.nilsl]),(1,CObj.ro [(.str [117]),sT (e_ 6) 0 1 1]),(2,CObj.ro (cn (e_ 7) cA (nN 0) (e_ 8) (e_ 9))),(3,CObj.ro (cn (e_ 10) cP nvr (e_ 11) (e_ 12)))] [0,1,0,2,3,4,0,0,0]
def lsO (sub mem:CV):List CObj:=[CObj.cells (bk (e_ 1) (sI 1) (ifc (e_ 2)) (ifc (o_ 1)) (ifc (e_ 3)) (o_ 2) (e_ 4) (e_ 5) (e_ 6) .nilsl (o_ 3)),CObj.cells (cn (e_ 7) cB nvr (e_ 8) (e_ 9)),CObj.map [⟨cA,pT (e_ 10),0⟩,⟨cB,pT (o_ 4),1⟩,⟨cP,pT (e_ 11),2⟩] 3,evM,CObj.cells (sess (e_ 12) cB nvr sub .nilsl .nilsl (e_ 13)),CObj.map [⟨shr,mem,0⟩] 1,CObj.cells [nN 512,.nilsl,nN 0]]
def lsE:Fs:=mkF [pT (e_ 0),nN 2,.agg subR6,.nilsl] (lsO .nilsl (sT (o_ 7) 0 1 1)++[CObj.cells [cA]]) 14 [(0,8)] [⟨nN 2,zpO 0 (lsO (sT (o_ 8) 0 1 6) (sT (o_ 9) 0 2 1))++[(o_ 8,CObj.cells subR6),(o_ 9,CObj.cells [cA,cB])]⟩] [(0,CObj.ro [pT (o_ 0),bF]),(4,CObj.ro [.map (o_ 5)]),(7,CObj.ro [nN 2,pT (o_ 6)])] [1,0,0,0,2,0,3,0,0,0,0]
def alO (k:Nat) (q f:CV) (ids:CObj):List CObj:=[CObj.cells [pT (o_ 1),bF],CObj.cells (bk (e_ 0) (sI (k+1)) .niliface (ifc (o_ 2)) (ifc (e_ 1)) (o_ 3) (e_ 2) (e_ 3) (e_ 4) .nilsl (o_ 4)),CObj.cells (cn (e_ 5) cB nvr (e_ 6) (e_ 7)),mp2 cB (o_ 5) 0 cP (o_ 6) 1 2,evM,CObj.cells (sess (e_ 11) cB nvr (sT (e_ 12) 0 1 6) q f (e_ 14)),CObj.cells (sess (e_ 15) cP nvr .nilsl .nilsl .nilsl (e_ 16)),CObj.cells [nN 512,.nilsl,nN 0],mE,ids]
/-- all that waits, k of them, sent and acknowledged -/
def alE1 (k:Nat):Fs:=mkF [pT (o_ 0),nN 20] (alO k (sT (e_ 13) 0 k 14) .nilsl mE) (17+k) (reN (1,2) k++(0,8)::reN (1,8) k++reN (65,72) k)
 [⟨sT (o_ 10) 0 k 28,zpO 0 (alO k (sT (e_ 13) (14*k) 0 14) (.sl (o_ 11) 0 0 1 16 false) (CObj.map [] k)++CObj.cells (rowN (fun i=>msg 2 (sI (1+i)) (nN 1) (sT (o_ (12+i)) 0 2 1)) 0 k)::CObj.cells zrF::rowN (fun i=>[pyC (lI (2*k+2+i))]) 0 k)⟩]
 ([(1,CObj.ro (cn (e_ 8) cP nvr (e_ 9) (e_ 10))),(5,CObj.ro [nN 2,pT (o_ 7)]),(7,CObj.ro [nN 0,.map (o_ 8)]),(11,CObj.ro [.map (o_ 9)]),(13,CObj.ro (rowN (fun i=>itm (e_ (17+i)) (sI (1+i)) (sI (k+2+i))) 0 k))]++rowN (fun i=>[(17+i,pyR (lI (2*k+2+i)))]) 0 k)
 ([0,0,0,1,0,0,2,3,0,0,0,0,4,5,0]++cnt 6 k)
def alO0:List CObj:=[CObj.cells [pT (o_ 1),bF],CObj.cells (bk (e_ 0) (sI 1) .niliface (ifc (e_ 1)) (ifc (e_ 2)) (o_ 2) (e_ 3) (e_ 4) (e_ 5) .nilsl (o_ 3)),mp2 cB (o_ 4) 0 cP (o_ 5) 1 2,evM,CObj.cells (sess (e_ 12) cB nvr (sT (e_ 13) 0 1 6) .nilsl .nilsl (e_ 14)),CObj.cells (sess (e_ 15) cP nvr .nilsl .nilsl .nilsl (e_ 16))]
def alE0:Fs:=mkF [pT (o_ 0),nN 20] alO0 17 [(0,8)] [⟨.nilsl,zpO 0 alO0⟩] [(1,CObj.ro (cn (e_ 6) cB nvr (e_ 7) (e_ 8))),(2,CObj.ro (cn (e_ 9) cP nvr (e_ 10) (e_ 11)))] [0,0,1,2,0,0,0,0]
def alE (k:Nat):Fs:=ifN k alE0 (alE1 k)
/-- the first that waits goes out: out are gone, r wait, m fly; of quality 0, or more -/
def gtO (r m num:Nat) (told q f:CV) (a b c:Nat):List CObj:=[CObj.cells (bk (e_ 1) (sI num) (ifc (e_ 2)) .niliface (ifc (e_ 3)) (o_ 1) (e_ 4) (e_ 5) (e_ 6) told (o_ 2)),mp2 cA (o_ 3) 0 cP (o_ 4) 1 2,evM,CObj.cells (sess (e_ 14) cA (nN 0) (sT (e_ 15) 0 1 6) q f (e_ a)),CObj.cells (sess (e_ b) cP nvr .nilsl .nilsl .nilsl (e_ c)),mE]
def gtR (out r p q n:Nat):List CV:=reN .any (14*out)++rowN (fun i=>itm (e_ (p+i)) (sI (1+i)) (sI (n+i))) 0 r
def gtS:List (Nat × CObj):=[(0,CObj.ro [pT (o_ 0),bF]),(2,CObj.ro (cn (e_ 7) cA (nN 0) (e_ 8) (e_ 9))),(3,CObj.ro (cn (e_ 10) cP nvr (e_ 11) (e_ 12))),(7,CObj.ro [nN 1,pT (e_ 13)]),(9,CObj.ro [nN 0,.map (o_ 5)])]
def gtE0 (out r m:Nat):Fs:=mkF [pT (e_ 0),nN 0] (gtO r m (r+1) .any (sT (e_ 16) (14*out) r 14) (ifN m .nilsl (sT (e_ 17) 0 m 16)) (17+min m 1) (18+min m 1) (19+min m 1)) (20+min m 1+r) ((0,0)::reN (0,2) (r - 1)++(0,8)::reN (1,8) r++[(65,72)])
 [⟨.tup [.agg (msg 1 (nN 0) (nN 0) (sT (o_ 6) 0 2 1)),bT],zpO 0 (gtO r m (r+1) .nilsl (sT (e_ 16) (14*out+14) (r - 1) 14) (ifN m .nilsl (sT (e_ 17) 0 m 16)) (17+min m 1) (18+min m 1) (19+min m 1)++[pyC (lI (2*r+2))])⟩]
 (gtS++[(16,CObj.ro (gtR out r (20+min m 1) 1 (r+2))),(20+min m 1,pyR (lI (2*r+2)))]) [1,0,2,3,0,0,4,5,0,0,0,6,7]
def gtF (r m:Nat):List CV:=rowN (fun i=>nN (i+1)::sI (r+1+i)::itm (e_ (20+r+i)) (sI (r+1+i)) (sI (r+m+2+i))) 0 m
def gtE1 (out r m:Nat):Fs:=mkF [pT (e_ 0),nN 0] (gtO r m (r+m+1) .any (sT (e_ 16) (14*out) r 14) (ifN m .nilsl (sT (o_ 6) 0 m 16)) 17 18 19++ifN m [] [CObj.cells (gtF r m)]++[idM m]) (20+r+m) ((1,2)::reN (0,2) (r - 1)++reN (1,2) m++(0,8)::reN (1,8) (m+r)++[(65,72)])
 [⟨.tup [.agg (msg 1 (sI 1) (nN (m+1)) (sT (o_ (7+min m 1)) 0 2 1)),bT],zpO 0 (gtO r m (r+m+1) .nilsl (sT (e_ 16) (14*out+14) (r - 1) 14) (sT (o_ (8+min m 1)) 0 (m+1) 16) 17 18 19)++[(o_ (6+min m 1),idM (m+1)),(o_ (7+min m 1),pyC (lI (2*r+2*m+2))),(o_ (8+min m 1),CObj.cells (gtF r m++nN (m+1)::sI 1::itm (e_ 20) (sI 1) (sI (r+2*m+2))))]⟩]
 (gtS++[(14,CObj.ro [.map (o_ (6+min m 1))]),(16,CObj.ro (gtR out r 20 1 (r+2*m+2))),(20,pyR (lI (2*r+2*m+2)))]) ([1,0,2,3,0,0,4,5,0,0,0,6,7]++ifN m [0,8] [0,0,8])
def roI (f:Nat→Nat→Nat × CObj):List Nat→Nat→List (Nat × CObj)
 | [],_=>[]
 | x::r,i=>f x i::roI f r (i+1)
/-- the connection is lost; out are gone, mk: of those that fly the qualities (0: 1, 1: 2), rk: of those that wait whether they go on -/
def loO (num:Nat) (l1:CV) (ss:CObj):List CObj:=[CObj.cells (bk (e_ 1) (sI num) l1 (ifc (e_ 3)) (ifc (e_ 4)) (o_ 1) (e_ 5) (e_ 6) (o_ 2) .nilsl (o_ 3)),ss,mE,evM]
def loQ (out m r pq:Nat):List CV:=reN .any (14*out)++rowN (fun i=>itm (e_ (pq+i)) (sI (1+i)) (sI (r+m+2+i))) 0 r
def loF (m r pf:Nat):List CV:=rowN (fun i=>nN (i+1)::sI (r+1+i)::itm (e_ (pf+i)) (sI (r+1+i)) (sI (2*r+m+2+i))) 0 m
def loB (mk rk:List Nat) (k:Nat):List (Int × Int):=rk.map (fun x=>ifN x (0,0) (1,2))++mk.map (fun x=>ifN x (1,1) (2,2))++(0,8)::reN (1,8) (mk.length+rk.length)++reN (65,72) k
/-- nothing goes on -/
def loE0 (out m r q f d:Nat) (mk rk:List Nat):Fs:=mkF [pT (e_ 0),nN 1] (loO (r+m+1) (ifc (e_ 2)) (CObj.map [⟨cA,pT (e_ 10),0⟩,⟨cB,pT (e_ 11),1⟩,⟨cP,pT (e_ 12),2⟩] 3)++[CObj.map [⟨shr,sT (e_ (18 - d)) 0 2 1,0⟩] 1]) (19 - d+r+m) (loB mk rk 0)
 [⟨.nilsl,zpO 0 (loO (r+m+1) .niliface (mp2 cB (e_ 11) 1 cP (e_ 12) 2 3)++[CObj.map [⟨shr,.sl (o_ 5) 0 1 2 1 false,0⟩] 1,CObj.cells [cB,eS]])⟩]
 ([(0,CObj.ro [pT (o_ 0),bF]),(2,CObj.ro (cn (e_ 7) cA (nN 0) (e_ 8) (e_ 9))),(5,CObj.ro [.map (o_ 4)]),(10,CObj.ro (sess (e_ 13) cA (nN 0) (sT (e_ 14) 0 1 6) (ifN q .nilsl (sT (e_ 15) (14*out) r 14)) (ifN f .nilsl (sT (e_ (15+q)) 0 m 16)) (e_ (17 - d))))]++ifN r [] [(15,CObj.ro (loQ out m r (19 - d)))]++ifN m [] [(15+q,CObj.ro (loF m r (19 - d+r)))]++[(18 - d,CObj.ro [cA,cB])])
 ([1,0,2,0,3,0,0,4,0]++cnt 5 (min r 1+min m 1+1))
def loE1 (out m r q f d:Nat) (mk rk wf wq:List Nat) (kf kq:Nat):Fs:=mkF [pT (e_ 0),nN 1] (loO (r+m+1) (ifc (e_ 2)) (CObj.map [⟨cA,pT (e_ 10),0⟩,⟨cB,pT (o_ 4),1⟩,⟨cP,pT (e_ 11),2⟩] 3)++[CObj.cells (sess (e_ (17 - d)) cB nvr (sT (e_ (18 - d)) 0 1 6) .nilsl .nilsl (e_ (19 - d))),CObj.map [⟨shr,sT (e_ (22 - d)) 0 2 1,0⟩] 1]) (23 - d+r+m) (loB mk rk (kf+kq))
 [⟨.nilsl,zpO 0 (loO (r+m+1) .niliface (mp2 cB (o_ 4) 1 cP (e_ 11) 2 3)++[CObj.cells (sess (e_ (17 - d)) cB nvr (sT (e_ (18 - d)) 0 1 6) (sT (o_ 6) 0 (kf+kq) 14) .nilsl (e_ (19 - d))),CObj.map [⟨shr,.sl (o_ 7) 0 1 2 1 false,0⟩] 1,
  CObj.cells (mapI (fun x i=>itm (o_ (8+i)) (sI (r+1+x)) (sI (2*r+m+2+x))) wf 0++mapI (fun x i=>itm (o_ (8+kf+i)) (sI (1+x)) (sI (r+m+2+x))) wq 0),CObj.cells [cB,eS]]) ++
  payI (fun i=>pyC (lI (2*r+2*m+2+kq+i))) (fun i=>o_ (8+i)) wf 0++payI (fun i=>pyC (lI (2*r+2*m+2+i))) (fun i=>o_ (8+kf+i)) wq 0⟩]
 ([(0,CObj.ro [pT (o_ 0),bF]),(2,CObj.ro (cn (e_ 7) cA (nN 0) (e_ 8) (e_ 9))),(5,CObj.ro [.map (o_ 5)]),(10,CObj.ro (sess (e_ 12) cA (nN 0) (sT (e_ 13) 0 1 6) (ifN q .nilsl (sT (e_ 14) (14*out) r 14)) (ifN f .nilsl (sT (e_ (14+q)) 0 m 16)) (e_ (16 - d)))),(11,CObj.ro (sess (e_ (20 - d)) cP nvr .nilsl .nilsl .nilsl (e_ (21 - d))))] ++
   ifN r [] [(14,CObj.ro (loQ out m r (23 - d)))]++ifN m [] [(14+q,CObj.ro (loF m r (23 - d+r)))]++[(18 - d,.ro subR6),(22 - d,CObj.ro [cA,cB])]++roI (fun x i=>(23 - d+x,pyR (lI (2*r+2*m+2+i)))) wq 0++roI (fun x i=>(23 - d+r+x,pyR (lI (2*r+2*m+2+kq+i)))) wf 0)
 ([1,0,2,0,3,0,0,4,0,5,0]++cnt 6 (min r 1+min m 1+2+kf+kq))
def loE2 (out m r q f:Nat) (mk rk wf wq:List Nat):Fs:=ifN (wf.length+wq.length) (loE0 out m r q f (2 - q - f) mk rk) (loE1 out m r q f (2 - q - f) mk rk wf wq wf.length wq.length)
def loE (out m r c:Nat):Fs:=loE2 out m r (min (out+r) 1) (min m 1) (bitL m (c / 2 ^ r)) (bitL r (c % 2 ^ r)) (whN 0 (bitL m (c / 2 ^ r)) 0) (whN 1 (bitL r (c % 2 ^ r)) 0)
end
noncomputable section
def nat0:Nats:=natR 8 natV
def nat1:Nats:=natF Tryz.prog codeN 1000 106 100 [cpE] nat0
def gvL:List Fs:=rowN (fun j=>[gvE j]) 0 8
def nat2:Nats:=natF Tryz.prog codeN 1000 102 100 gvL nat1
def dnA (a:Nat):List Fs:=rowN (fun r=>[dnE (14*a) r]) 0 (9 - a)
def dnL:List Fs:=dnA 1++(dnA 2++(dnA 3++(dnA 4++(dnA 5++(dnA 6++(dnA 7++dnA 8))))))
def nat3:Nats:=natF Tryz.prog codeN 1000 21 100 dnL nat0
def gtA (out r:Nat):List Fs:=rowN (fun m=>[gtE0 out r m,gtE1 out r m]) 0 (out+1)
def alL:List Fs:=rowN (fun k=>[alE k]) 0 9
def gtL:List Fs:=gtA 0 1++(gtA 0 2++(gtA 0 3++(gtA 0 4++(gtA 0 5++(gtA 0 6++(gtA 0 7++(gtA 0 8++(gtA 1 1++(gtA 1 2++(gtA 1 3++(gtA 1 4++(gtA 1 5++(gtA 1 6++(gtA 1 7++(gtA 2 1++(gtA 2 2++(gtA 2 3++(gtA 2 4++(gtA 2 5++(gtA 2 6++(gtA 3 1++(gtA 3 2++(gtA 3 3++(gtA 3 4++(gtA 3 5++(gtA 4 1++(gtA 4 2++(gtA 4 3++(gtA 4 4++(gtA 5 1++(gtA 5 2++(gtA 5 3++(gtA 6 1++(gtA 6 2))))))))))))))))))))))))))))))))))
/-- as the second loop's passes want them -/
def natB:Nats:=natF Tryz.prog codeN 1000 12 100 gtL nat0
def nat4:Nats:=natF Tryz.prog codeN 1000 5 100 [cmE] nat0
def nat5:Nats:=natF Tryz.prog codeN 1000 7 100 [lsE] nat4
def nat6:Nats:=natF Tryz.prog codeN 1000 14 100 alL nat5
def cmbL:List (Nat × Nat × Nat):=[(0,0,0),(0,0,1),(0,0,2),(0,0,3),(0,0,4),(0,0,5),(0,0,6),(0,0,7),(0,0,8),(1,0,0),(1,0,1),(1,0,2),(1,0,3),(1,0,4),(1,0,5),(1,0,6),(1,0,7),(1,1,0),(1,1,1),(1,1,2),(1,1,3),(1,1,4),(1,1,5),(1,1,6),(1,1,7),(2,0,0),(2,0,1),(2,0,2),(2,0,3),(2,0,4),(2,0,5),(2,0,6),(2,1,0),(2,1,1),(2,1,2),(2,1,3),(2,1,4),(2,1,5),(2,1,6),(2,2,0),(2,2,1),(2,2,2),(2,2,3),(2,2,4),(2,2,5),(2,2,6),(3,0,0),(3,0,1),(3,0,2),(3,0,3),(3,0,4),(3,0,5),(3,1,0),(3,1,1),(3,1,2),(3,1,3),(3,1,4),(3,1,5),(3,2,0),(3,2,1),(3,2,2),(3,2,3),(3,2,4),(3,2,5),(3,3,0),(3,3,1),(3,3,2),(3,3,3),(3,3,4),(3,3,5),(4,0,0),(4,0,1),(4,0,2),(4,0,3),(4,0,4),(4,1,0),(4,1,1),(4,1,2),(4,1,3),(4,1,4),(4,2,0),(4,2,1),(4,2,2),(4,2,3),(4,2,4),(4,3,0),(4,3,1),(4,3,2),(4,3,3),(4,3,4),(4,4,0),(4,4,1),(4,4,2),(4,4,3),(4,4,4),(5,0,0),(5,0,1),(5,0,2),(5,0,3),(5,1,0),(5,1,1),(5,1,2),(5,1,3),(5,2,0),(5,2,1),(5,2,2),(5,2,3),(5,3,0),(5,3,1),(5,3,2),(5,3,3),(5,4,0),(5,4,1),(5,4,2),(5,4,3),(5,5,0),(5,5,1),(5,5,2),(5,5,3),(6,0,0),(6,0,1),(6,0,2),(6,1,0),(6,1,1),(6,1,2),(6,2,0),(6,2,1),(6,2,2),(6,3,0),(6,3,1),(6,3,2),(6,4,0),(6,4,1),(6,4,2),(6,5,0),(6,5,1),(6,5,2),(6,6,0),(6,6,1),(6,6,2),(7,0,0),(7,0,1),(7,1,0),(7,1,1),(7,2,0),(7,2,1),(7,3,0),(7,3,1),(7,4,0),(7,4,1),(7,5,0),(7,5,1),(7,6,0),(7,6,1),(7,7,0),(7,7,1)]
def memC (a m r:Nat):List (Nat × Nat × Nat)→Bool
 | []=>false
 | q::l=>Nat.beq q.1 a&&Nat.beq q.2.1 m&&Nat.beq q.2.2 r || memC a m r l
abbrev LO (a m r c0 w:Nat):Prop:=∀ s,fsChk Tryz.prog codeN nat2 1000 13 100 s (rowN (fun c=>[loE a m r c]) c0 w)=true
/-- by its number: what is wanted of a lost connection -/
def loV (a m r c:Nat):Bool:=memC a m r cmbL&&Nat.ble (c+1) (2 ^ (m+r))
def loL (x:Nat):List Fs:=bif loV (x / 18432) (x / 2304 % 8) (x / 256 % 9) (x % 256) then [loE (x / 18432) (x / 2304 % 8) (x / 256 % 9) (x % 256)] else []
def natE (x:Nat):Nats:=natG Tryz.prog codeN 1000 13 100 (fun _ _=>loL x) nat6
end
theorem nat0_ok:∀ s K,KnownOk s K→@NatsOk (linSym s K) Tryz.prog nat0:=fun s K hK=>by
 letI S:Sym:=linSym s K
 haveI hS:SymFact Tryz.prog:=linSym_ok hK
 exact natR_ok within_fn natV_ok
end Go.Ev
