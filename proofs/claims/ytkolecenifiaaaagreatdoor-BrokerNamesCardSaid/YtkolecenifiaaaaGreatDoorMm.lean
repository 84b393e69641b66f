/- Calls that come again and again, taken by summaries. -/
import Derived.Test.YtkolecenifiaaaaGreatDoorTop
namespace Go.Ev
open Go.Proofs
set_option maxRecDepth 1000000
set_option linter.unusedVariables false
noncomputable section
def y0:Key:=.mk .d0 .d1 .d0 .d0
def y1:Key:=.mk .d0 .d1 .d0 .d1
def y2:Key:=.mk .d0 .d1 .d0 .d2
def y3:Key:=.mk .d0 .d1 .d0 .d3
def e0:Key:=.mk .d8 .d0 .d0 .d0
def e1:Key:=.mk .d8 .d0 .d0 .d1
def e2:Key:=.mk .d8 .d0 .d0 .d2
def e3:Key:=.mk .d8 .d0 .d0 .d3
def e4:Key:=.mk .d8 .d0 .d0 .d4
def e5:Key:=.mk .d8 .d0 .d0 .d5
def e6:Key:=.mk .d8 .d0 .d0 .d6
def e7:Key:=.mk .d8 .d0 .d0 .d7
def e8:Key:=.mk .d8 .d0 .d0 .d8
def kL:List Key:=[y0,y1,y2,y3]
def eL:List Key:=[e0,e1,e2,e3,e4,e5,e6,e7,e8]
def zpK (l:List CObj):List Key→List (Key × CObj):=List.rec (motive:=fun _=>List Key→List (Key × CObj)) (fun _=>[]) (fun o _ ih ks=>List.rec (motive:=fun _=>List (Key × CObj)) [] (fun k r _=>(k,o)::ih r) ks) l
def oL (l:List CObj):List (Key × CObj):=zpK l kL
def takeK (n:Nat):List Key→List Key:=Nat.rec (motive:=fun _=>List Key→List Key) (fun _=>[]) (fun _ ih ks=>List.rec (motive:=fun _=>List Key) [] (fun k r _=>k::ih r) ks) n
def keyAt (n:Nat):List Key→Key:=Nat.rec (motive:=fun _=>List Key→Key) (fun ks=>List.rec (motive:=fun _=>Key) y0 (fun k _ _=>k) ks) (fun _ ih ks=>List.rec (motive:=fun _=>Key) y0 (fun _ r _=>ih r) ks) n
def mkF (a:List CV) (o:List CObj) (x m:Nat) (b:List (Int × Int)) (p:List Po) (r:List (Key × CObj)) (w:List Nat):Fs:=⟨a,zpK o kL,takeK x eL,Nat.add 256 m,keyAt x eL,(0,0)::b,p,r,0,w⟩
def u (n:Nat):CV:=.int .u8 (.ofNat n)
def i6 (n:Nat):CV:=.int .i64 (.ofNat n)
def p0 (k:Key):CV:=.ptr k 0
def sm (c j a:Nat):CV:=.sym ⟨.i64,.ofNat c,[(j,.ofNat a)]⟩
def su (c j a:Nat):CV:=.sym ⟨.u8,.ofNat c,[(j,.ofNat a)]⟩
def sl (k:Key) (o l c:Nat):CV:=.sl k o l c 1 true
def sf (k:Key) (o l c:Nat):CV:=.sl k o l c 1 false
def P0:List CV:=[(.agg [(.nat 2),(.bool false),(.nat 0),(.bool false),(.nat 0),(.str []),.nilsl,(.nat 0),.nilsl,(.sl e0 0 4 4 5 false),.nilsl,.nilsl,(.bool false),(.nat 0),(.str []),(.bool false),(.str []),.nilsl,(.nat 0),(.bool false),.nilsl,(.bool false),(.str []),(.bool false),.nilsl,(.bool false)])]
def P1:CObj:=(.cells [(u 32),(u 19),(u 0),(u 0),(u 16),(u 33),(u 0),(u 8),(u 39),(u 0),(u 0),(u 2),(u 0),(u 34),(u 0),(u 4),(u 18),(u 0),(u 2),(u 116),(su 49 1 1)])
def P2:CObj:=(.ro [(.nat 33),(.nat 8),(.str []),(.str []),.nilsl,(.nat 39),(.nat 512),(.str []),(.str []),.nilsl,(.nat 34),(.nat 4),(.str []),(.str []),.nilsl,(.nat 18),(.nat 0),(.sst [(u 116),(su 49 1 1)]),(.str []),.nilsl])
def P3:CV:=(.tup [(.agg [(.nat 1),(.bool false),(.nat 0),(.bool false),(.nat 0),(.str []),.nilsl,(.nat 0),.nilsl,.nilsl,.nilsl,.nilsl,(.bool true),(.nat 0),(.sst [(u 116),(su 49 1 1)]),(.bool false),(.str []),.nilsl,(.nat 0),(.bool false),.nilsl,(.bool false),(.str []),(.bool false),.nilsl,(.bool false)]),(.nat 0)])
def P4:CObj:=(.ro [(u 0),(u 4),(u 77),(u 81),(u 84),(u 84),(u 5),(u 2),(u 0),(u 0),(u 0),(u 0),(u 2),(u 116),(su 49 1 1)])
def P5:CV:=(.tup [(.agg [(.nat 1),(.bool false),(.nat 0),(.bool false),(.nat 0),(.str []),.nilsl,(.nat 0),.nilsl,.nilsl,.nilsl,.nilsl,(.bool true),(.nat 0),(.str []),(.bool false),(.str []),.nilsl,(.nat 0),(.bool false),.nilsl,(.bool false),(.str []),(.bool false),.nilsl,(.bool false)]),(.nat 0)])
def P6:CObj:=(.ro [(u 0),(u 4),(u 77),(u 81),(u 84),(u 84),(u 5),(u 2),(u 0),(u 0),(u 0),(u 0),(u 0)])
def P7 (v0:Nat):CV:=(.tup [(.agg [(.nat 2),(.bool false),(.nat 0),(.bool false),(.nat 0),(.str []),.nilsl,(.nat 0),.nilsl,(.sl y0 0 v0 v0 5 false),.nilsl,.nilsl,(.bool false),(.nat 0),(.str []),(.bool false),(.str []),.nilsl,(.nat 0),(.bool false),.nilsl,(.bool false),(.str []),(.bool false),.nilsl,(.bool false)]),(.nat 0)])
def P8:CObj:=(.cells [(.nat 33),(.nat 8),(.str []),(.str []),.nilsl,(.nat 39),(.nat 512),(.str []),(.str []),.nilsl,(.nat 34),(.nat 4),(.str []),(.str []),.nilsl,(.nat 18),(.nat 0),(.sst [(u 116),(su 49 1 1)]),(.str []),.nilsl])
def P9:CObj:=(.ro [(u 0),(u 0),(u 16),(u 33),(u 0),(u 8),(u 39),(u 0),(u 0),(u 2),(u 0),(u 34),(u 0),(u 4),(u 18),(u 0),(u 2),(u 116),(su 49 1 1)])
def P10:CV:=(.tup [(.agg [(.nat 14),(.bool false),(.nat 0),(.bool false),(.nat 0),(.str []),.nilsl,(.nat 142),.nilsl,.nilsl,.nilsl,.nilsl,(.bool false),(.nat 0),(.str []),(.bool false),(.str []),.nilsl,(.nat 0),(.bool false),.nilsl,(.bool false),(.str []),(.bool false),.nilsl,(.bool false)]),(.nat 0)])
def P11:CObj:=(.cells [(.nat 33),(.nat 8),(.str []),(.str []),.nilsl,(.nat 39),(.nat 512),(.str []),(.str []),.nilsl,(.nat 34),(.nat 4),(.str []),(.str []),.nilsl])
def P12:CObj:=(.ro [(u 0),(u 0),(u 11),(u 33),(u 0),(u 8),(u 39),(u 0),(u 0),(u 2),(u 0),(u 34),(u 0),(u 4)])
def P13:CV:=(.tup [(.sl y1 0 1 1 2 false),(.nat 0)])
def P14 (v0:Nat):CV:=(.tup [(.sl y0 0 1 1 2 false),(.nat 0),(.nat v0)])
def P15:CObj:=(.cells [(u 0),(u 0),(u 16),(u 33),(u 0),(u 8),(u 39),(u 0),(u 0),(u 2),(u 0),(u 34),(u 0),(u 4),(u 18),(u 0),(u 2),(u 116),(su 49 1 1)])
def P16:CObj:=(.ro [(u 32),(u 19),(u 0),(u 0),(u 16),(u 33),(u 0),(u 8),(u 39),(u 0),(u 0),(u 2),(u 0),(u 34),(u 0),(u 4),(u 18),(u 0),(u 2),(u 116),(su 49 1 1)])
def P17:CObj:=(.ro [.any,.any,.any,.any,.any,(sm 0 1 1),.any,.any,.any,.any,.any,.any,.any,.any,.any,(.map y0)])
def P18:CObj:=(.map [⟨(.sst [(u 116),(su 48 2 1)]),(p0 e1),0⟩] 1)
def P19:CObj:=(.map [⟨(.sst [(u 116),(su 48 2 1)]),(p0 e1),0⟩,⟨(.sst [(u 116),(su 48 3 1)]),(p0 e2),1⟩] 2)
def P20:CObj:=(.map [⟨(.sst [(u 116),(su 48 2 1)]),(p0 e1),0⟩,⟨(.sst [(u 116),(su 48 3 1)]),(p0 e2),1⟩,⟨(.sst [(u 116),(su 48 4 1)]),(p0 e3),2⟩] 3)
def P21:CObj:=(.map [⟨(.sst [(u 116),(su 48 2 1)]),(p0 e1),0⟩,⟨(.sst [(u 116),(su 48 3 1)]),(p0 e2),1⟩,⟨(.sst [(u 116),(su 48 4 1)]),(p0 e3),2⟩,⟨(.sst [(u 116),(su 48 5 1)]),(p0 e4),3⟩] 4)
def P22:CObj:=(.map [⟨(.sst [(u 116),(su 48 2 1)]),(p0 e1),0⟩,⟨(.sst [(u 116),(su 48 3 1)]),(p0 e2),1⟩,⟨(.sst [(u 116),(su 48 4 1)]),(p0 e3),2⟩,⟨(.sst [(u 116),(su 48 5 1)]),(p0 e4),3⟩,⟨(.sst [(u 116),(su 48 6 1)]),(p0 e5),4⟩] 5)
def P23:CObj:=(.map [⟨(.sst [(u 116),(su 48 2 1)]),(p0 e1),0⟩,⟨(.sst [(u 116),(su 48 3 1)]),(p0 e2),1⟩,⟨(.sst [(u 116),(su 48 4 1)]),(p0 e3),2⟩,⟨(.sst [(u 116),(su 48 5 1)]),(p0 e4),3⟩,⟨(.sst [(u 116),(su 48 6 1)]),(p0 e5),4⟩,⟨(.sst [(u 116),(su 48 7 1)]),(p0 e6),5⟩] 6)
def F0:Fs:=mkF [(.agg [(.nat 2),(.bool false),(.nat 0),(.bool false),(.nat 0),(.str []),.nilsl,(.nat 0),.nilsl,(.sl e0 0 3 3 5 true),.nilsl,.nilsl,(.bool false),(.nat 0),(.str []),(.bool false),(.str []),.nilsl,(.nat 0),(.bool false),.nilsl,(.bool false),(.str []),(.bool false),.nilsl,(.bool false)])] [] 1 0 [] [⟨(.tup [(sf y0 0 16 16),(.nat 0)]),oL [(.cells [(u 32),(u 14),(u 0),(u 0),(u 11),(u 33),(u 0),(u 8),(u 39),(u 0),(u 0),(u 2),(u 0),(u 34),(u 0),(u 4)])]⟩] [(e0,(.ro [(.nat 33),(.nat 8),(.str []),(.str []),.nilsl,(.nat 39),(.nat 512),(.str []),(.str []),.nilsl,(.nat 34),(.nat 4),(.str []),(.str []),.nilsl]))] [1]
def F1:Fs:=mkF [(.agg [(.nat 14),(.bool false),(.nat 0),(.bool false),(.nat 0),(.str []),.nilsl,(.nat 142),.nilsl,.nilsl,.nilsl,.nilsl,(.bool false),(.nat 0),(.str []),(.bool false),(.str []),.nilsl,(.nat 0),(.bool false),.nilsl,(.bool false),(.str []),(.bool false),.nilsl,(.bool false)])] [] 0 0 [] [⟨(.tup [(sf y0 0 3 3),(.nat 0)]),oL [(.cells [(u 224),(u 1),(u 142)])]⟩] [] []
def F2:Fs:=mkF P0 [] 1 0 [(0,6)] [⟨(.tup [(sf y0 0 21 21),(.nat 0)]),oL [P1]⟩] [(e0,P2)] [1]
def F3:Fs:=mkF P0 [] 1 0 [(4,6)] [⟨(.tup [(sf y0 0 21 21),(.nat 0)]),oL [P1]⟩] [(e0,P2)] [1]
def F4:Fs:=mkF [(.agg [(.nat 1),(.bool false),(.nat 0),(.bool false),(.nat 0),(.str []),.nilsl,(.nat 0),.nilsl,.nilsl,.nilsl,.nilsl,(.bool true),(.nat 0),(.sst [(u 116),(su 49 1 1)]),(.bool false),(.str []),.nilsl,(.nat 0),(.bool false),.nilsl,(.bool false),(.str []),(.bool false),.nilsl,(.bool false)])] [] 0 0 [(0,7)] [⟨(.tup [(sf y0 0 17 17),(.nat 0)]),oL [(.cells [(u 16),(u 15),(u 0),(u 4),(u 77),(u 81),(u 84),(u 84),(u 5),(u 2),(u 0),(u 0),(u 0),(u 0),(u 2),(u 116),(su 49 1 1)])]⟩] [] []
def F5:Fs:=mkF [(.agg [(.nat 1),(.bool false),(.nat 0),(.bool false),(.nat 0),(.str []),.nilsl,(.nat 0),.nilsl,.nilsl,.nilsl,.nilsl,(.bool true),(.nat 0),(.str []),(.bool false),(.str []),.nilsl,(.nat 0),(.bool false),.nilsl,(.bool false),(.str []),(.bool false),.nilsl,(.bool false)])] [] 0 0 [] [⟨(.tup [(sf y0 0 15 15),(.nat 0)]),oL [(.cells [(u 16),(u 13),(u 0),(u 4),(u 77),(u 81),(u 84),(u 84),(u 5),(u 2),(u 0),(u 0),(u 0),(u 0),(u 0)])]⟩] [] []
def F6:Fs:=mkF [(.agg [(u 16),(sf e0 0 15 15)])] [] 1 0 [(0,7)] [⟨P3,oL []⟩] [(e0,P4)] [1]
def F7:Fs:=mkF [(.agg [(u 16),(sf e0 0 13 13)])] [] 1 0 [] [⟨P5,oL []⟩] [(e0,P6)] [1]
def F8:Fs:=mkF [(.agg [(u 32),(sf e0 0 19 19)])] [] 1 0 [(4,6)] [⟨(P7 4),oL [P8]⟩] [(e0,P9)] [1]
def F9:Fs:=mkF [(.agg [(u 224),(sf e0 0 1 1)])] [] 1 0 [] [⟨P10,oL []⟩] [(e0,(.ro [(u 142)]))] [1]
def F10:Fs:=mkF [(.agg [(u 32),(sf e0 0 14 14)])] [] 1 0 [] [⟨(P7 3),oL [P11]⟩] [(e0,P12)] [1]
def F11:Fs:=mkF [(.agg [(u 32),(sf e0 0 19 19)])] [] 1 0 [(0,6)] [⟨(P7 4),oL [P8]⟩] [(e0,P9)] [1]
def F12:Fs:=mkF [(.agg [(u 32),(sf e0 0 14 14)])] [] 1 0 [] [⟨(P7 3),oL [P11]⟩] [(e0,P12)] [1]
def F13:Fs:=mkF [(.agg [(u 224),(sf e0 0 1 1)])] [] 1 0 [] [⟨P10,oL []⟩] [(e0,(.ro [(u 142)]))] [1]
def F14:Fs:=mkF [(.agg [(u 32),(sf e0 0 19 19)])] [] 1 0 [(0,6)] [⟨(P7 4),oL [P8]⟩] [(e0,P9)] [1]
def F15:Fs:=mkF [(.agg [(u 32),(sf e0 0 19 19)])] [] 1 0 [(4,6)] [⟨(P7 4),oL [P8]⟩] [(e0,P9)] [1]
def F16:Fs:=mkF [(.agg [(u 16),(sf e0 0 13 13)])] [] 1 0 [] [⟨P5,oL []⟩] [(e0,P6)] [1]
def F17:Fs:=mkF [(.agg [(u 16),(sf e0 0 15 15)])] [] 1 0 [(0,7)] [⟨P3,oL []⟩] [(e0,P4)] [1]
def F18:Fs:=mkF [(p0 y0),(sf e0 0 17 17)] [(.cells [(.nat 512),.nilsl,(.nat 0)])] 1 1 [(0,7)] [⟨P13,oL [(.cells [(.nat 512),.nilsl,(.nat 0)]),(.cells [(u 16),(sf y2 0 15 15)]),(.cells [(u 0),(u 4),(u 77),(u 81),(u 84),(u 84),(u 5),(u 2),(u 0),(u 0),(u 0),(u 0),(u 2),(u 116),(su 49 1 1)])]⟩] [(e0,(.ro [(u 16),(u 15),(u 0),(u 4),(u 77),(u 81),(u 84),(u 84),(u 5),(u 2),(u 0),(u 0),(u 0),(u 0),(u 2),(u 116),(su 49 1 1)]))] [0,1]
def F19:Fs:=mkF [(p0 y0),(sf e0 0 15 15)] [(.cells [(.nat 512),.nilsl,(.nat 0)])] 1 1 [] [⟨P13,oL [(.cells [(.nat 512),.nilsl,(.nat 0)]),(.cells [(u 16),(sf y2 0 13 13)]),(.cells [(u 0),(u 4),(u 77),(u 81),(u 84),(u 84),(u 5),(u 2),(u 0),(u 0),(u 0),(u 0),(u 0)])]⟩] [(e0,(.ro [(u 16),(u 13),(u 0),(u 4),(u 77),(u 81),(u 84),(u 84),(u 5),(u 2),(u 0),(u 0),(u 0),(u 0),(u 0)]))] [0,1]
def F20:Fs:=mkF [(.nat 268435456),(sf e0 0 16 16)] [] 1 0 [] [⟨(P14 16),oL [(.cells [(u 32),(sf y1 0 14 14)]),(.cells [(u 0),(u 0),(u 11),(u 33),(u 0),(u 8),(u 39),(u 0),(u 0),(u 2),(u 0),(u 34),(u 0),(u 4)])]⟩] [(e0,(.ro [(u 32),(u 14),(u 0),(u 0),(u 11),(u 33),(u 0),(u 8),(u 39),(u 0),(u 0),(u 2),(u 0),(u 34),(u 0),(u 4)]))] [1]
def F21:Fs:=mkF [(.nat 268435456),(sf e0 0 3 3)] [] 1 0 [] [⟨(P14 3),oL [(.cells [(u 224),(sf y1 0 1 1)]),(.cells [(u 142)])]⟩] [(e0,(.ro [(u 224),(u 1),(u 142)]))] [1]
def F22:Fs:=mkF [(.nat 268435456),(sf e0 0 21 21)] [] 1 0 [(0,6)] [⟨(P14 21),oL [(.cells [(u 32),(sf y1 0 19 19)]),P15]⟩] [(e0,P16)] [1]
def F23:Fs:=mkF [(.nat 268435456),(sf e0 0 21 21)] [] 1 0 [(4,6)] [⟨(P14 21),oL [(.cells [(u 32),(sf y1 0 19 19)]),P15]⟩] [(e0,P16)] [1]
def N0:Fs:=mkF [(p0 e0)] [(.map [] 0)] 1 1 [(0,6)] [⟨(.tup [.any,.any]),oL [(.map [] 0)]⟩] [(e0,P17)] [1,0]
def N1:Fs:=mkF [(p0 e0)] [P18] 2 1 [(0,6),(1,8)] [⟨(.tup [.any,.any]),oL [P18]⟩] [(e0,P17)] [1,0]
def N2:Fs:=mkF [(p0 e0)] [P19] 3 1 [(0,6),(1,8),(1,8)] [⟨(.tup [.any,.any]),oL [P19]⟩] [(e0,P17)] [1,0]
def N3:Fs:=mkF [(p0 e0)] [P20] 4 1 [(0,6),(1,8),(1,8),(1,8)] [⟨(.tup [.any,.any]),oL [P20]⟩] [(e0,P17)] [1,0]
def N4:Fs:=mkF [(p0 e0)] [P21] 5 1 [(0,6),(1,8),(1,8),(1,8),(1,8)] [⟨(.tup [.any,.any]),oL [P21]⟩] [(e0,P17)] [1,0]
def N5:Fs:=mkF [(p0 e0)] [P22] 6 1 [(0,6),(1,8),(1,8),(1,8),(1,8),(1,8)] [⟨(.tup [.any,.any]),oL [P22]⟩] [(e0,P17)] [1,0]
def N6:Fs:=mkF [(p0 e0)] [P23] 7 1 [(0,6),(1,8),(1,8),(1,8),(1,8),(1,8),(1,8)] [⟨(.tup [.any,.any]),oL [P23]⟩] [(e0,P17)] [1,0]
def natIt:Nats:=natP Tryz.prog codeN 1000 390 itoaSel itoaN natV
def natNs:Nats:=natH Tryz.prog codeN 1000 36 namesSel namesB natIt
def natQ0:Nats:=natH Tryz.prog codeN 1000 17 hasSSel hasS natNs
def fL1:List Fs:=[F0,F1,F2,F3]
def natQ1:Nats:=natF Tryz.prog codeN 1000 127 100 fL1 natQ0
def fL2:List Fs:=[F4,F5]
def natQ2:Nats:=natF Tryz.prog codeN 1000 49 100 fL2 natQ1
def fL3:List Fs:=[F6,F7,F8,F9,F10,F11]
def natQ3:Nats:=natF Tryz.prog codeN 1000 213 100 fL3 natQ2
def fL4:List Fs:=[F12,F13,F14,F15,F16,F17]
def natQ4:Nats:=natF Tryz.prog codeN 1000 34 100 fL4 natQ3
def fL5:List Fs:=[F18,F19]
def natQ5:Nats:=natF Tryz.prog codeN 1000 380 100 fL5 natQ4
def fL6:List Fs:=[F20,F21,F22,F23]
def natQ6:Nats:=natF Tryz.prog codeN 1000 33 100 fL6 natQ5
def natY:Nats:=natQ6
def frL:List Fs:=[N0,N1,N2,N3,N4,N5,N6]
/-- is there an own name's digit (a number from 0 to 7)? -/
def ownSel (S:Sym):Bool:=anyB07 (@Sym.kb S)
def natX:Nats:=natK Tryz.prog codeN 1000 381 ownSel (natF Tryz.prog codeN 1000 381 100 frL natY) natY
/-- one number behind the other: is it there? -/
def isT (ss:List Nat):Nat→Nat→LTree
 | 0,_=>.leaf
 | k+1,l=>.isin 1 l ss (isT ss k (l+1)) .leaf
def ssF:Nat→Nat→List Nat
 | 0,_=>[]
 | n+1,v=>v::ssF n (v+1)
def frT (m:Nat):LTree:=match m with
 | 0=>.leaf
 | _=>.pin 1 fun j=>isT (ssF m 2) (8 - j) 1
end
end Go.Ev
