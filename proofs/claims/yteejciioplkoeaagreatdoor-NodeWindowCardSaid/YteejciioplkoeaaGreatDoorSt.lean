/- The states at the loop's head, made by a function of how many notes wait, which numbers fly, and whether the link is up. -/
import Derived.Test.YteejciioplkoeaaGreatDoorMm
namespace Go.Ev
open Go.Proofs
set_option maxRecDepth 1000000
set_option linter.unusedVariables false
noncomputable section
def wk0:Key:=.mk .d0 .d0 .d6 .d4
def wsL:List (Key × Nat):=[(wk0,1)]
def lensL:List (Key × Nat):=[(wk0,1)]
def ksL:List (Key × Kd):=[(wk0,.i)]
def n1:Key:=.mk .d0 .d0 .d7 .d0
def ccL:CCode:=bodyF c3
def rsL:List CRes:=resF c3
def pthL:List Stp:=[.r,.r,.r,.r,.r,.r,.l,.r,.b]
def winV:CV:=.win wk0 1 ⟨.i64,.ofNat 0,[(0,.ofNat 1)]⟩ ⟨.i64,.ofNat 0,[(1,.ofNat 1)]⟩
def eS:Lf:=⟨[(0,0),(0,9223372036854775807)],[],[],[],1000⟩
def argsL:List CV:=[winV]
def kN (n:Nat):Key:=Key.ofNat n
def pN (n:Nat):CV:=.ptr (kN n) 0
def vN (j:Nat):CV:=.sym ⟨.i64,.ofNat 0,[(j,.ofNat 1)]⟩
def noteC (p v:Nat):List CV:=[(.str [116]),.sl (kN p) 0 1 1 1 false,(.nat 0),(.bool false),(.str [112]),(.nat 0),.nilsl,(.nat 1),vN v,(.nat 1)]
/-- so many that wait; their payloads from p on, their numbers from v on -/
def wtC (w:Nat):Nat→Nat→List CV:=Nat.rec (motive:=fun _=>Nat→Nat→List CV) (fun _ _=>[]) (fun _ ih p v=>noteC p v++ih (Nat.succ p) (Nat.add v 2)) w
def flC (l:List Nat):Nat→Nat→List CV:=List.rec (motive:=fun _=>Nat→Nat→List CV) (fun _ _=>[]) (fun i _ ih p v=>.nat i::(noteC p v++ih (Nat.succ p) (Nat.add v 2))) l
def pyC (n:Nat):Nat→List CObj:=Nat.rec (motive:=fun _=>Nat→List CObj) (fun _=>[]) (fun _ ih v=>.cells [.sym ⟨.u8,.ofNat 0,[(v,.ofNat 1)]⟩]::ih (Nat.add v 2)) n
def insN (x:Nat):List Nat→List Nat
 | []=>[x]
 | y::r=>bif Nat.blt x y then x::y::r else y::insN x r
def srtN:List Nat→List Nat
 | []=>[]
 | x::r=>insN x (srtN r)
def idE:List Nat→Nat→List CE
 | [],_=>[]
 | x::r,i=>⟨.nat x,.agg [],i⟩::idE r (Nat.succ i)
def seenO (h k:Nat):CObj:=match h with
 | 0=>.cells [.nilsl]
 | _=>.seen (kN k)
/-- o: something has gone out; h: something has been published; u: the link is up -/
def obsX (o h u:Nat) (u1:Bool) (f w:Nat) (ids:List Nat):List CObj:=
 .cells [pN (Nat.add o 257),(.nat 1),.sl (kN (Nat.add o 258)) 0 1 1 1 false,pN (Nat.add o 259),.nilsl,.nilsl] ::
 ((match o with
 | 0=>[]
 | _=>[.cells (ids.map fun i=>.nat i)]) ++
 ([.cells [(.nat 1),(.bool true),.sl (kN (Nat.add o 260)) 0 1 1 2 false,(.nat 1),vN 2,(.nat 0),.niliface,.iface 205 (pN (Nat.add o 261)),.niliface,.niliface,.niliface,.niliface,.niliface,.niliface,.niliface,.map (kN (Nat.add o 262)),pN (Nat.add o 263),.map (kN (Nat.add o 264)),.map (kN (Nat.add o 265)),.nilsl,.any,.nilsl,.map (kN (Nat.add o 266))],.cells [pN (Nat.add o 267)],seenO h (Nat.add o 268),.cells [(.str [117]),.sl (kN (Nat.add o (Nat.add h 268))) 0 1 1 1 false],.cells [pN (Nat.add o (Nat.add h 269)),(.str [112]),(.bool false),(.nat 0),(.nat 4294967295),(.nat 65535),(.nat 268435460),(.nat 0),(.str []),(.str []),(.bool false),(.str []),.nilsl,(.nat 0),(.bool false),(.str []),(.nat 0),.nilsl,(.nat 0),(.nat 0),(.nat 0),(.nat 0),(.nat 0),pN (Nat.add o (Nat.add h 270)),pN (Nat.add o (Nat.add h 271)),(.nat 1),.nilsl,.nilsl],.map [⟨(.str [112]),pN (Nat.add o (Nat.add h 272)),0⟩] 1,.cells [.map (kN (Nat.add o (Nat.add h 273)))],.map [] 0,.map [] 0,.map [⟨(.nat 1),(.func (.func 57) [] []),0⟩,⟨(.nat 2),(.func (.func 58) [] []),1⟩,⟨(.nat 3),(.func (.func 59) [] []),2⟩,⟨(.nat 4),(.func (.func 60) [] []),3⟩,⟨(.nat 5),(.func (.func 61) [] []),4⟩,⟨(.nat 6),(.func (.func 62) [] []),5⟩] 6,.cells [pN (Nat.add o (Nat.add h 274)),bif u1 then pN (Nat.add o (Nat.add h 275)) else .nilptr]] ++
 ((match h with
 | 0=>[]
 | _=>[.hid]) ++
 ([.cells [(.int .u8 (.ofNat 115))],.cells [(.nat 1),pN (Nat.add o (Nat.add h (Nat.add u 275)))],.cells [(.nat 4),.map (kN (Nat.add o (Nat.add h (Nat.add u 276))))],.cells [(.nat 0),.map (kN (Nat.add o (Nat.add h (Nat.add u 277))))],.cells [pN (Nat.add o (Nat.add h (Nat.add u 278))),(.str [112]),(.nat 4294967295),(.nat 0),(.bool true),.nilsl,.nilsl,.nilsl,pN (Nat.add o (Nat.add h (Nat.add u 279)))],.map [] 0,.cells [pN (Nat.add o (Nat.add h (Nat.add u 280))),(.str [35]),(.str []),.bool u1,(match h with | 0=>.nilsl | _=>.sl (kN (Nat.add o (Nat.add h (Nat.add u 281)))) 0 w w 10 false),(match o with | 0=>.nilsl | _=>.sl (kN (Nat.add o (Nat.add h (Nat.add u (Nat.add h 281))))) 0 f f 11 false)]] ++
 ((match u with
 | 0=>[]
 | _=>[.cells [(.nat 512),.nilsl,(.nat 0)]]) ++
 ([.cells [(.nat 512),.nilsl,(.nat 0)],.map [] 0,.map [] 0,.cells [.map (kN (Nat.add (Nat.add o (Nat.add h (Nat.add u (Nat.add h (Nat.add o 281))))) 0))],.cells [.map (kN (Nat.add (Nat.add o (Nat.add h (Nat.add u (Nat.add h (Nat.add o 281))))) 1))],.cells [.map (kN (Nat.add (Nat.add o (Nat.add h (Nat.add u (Nat.add h (Nat.add o 281))))) 2))]] ++
 ((match h with
 | 0=>[]
 | _=>[.cells (wtC w (Nat.add (Nat.add o (Nat.add h (Nat.add u (Nat.add h (Nat.add o 281))))) 3) (Nat.add 3 (Nat.mul 2 f)))]) ++
 ((match o with
 | 0=>[]
 | _=>[.cells (flC ids (Nat.add (Nat.add o (Nat.add h (Nat.add u (Nat.add h (Nat.add o 281))))) (Nat.add 3 w)) 3)]) ++
 ([.map [] 0,.map [] 0,.map (idE (srtN ids) 0) f]++(pyC w (Nat.add 4 (Nat.mul 2 f))++pyC f 4))))))))))
def nmX (l:List CObj):Nat→List (Key × CObj):=List.rec (motive:=fun _=>Nat→List (Key × CObj)) (fun _=>[]) (fun o _ ih n=>(kN n,o)::ih (Nat.succ n)) l
def bdX (m:Nat):List (Int × Int):=Nat.rec (motive:=fun _=>List (Int × Int)) [] (fun _ ih=>(1,60)::(0,255)::ih) m
def chX:Nat→Nat→List (LL × Int × Int)
 | 0,_=>[]
 | 1,v=>[([(2,1),(v,-1)],0,100)]
 | m+2,v=>([(v,-1),(Nat.add v 2,1)],1,100)::chX (m+1) (Nat.add v 2)
def tsG (o h u:Nat) (u1:Bool) (f w:Nat) (ids:List Nat):TS:=
 ⟨[(0,winV),(3,pN 256),(4,(match o with | 0=>.nilsl | _=>.sl (kN 257) 0 f f 1 false)),(5,.bool u1),(6,vN 0)],nmX (obsX o h u u1 f w ids) 256,
  kN (Nat.add (Nat.add o (Nat.add h (Nat.add u (Nat.add h (Nat.add o 281))))) (Nat.add 3 (Nat.add w f))),(0,60)::(0,9223372036854775807)::(0,60)::bdX (Nat.add f w),([(0,-1),(2,1)],-60,0)::chX (Nat.add f w) 3,[],[(4,[]),(3,[2,0,0,4])]⟩
def tsX (w:Nat) (ids:List Nat) (u1:Bool) (ph:Nat):TS:=match ph,u1 with
 | 0,false=>tsG 0 0 0 false 0 0 []
 | 0,true=>tsG 0 0 1 true 0 0 []
 | 1,false=>tsG 0 1 0 false 0 w []
 | 1,true=>tsG 0 1 1 true 0 w []
 | _,false=>tsG 1 1 0 false ids.length w ids
 | _,true=>tsG 1 1 1 true ids.length w ids
def idsL:List (List Nat):=[[],[1],[2],[3],[4],[1,2],[1,3],[1,4],[2,1],[2,3],[2,4],[3,1],[3,2],[3,4],[4,1],[4,2],[4,3],[1,2,3],[1,2,4],[1,3,2],[1,3,4],[1,4,2],[1,4,3],[2,1,3],[2,1,4],[2,3,1],[2,3,4],[2,4,1],[2,4,3],[3,1,2],[3,1,4],[3,2,1],[3,2,4],[3,4,1],[3,4,2],[4,1,2],[4,1,3],[4,2,1],[4,2,3],[4,3,1],[4,3,2],[1,2,3,4],[1,2,4,3],[1,3,2,4],[1,3,4,2],[1,4,2,3],[1,4,3,2],[2,1,3,4],[2,1,4,3],[2,3,1,4],[2,3,4,1],[2,4,1,3],[2,4,3,1],[3,1,2,4],[3,1,4,2],[3,2,1,4],[3,2,4,1],[3,4,1,2],[3,4,2,1],[4,1,2,3],[4,1,3,2],[4,2,1,3],[4,2,3,1],[4,3,1,2],[4,3,2,1]]
def takeL:List Nat:=[1,5,8,11,14,17,19,21,23,25,27,29,31,33,35,37,39,41,42,43,44,45,46,47,48,49,50,51,52,53,54,55,56,57,58,59,60,61,62,63,64,0,0,0,0,0,0,0,0,0,0,0,0,0,0,0,0,0,0,0,0,0,0,0,0]
def ackL:List Nat:=[0,0,0,0,0,2,3,4,1,3,4,1,2,4,1,2,3,9,10,12,13,15,16,6,7,11,13,14,16,5,7,8,10,14,15,5,6,8,9,11,12,26,28,32,34,38,40,20,22,30,33,36,39,18,21,24,27,35,37,17,19,23,25,29,31]
def atN (l:List Nat) (i:Nat):Nat:=match nth l i with
 | some x=>x
 | none=>0
/-- a state's number told: what waits, which row flies, up, how far -/
def decX {α:Type} (k:Nat) (q:Nat→Nat→Bool→Nat→α):α:=
 bif Nat.blt k 1170 then q (Nat.mod (Nat.div k 2) 9) (Nat.div k 18) (Nat.beq (Nat.mod k 2) 1) 2
 else bif Nat.blt k 1186 then q (Nat.add 1 (Nat.div (Nat.sub k 1170) 2)) 0 (Nat.beq (Nat.mod k 2) 1) 1
 else q 0 0 (Nat.beq k 1187) 0
def upW (u:Bool):Nat:=bif u then 1 else 0
def encX (w p:Nat) (u:Bool) (ph:Nat):Nat:=match ph with
 | 0=>Nat.add 1186 (upW u)
 | 1=>Nat.add 1170 (Nat.add (Nat.mul 2 (Nat.sub w 1)) (upW u))
 | _=>Nat.add (Nat.mul 2 (Nat.add (Nat.mul 9 p) w)) (upW u)
def idsAt (p:Nat):List Nat:=match nth idsL p with
 | some l=>l
 | none=>[]
def gX (k:Nat):TS:=decX k fun w p u ph=>tsX w (idsAt p) u ph
def TsX:List TS:=mkTs gX 1188 1188
def digT (v:Nat) (t:LTree):LTree:=.cmpb v 10 t (.dec 0 v t)
def upT (f:Nat):Nat→LTree:=Nat.rec (motive:=fun _=>Nat→LTree) (fun _=>.leaf) (fun _ ih v=>digT v (ih (Nat.add v 2))) f
def actT (w f:Nat) (u:Bool) (n:Nat):LTree:=
 bif Nat.ble n 2 then .cmpb 2 9 .leaf (.dec 1 2 .leaf)
 else bif Nat.ble n 4 then bif u&&Nat.blt f 4&&Nat.blt 0 w then digT (Nat.add 3 (Nat.mul 2 f)) .leaf else .leaf
 else bif Nat.beq n 7 && !u then upT f 3 else .leaf
def trX (k:Nat):LTree:=decX k fun w p u _=>.cmp [(0,1),(1,-1)] 0 (.cmpb 0 60 (.cellI 0 (.and 1000 7 fun n=>actT w (idsAt p).length u n)) .leaf) .leaf
abbrev Tss:Type:=List (List Nat × List Nat)
def rpX (k:Nat):Nat→Tss→Tss
 | 0,l=>l
 | n+1,l=>([k],[])::rpX k n l
/-- where an act leads -/
def goN (w p:Nat) (u:Bool) (ph:Nat) (f:Nat):Tss:=
 rpX (bif Nat.blt w 8 then encX (Nat.succ w) p u (Nat.max 1 ph) else encX w p u ph) 6
 ((fun l=>bif u&&Nat.blt f 4&&Nat.blt 0 w then rpX (encX (Nat.sub w 1) (atN takeL p) u 2) 4 l else rpX (encX w p u ph) 2 l)
 (([bif u&&Nat.blt 0 f then encX w (atN ackL p) u ph else encX w p u ph],[])::([encX w p false ph],[])::rpX (encX w p true ph) (bif u then 1 else Nat.succ f) [([],[]),([],[])]))
def goX (k:Nat):Tss:=decX k fun w p u ph=>goN w p u ph (idsAt p).length
def gzX (s:Nat→Int) (A:Key→Option Value) (k:Nat):Bool:=stateY Tryz.prog codeN natX 1000 100 wsL lensL ksL gX 1188 none pthL ccL rsL (gX k) (trX k) (goX k) s A
abbrev RX (a n:Nat):Prop:=∀ s A,statesM (gzX s A) a n=true
end
end Go.Ev
