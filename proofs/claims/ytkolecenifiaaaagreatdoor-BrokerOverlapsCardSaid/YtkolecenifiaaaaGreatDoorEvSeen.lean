/- A verified evaluator for the model's code: EvSeen, EvItoa. -/
import Derived.Test.YtkolecenifiaaaaGreatDoorEvFrame
set_option linter.unusedSectionVars false
set_option linter.unusedVariables false
set_option linter.unusedSimpArgs false
namespace Go.Ev
open Go.RowKit
noncomputable section
variable{P:Program}
def yA:Key:=.mk .d0 .d1 .d0 .d0
def yB:Key:=.mk .d0 .d1 .d0 .d1
def yC:Key:=.mk .d0 .d1 .d0 .d2
def yE:Key:=.mk .d8 .d0 .d0 .d0
def zUP:Nat->List CV
 | 0=>[]
 |n+1=>.nat 1::.anyi .i64::zUP n
def zWA:List CV:=[.ptr yA 0,.agg [.nat 1,.anyi .i64]]
def zX4(v:CV)(k:Key)(n:Nat):Po:=⟨v,[(yA,.cells [.sl k 0 n n 2 false]),(k,.cells (zUP n))]⟩
def zZn:Fs:=⟨zWA,[(yA,.cells [.nilsl])],[],257,yE,[(0,0)],[zX4 .any yB 1],[],0,[]⟩
def seE(n:Nat):Fs:=⟨zWA,[(yA,.cells [.sl yB 0 n n 2 false]),(yB,.cells (zUP n))],[],258,yE,[(0,0)],[zX4 .any yC (Nat.min (Nat.succ n) 32),zX4 .any yB n],[],0,[]⟩
structure zZv(P:Program)(f:FuncId):Prop where
 glob:P.globals.size<=100
 none:FsOk P f zZn
 some:∀n,1<=n->n<=32->FsOk P f (seE n)
section
variable[Sym]
end
section
variable{J:Nat->Int}{K:zU}
def zYw(x:Int × Int):List Value:=[.int .i64 x.1,.int .i64 x.2]
structure zZz(P:Program)(f:FuncId):Prop where
 enter:∀args w,(callFunc f args).run P w=.ok (.enter f args) w
 has:∀(b off n c:Nat) (zs:List (Int × Int)) (x:Int × Int) (w:World),n<=zs.length->n<=9223372036854775807->(∀j,j<zs.length->∀(i:Nat) v,(zYw zs[j]!)[i]? = some v->w.cell? ⟨b,off+j*2+i,none⟩=some v) ->
  Calls P f #[.slice (some ⟨b,off,none⟩) n c,.agg (zYw x).toArray] w λe w'=>(∃bl,e=.returned (.bool bl))/\Below w.heap.size w w'
section
variable[Sym]
end
end
end
end Go.Ev
namespace Go.Ev
open Go.RowKit
noncomputable section
variable{P:Program}
def zYZ(x:Nat):List Nat:=if x<10 then [48+x]else [48+x / 10,48+x % 10]
structure zZu(P:Program)(f:FuncId):Prop where
 glob:P.globals.size<=100
 dig:∀x:Nat,x<=99->FsOk P f (zZd .i64 256 yE x (zYZ x))
section
variable[Sym]
end
end
end Go.Ev
