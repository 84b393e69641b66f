/- The loops joined: each state is right, by the runs over stretches of states. -/
import Derived.Test.YtkolecenifiaaaaGreatDoorSe
import Derived.Test.YtkolecenifiaaaaGreatDoorRun0
import Derived.Test.YtkolecenifiaaaaGreatDoorRun1
import Derived.Test.YtkolecenifiaaaaGreatDoorRun2
import Derived.Test.YtkolecenifiaaaaGreatDoorRun3
import Derived.Test.YtkolecenifiaaaaGreatDoorRun4
import Derived.Test.YtkolecenifiaaaaGreatDoorRun5
import Derived.Test.YtkolecenifiaaaaGreatDoorRun6
import Derived.Test.YtkolecenifiaaaaGreatDoorRun7
import Derived.Test.YtkolecenifiaaaaGreatDoorRun8
import Derived.Test.YtkolecenifiaaaaGreatDoorRun9
import Derived.Test.YtkolecenifiaaaaGreatDoorRun10
import Derived.Test.YtkolecenifiaaaaGreatDoorRun11
import Derived.Test.YtkolecenifiaaaaGreatDoorRun12
import Derived.Test.YtkolecenifiaaaaGreatDoorRun13
import Derived.Test.YtkolecenifiaaaaGreatDoorRun14
import Derived.Test.YtkolecenifiaaaaGreatDoorRun15
import Derived.Test.YtkolecenifiaaaaGreatDoorRun16
import Derived.Test.YtkolecenifiaaaaGreatDoorRun17
namespace Go.Ev
open Go.Proofs
set_option maxRecDepth 1000000
set_option linter.unusedVariables false
open Go.RowKit
noncomputable section
theorem lg{P:Prop}(c a:Nat)(h1:c<a->P)(h2:a<=c->P):P:=(Nat.lt_or_ge c a).elim h1 h2
abbrev GA(T:TS):Prop:=StateGoodM Tryz.prog codeN natX 1000 100 wsL lensL TsA (some nxA) pthA ccL rsL ksL T
abbrev GB(T:TS):Prop:=HeadGood Tryz.prog codeN natX natE 1000 pthB ccL rsL prsL (kN 310) (kN 311) 15 ksS T
abbrev GM(T:TS):Prop:=MidGood Tryz.prog codeN natX 1000 100 wsL lensL TsB [.r,.r,.r,.r,.r,.l,.r,.b] [.r,.r,.r,.r,.r,.r,.r] ccL ksL T
theorem hA{a n m:Nat}(h:RA a n)(h1:a<=m)(h2:m<a+n):GA (gA m):=stateY_good (tree:=trA m) (tss:=goA m) λs A=>statesM_all (h s A) m h1 h2
theorem goodA(m:Nat)(hm:m<128):GA (gA m):=lg m 64 (λ_=>lg m 32 (λ_=>lg m 16 (λ_=>lg m 8 (λ_=>lg m 4 (λ_=>lg m 2 (λ_=>hA rA0 (by omega) (by omega)) λ_=>hA rA2 (by omega) (by omega)) λ_=>hA rA4 (by omega) (by omega)) λ_=>lg m 12 (λ_=>lg m 10 (λ_=>hA rA8 (by omega) (by omega)) λ_=>hA rA10 (by omega) (by omega)) λ_=>hA rA12 (by omega) (by omega)) λ_=>lg m 24 (λ_=>lg m 20 (λ_=>lg m 18 (λ_=>hA rA16 (by omega) (by omega)) λ_=>hA rA18 (by omega) (by omega)) λ_=>hA rA20 (by omega) (by omega)) λ_=>lg m 28 (λ_=>hA rA24 (by omega) (by omega)) λ_=>hA rA28 (by omega) (by omega)) λ_=>lg m 48 (λ_=>lg m 40 (λ_=>lg m 36 (λ_=>lg m 34 (λ_=>hA rA32 (by omega) (by omega)) λ_=>hA rA34 (by omega) (by omega)) λ_=>lg m 38 (λ_=>hA rA36 (by omega) (by omega)) λ_=>hA rA38 (by omega) (by omega)) λ_=>lg m 44 (λ_=>lg m 42 (λ_=>hA rA40 (by omega) (by omega)) λ_=>hA rA42 (by omega) (by omega)) λ_=>hA rA44 (by omega) (by omega)) λ_=>lg m 56 (λ_=>lg m 52 (λ_=>lg m 50 (λ_=>hA rA48 (by omega) (by omega)) λ_=>hA rA50 (by omega) (by omega)) λ_=>hA rA52 (by omega) (by omega)) λ_=>lg m 60 (λ_=>hA rA56 (by omega) (by omega)) λ_=>hA rA60 (by omega) (by omega)) λ_=>lg m 96 (λ_=>lg m 80 (λ_=>lg m 72 (λ_=>lg m 68 (λ_=>hA rA64 (by omega) (by omega)) λ_=>hA rA68 (by omega) (by omega)) λ_=>lg m 76 (λ_=>hA rA72 (by omega) (by omega)) λ_=>hA rA76 (by omega) (by omega)) λ_=>lg m 88 (λ_=>lg m 84 (λ_=>hA rA80 (by omega) (by omega)) λ_=>hA rA84 (by omega) (by omega)) λ_=>lg m 92 (λ_=>hA rA88 (by omega) (by omega)) λ_=>hA rA92 (by omega) (by omega)) λ_=>lg m 112 (λ_=>lg m 104 (λ_=>lg m 100 (λ_=>lg m 98 (λ_=>hA rA96 (by omega) (by omega)) λ_=>hA rA98 (by omega) (by omega)) λ_=>hA rA100 (by omega) (by omega)) λ_=>lg m 108 (λ_=>lg m 106 (λ_=>hA rA104 (by omega) (by omega)) λ_=>hA rA106 (by omega) (by omega)) λ_=>hA rA108 (by omega) (by omega)) λ_=>lg m 120 (λ_=>lg m 116 (λ_=>lg m 114 (λ_=>hA rA112 (by omega) (by omega)) λ_=>hA rA114 (by omega) (by omega)) λ_=>hA rA116 (by omega) (by omega)) λ_=>lg m 124 (λ_=>hA rA120 (by omega) (by omega)) λ_=>hA rA124 (by omega) (by omega)
theorem hL{a n m:Nat}(h:RL a n)(h1:a<=m)(h2:m<a+n):lnM m=true:=statesM_all (h (λ_=>0) (λ_=>none)) m h1 h2
theorem lnG(m:Nat)(hm:m<128):lnM m=true:=lg m 73 (λ_=>lg m 31 (λ_=>lg m 15 (λ_=>hL rL0 (by omega) (by omega)) λ_=>lg m 25 (λ_=>hL rL15 (by omega) (by omega)) λ_=>hL rL25 (by omega) (by omega)) λ_=>lg m 55 (λ_=>lg m 44 (λ_=>hL rL31 (by omega) (by omega)) λ_=>hL rL44 (by omega) (by omega)) λ_=>lg m 62 (λ_=>hL rL55 (by omega) (by omega)) λ_=>hL rL62 (by omega) (by omega)) λ_=>lg m 102 (λ_=>lg m 85 (λ_=>hL rL73 (by omega) (by omega)) λ_=>lg m 93 (λ_=>hL rL85 (by omega) (by omega)) λ_=>hL rL93 (by omega) (by omega)) λ_=>lg m 123 (λ_=>lg m 115 (λ_=>hL rL102 (by omega) (by omega)) λ_=>hL rL115 (by omega) (by omega)) λ_=>lg m 127 (λ_=>hL rL123 (by omega) (by omega)) λ_=>hL rL127 (by omega) (by omega)
abbrev CzOk(m:Nat):Prop:=∀j,j<nCk m->∀s A,gzC s A m j=true
theorem hM{a n m:Nat}(h:RM a n)(h1:a<=m)(h2:m<a+n):CzOk m:=λj hj s A=>statesM_all (statesM_all (h s A) m h1 h2) j (Nat.zero_le _) (by omega)
theorem hN{m a n j:Nat}(h:RN m a n)(h1:a<=j)(h2:j<a+n):∀s A,gzC s A m j=true:=λs A=>statesM_all (h s A) j h1 h2
theorem hC{m a:Nat}(h1:m=a)(h:CzOk a):CzOk m:=h1 ▸ h
theorem mkM{m:Nat}(hm:m<128)(h:CzOk m):GM (tsM m):=stateMP_good (tree:=endT m) (tss:=goZ 0 (PL m)) (lnG m hm) λi hi=>by
 have hc:nCk m=(nLM m+7) / 8:=rfl;have hj:i / 8<nCk m:=by omega
 refine⟨8*(i / 8),Nat.min 8 (nLM m - 8*(i / 8)),by omega,?_,h (i / 8) hj⟩
 have:Nat.min 8 (nLM m - 8*(i / 8))=min 8 (nLM m - 8*(i / 8)):=rfl
 omega
theorem cm15:CzOk 15:=λj (hj:j<8)=>lg j 4 (λ_=>hN rN15_0 (by omega) (by omega)) λ_=>hN rN15_4 (by omega) (by omega)
theorem cm23:CzOk 23:=λj (hj:j<8)=>lg j 4 (λ_=>hN rN23_0 (by omega) (by omega)) λ_=>hN rN23_4 (by omega) (by omega)
theorem cm27:CzOk 27:=λj (hj:j<8)=>lg j 4 (λ_=>hN rN27_0 (by omega) (by omega)) λ_=>hN rN27_4 (by omega) (by omega)
theorem cm29:CzOk 29:=λj (hj:j<8)=>lg j 4 (λ_=>hN rN29_0 (by omega) (by omega)) λ_=>hN rN29_4 (by omega) (by omega)
theorem cm30:CzOk 30:=λj (hj:j<8)=>lg j 4 (λ_=>hN rN30_0 (by omega) (by omega)) λ_=>hN rN30_4 (by omega) (by omega)
theorem cm31:CzOk 31:=λj (hj:j<16)=>lg j 8 (λ_=>lg j 4 (λ_=>hN rN31_0 (by omega) (by omega)) λ_=>hN rN31_4 (by omega) (by omega)) λ_=>lg j 12 (λ_=>hN rN31_8 (by omega) (by omega)) λ_=>hN rN31_12 (by omega) (by omega)
theorem cm47:CzOk 47:=λj (hj:j<8)=>lg j 4 (λ_=>hN rN47_0 (by omega) (by omega)) λ_=>hN rN47_4 (by omega) (by omega)
theorem cm55:CzOk 55:=λj (hj:j<8)=>lg j 4 (λ_=>hN rN55_0 (by omega) (by omega)) λ_=>hN rN55_4 (by omega) (by omega)
theorem cm59:CzOk 59:=λj (hj:j<8)=>lg j 4 (λ_=>hN rN59_0 (by omega) (by omega)) λ_=>hN rN59_4 (by omega) (by omega)
theorem cm61:CzOk 61:=λj (hj:j<8)=>lg j 4 (λ_=>hN rN61_0 (by omega) (by omega)) λ_=>hN rN61_4 (by omega) (by omega)
theorem cm62:CzOk 62:=λj (hj:j<8)=>lg j 4 (λ_=>hN rN62_0 (by omega) (by omega)) λ_=>hN rN62_4 (by omega) (by omega)
theorem cm63:CzOk 63:=λj (hj:j<16)=>lg j 8 (λ_=>lg j 4 (λ_=>hN rN63_0 (by omega) (by omega)) λ_=>hN rN63_4 (by omega) (by omega)) λ_=>lg j 12 (λ_=>hN rN63_8 (by omega) (by omega)) λ_=>hN rN63_12 (by omega) (by omega)
theorem cm79:CzOk 79:=λj (hj:j<8)=>lg j 4 (λ_=>hN rN79_0 (by omega) (by omega)) λ_=>hN rN79_4 (by omega) (by omega)
theorem cm87:CzOk 87:=λj (hj:j<8)=>lg j 4 (λ_=>hN rN87_0 (by omega) (by omega)) λ_=>hN rN87_4 (by omega) (by omega)
theorem cm91:CzOk 91:=λj (hj:j<8)=>lg j 4 (λ_=>hN rN91_0 (by omega) (by omega)) λ_=>hN rN91_4 (by omega) (by omega)
theorem cm93:CzOk 93:=λj (hj:j<8)=>lg j 4 (λ_=>hN rN93_0 (by omega) (by omega)) λ_=>hN rN93_4 (by omega) (by omega)
theorem cm94:CzOk 94:=λj (hj:j<8)=>lg j 4 (λ_=>hN rN94_0 (by omega) (by omega)) λ_=>hN rN94_4 (by omega) (by omega)
theorem cm95:CzOk 95:=λj (hj:j<16)=>lg j 8 (λ_=>lg j 4 (λ_=>hN rN95_0 (by omega) (by omega)) λ_=>hN rN95_4 (by omega) (by omega)) λ_=>lg j 12 (λ_=>hN rN95_8 (by omega) (by omega)) λ_=>hN rN95_12 (by omega) (by omega)
theorem cm111:CzOk 111:=λj (hj:j<8)=>lg j 4 (λ_=>hN rN111_0 (by omega) (by omega)) λ_=>hN rN111_4 (by omega) (by omega)
theorem cm119:CzOk 119:=λj (hj:j<8)=>lg j 4 (λ_=>hN rN119_0 (by omega) (by omega)) λ_=>hN rN119_4 (by omega) (by omega)
theorem cm123:CzOk 123:=λj (hj:j<8)=>lg j 4 (λ_=>hN rN123_0 (by omega) (by omega)) λ_=>hN rN123_4 (by omega) (by omega)
theorem cm125:CzOk 125:=λj (hj:j<8)=>lg j 4 (λ_=>hN rN125_0 (by omega) (by omega)) λ_=>hN rN125_4 (by omega) (by omega)
theorem cm126:CzOk 126:=λj (hj:j<8)=>lg j 4 (λ_=>hN rN126_0 (by omega) (by omega)) λ_=>hN rN126_4 (by omega) (by omega)
theorem cm127:CzOk 127:=λj (hj:j<16)=>lg j 8 (λ_=>lg j 4 (λ_=>hN rN127_0 (by omega) (by omega)) λ_=>hN rN127_4 (by omega) (by omega)) λ_=>lg j 12 (λ_=>hN rN127_8 (by omega) (by omega)) λ_=>hN rN127_12 (by omega) (by omega)
theorem goodM(m:Nat)(hm:m<128):GM (tsM m):=mkM hm (lg m 64 (λ_=>lg m 32 (λ_=>lg m 19 (λ_=>lg m 11 (λ_=>lg m 7 (λ_=>lg m 3 (λ_=>hM rM0 (by omega) (by omega)) λ_=>lg m 5 (λ_=>hM rM3 (by omega) (by omega)) λ_=>hM rM5 (by omega) (by omega)) λ_=>lg m 8 (λ_=>hM rM7 (by omega) (by omega)) λ_=>lg m 10 (λ_=>hM rM8 (by omega) (by omega)) λ_=>hM rM10 (by omega) (by omega)) λ_=>lg m 14 (λ_=>lg m 12 (λ_=>hM rM11 (by omega) (by omega)) λ_=>lg m 13 (λ_=>hM rM12 (by omega) (by omega)) λ_=>hM rM13 (by omega) (by omega)) λ_=>lg m 16 (λ_=>lg m 15 (λ_=>hM rM14 (by omega) (by omega)) λ_=>hC (by omega) cm15) λ_=>lg m 18 (λ_=>hM rM16 (by omega) (by omega)) λ_=>hM rM18 (by omega) (by omega)) λ_=>lg m 25 (λ_=>lg m 22 (λ_=>lg m 20 (λ_=>hM rM19 (by omega) (by omega)) λ_=>lg m 21 (λ_=>hM rM20 (by omega) (by omega)) λ_=>hM rM21 (by omega) (by omega)) λ_=>lg m 23 (λ_=>hM rM22 (by omega) (by omega)) λ_=>lg m 24 (λ_=>hC (by omega) cm23) λ_=>hM rM24 (by omega) (by omega)) λ_=>lg m 28 (λ_=>lg m 26 (λ_=>hM rM25 (by omega) (by omega)) λ_=>lg m 27 (λ_=>hM rM26 (by omega) (by omega)) λ_=>hC (by omega) cm27) λ_=>lg m 30 (λ_=>lg m 29 (λ_=>hM rM28 (by omega) (by omega)) λ_=>hC (by omega) cm29) λ_=>lg m 31 (λ_=>hC (by omega) cm30) λ_=>hC (by omega) cm31) λ_=>lg m 51 (λ_=>lg m 43 (λ_=>lg m 39 (λ_=>lg m 35 (λ_=>hM rM32 (by omega) (by omega)) λ_=>lg m 37 (λ_=>hM rM35 (by omega) (by omega)) λ_=>hM rM37 (by omega) (by omega)) λ_=>lg m 40 (λ_=>hM rM39 (by omega) (by omega)) λ_=>lg m 42 (λ_=>hM rM40 (by omega) (by omega)) λ_=>hM rM42 (by omega) (by omega)) λ_=>lg m 46 (λ_=>lg m 44 (λ_=>hM rM43 (by omega) (by omega)) λ_=>lg m 45 (λ_=>hM rM44 (by omega) (by omega)) λ_=>hM rM45 (by omega) (by omega)) λ_=>lg m 48 (λ_=>lg m 47 (λ_=>hM rM46 (by omega) (by omega)) λ_=>hC (by omega) cm47) λ_=>lg m 50 (λ_=>hM rM48 (by omega) (by omega)) λ_=>hM rM50 (by omega) (by omega)) λ_=>lg m 57 (λ_=>lg m 54 (λ_=>lg m 52 (λ_=>hM rM51 (by omega) (by omega)) λ_=>lg m 53 (λ_=>hM rM52 (by omega) (by omega)) λ_=>hM rM53 (by omega) (by omega)) λ_=>lg m 55 (λ_=>hM rM54 (by omega) (by omega)) λ_=>lg m 56 (λ_=>hC (by omega) cm55) λ_=>hM rM56 (by omega) (by omega)) λ_=>lg m 60 (λ_=>lg m 58 (λ_=>hM rM57 (by omega) (by omega)) λ_=>lg m 59 (λ_=>hM rM58 (by omega) (by omega)) λ_=>hC (by omega) cm59) λ_=>lg m 62 (λ_=>lg m 61 (λ_=>hM rM60 (by omega) (by omega)) λ_=>hC (by omega) cm61) λ_=>lg m 63 (λ_=>hC (by omega) cm62) λ_=>hC (by omega) cm63) λ_=>lg m 96 (λ_=>lg m 83 (λ_=>lg m 75 (λ_=>lg m 71 (λ_=>lg m 67 (λ_=>hM rM64 (by omega) (by omega)) λ_=>lg m 69 (λ_=>hM rM67 (by omega) (by omega)) λ_=>hM rM69 (by omega) (by omega)) λ_=>lg m 72 (λ_=>hM rM71 (by omega) (by omega)) λ_=>lg m 74 (λ_=>hM rM72 (by omega) (by omega)) λ_=>hM rM74 (by omega) (by omega)) λ_=>lg m 78 (λ_=>lg m 76 (λ_=>hM rM75 (by omega) (by omega)) λ_=>lg m 77 (λ_=>hM rM76 (by omega) (by omega)) λ_=>hM rM77 (by omega) (by omega)) λ_=>lg m 80 (λ_=>lg m 79 (λ_=>hM rM78 (by omega) (by omega)) λ_=>hC (by omega) cm79) λ_=>lg m 82 (λ_=>hM rM80 (by omega) (by omega)) λ_=>hM rM82 (by omega) (by omega)) λ_=>lg m 89 (λ_=>lg m 86 (λ_=>lg m 84 (λ_=>hM rM83 (by omega) (by omega)) λ_=>lg m 85 (λ_=>hM rM84 (by omega) (by omega)) λ_=>hM rM85 (by omega) (by omega)) λ_=>lg m 87 (λ_=>hM rM86 (by omega) (by omega)) λ_=>lg m 88 (λ_=>hC (by omega) cm87) λ_=>hM rM88 (by omega) (by omega)) λ_=>lg m 92 (λ_=>lg m 90 (λ_=>hM rM89 (by omega) (by omega)) λ_=>lg m 91 (λ_=>hM rM90 (by omega) (by omega)) λ_=>hC (by omega) cm91) λ_=>lg m 94 (λ_=>lg m 93 (λ_=>hM rM92 (by omega) (by omega)) λ_=>hC (by omega) cm93) λ_=>lg m 95 (λ_=>hC (by omega) cm94) λ_=>hC (by omega) cm95) λ_=>lg m 115 (λ_=>lg m 107 (λ_=>lg m 103 (λ_=>lg m 99 (λ_=>hM rM96 (by omega) (by omega)) λ_=>lg m 101 (λ_=>hM rM99 (by omega) (by omega)) λ_=>hM rM101 (by omega) (by omega)) λ_=>lg m 104 (λ_=>hM rM103 (by omega) (by omega)) λ_=>lg m 106 (λ_=>hM rM104 (by omega) (by omega)) λ_=>hM rM106 (by omega) (by omega)) λ_=>lg m 110 (λ_=>lg m 108 (λ_=>hM rM107 (by omega) (by omega)) λ_=>lg m 109 (λ_=>hM rM108 (by omega) (by omega)) λ_=>hM rM109 (by omega) (by omega)) λ_=>lg m 112 (λ_=>lg m 111 (λ_=>hM rM110 (by omega) (by omega)) λ_=>hC (by omega) cm111) λ_=>lg m 114 (λ_=>hM rM112 (by omega) (by omega)) λ_=>hM rM114 (by omega) (by omega)) λ_=>lg m 121 (λ_=>lg m 118 (λ_=>lg m 116 (λ_=>hM rM115 (by omega) (by omega)) λ_=>lg m 117 (λ_=>hM rM116 (by omega) (by omega)) λ_=>hM rM117 (by omega) (by omega)) λ_=>lg m 119 (λ_=>hM rM118 (by omega) (by omega)) λ_=>lg m 120 (λ_=>hC (by omega) cm119) λ_=>hM rM120 (by omega) (by omega)) λ_=>lg m 124 (λ_=>lg m 122 (λ_=>hM rM121 (by omega) (by omega)) λ_=>lg m 123 (λ_=>hM rM122 (by omega) (by omega)) λ_=>hC (by omega) cm123) λ_=>lg m 126 (λ_=>lg m 125 (λ_=>hM rM124 (by omega) (by omega)) λ_=>hC (by omega) cm125) λ_=>lg m 127 (λ_=>hC (by omega) cm126) λ_=>hC (by omega) cm127)
theorem goodMs:AllS GM TsM:=mkTs_all goodM (Nat.le_refl _)
theorem goodAs:AllS GA TsA:=mkTs_all goodA (Nat.le_refl _)
abbrev RqOk(r:Nat):Prop:=∀i,i<MsR r->∀s A,rq r s A i=true
theorem hS{a n r:Nat}(h:RS a n)(h1:a<=r)(h2:r<a+n):RqOk r:=λi hi s A=>statesM_all (statesM_all (h s A) r h1 h2) i (Nat.zero_le _) (by omega)
theorem hT{r a n i:Nat}(h:RT r a n)(h1:a<=i)(h2:i<a+n):∀s A,rq r s A i=true:=λs A=>statesM_all (h s A) i h1 h2
theorem hE{r a:Nat}(h1:r=a)(h:RqOk a):RqOk r:=h1 ▸ h
theorem rt26:RqOk 26:=λi (hi:i<25)=>lg i 22 (λ_=>hT rT26_0 (by omega) (by omega)) λ_=>hT rT26_22 (by omega) (by omega)
theorem rt53:RqOk 53:=λi (hi:i<25)=>lg i 22 (λ_=>hT rT53_0 (by omega) (by omega)) λ_=>hT rT53_22 (by omega) (by omega)
theorem rt62:RqOk 62:=λi (hi:i<25)=>lg i 22 (λ_=>hT rT62_0 (by omega) (by omega)) λ_=>hT rT62_22 (by omega) (by omega)
theorem rt71:RqOk 71:=λi (hi:i<25)=>lg i 22 (λ_=>hT rT71_0 (by omega) (by omega)) λ_=>hT rT71_22 (by omega) (by omega)
theorem rt74:RqOk 74:=λi (hi:i<25)=>lg i 22 (λ_=>hT rT74_0 (by omega) (by omega)) λ_=>hT rT74_22 (by omega) (by omega)
theorem rt77:RqOk 77:=λi (hi:i<25)=>lg i 22 (λ_=>hT rT77_0 (by omega) (by omega)) λ_=>hT rT77_22 (by omega) (by omega)
theorem rt78:RqOk 78:=λi (hi:i<25)=>lg i 22 (λ_=>hT rT78_0 (by omega) (by omega)) λ_=>hT rT78_22 (by omega) (by omega)
theorem rt79:RqOk 79:=λi (hi:i<25)=>lg i 22 (λ_=>hT rT79_0 (by omega) (by omega)) λ_=>hT rT79_22 (by omega) (by omega)
theorem rt80:RqOk 80:=λi (hi:i<31)=>lg i 9 (λ_=>hT rT80_0 (by omega) (by omega)) λ_=>lg i 21 (λ_=>hT rT80_9 (by omega) (by omega)) λ_=>hT rT80_21 (by omega) (by omega)
theorem rt107:RqOk 107:=λi (hi:i<25)=>lg i 22 (λ_=>hT rT107_0 (by omega) (by omega)) λ_=>hT rT107_22 (by omega) (by omega)
theorem rt134:RqOk 134:=λi (hi:i<25)=>lg i 22 (λ_=>hT rT134_0 (by omega) (by omega)) λ_=>hT rT134_22 (by omega) (by omega)
theorem rt143:RqOk 143:=λi (hi:i<25)=>lg i 22 (λ_=>hT rT143_0 (by omega) (by omega)) λ_=>hT rT143_22 (by omega) (by omega)
theorem rt152:RqOk 152:=λi (hi:i<25)=>lg i 22 (λ_=>hT rT152_0 (by omega) (by omega)) λ_=>hT rT152_22 (by omega) (by omega)
theorem rt155:RqOk 155:=λi (hi:i<25)=>lg i 22 (λ_=>hT rT155_0 (by omega) (by omega)) λ_=>hT rT155_22 (by omega) (by omega)
theorem rt158:RqOk 158:=λi (hi:i<25)=>lg i 22 (λ_=>hT rT158_0 (by omega) (by omega)) λ_=>hT rT158_22 (by omega) (by omega)
theorem rt159:RqOk 159:=λi (hi:i<25)=>lg i 22 (λ_=>hT rT159_0 (by omega) (by omega)) λ_=>hT rT159_22 (by omega) (by omega)
theorem rt160:RqOk 160:=λi (hi:i<25)=>lg i 22 (λ_=>hT rT160_0 (by omega) (by omega)) λ_=>hT rT160_22 (by omega) (by omega)
theorem rt161:RqOk 161:=λi (hi:i<31)=>lg i 9 (λ_=>hT rT161_0 (by omega) (by omega)) λ_=>lg i 21 (λ_=>hT rT161_9 (by omega) (by omega)) λ_=>hT rT161_21 (by omega) (by omega)
theorem rt170:RqOk 170:=λi (hi:i<25)=>lg i 22 (λ_=>hT rT170_0 (by omega) (by omega)) λ_=>hT rT170_22 (by omega) (by omega)
theorem rt179:RqOk 179:=λi (hi:i<25)=>lg i 22 (λ_=>hT rT179_0 (by omega) (by omega)) λ_=>hT rT179_22 (by omega) (by omega)
theorem rt182:RqOk 182:=λi (hi:i<25)=>lg i 22 (λ_=>hT rT182_0 (by omega) (by omega)) λ_=>hT rT182_22 (by omega) (by omega)
theorem rt185:RqOk 185:=λi (hi:i<25)=>lg i 22 (λ_=>hT rT185_0 (by omega) (by omega)) λ_=>hT rT185_22 (by omega) (by omega)
theorem rt186:RqOk 186:=λi (hi:i<25)=>lg i 22 (λ_=>hT rT186_0 (by omega) (by omega)) λ_=>hT rT186_22 (by omega) (by omega)
theorem rt187:RqOk 187:=λi (hi:i<25)=>lg i 22 (λ_=>hT rT187_0 (by omega) (by omega)) λ_=>hT rT187_22 (by omega) (by omega)
theorem rt188:RqOk 188:=λi (hi:i<31)=>lg i 9 (λ_=>hT rT188_0 (by omega) (by omega)) λ_=>lg i 21 (λ_=>hT rT188_9 (by omega) (by omega)) λ_=>hT rT188_21 (by omega) (by omega)
theorem rt197:RqOk 197:=λi (hi:i<25)=>lg i 22 (λ_=>hT rT197_0 (by omega) (by omega)) λ_=>hT rT197_22 (by omega) (by omega)
theorem rt206:RqOk 206:=λi (hi:i<25)=>lg i 22 (λ_=>hT rT206_0 (by omega) (by omega)) λ_=>hT rT206_22 (by omega) (by omega)
theorem rt209:RqOk 209:=λi (hi:i<25)=>lg i 22 (λ_=>hT rT209_0 (by omega) (by omega)) λ_=>hT rT209_22 (by omega) (by omega)
theorem rt212:RqOk 212:=λi (hi:i<25)=>lg i 22 (λ_=>hT rT212_0 (by omega) (by omega)) λ_=>hT rT212_22 (by omega) (by omega)
theorem rt213:RqOk 213:=λi (hi:i<25)=>lg i 22 (λ_=>hT rT213_0 (by omega) (by omega)) λ_=>hT rT213_22 (by omega) (by omega)
theorem rt214:RqOk 214:=λi (hi:i<25)=>lg i 22 (λ_=>hT rT214_0 (by omega) (by omega)) λ_=>hT rT214_22 (by omega) (by omega)
theorem rt215:RqOk 215:=λi (hi:i<31)=>lg i 9 (λ_=>hT rT215_0 (by omega) (by omega)) λ_=>lg i 21 (λ_=>hT rT215_9 (by omega) (by omega)) λ_=>hT rT215_21 (by omega) (by omega)
theorem rt218:RqOk 218:=λi (hi:i<25)=>lg i 22 (λ_=>hT rT218_0 (by omega) (by omega)) λ_=>hT rT218_22 (by omega) (by omega)
theorem rt221:RqOk 221:=λi (hi:i<25)=>lg i 22 (λ_=>hT rT221_0 (by omega) (by omega)) λ_=>hT rT221_22 (by omega) (by omega)
theorem rt222:RqOk 222:=λi (hi:i<25)=>lg i 22 (λ_=>hT rT222_0 (by omega) (by omega)) λ_=>hT rT222_22 (by omega) (by omega)
theorem rt223:RqOk 223:=λi (hi:i<25)=>lg i 22 (λ_=>hT rT223_0 (by omega) (by omega)) λ_=>hT rT223_22 (by omega) (by omega)
theorem rt224:RqOk 224:=λi (hi:i<31)=>lg i 9 (λ_=>hT rT224_0 (by omega) (by omega)) λ_=>lg i 21 (λ_=>hT rT224_9 (by omega) (by omega)) λ_=>hT rT224_21 (by omega) (by omega)
theorem rt227:RqOk 227:=λi (hi:i<25)=>lg i 22 (λ_=>hT rT227_0 (by omega) (by omega)) λ_=>hT rT227_22 (by omega) (by omega)
theorem rt230:RqOk 230:=λi (hi:i<25)=>lg i 22 (λ_=>hT rT230_0 (by omega) (by omega)) λ_=>hT rT230_22 (by omega) (by omega)
theorem rt231:RqOk 231:=λi (hi:i<25)=>lg i 22 (λ_=>hT rT231_0 (by omega) (by omega)) λ_=>hT rT231_22 (by omega) (by omega)
theorem rt232:RqOk 232:=λi (hi:i<25)=>lg i 22 (λ_=>hT rT232_0 (by omega) (by omega)) λ_=>hT rT232_22 (by omega) (by omega)
theorem rt233:RqOk 233:=λi (hi:i<31)=>lg i 9 (λ_=>hT rT233_0 (by omega) (by omega)) λ_=>lg i 21 (λ_=>hT rT233_9 (by omega) (by omega)) λ_=>hT rT233_21 (by omega) (by omega)
theorem rt234:RqOk 234:=λi (hi:i<25)=>lg i 22 (λ_=>hT rT234_0 (by omega) (by omega)) λ_=>hT rT234_22 (by omega) (by omega)
theorem rt235:RqOk 235:=λi (hi:i<25)=>lg i 22 (λ_=>hT rT235_0 (by omega) (by omega)) λ_=>hT rT235_22 (by omega) (by omega)
theorem rt236:RqOk 236:=λi (hi:i<31)=>lg i 9 (λ_=>hT rT236_0 (by omega) (by omega)) λ_=>lg i 21 (λ_=>hT rT236_9 (by omega) (by omega)) λ_=>hT rT236_21 (by omega) (by omega)
theorem rt237:RqOk 237:=λi (hi:i<25)=>lg i 22 (λ_=>hT rT237_0 (by omega) (by omega)) λ_=>hT rT237_22 (by omega) (by omega)
theorem rt238:RqOk 238:=λi (hi:i<25)=>lg i 22 (λ_=>hT rT238_0 (by omega) (by omega)) λ_=>hT rT238_22 (by omega) (by omega)
theorem rt239:RqOk 239:=λi (hi:i<31)=>lg i 9 (λ_=>hT rT239_0 (by omega) (by omega)) λ_=>lg i 21 (λ_=>hT rT239_9 (by omega) (by omega)) λ_=>hT rT239_21 (by omega) (by omega)
theorem rt240:RqOk 240:=λi (hi:i<31)=>lg i 9 (λ_=>hT rT240_0 (by omega) (by omega)) λ_=>lg i 21 (λ_=>hT rT240_9 (by omega) (by omega)) λ_=>hT rT240_21 (by omega) (by omega)
theorem rt241:RqOk 241:=λi (hi:i<31)=>lg i 9 (λ_=>hT rT241_0 (by omega) (by omega)) λ_=>lg i 21 (λ_=>hT rT241_9 (by omega) (by omega)) λ_=>hT rT241_21 (by omega) (by omega)
theorem rt242:RqOk 242:=λi (hi:i<37)=>lg i 13 (λ_=>lg i 3 (λ_=>hT rT242_0 (by omega) (by omega)) λ_=>lg i 8 (λ_=>hT rT242_3 (by omega) (by omega)) λ_=>hT rT242_8 (by omega) (by omega)) λ_=>lg i 22 (λ_=>lg i 17 (λ_=>hT rT242_13 (by omega) (by omega)) λ_=>hT rT242_17 (by omega) (by omega)) λ_=>lg i 27 (λ_=>hT rT242_22 (by omega) (by omega)) λ_=>hT rT242_27 (by omega) (by omega)
theorem goodR(r:Nat)(hr:r<244):RqOk r:=lg r 160 (λ_=>lg r 80 (λ_=>lg r 54 (λ_=>lg r 27 (λ_=>lg r 18 (λ_=>lg r 8 (λ_=>hS rS0 (by omega) (by omega)) λ_=>lg r 14 (λ_=>hS rS8 (by omega) (by omega)) λ_=>hS rS14 (by omega) (by omega)) λ_=>lg r 24 (λ_=>lg r 22 (λ_=>hS rS18 (by omega) (by omega)) λ_=>hS rS22 (by omega) (by omega)) λ_=>lg r 26 (λ_=>hS rS24 (by omega) (by omega)) λ_=>hE (by omega) rt26) λ_=>lg r 45 (λ_=>lg r 35 (λ_=>hS rS27 (by omega) (by omega)) λ_=>lg r 41 (λ_=>hS rS35 (by omega) (by omega)) λ_=>hS rS41 (by omega) (by omega)) λ_=>lg r 51 (λ_=>lg r 49 (λ_=>hS rS45 (by omega) (by omega)) λ_=>hS rS49 (by omega) (by omega)) λ_=>lg r 53 (λ_=>hS rS51 (by omega) (by omega)) λ_=>hE (by omega) rt53) λ_=>lg r 71 (λ_=>lg r 62 (λ_=>lg r 58 (λ_=>hS rS54 (by omega) (by omega)) λ_=>lg r 60 (λ_=>hS rS58 (by omega) (by omega)) λ_=>hS rS60 (by omega) (by omega)) λ_=>lg r 67 (λ_=>lg r 63 (λ_=>hE (by omega) rt62) λ_=>hS rS63 (by omega) (by omega)) λ_=>lg r 69 (λ_=>hS rS67 (by omega) (by omega)) λ_=>hS rS69 (by omega) (by omega)) λ_=>lg r 75 (λ_=>lg r 72 (λ_=>hE (by omega) rt71) λ_=>lg r 74 (λ_=>hS rS72 (by omega) (by omega)) λ_=>hE (by omega) rt74) λ_=>lg r 78 (λ_=>lg r 77 (λ_=>hS rS75 (by omega) (by omega)) λ_=>hE (by omega) rt77) λ_=>lg r 79 (λ_=>hE (by omega) rt78) λ_=>hE (by omega) rt79) λ_=>lg r 134 (λ_=>lg r 107 (λ_=>lg r 95 (λ_=>lg r 81 (λ_=>hE (by omega) rt80) λ_=>lg r 89 (λ_=>hS rS81 (by omega) (by omega)) λ_=>hS rS89 (by omega) (by omega)) λ_=>lg r 103 (λ_=>lg r 99 (λ_=>hS rS95 (by omega) (by omega)) λ_=>hS rS99 (by omega) (by omega)) λ_=>lg r 105 (λ_=>hS rS103 (by omega) (by omega)) λ_=>hS rS105 (by omega) (by omega)) λ_=>lg r 122 (λ_=>lg r 108 (λ_=>hE (by omega) rt107) λ_=>lg r 116 (λ_=>hS rS108 (by omega) (by omega)) λ_=>hS rS116 (by omega) (by omega)) λ_=>lg r 130 (λ_=>lg r 126 (λ_=>hS rS122 (by omega) (by omega)) λ_=>hS rS126 (by omega) (by omega)) λ_=>lg r 132 (λ_=>hS rS130 (by omega) (by omega)) λ_=>hS rS132 (by omega) (by omega)) λ_=>lg r 150 (λ_=>lg r 141 (λ_=>lg r 135 (λ_=>hE (by omega) rt134) λ_=>lg r 139 (λ_=>hS rS135 (by omega) (by omega)) λ_=>hS rS139 (by omega) (by omega)) λ_=>lg r 144 (λ_=>lg r 143 (λ_=>hS rS141 (by omega) (by omega)) λ_=>hE (by omega) rt143) λ_=>lg r 148 (λ_=>hS rS144 (by omega) (by omega)) λ_=>hS rS148 (by omega) (by omega)) λ_=>lg r 155 (λ_=>lg r 152 (λ_=>hS rS150 (by omega) (by omega)) λ_=>lg r 153 (λ_=>hE (by omega) rt152) λ_=>hS rS153 (by omega) (by omega)) λ_=>lg r 158 (λ_=>lg r 156 (λ_=>hE (by omega) rt155) λ_=>hS rS156 (by omega) (by omega)) λ_=>lg r 159 (λ_=>hE (by omega) rt158) λ_=>hE (by omega) rt159) λ_=>lg r 212 (λ_=>lg r 186 (λ_=>lg r 175 (λ_=>lg r 166 (λ_=>lg r 161 (λ_=>hE (by omega) rt160) λ_=>lg r 162 (λ_=>hE (by omega) rt161) λ_=>hS rS162 (by omega) (by omega)) λ_=>lg r 170 (λ_=>lg r 168 (λ_=>hS rS166 (by omega) (by omega)) λ_=>hS rS168 (by omega) (by omega)) λ_=>lg r 171 (λ_=>hE (by omega) rt170) λ_=>hS rS171 (by omega) (by omega)) λ_=>lg r 180 (λ_=>lg r 177 (λ_=>hS rS175 (by omega) (by omega)) λ_=>lg r 179 (λ_=>hS rS177 (by omega) (by omega)) λ_=>hE (by omega) rt179) λ_=>lg r 183 (λ_=>lg r 182 (λ_=>hS rS180 (by omega) (by omega)) λ_=>hE (by omega) rt182) λ_=>lg r 185 (λ_=>hS rS183 (by omega) (by omega)) λ_=>hE (by omega) rt185) λ_=>lg r 198 (λ_=>lg r 189 (λ_=>lg r 187 (λ_=>hE (by omega) rt186) λ_=>lg r 188 (λ_=>hE (by omega) rt187) λ_=>hE (by omega) rt188) λ_=>lg r 195 (λ_=>lg r 193 (λ_=>hS rS189 (by omega) (by omega)) λ_=>hS rS193 (by omega) (by omega)) λ_=>lg r 197 (λ_=>hS rS195 (by omega) (by omega)) λ_=>hE (by omega) rt197) λ_=>lg r 206 (λ_=>lg r 202 (λ_=>hS rS198 (by omega) (by omega)) λ_=>lg r 204 (λ_=>hS rS202 (by omega) (by omega)) λ_=>hS rS204 (by omega) (by omega)) λ_=>lg r 209 (λ_=>lg r 207 (λ_=>hE (by omega) rt206) λ_=>hS rS207 (by omega) (by omega)) λ_=>lg r 210 (λ_=>hE (by omega) rt209) λ_=>hS rS210 (by omega) (by omega)) λ_=>lg r 230 (λ_=>lg r 221 (λ_=>lg r 215 (λ_=>lg r 213 (λ_=>hE (by omega) rt212) λ_=>lg r 214 (λ_=>hE (by omega) rt213) λ_=>hE (by omega) rt214) λ_=>lg r 218 (λ_=>lg r 216 (λ_=>hE (by omega) rt215) λ_=>hS rS216 (by omega) (by omega)) λ_=>lg r 219 (λ_=>hE (by omega) rt218) λ_=>hS rS219 (by omega) (by omega)) λ_=>lg r 224 (λ_=>lg r 222 (λ_=>hE (by omega) rt221) λ_=>lg r 223 (λ_=>hE (by omega) rt222) λ_=>hE (by omega) rt223) λ_=>lg r 227 (λ_=>lg r 225 (λ_=>hE (by omega) rt224) λ_=>hS rS225 (by omega) (by omega)) λ_=>lg r 228 (λ_=>hE (by omega) rt227) λ_=>hS rS228 (by omega) (by omega)) λ_=>lg r 237 (λ_=>lg r 233 (λ_=>lg r 231 (λ_=>hE (by omega) rt230) λ_=>lg r 232 (λ_=>hE (by omega) rt231) λ_=>hE (by omega) rt232) λ_=>lg r 235 (λ_=>lg r 234 (λ_=>hE (by omega) rt233) λ_=>hE (by omega) rt234) λ_=>lg r 236 (λ_=>hE (by omega) rt235) λ_=>hE (by omega) rt236) λ_=>lg r 240 (λ_=>lg r 238 (λ_=>hE (by omega) rt237) λ_=>lg r 239 (λ_=>hE (by omega) rt238) λ_=>hE (by omega) rt239) λ_=>lg r 242 (λ_=>lg r 241 (λ_=>hE (by omega) rt240) λ_=>hE (by omega) rt241) λ_=>lg r 243 (λ_=>hE (by omega) rt242) λ_=>hS rS243 (by omega) (by omega)
theorem hX{a n x:Nat}(h:RX a n)(h1:a<=x)(h2:x<a+n):∀s A,exS s A x=true:=λs A=>statesM_all (h s A) x h1 h2
theorem goodX(x:Nat)(hx:x<768):∀s A,exS s A x=true:=lg x 459 (λ_=>lg x 267 (λ_=>lg x 151 (λ_=>lg x 83 (λ_=>hX rX0 (by omega) (by omega)) λ_=>hX rX83 (by omega) (by omega)) λ_=>lg x 199 (λ_=>hX rX151 (by omega) (by omega)) λ_=>hX rX199 (by omega) (by omega)) λ_=>lg x 351 (λ_=>lg x 315 (λ_=>hX rX267 (by omega) (by omega)) λ_=>hX rX315 (by omega) (by omega)) λ_=>lg x 391 (λ_=>hX rX351 (by omega) (by omega)) λ_=>hX rX391 (by omega) (by omega)) λ_=>lg x 631 (λ_=>lg x 543 (λ_=>lg x 507 (λ_=>hX rX459 (by omega) (by omega)) λ_=>hX rX507 (by omega) (by omega)) λ_=>lg x 583 (λ_=>hX rX543 (by omega) (by omega)) λ_=>hX rX583 (by omega) (by omega)) λ_=>lg x 707 (λ_=>lg x 667 (λ_=>hX rX631 (by omega) (by omega)) λ_=>hX rX667 (by omega) (by omega)) λ_=>lg x 739 (λ_=>hX rX707 (by omega) (by omega)) λ_=>hX rX739 (by omega) (by omega)
/-- where an end's number lies -/
def xOf(t q:Nat):Nat:=Nat.add (Nat.mul (Nat.add (Nat.mul (mkP t) 6) (cN t)) 4) q
def okT(t:Nat):Bool:=Nat.ble (Nat.succ (mkP t)) 32&&Nat.ble (cN t) (pC (mkP t))&&Nat.ble (cN t) 5
theorem okTs:statesM okT 0 243=true:=by kernel_rfl
theorem hdQs:statesM hdQ 0 972=true:=by kernel_rfl
theorem tkQs:statesM (λr=>statesM (tkQ r) 0 (Nat.succ (MsR r))) 0 244=true:=by kernel_rfl
theorem goodE(t q:Nat)(ht:t<243)(hq:q<4):∀s A,exQ (mkP t) (cN t) q s A=true:=by
 intro s A;have h:=statesM_all okTs t (Nat.zero_le _) (by omega);unfold okT at h;simp only[Bool.and_eq_true]at h;have h1:=Nat.le_of_ble_eq_true h.1.1;have h3:=Nat.le_of_ble_eq_true h.2;have e0:xOf t q=(mkP t*6+cN t)*4+q:=rfl;have e1:xOf t q / 24=mkP t:=by omega
 have e2:xOf t q / 4 % 6=cN t:=by omega
 have e3:xOf t q % 4=q:=by omega
 have hx:=goodX (xOf t q) (by omega) s A;have hv:exV (xOf t q)=true:=by show Nat.ble (xOf t q / 4 % 6) (pC (xOf t q / 24))=true;rw[e1,e2]; exact h.1.2
 have hx':(bif exV (xOf t q)then exQ (xOf t q / 24) (xOf t q / 4 % 6) (xOf t q % 4) s A else true)=true:=hx;rw[hv,e1,e2,e3]at hx';exact hx'
theorem rOf_co(t q:Nat)(ht:t<243)(h0:t=0\/1<=mkP t):tOf (rOf t q)=t/\cOf (rOf t q)=coX (mkP t) q/\rOf t q<244:=by
 match t,q with
 | 0,0=>exact⟨rfl,rfl,by decide⟩| 0,q+1=>exact⟨rfl,rfl,(show 243<244 by decide)⟩|t+1,q=>
  have e:rOf (t+1) q=t+1:=by cases q <;> rfl
  have e2:Nat.beq (t+1) 243=false:=by
   cases h:Nat.beq (t+1) 243 with
   |false=>rfl|true=>have:=Nat.eq_of_beq_eq_true h; omega
  rw[e];refine⟨?_,?_,by omega⟩
  . unfold tOf; rw[e2]; rfl
  . unfold cOf; rw[e2];have h1:1<=mkP (t+1):=by omega
    obtain⟨k,hk⟩:∃k,mkP (t+1)=k+1:=⟨mkP (t+1) - 1,by omega⟩
    rw[hk];cases q <;> rfl
def posT(t:Nat):Bool:=Nat.beq t 0 || Nat.ble 1 (mkP t)
theorem posTs:statesM posT 0 243=true:=by kernel_rfl
theorem lastR(r:Nat):tsR r (MsR r)=tsX (mkP (tOf r)) (cN (tOf r)) (cOf r):=by show(bif Nat.beq (MsR r) (MsX (cN (tOf r)))then tsX (mkP (tOf r)) (cN (tOf r)) (cOf r)else _)=_;rw[show Nat.beq (MsR r) (MsX (cN (tOf r)))=true from Nat.beq_refl _];rfl
theorem goodB(x:Nat)(hx:x<972):GB (gB x):=by
 have ht:x / 4<243:=by omega
 have hq:x % 4<4:=by omega
 have hp:=statesM_all posTs (x / 4) (Nat.zero_le _) (by omega);have h0:x / 4=0\/1<=mkP (x / 4):=by
  unfold posT at hp;rw[Bool.or_eq_true]at hp;rcases hp with hp |hp
  . exact .inl (Nat.eq_of_beq_eq_true hp)
  . exact .inr (Nat.le_of_ble_eq_true hp)
 obtain⟨e1,e2,e3⟩:=rOf_co (x / 4) (x % 4) ht h0;have h5:=goodE (x / 4) (x % 4) ht hq;refine⟨tsR (rOf (x / 4) (x % 4)),MsR (rOf (x / 4) (x % 4)),xO (mkP (x / 4)) (cN (x / 4)) (x % 4),eX (mkP (x / 4)) (cN (x / 4)) (x % 4),wtX (mkP (x / 4)) (cN (x / 4)) (x % 4),trR (rOf (x / 4) (x % 4)),goR (rOf (x / 4) (x % 4)),rfl,?_,λi hi=>?_,goodR _ e3,λs A=>?_⟩
 . exact statesM_all hdQs x (Nat.zero_le _) (by omega)
 . have h:=statesM_all (statesM_all tkQs _ (Nat.zero_le _) (show rOf (x / 4) (x % 4)<0+244 by omega)) i (Nat.zero_le _) (by omega);unfold tkQ at h;rw[Bool.and_eq_true,decide_eq_true_eq]at h;exact h
 . rw[lastR,e1,e2];exact h5 s A
theorem goodBs:AllS GB TsB:=mkTs_all goodB (Nat.le_refl _)
theorem boundA:boundIs 40 TsA=true:=by kernel_rfl
theorem compL:compFn Tryz.prog 3=.mk ccL rsL:=c3_ok.symm.trans rfl
theorem vS:leaves ksL .leaf eS=some [eS]:=by kernel_rfl
theorem allSt:AllG (λe=>∀(s:Nat->Int) (A:Key->Option Value),∃hs,startOf Tryz.prog codeN natX 1000 100 wsL lensL TsA pthA ccL argsL n1 (linSym s (e.known A)) (e.known A) hs=true) [eS]:=
 allG_cons (λs A=>startN_ok (ts:=[0]) (show startN Tryz.prog codeN natX 1000 100 wsL lensL TsA pthA ccL argsL n1 s (eS.known A) [0]=true by kernel_rfl)) allG_nil
theorem pathsL{c:Code}(hb:Tryz.f3.body=some c):∃xa xb bl,atC [.r,.r,.r,.r,.r,.r,.r] c=some (.seq xa xb)/\subC pthB c=some bl:=by obtain rfl:=Option.some.inj (((show Tryz.f3.body=some _ from rfl):Tryz.f3.body=some _).symm.trans hb);exact⟨_,_,_,rfl,rfl⟩
section
variable{W:World}{w0:Win}{v0:Value}
theorem findNw(hk0:w0.key=wk0):findW [w0] wk0=some w0:=by show(match decide (w0.key=wk0)with |true=>some w0 |false=>findW [] wk0)=some w0;rw[hk0];rfl
theorem winisW(hk0:w0.key=wk0)(hz0:w0.esz=1)(ha0:IntArg W v0 w0)(J:Nat->Int)(hl:LensAre [w0] lensL J):WinIs [w0] W J ksL:=by
 refine⟨λj k hj=>?_,λj k f n ki wn wi hj=>?_,λj k f wn t hj=>?_⟩
 . match j,hj with
   | 0,hj=>obtain rfl:(wk0,Kd.i)=k:=Option.some.inj hj;exact⟨w0,v0,by rw[hk0]; exact findNw hk0,hk0,len_of hl (by simp[lensL]) (findNw hk0),hz0,ha0⟩
   |n+1,hj=>cases hj
 . match j,hj with
   | 0,hj=>cases hj|n+1,hj=>cases hj
 . match j,hj with
   | 0,hj=>cases hj|n+1,hj=>cases hj
def argW(v0:Value):Key->Option Value:=λk=>if k=wk0 then some v0 else none
theorem argsW(hk0:w0.key=wk0)(hz0:w0.esz=1)(ha0:IntArg W v0 w0):ArgsAre (argW v0) [w0]:=by intro w hw;rw[List.mem_singleton.1 hw];exact⟨by rw[hk0]; exact congrArg some ha0.val,ha0.base,by rw[hz0]; exact ha0.size,ha0.cap⟩
theorem wsW(hk0:w0.key=wk0)(hz0:w0.esz=1):wsOf [w0]=wsL:=by simp only[wsOf,List.map_cons,List.map_nil,hk0,hz0];rfl
theorem loopsW(hk0:w0.key=wk0)(hz0:w0.esz=1)(ha0:IntArg W v0 w0){c:Code}(hb:Tryz.f3.body=some c):LoopOk Tryz.prog (frameBits Tryz.f3 c) Tryz.f3.ntmps 100 (argW v0) [w0] lensL W Tryz.f3 c TsA pthA:=
 have hB:LoopOk Tryz.prog (frameBits Tryz.f3 c) Tryz.f3.ntmps 100 (argW v0) [w0] lensL W Tryz.f3 c TsB pthB:=loopOk_R (code:=codeN) (nat:=natX) (natE:=natE) (fuel:=1000) mixedN codeN_ok natX_ok natE_ok Tryz.func3 hb compL (let ⟨_,_,bl,_,h⟩:=pathsL hb; ⟨bl,h⟩) globN (by kernel_rfl) goodBs
 loopOk_fn (code:=codeN) (nat:=natX) (fuel:=1000) (bound:=40) (nx:=some nxA) mixedN codeN_ok natX_ok globN Tryz.func3 hb compL (argsW hk0 hz0 ha0) boundA
  ⟨rfl,.inr ⟨rfl,let ⟨_,hnr,hcc⟩:=compFn_inv Tryz.func3 hb compL
   let ⟨xa,xb,bl,hat,hs2⟩:=pathsL hb
   ⟨xa,xb,hat,midOk_of (ks:=ksL) (ws:=wsL) mixedN codeN_ok natX_ok globN hnr (argsW hk0 hz0 ha0) (wsW hk0 hz0) (winisW hk0 hz0 ha0) hat hs2 hB (by rw[<- hcc]; exact goodMs)⟩⟩⟩ (passes_allM (wsW hk0 hz0) (argsW hk0 hz0 ha0) (winisW hk0 hz0 ha0) goodAs)
theorem walkO(hk0:w0.key=wk0)(hz0:w0.esz=1)(ha0:IntArg W v0 w0)(a:Int)(ha1 : -9223372036854775808<=a)(ha2:a<=9223372036854775807)(hl0:(w0.len:Int)<=9223372036854775807):Calls Tryz.prog 3 #[v0,.int .i64 a] W λe w'=>e=.returned (.bool true)/\Below W.heap.size W w':=by
 refine calls_treeM (J:=λi=>if i=1 then(w0.len:Int)else if i=2 then a else 0) (A:=argW v0) (wins:=[w0]) (ws:=wsL) (L:=lensL) (ks:=ksL) (tree:=.leaf) (ls:=[eS]) (e0:=eS) (args:=argsL) (G:=100) (n:=n1) (Ts:=TsA) (p:=pthA) (cc:=ccL) (rs:=rsL) (fuel:=1000) (code:=codeN) (nat:=natX)
  (wsW hk0 hz0) vS (by kernel_rfl) allSt ⟨?_,trivial,trivial,λq hq=>by cases hq⟩ ?_ (winisW hk0 hz0 ha0) mixedN codeN_ok natX_ok Tryz.func3 (show Tryz.f3.body=some _ from rfl) compL rfl globN (by decide) (by kernel_rfl) (argsW hk0 hz0 ha0) ?_ (loopsW hk0 hz0 ha0 (show Tryz.f3.body=some _ from rfl))
 . exact⟨⟨Int.le_refl _,Int.le_refl _⟩,⟨show(0:Int)<=(w0.len:Int)by omega,hl0⟩,⟨ha1,ha2⟩,⟨Int.le_refl _,Int.le_refl _⟩,⟨Int.le_refl _,Int.le_refl _⟩,⟨Int.le_refl _,Int.le_refl _⟩,⟨Int.le_refl _,Int.le_refl _⟩,⟨Int.le_refl _,Int.le_refl _⟩,⟨Int.le_refl _,Int.le_refl _⟩,⟨Int.le_refl _,Int.le_refl _⟩,⟨Int.le_refl _,Int.le_refl _⟩,⟨Int.le_refl _,Int.le_refl _⟩,⟨Int.le_refl _,Int.le_refl _⟩,⟨Int.le_refl _,Int.le_refl _⟩,⟨Int.le_refl _,Int.le_refl _⟩,⟨Int.le_refl _,Int.le_refl _⟩,⟨Int.le_refl _,Int.le_refl _⟩,trivial⟩
 . intro q hq;simp only[lensL,List.mem_cons,List.mem_nil_iff,or_false]at hq;subst hq;exact⟨_,findNw hk0,rfl⟩
 . intro J' K' hK hag;have hp:psiW 100 [w0] wk0=some ⟨w0.B,w0.x+0*w0.esz,w0.sz,λn=>n⟩:=by unfold psiW;rw[findNw hk0]
   refine relsW (base:=w0.base) (len:=w0.len) (cap:=w0.cap) (i:=0) (j:=1) (congrFun hK _) ha0.val (hag 0 (.inl (by decide))) (hag 1 (.inl (by decide))) (λh=>⟨_,w0.x,hp,ha0.base h,(by show w0.x+0*w0.esz=w0.x+0*1; omega),ha0.size,ha0.cap⟩) ?_;have e:J' 2=a:=hag 2 (.inl (by decide))
   have:=relsI (K:=K') (J:=J') (Y:=psiW 100 [w0]) (i:=2) rels0
   rw[e]at this;exact this
end
end
end Go.Ev
