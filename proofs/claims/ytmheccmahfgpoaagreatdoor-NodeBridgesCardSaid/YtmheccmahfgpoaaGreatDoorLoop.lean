/- The states joined: each is right, by the runs over stretches of its passes; the law, by its loop. -/
import Derived.Test.YtmheccmahfgpoaaGreatDoorSe0
import Derived.Test.YtmheccmahfgpoaaGreatDoorSe1
import Derived.Test.YtmheccmahfgpoaaGreatDoorSe2
import Derived.Test.YtmheccmahfgpoaaGreatDoorSe3
import Derived.Test.YtmheccmahfgpoaaGreatDoorSe4
import Derived.Test.YtmheccmahfgpoaaGreatDoorSe5
import Derived.Test.YtmheccmahfgpoaaGreatDoorSe6
import Derived.Test.YtmheccmahfgpoaaGreatDoorSe7
import Derived.Test.YtmheccmahfgpoaaGreatDoorSe8
import Derived.Test.YtmheccmahfgpoaaGreatDoorSe9
import Derived.Test.YtmheccmahfgpoaaGreatDoorSe10
import Derived.Test.YtmheccmahfgpoaaGreatDoorSe11
import Derived.Test.YtmheccmahfgpoaaGreatDoorRun0
import Derived.Test.YtmheccmahfgpoaaGreatDoorRun1
import Derived.Test.YtmheccmahfgpoaaGreatDoorRun2
import Derived.Test.YtmheccmahfgpoaaGreatDoorRun3
import Derived.Test.YtmheccmahfgpoaaGreatDoorRun4
import Derived.Test.YtmheccmahfgpoaaGreatDoorRun5
import Derived.Test.YtmheccmahfgpoaaGreatDoorRun6
import Derived.Test.YtmheccmahfgpoaaGreatDoorRun7
import Derived.Test.YtmheccmahfgpoaaGreatDoorRun8
import Derived.Test.YtmheccmahfgpoaaGreatDoorRun9
import Derived.Test.YtmheccmahfgpoaaGreatDoorRun10
import Derived.Test.YtmheccmahfgpoaaGreatDoorRun11
namespace Go.Ev
open Go.RowKit
open Go.Proofs
set_option maxRecDepth 1000000
set_option linter.unusedVariables false
noncomputable section
def AllUp (f:Nat→Prop):Nat→Prop
 | 0=>True
 | n+1=>AllUp f n∧f n
theorem allUp {f:Nat→Prop}:∀ {n:Nat},AllUp f n→∀ k,k<n→f k
 | 0,_,k,hk=>absurd hk (by omega)
 | n+1,h,k,hk=>if e:k=n then e ▸ h.2 else allUp h.1 k (by omega)
theorem cA:∀ L,L<101→∀ s,ckA L s=true:=allUp (f:=fun L=>∀ s,ckA L s=true) ⟨⟨⟨⟨⟨⟨⟨⟨⟨⟨⟨⟨⟨⟨⟨⟨⟨⟨⟨⟨⟨⟨⟨⟨⟨⟨⟨⟨⟨⟨⟨⟨⟨⟨⟨⟨⟨⟨⟨⟨⟨⟨⟨⟨⟨⟨⟨⟨⟨⟨⟨⟨⟨⟨⟨⟨⟨⟨⟨⟨⟨⟨⟨⟨⟨⟨⟨⟨⟨⟨⟨⟨⟨⟨⟨⟨⟨⟨⟨⟨⟨⟨⟨⟨⟨⟨⟨⟨⟨⟨⟨⟨⟨⟨⟨⟨⟨⟨⟨⟨⟨trivial,eA0⟩,eA1⟩,eA2⟩,eA3⟩,eA4⟩,eA5⟩,eA6⟩,eA7⟩,eA8⟩,eA9⟩,eA10⟩,eA11⟩,eA12⟩,eA13⟩,eA14⟩,eA15⟩,eA16⟩,eA17⟩,eA18⟩,eA19⟩,eA20⟩,eA21⟩,eA22⟩,eA23⟩,eA24⟩,eA25⟩,eA26⟩,eA27⟩,eA28⟩,eA29⟩,eA30⟩,eA31⟩,eA32⟩,eA33⟩,eA34⟩,eA35⟩,eA36⟩,eA37⟩,eA38⟩,eA39⟩,eA40⟩,eA41⟩,eA42⟩,eA43⟩,eA44⟩,eA45⟩,eA46⟩,eA47⟩,eA48⟩,eA49⟩,eA50⟩,eA51⟩,eA52⟩,eA53⟩,eA54⟩,eA55⟩,eA56⟩,eA57⟩,eA58⟩,eA59⟩,eA60⟩,eA61⟩,eA62⟩,eA63⟩,eA64⟩,eA65⟩,eA66⟩,eA67⟩,eA68⟩,eA69⟩,eA70⟩,eA71⟩,eA72⟩,eA73⟩,eA74⟩,eA75⟩,eA76⟩,eA77⟩,eA78⟩,eA79⟩,eA80⟩,eA81⟩,eA82⟩,eA83⟩,eA84⟩,eA85⟩,eA86⟩,eA87⟩,eA88⟩,eA89⟩,eA90⟩,eA91⟩,eA92⟩,eA93⟩,eA94⟩,eA95⟩,eA96⟩,eA97⟩,eA98⟩,eA99⟩,eA100⟩
theorem cB:∀ L,L<101→∀ s,ckB L s=true:=allUp (f:=fun L=>∀ s,ckB L s=true) ⟨⟨⟨⟨⟨⟨⟨⟨⟨⟨⟨⟨⟨⟨⟨⟨⟨⟨⟨⟨⟨⟨⟨⟨⟨⟨⟨⟨⟨⟨⟨⟨⟨⟨⟨⟨⟨⟨⟨⟨⟨⟨⟨⟨⟨⟨⟨⟨⟨⟨⟨⟨⟨⟨⟨⟨⟨⟨⟨⟨⟨⟨⟨⟨⟨⟨⟨⟨⟨⟨⟨⟨⟨⟨⟨⟨⟨⟨⟨⟨⟨⟨⟨⟨⟨⟨⟨⟨⟨⟨⟨⟨⟨⟨⟨⟨⟨⟨⟨⟨⟨trivial,eB0⟩,eB1⟩,eB2⟩,eB3⟩,eB4⟩,eB5⟩,eB6⟩,eB7⟩,eB8⟩,eB9⟩,eB10⟩,eB11⟩,eB12⟩,eB13⟩,eB14⟩,eB15⟩,eB16⟩,eB17⟩,eB18⟩,eB19⟩,eB20⟩,eB21⟩,eB22⟩,eB23⟩,eB24⟩,eB25⟩,eB26⟩,eB27⟩,eB28⟩,eB29⟩,eB30⟩,eB31⟩,eB32⟩,eB33⟩,eB34⟩,eB35⟩,eB36⟩,eB37⟩,eB38⟩,eB39⟩,eB40⟩,eB41⟩,eB42⟩,eB43⟩,eB44⟩,eB45⟩,eB46⟩,eB47⟩,eB48⟩,eB49⟩,eB50⟩,eB51⟩,eB52⟩,eB53⟩,eB54⟩,eB55⟩,eB56⟩,eB57⟩,eB58⟩,eB59⟩,eB60⟩,eB61⟩,eB62⟩,eB63⟩,eB64⟩,eB65⟩,eB66⟩,eB67⟩,eB68⟩,eB69⟩,eB70⟩,eB71⟩,eB72⟩,eB73⟩,eB74⟩,eB75⟩,eB76⟩,eB77⟩,eB78⟩,eB79⟩,eB80⟩,eB81⟩,eB82⟩,eB83⟩,eB84⟩,eB85⟩,eB86⟩,eB87⟩,eB88⟩,eB89⟩,eB90⟩,eB91⟩,eB92⟩,eB93⟩,eB94⟩,eB95⟩,eB96⟩,eB97⟩,eB98⟩,eB99⟩,eB100⟩
theorem natL0_ok (L:Nat):∀ s K,KnownOk s K→@NatsOk (linSym s K) Tryz.prog (natL0 L):=natQ0_ok
theorem okI1 (L:Nat) (h:L<101):∀ e∈fam1 L,FsOk Tryz.prog 109 e:=fsChk_ok (fuel:=1000) (G:=100) mixedN codeN_ok (natL0_ok L) fun s=>by
 have:=cA L h s
 unfold ckA at this
 simp only [Bool.and_eq_true] at this
 exact this.1.1.1.1.1.1.1.1.1
theorem natL1_ok (L:Nat) (h:L<101):∀ s K,KnownOk s K→@NatsOk (linSym s K) Tryz.prog (natL1 L):=natF_ok mixedN codeN_ok globN (okI1 L h) (natL0_ok L)
theorem okF1 (L:Nat):∀ e∈fam1 L,FsOk Tryz.prog 109 e:=(Nat.lt_or_ge L 101).elim (okI1 L) fun h e he=>by
 rw [fam1_no h] at he
 cases he
theorem okI2 (L:Nat) (h:L<101):∀ e∈fam2 L,FsOk Tryz.prog 176 e:=fsChk_ok (fuel:=1000) (G:=100) mixedN codeN_ok (natL1_ok L h) fun s=>by
 have:=cA L h s
 unfold ckA at this
 simp only [Bool.and_eq_true] at this
 exact this.1.1.1.1.1.1.1.1.2
theorem natL2_ok (L:Nat) (h:L<101):∀ s K,KnownOk s K→@NatsOk (linSym s K) Tryz.prog (natL2 L):=natF_ok mixedN codeN_ok globN (okI2 L h) (natL1_ok L h)
theorem okF2 (L:Nat):∀ e∈fam2 L,FsOk Tryz.prog 176 e:=(Nat.lt_or_ge L 101).elim (okI2 L) fun h e he=>by
 rw [fam2_no h] at he
 cases he
theorem okI3 (L:Nat) (h:L<101):∀ e∈fam3 L,FsOk Tryz.prog 79 e:=fsChk_ok (fuel:=1000) (G:=100) mixedN codeN_ok (natL2_ok L h) fun s=>by
 have:=cA L h s
 unfold ckA at this
 simp only [Bool.and_eq_true] at this
 exact this.1.1.1.1.1.1.1.2
theorem natL3_ok (L:Nat) (h:L<101):∀ s K,KnownOk s K→@NatsOk (linSym s K) Tryz.prog (natL3 L):=natF_ok mixedN codeN_ok globN (okI3 L h) (natL2_ok L h)
theorem okF3 (L:Nat):∀ e∈fam3 L,FsOk Tryz.prog 79 e:=(Nat.lt_or_ge L 101).elim (okI3 L) fun h e he=>by
 rw [fam3_no h] at he
 cases he
theorem okI4 (L:Nat) (h:L<101):∀ e∈fam4 L,FsOk Tryz.prog 20 e:=fsChk_ok (fuel:=1000) (G:=100) mixedN codeN_ok (natL3_ok L h) fun s=>by
 have:=cA L h s
 unfold ckA at this
 simp only [Bool.and_eq_true] at this
 exact this.1.1.1.1.1.1.2
theorem natL4_ok (L:Nat) (h:L<101):∀ s K,KnownOk s K→@NatsOk (linSym s K) Tryz.prog (natL4 L):=natF_ok mixedN codeN_ok globN (okI4 L h) (natL3_ok L h)
theorem okF4 (L:Nat):∀ e∈fam4 L,FsOk Tryz.prog 20 e:=(Nat.lt_or_ge L 101).elim (okI4 L) fun h e he=>by
 rw [fam4_no h] at he
 cases he
theorem okI5 (L:Nat) (h:L<101):∀ e∈fam5 L,FsOk Tryz.prog 129 e:=fsChk_ok (fuel:=1000) (G:=100) mixedN codeN_ok (natL4_ok L h) fun s=>by
 have:=cA L h s
 unfold ckA at this
 simp only [Bool.and_eq_true] at this
 exact this.1.1.1.1.1.2
theorem natL5_ok (L:Nat) (h:L<101):∀ s K,KnownOk s K→@NatsOk (linSym s K) Tryz.prog (natL5 L):=natF_ok mixedN codeN_ok globN (okI5 L h) (natL4_ok L h)
theorem okF5 (L:Nat):∀ e∈fam5 L,FsOk Tryz.prog 129 e:=(Nat.lt_or_ge L 101).elim (okI5 L) fun h e he=>by
 rw [fam5_no h] at he
 cases he
theorem okI6 (L:Nat) (h:L<101):∀ e∈fam6 L,FsOk Tryz.prog 14 e:=fsChk_ok (fuel:=1000) (G:=100) mixedN codeN_ok (natL5_ok L h) fun s=>by
 have:=cA L h s
 unfold ckA at this
 simp only [Bool.and_eq_true] at this
 exact this.1.1.1.1.2
theorem natL6_ok (L:Nat) (h:L<101):∀ s K,KnownOk s K→@NatsOk (linSym s K) Tryz.prog (natL6 L):=natF_ok mixedN codeN_ok globN (okI6 L h) (natL5_ok L h)
theorem okF6 (L:Nat):∀ e∈fam6 L,FsOk Tryz.prog 14 e:=(Nat.lt_or_ge L 101).elim (okI6 L) fun h e he=>by
 rw [fam6_no h] at he
 cases he
theorem okI7 (L:Nat) (h:L<101):∀ e∈fam7 L,FsOk Tryz.prog 81 e:=fsChk_ok (fuel:=1000) (G:=100) mixedN codeN_ok (natL6_ok L h) fun s=>by
 have:=cA L h s
 unfold ckA at this
 simp only [Bool.and_eq_true] at this
 exact this.1.1.1.2
theorem natL7_ok (L:Nat) (h:L<101):∀ s K,KnownOk s K→@NatsOk (linSym s K) Tryz.prog (natL7 L):=natF_ok mixedN codeN_ok globN (okI7 L h) (natL6_ok L h)
theorem okF7 (L:Nat):∀ e∈fam7 L,FsOk Tryz.prog 81 e:=(Nat.lt_or_ge L 101).elim (okI7 L) fun h e he=>by
 rw [fam7_no h] at he
 cases he
theorem okI8 (L:Nat) (h:L<101):∀ e∈fam8 L,FsOk Tryz.prog 13 e:=fsChk_ok (fuel:=1000) (G:=100) mixedN codeN_ok (natL7_ok L h) fun s=>by
 have:=cA L h s
 unfold ckA at this
 simp only [Bool.and_eq_true] at this
 exact this.1.1.2
theorem natL8_ok (L:Nat) (h:L<101):∀ s K,KnownOk s K→@NatsOk (linSym s K) Tryz.prog (natL8 L):=natF_ok mixedN codeN_ok globN (okI8 L h) (natL7_ok L h)
theorem okF8 (L:Nat):∀ e∈fam8 L,FsOk Tryz.prog 13 e:=(Nat.lt_or_ge L 101).elim (okI8 L) fun h e he=>by
 rw [fam8_no h] at he
 cases he
theorem okI9 (L:Nat) (h:L<101):∀ e∈fam9 L,FsOk Tryz.prog 131 e:=fsChk_ok (fuel:=1000) (G:=100) mixedN codeN_ok (natL8_ok L h) fun s=>by
 have:=cA L h s
 unfold ckA at this
 simp only [Bool.and_eq_true] at this
 exact this.1.2
theorem natL9_ok (L:Nat) (h:L<101):∀ s K,KnownOk s K→@NatsOk (linSym s K) Tryz.prog (natL9 L):=natF_ok mixedN codeN_ok globN (okI9 L h) (natL8_ok L h)
theorem okF9 (L:Nat):∀ e∈fam9 L,FsOk Tryz.prog 131 e:=(Nat.lt_or_ge L 101).elim (okI9 L) fun h e he=>by
 rw [fam9_no h] at he
 cases he
theorem okI10 (L:Nat) (h:L<101):∀ e∈fam10 L,FsOk Tryz.prog 78 e:=fsChk_ok (fuel:=1000) (G:=100) mixedN codeN_ok (natL9_ok L h) fun s=>by
 have:=cA L h s
 unfold ckA at this
 simp only [Bool.and_eq_true] at this
 exact this.2
theorem natL10_ok (L:Nat) (h:L<101):∀ s K,KnownOk s K→@NatsOk (linSym s K) Tryz.prog (natL10 L):=natF_ok mixedN codeN_ok globN (okI10 L h) (natL9_ok L h)
theorem okF10 (L:Nat):∀ e∈fam10 L,FsOk Tryz.prog 78 e:=(Nat.lt_or_ge L 101).elim (okI10 L) fun h e he=>by
 rw [fam10_no h] at he
 cases he
theorem okI11 (L:Nat) (h:L<101):∀ e∈fam11 L,FsOk Tryz.prog 37 e:=fsChk_ok (fuel:=1000) (G:=100) mixedN codeN_ok (natL10_ok L h) fun s=>by
 have:=cB L h s
 unfold ckB at this
 simp only [Bool.and_eq_true] at this
 exact this.1.1.1
theorem natL11_ok (L:Nat) (h:L<101):∀ s K,KnownOk s K→@NatsOk (linSym s K) Tryz.prog (natL11 L):=natF_ok mixedN codeN_ok globN (okI11 L h) (natL10_ok L h)
theorem okF11 (L:Nat):∀ e∈fam11 L,FsOk Tryz.prog 37 e:=(Nat.lt_or_ge L 101).elim (okI11 L) fun h e he=>by
 rw [fam11_no h] at he
 cases he
theorem okI12 (L:Nat) (h:L<101):∀ e∈fam12 L,FsOk Tryz.prog 25 e:=fsChk_ok (fuel:=1000) (G:=100) mixedN codeN_ok (natL11_ok L h) fun s=>by
 have:=cB L h s
 unfold ckB at this
 simp only [Bool.and_eq_true] at this
 exact this.1.1.2
theorem natL12_ok (L:Nat) (h:L<101):∀ s K,KnownOk s K→@NatsOk (linSym s K) Tryz.prog (natL12 L):=natF_ok mixedN codeN_ok globN (okI12 L h) (natL11_ok L h)
theorem okF12 (L:Nat):∀ e∈fam12 L,FsOk Tryz.prog 25 e:=(Nat.lt_or_ge L 101).elim (okI12 L) fun h e he=>by
 rw [fam12_no h] at he
 cases he
theorem okI13 (L:Nat) (h:L<101):∀ e∈fam13 L,FsOk Tryz.prog 8 e:=fsChk_ok (fuel:=1000) (G:=100) mixedN codeN_ok (natL12_ok L h) fun s=>by
 have:=cB L h s
 unfold ckB at this
 simp only [Bool.and_eq_true] at this
 exact this.1.2
theorem natL13_ok (L:Nat) (h:L<101):∀ s K,KnownOk s K→@NatsOk (linSym s K) Tryz.prog (natL13 L):=natF_ok mixedN codeN_ok globN (okI13 L h) (natL12_ok L h)
theorem okF13 (L:Nat):∀ e∈fam13 L,FsOk Tryz.prog 8 e:=(Nat.lt_or_ge L 101).elim (okI13 L) fun h e he=>by
 rw [fam13_no h] at he
 cases he
theorem okI14 (L:Nat) (h:L<101):∀ e∈fam14 L,FsOk Tryz.prog 12 e:=fsChk_ok (fuel:=1000) (G:=100) mixedN codeN_ok (natL13_ok L h) fun s=>by
 have:=cB L h s
 unfold ckB at this
 simp only [Bool.and_eq_true] at this
 exact this.2
theorem natL14_ok (L:Nat) (h:L<101):∀ s K,KnownOk s K→@NatsOk (linSym s K) Tryz.prog (natL14 L):=natF_ok mixedN codeN_ok globN (okI14 L h) (natL13_ok L h)
theorem okF14 (L:Nat):∀ e∈fam14 L,FsOk Tryz.prog 12 e:=(Nat.lt_or_ge L 101).elim (okI14 L) fun h e he=>by
 rw [fam14_no h] at he
 cases he
theorem natP0_ok:∀ s K,KnownOk s K→@NatsOk (linSym s K) Tryz.prog natP0:=natQ0_ok
theorem natP1_ok:∀ s K,KnownOk s K→@NatsOk (linSym s K) Tryz.prog natP1:=natG_ok mixedN codeN_ok globN (fun args h s hs=>(selP_mem hs).elim fun L h=>okF1 L s h) natP0_ok
theorem natP2_ok:∀ s K,KnownOk s K→@NatsOk (linSym s K) Tryz.prog natP2:=natG_ok mixedN codeN_ok globN (fun args h s hs=>(selP_mem hs).elim fun L h=>okF2 L s h) natP1_ok
theorem natP3_ok:∀ s K,KnownOk s K→@NatsOk (linSym s K) Tryz.prog natP3:=natG_ok mixedN codeN_ok globN (fun args h s hs=>(selP_mem hs).elim fun L h=>okF3 L s h) natP2_ok
theorem natP4_ok:∀ s K,KnownOk s K→@NatsOk (linSym s K) Tryz.prog natP4:=natG_ok mixedN codeN_ok globN (fun args h s hs=>(selP_mem hs).elim fun L h=>okF4 L s h) natP3_ok
theorem natP5_ok:∀ s K,KnownOk s K→@NatsOk (linSym s K) Tryz.prog natP5:=natG_ok mixedN codeN_ok globN (fun args h s hs=>(selP_mem hs).elim fun L h=>okF5 L s h) natP4_ok
theorem natP6_ok:∀ s K,KnownOk s K→@NatsOk (linSym s K) Tryz.prog natP6:=natG_ok mixedN codeN_ok globN (fun args h s hs=>(selP_mem hs).elim fun L h=>okF6 L s h) natP5_ok
theorem natP7_ok:∀ s K,KnownOk s K→@NatsOk (linSym s K) Tryz.prog natP7:=natG_ok mixedN codeN_ok globN (fun args h s hs=>(selP_mem hs).elim fun L h=>okF7 L s h) natP6_ok
theorem natP8_ok:∀ s K,KnownOk s K→@NatsOk (linSym s K) Tryz.prog natP8:=natG_ok mixedN codeN_ok globN (fun args h s hs=>(selP_mem hs).elim fun L h=>okF8 L s h) natP7_ok
theorem natP9_ok:∀ s K,KnownOk s K→@NatsOk (linSym s K) Tryz.prog natP9:=natG_ok mixedN codeN_ok globN (fun args h s hs=>(selP_mem hs).elim fun L h=>okF9 L s h) natP8_ok
theorem natP10_ok:∀ s K,KnownOk s K→@NatsOk (linSym s K) Tryz.prog natP10:=natG_ok mixedN codeN_ok globN (fun args h s hs=>(selP_mem hs).elim fun L h=>okF10 L s h) natP9_ok
theorem natP11_ok:∀ s K,KnownOk s K→@NatsOk (linSym s K) Tryz.prog natP11:=natG_ok mixedN codeN_ok globN (fun args h s hs=>(selP_mem hs).elim fun L h=>okF11 L s h) natP10_ok
theorem natP12_ok:∀ s K,KnownOk s K→@NatsOk (linSym s K) Tryz.prog natP12:=natG_ok mixedN codeN_ok globN (fun args h s hs=>(selP_mem hs).elim fun L h=>okF12 L s h) natP11_ok
theorem natP13_ok:∀ s K,KnownOk s K→@NatsOk (linSym s K) Tryz.prog natP13:=natG_ok mixedN codeN_ok globN (fun args h s hs=>(selP_mem hs).elim fun L h=>okF13 L s h) natP12_ok
theorem natP14_ok:∀ s K,KnownOk s K→@NatsOk (linSym s K) Tryz.prog natP14:=natG_ok mixedN codeN_ok globN (fun args h s hs=>(selP_mem hs).elim fun L h=>okF14 L s h) natP13_ok
theorem natX_ok:∀ s K,KnownOk s K→@NatsOk (linSym s K) Tryz.prog natX:=natP14_ok
abbrev GX (T:TS):Prop:=StateGoodM Tryz.prog codeN natX 1000 100 wsL lensL TsX none pthL ccL rsL ksL T
theorem mkK (k:Nat) (hn:stateY0 ksL lensL (gX k) (trX k) 310=true) (h0:∀ s A,gzX s A k 0 10=true) (h1:∀ s A,gzX s A k 10 23=true) (h2:∀ s A,gzX s A k 33 21=true) (h3:∀ s A,gzX s A k 54 20=true) (h4:∀ s A,gzX s A k 74 18=true) (h5:∀ s A,gzX s A k 92 17=true) (h6:∀ s A,gzX s A k 109 17=true) (h7:∀ s A,gzX s A k 126 16=true) (h8:∀ s A,gzX s A k 142 15=true) (h9:∀ s A,gzX s A k 157 15=true) (h10:∀ s A,gzX s A k 172 14=true) (h11:∀ s A,gzX s A k 186 14=true) (h12:∀ s A,gzX s A k 200 13=true) (h13:∀ s A,gzX s A k 213 13=true) (h14:∀ s A,gzX s A k 226 12=true) (h15:∀ s A,gzX s A k 238 12=true) (h16:∀ s A,gzX s A k 250 12=true) (h17:∀ s A,gzX s A k 262 11=true) (h18:∀ s A,gzX s A k 273 11=true) (h19:∀ s A,gzX s A k 284 11=true) (h20:∀ s A,gzX s A k 295 11=true) (h21:∀ s A,gzX s A k 306 4=true):GX (gX k):=stateYP_good (tree:=trX k) (tss:=goX k) hn fun i hi=>((Nat.lt_or_ge i 186).elim (fun _=>((Nat.lt_or_ge i 92).elim (fun _=>((Nat.lt_or_ge i 33).elim (fun _=>((Nat.lt_or_ge i 10).elim (fun _=>⟨0,10,by omega,by omega,h0⟩) (fun _=>⟨10,23,by omega,by omega,h1⟩))) (fun _=>((Nat.lt_or_ge i 54).elim (fun _=>⟨33,21,by omega,by omega,h2⟩) (fun _=>((Nat.lt_or_ge i 74).elim (fun _=>⟨54,20,by omega,by omega,h3⟩) (fun _=>⟨74,18,by omega,by omega,h4⟩))))))) (fun _=>((Nat.lt_or_ge i 142).elim (fun _=>((Nat.lt_or_ge i 109).elim (fun _=>⟨92,17,by omega,by omega,h5⟩) (fun _=>((Nat.lt_or_ge i 126).elim (fun _=>⟨109,17,by omega,by omega,h6⟩) (fun _=>⟨126,16,by omega,by omega,h7⟩))))) (fun _=>((Nat.lt_or_ge i 157).elim (fun _=>⟨142,15,by omega,by omega,h8⟩) (fun _=>((Nat.lt_or_ge i 172).elim (fun _=>⟨157,15,by omega,by omega,h9⟩) (fun _=>⟨172,14,by omega,by omega,h10⟩))))))))) (fun _=>((Nat.lt_or_ge i 250).elim (fun _=>((Nat.lt_or_ge i 213).elim (fun _=>((Nat.lt_or_ge i 200).elim (fun _=>⟨186,14,by omega,by omega,h11⟩) (fun _=>⟨200,13,by omega,by omega,h12⟩))) (fun _=>((Nat.lt_or_ge i 226).elim (fun _=>⟨213,13,by omega,by omega,h13⟩) (fun _=>((Nat.lt_or_ge i 238).elim (fun _=>⟨226,12,by omega,by omega,h14⟩) (fun _=>⟨238,12,by omega,by omega,h15⟩))))))) (fun _=>((Nat.lt_or_ge i 284).elim (fun _=>((Nat.lt_or_ge i 262).elim (fun _=>⟨250,12,by omega,by omega,h16⟩) (fun _=>((Nat.lt_or_ge i 273).elim (fun _=>⟨262,11,by omega,by omega,h17⟩) (fun _=>⟨273,11,by omega,by omega,h18⟩))))) (fun _=>((Nat.lt_or_ge i 295).elim (fun _=>⟨284,11,by omega,by omega,h19⟩) (fun _=>((Nat.lt_or_ge i 306).elim (fun _=>⟨295,11,by omega,by omega,h20⟩) (fun _=>⟨306,4,by omega,by omega,h21⟩))))))))))
theorem mkE (k:Nat) (hn:stateY0 ksL lensL (gX k) (trX k) 2=true) (h:∀ s A,gzX s A k 0 2=true):GX (gX k):=stateYP_good (tree:=trX k) (tss:=goX k) hn fun i hi=>⟨0,2,by omega,by omega,h⟩
theorem g0:GX (gX 0):=mkK 0 (by kernel_rfl) r0_0 r0_10 r0_33 r0_54 r0_74 r0_92 r0_109 r0_126 r0_142 r0_157 r0_172 r0_186 r0_200 r0_213 r0_226 r0_238 r0_250 r0_262 r0_273 r0_284 r0_295 r0_306
theorem g1:GX (gX 1):=mkK 1 (by kernel_rfl) r1_0 r1_10 r1_33 r1_54 r1_74 r1_92 r1_109 r1_126 r1_142 r1_157 r1_172 r1_186 r1_200 r1_213 r1_226 r1_238 r1_250 r1_262 r1_273 r1_284 r1_295 r1_306
theorem g2:GX (gX 2):=mkK 2 (by kernel_rfl) r2_0 r2_10 r2_33 r2_54 r2_74 r2_92 r2_109 r2_126 r2_142 r2_157 r2_172 r2_186 r2_200 r2_213 r2_226 r2_238 r2_250 r2_262 r2_273 r2_284 r2_295 r2_306
theorem g3:GX (gX 3):=mkK 3 (by kernel_rfl) r3_0 r3_10 r3_33 r3_54 r3_74 r3_92 r3_109 r3_126 r3_142 r3_157 r3_172 r3_186 r3_200 r3_213 r3_226 r3_238 r3_250 r3_262 r3_273 r3_284 r3_295 r3_306
theorem g4:GX (gX 4):=mkK 4 (by kernel_rfl) r4_0 r4_10 r4_33 r4_54 r4_74 r4_92 r4_109 r4_126 r4_142 r4_157 r4_172 r4_186 r4_200 r4_213 r4_226 r4_238 r4_250 r4_262 r4_273 r4_284 r4_295 r4_306
theorem g5:GX (gX 5):=mkK 5 (by kernel_rfl) r5_0 r5_10 r5_33 r5_54 r5_74 r5_92 r5_109 r5_126 r5_142 r5_157 r5_172 r5_186 r5_200 r5_213 r5_226 r5_238 r5_250 r5_262 r5_273 r5_284 r5_295 r5_306
theorem g6:GX (gX 6):=mkK 6 (by kernel_rfl) r6_0 r6_10 r6_33 r6_54 r6_74 r6_92 r6_109 r6_126 r6_142 r6_157 r6_172 r6_186 r6_200 r6_213 r6_226 r6_238 r6_250 r6_262 r6_273 r6_284 r6_295 r6_306
theorem g7:GX (gX 7):=mkK 7 (by kernel_rfl) r7_0 r7_10 r7_33 r7_54 r7_74 r7_92 r7_109 r7_126 r7_142 r7_157 r7_172 r7_186 r7_200 r7_213 r7_226 r7_238 r7_250 r7_262 r7_273 r7_284 r7_295 r7_306
theorem g8:GX (gX 8):=mkE 8 (by kernel_rfl) r8_0
theorem g9:GX (gX 9):=mkK 9 (by kernel_rfl) r9_0 r9_10 r9_33 r9_54 r9_74 r9_92 r9_109 r9_126 r9_142 r9_157 r9_172 r9_186 r9_200 r9_213 r9_226 r9_238 r9_250 r9_262 r9_273 r9_284 r9_295 r9_306
theorem g10:GX (gX 10):=mkK 10 (by kernel_rfl) r10_0 r10_10 r10_33 r10_54 r10_74 r10_92 r10_109 r10_126 r10_142 r10_157 r10_172 r10_186 r10_200 r10_213 r10_226 r10_238 r10_250 r10_262 r10_273 r10_284 r10_295 r10_306
theorem g11:GX (gX 11):=mkK 11 (by kernel_rfl) r11_0 r11_10 r11_33 r11_54 r11_74 r11_92 r11_109 r11_126 r11_142 r11_157 r11_172 r11_186 r11_200 r11_213 r11_226 r11_238 r11_250 r11_262 r11_273 r11_284 r11_295 r11_306
theorem g12:GX (gX 12):=mkK 12 (by kernel_rfl) r12_0 r12_10 r12_33 r12_54 r12_74 r12_92 r12_109 r12_126 r12_142 r12_157 r12_172 r12_186 r12_200 r12_213 r12_226 r12_238 r12_250 r12_262 r12_273 r12_284 r12_295 r12_306
theorem g13:GX (gX 13):=mkK 13 (by kernel_rfl) r13_0 r13_10 r13_33 r13_54 r13_74 r13_92 r13_109 r13_126 r13_142 r13_157 r13_172 r13_186 r13_200 r13_213 r13_226 r13_238 r13_250 r13_262 r13_273 r13_284 r13_295 r13_306
theorem g14:GX (gX 14):=mkK 14 (by kernel_rfl) r14_0 r14_10 r14_33 r14_54 r14_74 r14_92 r14_109 r14_126 r14_142 r14_157 r14_172 r14_186 r14_200 r14_213 r14_226 r14_238 r14_250 r14_262 r14_273 r14_284 r14_295 r14_306
theorem g15:GX (gX 15):=mkK 15 (by kernel_rfl) r15_0 r15_10 r15_33 r15_54 r15_74 r15_92 r15_109 r15_126 r15_142 r15_157 r15_172 r15_186 r15_200 r15_213 r15_226 r15_238 r15_250 r15_262 r15_273 r15_284 r15_295 r15_306
theorem g16:GX (gX 16):=mkK 16 (by kernel_rfl) r16_0 r16_10 r16_33 r16_54 r16_74 r16_92 r16_109 r16_126 r16_142 r16_157 r16_172 r16_186 r16_200 r16_213 r16_226 r16_238 r16_250 r16_262 r16_273 r16_284 r16_295 r16_306
theorem g17:GX (gX 17):=mkE 17 (by kernel_rfl) r17_0
theorem goodK:∀ k,k<18→GX (gX k):=allUp (f:=fun k=>GX (gX k)) ⟨⟨⟨⟨⟨⟨⟨⟨⟨⟨⟨⟨⟨⟨⟨⟨⟨⟨trivial,g0⟩,g1⟩,g2⟩,g3⟩,g4⟩,g5⟩,g6⟩,g7⟩,g8⟩,g9⟩,g10⟩,g11⟩,g12⟩,g13⟩,g14⟩,g15⟩,g16⟩,g17⟩
theorem good:AllS GX TsX:=mkTs_all goodK (Nat.le_refl _)
theorem boundL:boundIs 20 TsX=true:=by kernel_rfl
theorem compL:compFn Tryz.prog 3=.mk ccL rsL:=c3_ok.symm.trans rfl
theorem wayX (b:Bool) (k:Nat) (h:∀ (s:Nat→Int) (A:Key→Option Value),startN Tryz.prog codeN natX 1000 100 wsL lensL TsX pthL ccL (argsL b) n1 s (eS.known A) [k]=true):AllG (fun e=>∀ (s:Nat→Int) (A:Key→Option Value),∃ hs,startOf Tryz.prog codeN natX 1000 100 wsL lensL TsX pthL ccL (argsL b) n1 (linSym s (e.known A)) (e.known A) hs=true) [eS]:=allG_cons (fun s A=>startN_ok (ts:=[k]) (h s A)) allG_nil
theorem allSt (b:Bool):AllG (fun e=>∀ (s:Nat→Int) (A:Key→Option Value),∃ hs,startOf Tryz.prog codeN natX 1000 100 wsL lensL TsX pthL ccL (argsL b) n1 (linSym s (e.known A)) (e.known A) hs=true) [eS]:=match b with
 | true=>wayX true 0 fun s A=>by kernel_rfl
 | false=>wayX false 9 fun s A=>by kernel_rfl
def ikX (i:Nat):Key:=match i with
 | 0=>.mk .d0 .d0 .d6 .d14
 | 1=>.mk .d0 .d0 .d6 .d15
 | 2=>.mk .d0 .d0 .d7 .d0
 | 3=>.mk .d0 .d0 .d7 .d1
 | 4=>.mk .d0 .d0 .d7 .d2
 | 5=>.mk .d0 .d0 .d7 .d3
 | 6=>.mk .d0 .d0 .d7 .d4
 | _=>.mk .d0 .d0 .d7 .d5
def winsX (w0 w1:Win) (g:Nat→Value):List Win:=[w0,w1,winOf (ikX 0) (g 0),winOf (ikX 1) (g 1),winOf (ikX 2) (g 2),winOf (ikX 3) (g 3),winOf (ikX 4) (g 4),winOf (ikX 5) (g 5),winOf (ikX 6) (g 6),winOf (ikX 7) (g 7)]
theorem winOf_esz {k:Key} {v:Value}:(winOf k v).esz=0:=by
 unfold winOf
 split
 · split <;> rfl
 · rfl
section
variable {W:World} {w0 w1:Win} {v0 v1:Value} {g:Nat→Value}
structure ArgX (W:World) (w0 w1:Win) (v0 v1:Value) (g:Nat→Value):Prop where
 k0:w0.key=.mk .d0 .d0 .d6 .d4
 z0:w0.esz=1
 a0:RowArg W v0 w0
 c0:w0.len≤w0.cap
 k1:w1.key=.mk .d0 .d0 .d6 .d5
 z1:w1.esz=1
 a1:BoolArg W v1 w1
 gi:∀ i,g i=.slice (winOf (ikX i) (g i)).base (winOf (ikX i) (g i)).len (winOf (ikX i) (g i)).cap∧ByteArg W (g i) (winOf (ikX i) (g i))∧(winOf (ikX i) (g i)).len≤maxLen
 ci:∀ i,i<w0.len→∃ arr elem fz,W.heap[w0.B]? = some (.cells arr elem fz)∧w0.x+i+1≤arr.size∧arr[w0.x+i]? = some (g i)
theorem findW_yes {w:Win} {r:List Win} {k:Key} (h:w.key=k):findW (w::r) k=some w:=by
 subst h
 show (match decide (w.key=w.key) with | true=>some w | false=>findW r w.key)=some w
 rw [decide_eq_true rfl]
theorem findW_no {w:Win} {r:List Win} {k j:Key} (h:w.key=j) (hn:decide (j=k)=false):findW (w::r) k=findW r k:=by
 subst h
 show (match decide (w.key=k) with | true=>some w | false=>findW r k)=findW r k
 rw [hn]
theorem f0X (hx:ArgX W w0 w1 v0 v1 g):findW (winsX w0 w1 g) (.mk .d0 .d0 .d6 .d4)=some w0:=findW_yes hx.k0
theorem f1X (hx:ArgX W w0 w1 v0 v1 g):findW (winsX w0 w1 g) (.mk .d0 .d0 .d6 .d5)=some w1:=(findW_no hx.k0 rfl).trans (findW_yes hx.k1)
theorem f2X (hx:ArgX W w0 w1 v0 v1 g):findW (winsX w0 w1 g) (.mk .d0 .d0 .d6 .d14)=some (winOf (ikX 0) (g 0)):=(findW_no hx.k0 rfl).trans ((findW_no hx.k1 rfl).trans (findW_yes winOf_key))
theorem f3X (hx:ArgX W w0 w1 v0 v1 g):findW (winsX w0 w1 g) (.mk .d0 .d0 .d6 .d15)=some (winOf (ikX 1) (g 1)):=(findW_no hx.k0 rfl).trans ((findW_no hx.k1 rfl).trans ((findW_no winOf_key rfl).trans (findW_yes winOf_key)))
theorem f4X (hx:ArgX W w0 w1 v0 v1 g):findW (winsX w0 w1 g) (.mk .d0 .d0 .d7 .d0)=some (winOf (ikX 2) (g 2)):=(findW_no hx.k0 rfl).trans ((findW_no hx.k1 rfl).trans ((findW_no winOf_key rfl).trans ((findW_no winOf_key rfl).trans (findW_yes winOf_key))))
theorem f5X (hx:ArgX W w0 w1 v0 v1 g):findW (winsX w0 w1 g) (.mk .d0 .d0 .d7 .d1)=some (winOf (ikX 3) (g 3)):=(findW_no hx.k0 rfl).trans ((findW_no hx.k1 rfl).trans ((findW_no winOf_key rfl).trans ((findW_no winOf_key rfl).trans ((findW_no winOf_key rfl).trans (findW_yes winOf_key)))))
theorem f6X (hx:ArgX W w0 w1 v0 v1 g):findW (winsX w0 w1 g) (.mk .d0 .d0 .d7 .d2)=some (winOf (ikX 4) (g 4)):=(findW_no hx.k0 rfl).trans ((findW_no hx.k1 rfl).trans ((findW_no winOf_key rfl).trans ((findW_no winOf_key rfl).trans ((findW_no winOf_key rfl).trans ((findW_no winOf_key rfl).trans (findW_yes winOf_key))))))
theorem f7X (hx:ArgX W w0 w1 v0 v1 g):findW (winsX w0 w1 g) (.mk .d0 .d0 .d7 .d3)=some (winOf (ikX 5) (g 5)):=(findW_no hx.k0 rfl).trans ((findW_no hx.k1 rfl).trans ((findW_no winOf_key rfl).trans ((findW_no winOf_key rfl).trans ((findW_no winOf_key rfl).trans ((findW_no winOf_key rfl).trans ((findW_no winOf_key rfl).trans (findW_yes winOf_key)))))))
theorem f8X (hx:ArgX W w0 w1 v0 v1 g):findW (winsX w0 w1 g) (.mk .d0 .d0 .d7 .d4)=some (winOf (ikX 6) (g 6)):=(findW_no hx.k0 rfl).trans ((findW_no hx.k1 rfl).trans ((findW_no winOf_key rfl).trans ((findW_no winOf_key rfl).trans ((findW_no winOf_key rfl).trans ((findW_no winOf_key rfl).trans ((findW_no winOf_key rfl).trans ((findW_no winOf_key rfl).trans (findW_yes winOf_key))))))))
theorem f9X (hx:ArgX W w0 w1 v0 v1 g):findW (winsX w0 w1 g) (.mk .d0 .d0 .d7 .d5)=some (winOf (ikX 7) (g 7)):=(findW_no hx.k0 rfl).trans ((findW_no hx.k1 rfl).trans ((findW_no winOf_key rfl).trans ((findW_no winOf_key rfl).trans ((findW_no winOf_key rfl).trans ((findW_no winOf_key rfl).trans ((findW_no winOf_key rfl).trans ((findW_no winOf_key rfl).trans ((findW_no winOf_key rfl).trans (findW_yes winOf_key)))))))))
theorem winisX (hx:ArgX W w0 w1 v0 v1 g) (σ:Nat→Int) (hl:LensAre (winsX w0 w1 g) lensL σ):WinIs (winsX w0 w1 g) W σ ksL:=by
 refine ⟨fun j k hj=>?_,fun j k f n ki wn wi hj hi hw hwi hn h8=>?_⟩
 · match j,hj with
   | 0,hj=>
    obtain rfl:(.mk .d0 .d0 .d6 .d4,Kd.r 2)=k:=Option.some.inj hj
    exact ⟨w0,v0,by rw [hx.k0]; exact f0X hx,hx.k0,len_of hl (by simp [lensL]) (f0X hx),⟨hx.z0,hx.a0⟩⟩
   | 1,hj=>
    obtain rfl:(.mk .d0 .d0 .d6 .d5,Kd.b)=k:=Option.some.inj hj
    exact ⟨w1,v1,by rw [hx.k1]; exact f1X hx,hx.k1,len_of hl (by simp [lensL]) (f1X hx),⟨hx.z1,hx.a1⟩⟩
   | 2,hj=>
    obtain rfl:(.mk .d0 .d0 .d6 .d14,Kd.y)=k:=Option.some.inj hj
    exact ⟨winOf (ikX 0) (g 0),g 0,by rw [winOf_key]; exact f2X hx,winOf_key,len_of hl (by simp [lensL]) (f2X hx),(hx.gi 0).2.1⟩
   | 3,hj=>
    obtain rfl:(.mk .d0 .d0 .d6 .d15,Kd.y)=k:=Option.some.inj hj
    exact ⟨winOf (ikX 1) (g 1),g 1,by rw [winOf_key]; exact f3X hx,winOf_key,len_of hl (by simp [lensL]) (f3X hx),(hx.gi 1).2.1⟩
   | 4,hj=>
    obtain rfl:(.mk .d0 .d0 .d7 .d0,Kd.y)=k:=Option.some.inj hj
    exact ⟨winOf (ikX 2) (g 2),g 2,by rw [winOf_key]; exact f4X hx,winOf_key,len_of hl (by simp [lensL]) (f4X hx),(hx.gi 2).2.1⟩
   | 5,hj=>
    obtain rfl:(.mk .d0 .d0 .d7 .d1,Kd.y)=k:=Option.some.inj hj
    exact ⟨winOf (ikX 3) (g 3),g 3,by rw [winOf_key]; exact f5X hx,winOf_key,len_of hl (by simp [lensL]) (f5X hx),(hx.gi 3).2.1⟩
   | 6,hj=>
    obtain rfl:(.mk .d0 .d0 .d7 .d2,Kd.y)=k:=Option.some.inj hj
    exact ⟨winOf (ikX 4) (g 4),g 4,by rw [winOf_key]; exact f6X hx,winOf_key,len_of hl (by simp [lensL]) (f6X hx),(hx.gi 4).2.1⟩
   | 7,hj=>
    obtain rfl:(.mk .d0 .d0 .d7 .d3,Kd.y)=k:=Option.some.inj hj
    exact ⟨winOf (ikX 5) (g 5),g 5,by rw [winOf_key]; exact f7X hx,winOf_key,len_of hl (by simp [lensL]) (f7X hx),(hx.gi 5).2.1⟩
   | 8,hj=>
    obtain rfl:(.mk .d0 .d0 .d7 .d4,Kd.y)=k:=Option.some.inj hj
    exact ⟨winOf (ikX 6) (g 6),g 6,by rw [winOf_key]; exact f8X hx,winOf_key,len_of hl (by simp [lensL]) (f8X hx),(hx.gi 6).2.1⟩
   | 9,hj=>
    obtain rfl:(.mk .d0 .d0 .d7 .d5,Kd.y)=k:=Option.some.inj hj
    exact ⟨winOf (ikX 7) (g 7),g 7,by rw [winOf_key]; exact f9X hx,winOf_key,len_of hl (by simp [lensL]) (f9X hx),(hx.gi 7).2.1⟩
   | n+10,hj=>cases hj
 · match j,hj with
   | 0,hj=>
    have e:(.mk .d0 .d0 .d6 .d4,Kd.r 2)=(k,Kd.r f):=Option.some.inj hj
    injection e with e1 e2
    injection e2 with e2
    subst e1 e2
    rw [f0X hx] at hw
    obtain rfl:=Option.some.inj hw
    obtain ⟨arr,elem,fz,q1,q2,q3⟩:=hx.ci n hn
    refine ⟨arr,elem,fz,q1,q2,q3.trans (congrArg some ?_)⟩
    match n,hi with
    | 0,hi=>
     have e:(.mk .d0 .d0 .d6 .d14,Kd.y)=(ki,Kd.y):=Option.some.inj hi
     injection e with e1 _
     subst e1
     rw [f2X hx] at hwi
     obtain rfl:=Option.some.inj hwi
     exact (hx.gi 0).1
    | 1,hi=>
     have e:(.mk .d0 .d0 .d6 .d15,Kd.y)=(ki,Kd.y):=Option.some.inj hi
     injection e with e1 _
     subst e1
     rw [f3X hx] at hwi
     obtain rfl:=Option.some.inj hwi
     exact (hx.gi 1).1
    | 2,hi=>
     have e:(.mk .d0 .d0 .d7 .d0,Kd.y)=(ki,Kd.y):=Option.some.inj hi
     injection e with e1 _
     subst e1
     rw [f4X hx] at hwi
     obtain rfl:=Option.some.inj hwi
     exact (hx.gi 2).1
    | 3,hi=>
     have e:(.mk .d0 .d0 .d7 .d1,Kd.y)=(ki,Kd.y):=Option.some.inj hi
     injection e with e1 _
     subst e1
     rw [f5X hx] at hwi
     obtain rfl:=Option.some.inj hwi
     exact (hx.gi 3).1
    | 4,hi=>
     have e:(.mk .d0 .d0 .d7 .d2,Kd.y)=(ki,Kd.y):=Option.some.inj hi
     injection e with e1 _
     subst e1
     rw [f6X hx] at hwi
     obtain rfl:=Option.some.inj hwi
     exact (hx.gi 4).1
    | 5,hi=>
     have e:(.mk .d0 .d0 .d7 .d3,Kd.y)=(ki,Kd.y):=Option.some.inj hi
     injection e with e1 _
     subst e1
     rw [f7X hx] at hwi
     obtain rfl:=Option.some.inj hwi
     exact (hx.gi 5).1
    | 6,hi=>
     have e:(.mk .d0 .d0 .d7 .d4,Kd.y)=(ki,Kd.y):=Option.some.inj hi
     injection e with e1 _
     subst e1
     rw [f8X hx] at hwi
     obtain rfl:=Option.some.inj hwi
     exact (hx.gi 6).1
    | 7,hi=>
     have e:(.mk .d0 .d0 .d7 .d5,Kd.y)=(ki,Kd.y):=Option.some.inj hi
     injection e with e1 _
     subst e1
     rw [f9X hx] at hwi
     obtain rfl:=Option.some.inj hwi
     exact (hx.gi 7).1
    | n+8,_=>omega
   | 1,hj=>cases hj
   | 2,hj=>cases hj
   | 3,hj=>cases hj
   | 4,hj=>cases hj
   | 5,hj=>cases hj
   | 6,hj=>cases hj
   | 7,hj=>cases hj
   | 8,hj=>cases hj
   | 9,hj=>cases hj
   | n+10,hj=>cases hj
def argX (v0 v1:Value) (g:Nat→Value):Key→Option Value:=fun k=>if k=.mk .d0 .d0 .d6 .d4 then some v0 else if k=.mk .d0 .d0 .d6 .d5 then some v1 else if k=.mk .d0 .d0 .d6 .d14 then some (g 0) else if k=.mk .d0 .d0 .d6 .d15 then some (g 1) else if k=.mk .d0 .d0 .d7 .d0 then some (g 2) else if k=.mk .d0 .d0 .d7 .d1 then some (g 3) else if k=.mk .d0 .d0 .d7 .d2 then some (g 4) else if k=.mk .d0 .d0 .d7 .d3 then some (g 5) else if k=.mk .d0 .d0 .d7 .d4 then some (g 6) else if k=.mk .d0 .d0 .d7 .d5 then some (g 7) else none
theorem argsX (hx:ArgX W w0 w1 v0 v1 g):ArgsAre (argX v0 v1 g) (winsX w0 w1 g):=by
 have inner:∀ i,argX v0 v1 g (ikX i)=some (g i)→argX v0 v1 g (winOf (ikX i) (g i)).key=some (.slice (winOf (ikX i) (g i)).base (winOf (ikX i) (g i)).len (winOf (ikX i) (g i)).cap)∧(0<(winOf (ikX i) (g i)).len→(winOf (ikX i) (g i)).base=some ⟨(winOf (ikX i) (g i)).B,(winOf (ikX i) (g i)).x,none⟩)∧((winOf (ikX i) (g i)).esz=0∨(winOf (ikX i) (g i)).sz=(winOf (ikX i) (g i)).x+(winOf (ikX i) (g i)).cap*(winOf (ikX i) (g i)).esz)∧(winOf (ikX i) (g i)).len≤(winOf (ikX i) (g i)).cap:=by
  intro i h
  refine ⟨by rw [winOf_key,h]; exact congrArg some (hx.gi i).1,fun h0=>?_,.inl winOf_esz,(hx.gi i).2.1.cap⟩
  rcases (hx.gi i).2.1.base with ⟨h1,_⟩ | ⟨h1,_⟩
  · omega
  · exact h1
 intro w hw
 simp only [winsX,List.mem_cons,List.mem_nil_iff,or_false] at hw
 rcases hw with rfl | rfl | rfl | rfl | rfl | rfl | rfl | rfl | rfl | rfl
 · exact ⟨by rw [hx.k0]; exact congrArg some hx.a0.val,hx.a0.base,.inr (by rw [hx.z0]; exact hx.a0.size),hx.c0⟩
 · exact ⟨by rw [hx.k1]; exact congrArg some hx.a1.val,hx.a1.base,.inr (by rw [hx.z1]; exact hx.a1.size),hx.a1.cap⟩
 · exact inner 0 rfl
 · exact inner 1 rfl
 · exact inner 2 rfl
 · exact inner 3 rfl
 · exact inner 4 rfl
 · exact inner 5 rfl
 · exact inner 6 rfl
 · exact inner 7 rfl
theorem wsX (hx:ArgX W w0 w1 v0 v1 g):wsOf (winsX w0 w1 g)=wsL:=by
 simp only [wsOf,winsX,List.map_cons,List.map_nil,winOf_key,winOf_esz,hx.k0,hx.z0,hx.k1,hx.z1]
 rfl
theorem loopsX (hx:ArgX W w0 w1 v0 v1 g) {c:Code} (hb:Tryz.f3.body=some c):LoopOk Tryz.prog (frameBits Tryz.f3 c) Tryz.f3.ntmps 100 (argX v0 v1 g) (winsX w0 w1 g) lensL W Tryz.f3 c TsX pthL:=
 loopOk_fn (code:=codeN) (nat:=natX) (fuel:=1000) (bound:=20) (nx:=none) mixedN codeN_ok natX_ok globN Tryz.func3 hb compL (argsX hx) boundL trivial (passes_allM (wsX hx) (argsX hx) (winisX hx) good)
def sigX (w0 w1:Win) (g:Nat→Value):Nat→Int
 | 0=>0
 | 1=>w0.len
 | 2=>w1.len
 | n+3=>(winOf (ikX n) (g n)).len
theorem walkX (hx:ArgX W w0 w1 v0 v1 g) (a:Bool) (hl0:(w0.len:Int)≤9223372036854775807) (hl1:(w1.len:Int)≤9223372036854775807) :
 Calls Tryz.prog 3 #[.bool a,v0,v1] W fun e w'=>e=.returned (.bool true)∧Below W.heap.size W w':=by
 have hm:∀ i,((winOf (ikX i) (g i)).len:Int)≤9223372036854775807:=fun i=>by
  have:=(hx.gi i).2.2
  have e:maxLen=9223372036854775807:=by decide
  omega
 have s0:sigX w0 w1 g 0=0:=rfl
 have s1:sigX w0 w1 g 1=w0.len:=rfl
 have s2:sigX w0 w1 g 2=w1.len:=rfl
 have s3:∀ j,sigX w0 w1 g (3+j)=(winOf (ikX j) (g j)).len:=fun j=>by
  rw [Nat.add_comm]
  rfl
 refine calls_treeM (σ:=sigX w0 w1 g) (A:=argX v0 v1 g) (wins:=winsX w0 w1 g) (ws:=wsL) (L:=lensL) (ks:=ksL) (tree:=.leaf) (ls:=[eS]) (e0:=eS) (args:=argsL a) (G:=100) (n:=n1) (Ts:=TsX) (p:=pthL) (cc:=ccL) (rs:=rsL) (fuel:=1000) (code:=codeN) (nat:=natX)
  (wsX hx) rfl (by kernel_rfl) (allSt a) ⟨?_,trivial,trivial,fun q hq=>by cases hq⟩ ?_ (winisX hx) mixedN codeN_ok natX_ok Tryz.func3 (show Tryz.f3.body=some _ from rfl) compL rfl globN (by decide) (by kernel_rfl) (argsX hx) ?_ (loopsX hx (show Tryz.f3.body=some _ from rfl))
 · have z:∀ n:Nat,(0:Int)≤n:=fun n=>Int.natCast_nonneg n
   refine ⟨⟨by omega,by omega⟩,⟨by rw [s1]; exact z _,by rw [s1]; exact hl0⟩,⟨by rw [s2]; exact z _,by rw [s2]; exact hl1⟩,⟨by rw [show (0+1+1+1:Nat)=3+0 from rfl,s3]; exact z _,by rw [show (0+1+1+1:Nat)=3+0 from rfl,s3]; exact hm _⟩,⟨by rw [show (0+1+1+1+1:Nat)=3+1 from rfl,s3]; exact z _,by rw [show (0+1+1+1+1:Nat)=3+1 from rfl,s3]; exact hm _⟩,⟨by rw [show (0+1+1+1+1+1:Nat)=3+2 from rfl,s3]; exact z _,by rw [show (0+1+1+1+1+1:Nat)=3+2 from rfl,s3]; exact hm _⟩,⟨by rw [show (0+1+1+1+1+1+1:Nat)=3+3 from rfl,s3]; exact z _,by rw [show (0+1+1+1+1+1+1:Nat)=3+3 from rfl,s3]; exact hm _⟩,⟨by rw [show (0+1+1+1+1+1+1+1:Nat)=3+4 from rfl,s3]; exact z _,by rw [show (0+1+1+1+1+1+1+1:Nat)=3+4 from rfl,s3]; exact hm _⟩,⟨by rw [show (0+1+1+1+1+1+1+1+1:Nat)=3+5 from rfl,s3]; exact z _,by rw [show (0+1+1+1+1+1+1+1+1:Nat)=3+5 from rfl,s3]; exact hm _⟩,⟨by rw [show (0+1+1+1+1+1+1+1+1+1:Nat)=3+6 from rfl,s3]; exact z _,by rw [show (0+1+1+1+1+1+1+1+1+1:Nat)=3+6 from rfl,s3]; exact hm _⟩,⟨by rw [show (0+1+1+1+1+1+1+1+1+1+1:Nat)=3+7 from rfl,s3]; exact z _,by rw [show (0+1+1+1+1+1+1+1+1+1+1:Nat)=3+7 from rfl,s3]; exact hm _⟩,trivial⟩
 · intro q hq
   simp only [lensL,List.mem_cons,List.mem_nil_iff,or_false] at hq
   rcases hq with rfl | rfl | rfl | rfl | rfl | rfl | rfl | rfl | rfl | rfl
   · exact ⟨_,f0X hx,s1⟩
   · exact ⟨_,f1X hx,s2⟩
   · exact ⟨_,f2X hx,s3 0⟩
   · exact ⟨_,f3X hx,s3 1⟩
   · exact ⟨_,f4X hx,s3 2⟩
   · exact ⟨_,f5X hx,s3 3⟩
   · exact ⟨_,f6X hx,s3 4⟩
   · exact ⟨_,f7X hx,s3 5⟩
   · exact ⟨_,f8X hx,s3 6⟩
   · exact ⟨_,f9X hx,s3 7⟩
 · intro σ' K' hK hag
   have hp:∀ {k:Key} {w:Win},findW (winsX w0 w1 g) k=some w→psiW 100 (winsX w0 w1 g) k=some ⟨w.B,w.x+0*w.esz,w.sz,fun n=>n⟩:=fun h=>by
    unfold psiW
    rw [h]
   exact relsB (relsW (base:=w0.base) (len:=w0.len) (cap:=w0.cap) (z:=1) (i:=0) (j:=1) (congrFun hK _) hx.a0.val ((hag 0 (.inl (by decide))).trans s0) ((hag 1 (.inl (by decide))).trans s1) (fun h=>⟨_,w0.x,hp (f0X hx),hx.a0.base h,(by rw [hx.z0]),hx.a0.size,hx.c0⟩)
    (relsW (base:=w1.base) (len:=w1.len) (cap:=w1.cap) (z:=1) (i:=0) (j:=2) (congrFun hK _) hx.a1.val ((hag 0 (.inl (by decide))).trans s0) ((hag 2 (.inl (by decide))).trans s2) (fun h=>⟨_,w1.x,hp (f1X hx),hx.a1.base h,(by rw [hx.z1]),hx.a1.size,hx.a1.cap⟩) rels0))
end
end
end Go.Ev
