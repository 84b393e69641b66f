/- A verified evaluator for the model's code: EvWord, EvTree. -/
import Derived.Test.YtkolecenifiaaaaGreatDoorEvArg
set_option linter.unusedSectionVars false
set_option linter.unusedVariables false
set_option linter.unusedSimpArgs false
namespace Go.Ev
noncomputable section
theorem zA5 (m:Nat):zb .i64 (.ofNat m)=.nat m:=by cases m <;> rfl
theorem zCq (m:Nat):zb .i64 (.negSucc m)=.int .i64 (.negSucc m):=by cases m <;> rfl
theorem zJe {a b:Int} (h:zb .i64 a=zb .i64 b):a=b:=by
 cases a with
 | ofNat a=>cases b with
  | ofNat b=>rw [zA5,zA5] at h; injection h with h; rw [h]
  | negSucc b=>rw [zA5,zCq] at h; cases h
 | negSucc a=>cases b with
  | ofNat b=>rw [zA5,zCq] at h; cases h
  | negSucc b=>rw [zCq,zCq] at h; injection h
theorem zFo (q:Int):(toU .i64 q:Int)=q % 18446744073709551616:=by
 cases q with
 | ofNat m=>
  show ((m % 2 ^ 64:Nat):Int)=(m:Int) % 18446744073709551616
  omega
 | negSucc m=>
  show ((2 ^ 64 - 1 - m % 2 ^ 64:Nat):Int)=Int.negSucc m % 18446744073709551616
  rw [Int.negSucc_eq]
  omega
theorem zCe (q:Int) {n:Nat} (hn:n≤31):yQ .and .i64 q (.ofNat (2 ^ n - 1))=some (zb .i64 (.ofNat (toU .i64 q % 2 ^ n))):=by
 have hp:2 ^ n≤2 ^ 31:=Nat.pow_le_pow_right (by decide) hn
 have h1:toU .i64 (.ofNat (2 ^ n - 1))=2 ^ n - 1:=Nat.mod_eq_of_lt (show 2 ^ n - 1<2 ^ 64 by omega)
 show some (zb .i64 (yr .i64 (.ofNat (Nat.land (toU .i64 q) (toU .i64 (.ofNat (2 ^ n - 1)))))))=_
 rw [h1]
 have h2:Nat.land (toU .i64 q) (2 ^ n - 1)=toU .i64 q % 2 ^ n:=Nat.and_two_pow_sub_one_eq_mod _ n
 rw [h2]
 have h3:toU .i64 q % 2 ^ n<2 ^ n:=Nat.mod_lt _ (Nat.two_pow_pos n)
 have h4:yr .i64 (.ofNat (toU .i64 q % 2 ^ n))=.ofNat (toU .i64 q % 2 ^ n):=by
  generalize toU .i64 q % 2 ^ n=x at h3
  rw [@yz zP]
  simp [IntKind.wrap,IntKind.signed,IntKind.bits]
  omega
 rw [h4]
theorem zGe (q:Int):yQ .shr .i64 q (.ofNat 4)=some (zb .i64 (q / 16)):=by
 cases q with
 | ofNat a=>
  show some (ji .i64 (Nat.div a (Nat.pow 2 (min 4 64))))=some (zb .i64 ((a:Int) / 16))
  have e:((a:Int) / 16)=Int.ofNat (a / 16):=by
   show (a:Int) / 16=((a / 16:Nat):Int)
   omega
  rw [e,zA5]
  show some (kz (a / 16))=_
  generalize a / 16=x
  cases x <;> rfl
 | negSucc a=>
  show some (zb .i64 ((Int.negSucc a).fdiv (.ofNat (Nat.pow 2 (min 4 64)))))=_
  have e:(Int.negSucc a).fdiv (.ofNat (Nat.pow 2 (min 4 64)))=Int.negSucc a / 16:=by
   show (Int.negSucc a).fdiv 16=_
   rw [Int.fdiv_eq_ediv_of_nonneg _ (by decide)]
  rw [e]
theorem zLA {h g a b:Int} (h1:yQ .and .i64 h (.ofNat 15)=some (zb .i64 a)) (h2:yQ .shr .i64 h (.ofNat 4)=some (zb .i64 g)) (h3:yQ .and .i64 g (.ofNat 15)=some (zb .i64 b)) :
 yQ .and .i64 h (.ofNat 255)=some (zb .i64 (a+16*b))∧yQ .and .i64 (a+16*b) (.ofNat 15)=some (zb .i64 a)∧yQ .shr .i64 (a+16*b) (.ofNat 4)=some (zb .i64 b):=by
 have e15:∀ q:Int,yQ .and .i64 q (.ofNat 15)=some (zb .i64 (.ofNat (toU .i64 q % 16))):=fun q=>zCe q (n:=4) (by decide)
 have e255:∀ q:Int,yQ .and .i64 q (.ofNat 255)=some (zb .i64 (.ofNat (toU .i64 q % 256))):=fun q=>zCe q (n:=8) (by decide)
 rw [e15] at h1 h3
 rw [zGe] at h2
 have a1:=zJe (Option.some.inj h1)
 have a2:=zJe (Option.some.inj h2)
 have a3:=zJe (Option.some.inj h3)
 have u1:=zFo h
 have u2:=zFo g
 have u3:=zFo (a+16*b)
 have a1:((toU .i64 h % 16:Nat):Int)=a:=a1
 have a3:((toU .i64 g % 16:Nat):Int)=b:=a3
 refine ⟨?_,?_,?_⟩
 · rw [e255]
   congr 2
   show ((toU .i64 h % 256:Nat):Int)=a+16*b
   omega
 · rw [e15]
   congr 2
   show ((toU .i64 (a+16*b) % 16:Nat):Int)=a
   omega
 · rw [zGe]
   congr 2
   omega
def zPQ (n:Nat) (e:SE):Bool:=match e.k,e.l with
 | .i64,[p]=>Nat.beq p.1 n&&decide (p.2=1)&&decide (e.c=0)
 | _,_=>false
theorem zEm {n:Nat} {e:SE} (h:zPQ n e=true):e=sv n:=by
 obtain ⟨k,c,l⟩:=e
 unfold zPQ at h
 split at h
 · rename_i p h1 h2
   simp only at h1 h2
   subst h1 h2
   simp only [Bool.and_eq_true,decide_eq_true_eq] at h
   obtain ⟨⟨h1,h2⟩,h3⟩:=h
   obtain ⟨i,z⟩:=p
   simp only at h1 h2 h3
   have h1:=Nat.eq_of_beq_eq_true h1
   subst h1 h2 h3
   rfl
 · cases h
def zUL:Bool→BinOp→Bool
 | true,.and=>true
 | false,.shr=>true
 | _,_=>false
def zPi:Bool→BinOp
 | true=>.and
 | false=>.shr
theorem zTA {b:Bool} {o:BinOp} (h:zUL b o=true):o=zPi b:=by
 unfold zUL at h
 split at h
 · rfl
 · rfl
 · cases h
def zVB (b:Bool) (h c a:Nat) (q:SRule):Bool:=zUL b q.op&&zPQ h q.x&&Nat.beq q.c c&&(match q.v with
 | .sym e=>zPQ a e
 | _=>false)
def zP0 (b:Bool) (h c a:Nat):List SRule→Bool
 | []=>false
 | q::r=>zVB b h c a q || zP0 b h c a r
theorem zSW {σ:Nat→Int} {b:Bool} {h c a:Nat} {q:SRule} (hq:zVB b h c a q=true) (hr:z7 σ q) {z:Int} (hz:yQ (zPi b) .i64 (σ h) (.ofNat c)=some (zb .i64 z)) :
 yQ (zPi b) .i64 (σ h) (.ofNat c)=some (zb .i64 (σ a)):=by
 unfold zVB at hq
 simp only [Bool.and_eq_true] at hq
 obtain ⟨⟨⟨h1,h2⟩,h3⟩,h4⟩:=hq
 split at h4
 · rename_i e he
   have h1:=zTA h1
   have h2:=zEm h2
   have h3:=Nat.eq_of_beq_eq_true h3
   have h4:=zEm h4
   subst h4
   obtain ⟨u,_,g2,g3⟩:=(ui (by rw [h1]; cases b <;> rfl)).1 hr
   rw [h1,h2,h3] at g2
   have g2:yQ (zPi b) .i64 (evE σ (sv h)) (.ofNat c)=some u:=g2
   rw [xr] at g2
   rw [he] at g3
   rw [g2]
   rcases g3 with g3 | ⟨e,g3,g4⟩
   · rw [hz] at g2
     have g2:=Option.some.inj g2
     rw [← g3] at g2
     cases z with
     | ofNat m=>rw [zA5] at g2; cases g2
     | negSucc m=>rw [zCq] at g2; cases g2
   · injection g3 with g3
     subst g3
     rw [g4,xr]
     rfl
 · cases h4
theorem zEC {σ:Nat→Int} {b:Bool} {h c a:Nat} {z:Int} (hz:yQ (zPi b) .i64 (σ h) (.ofNat c)=some (zb .i64 z)):∀ {r:List SRule},zP0 b h c a r=true→xG σ r →
 yQ (zPi b) .i64 (σ h) (.ofNat c)=some (zb .i64 (σ a))
 | [],hr,_=>by cases hr
 | q::r,hr,ho=>by
  unfold zP0 at hr
  rw [Bool.or_eq_true] at hr
  rcases hr with hr | hr
  · exact zSW hr ho.1 hz
  · exact zEC hz hr ho.2
def zDI (a b:Nat):SE:=⟨.i64,.ofNat 0,[(a,1),(b,16)]⟩
theorem zFX (σ:Nat→Int) (a b:Nat):evE σ (zDI a b)=σ a+16*σ b:=by
 show (0:Int)+(1*σ a+(16*σ b+0))=_
 omega
def zMm (r:List SRule) (h g a b:Nat):Bool:=zP0 true h 15 a r&&zP0 false h 4 g r&&zP0 true g 15 b r
def zQ1 (h a b:Nat) (r:List SRule):List SRule:=⟨.and,sv h,255,.sym (zDI a b)⟩::⟨.and,zDI a b,15,.sym (sv a)⟩::⟨.shr,zDI a b,4,.sym (sv b)⟩::r
theorem zQ6 {σ:Nat→Int} {r:List SRule} {h g a b:Nat} (hj:zMm r h g a b=true) (hr:xG σ r):xG σ (zQ1 h a b r):=by
 unfold zMm at hj
 simp only [Bool.and_eq_true] at hj
 obtain ⟨⟨h1,h2⟩,h3⟩:=hj
 have g1:=zEC (σ:=σ) (b:=true) (h:=h) (c:=15) (zCe (σ h) (n:=4) (by decide)) h1 hr
 have g2:=zEC (σ:=σ) (b:=false) (h:=h) (c:=4) (zGe (σ h)) h2 hr
 have g3:=zEC (σ:=σ) (b:=true) (h:=g) (c:=15) (zCe (σ g) (n:=4) (by decide)) h3 hr
 obtain ⟨w1,w2,w3⟩:=zLA g1 g2 g3
 refine ⟨⟨_,.inl rfl,?_,.inr ⟨zDI a b,rfl,rfl⟩⟩,⟨_,.inl rfl,?_,.inr ⟨sv a,rfl,rfl⟩⟩,⟨_,.inl rfl,?_,.inr ⟨sv b,rfl,rfl⟩⟩,hr⟩
 · show yQ .and .i64 (evE σ (sv h)) (.ofNat 255)=some (zb .i64 (evE σ (zDI a b)))
   rw [xr,zFX]; exact w1
 · show yQ .and .i64 (evE σ (zDI a b)) (.ofNat 15)=some (zb .i64 (evE σ (sv a)))
   rw [xr,zFX]; exact w2
 · show yQ .shr .i64 (evE σ (zDI a b)) (.ofNat 4)=some (zb .i64 (evE σ (sv b)))
   rw [xr,zFX]; exact w3
end
end Go.Ev
namespace Go.Ev
open Go.RowKit
noncomputable section
variable {P:Program}
inductive Kd where
 | i
 | b
 | r (f:Nat)
 | y
 | w (f:Nat)
 | q
inductive LTree where
 | leaf
 | cmp (l:LL) (cut:Int) (a b:LTree)
 | and (v m:Nat) (ts:Nat→LTree)
 | rem (v m:Nat) (ts:Nat→LTree)
 | remn (v m:Nat) (ts:Nat→LTree)
 | bit (v t:Nat) (a b:LTree)
 | shr (v c:Nat) (t:LTree)
 | mask (v m:Nat) (t:LTree)
 | join (h g a b:Nat) (t:LTree)
 | cellI (j:Nat) (t:LTree)
 | cellB (j:Nat) (a b:LTree)
 | pin (v:Nat) (ts:Nat→LTree)
 | shrb (v c:Nat) (t:LTree)
 | cmpb (v:Nat) (cut:Int) (a b:LTree)
 | dec (c:Int) (v:Nat) (t:LTree)
 | ne (c:Int) (l:LL) (a b:LTree)
 | fre (v:Nat) (ss:List Nat) (c:Nat) (t:LTree)
 | innl (v n:Nat) (ss:List Nat) (l:Nat) (t:LTree)
 | isin (v l:Nat) (ss:List Nat) (a b:LTree)
 | rows (j n m:Nat) (t0:LTree) (ts:Nat→LTree) (tz:LTree)
 | wcells (j n:Nat) (t:LTree)
structure Lf where
 b:List (Int × Int)
 f:List (LL × Int × Int)
 r:List SRule
 l:List (Key × List CV)
 u:Nat
def Lf.known (e:Lf) (A:Key→Option Value):zY:=⟨e.b,e.f,e.r,A⟩
def zAA (n:Nat):LL→Bool
 | []=>true
 | p::r=>!(Nat.beq p.1 n)&&zAA n r
def yh (n:Nat):List CV→Bool
 | []=>true
 | .sym e::r=>zAA n e.l&&yh n r
 | .bool _::r=>yh n r
 | .nilsl::r=>yh n r
 | .sl .. :: r=>yh n r
 | .win _ _ e m::r=>zAA n e.l&&zAA n m.l&&yh n r
 | _::_=>false
def zRy (n:Nat):CV→Bool
 | .sym e=>zAA n e.l
 | .bool _=>true
 | .agg l=>yh n l
 | .nat _=>true
 | .int _ _=>true
 | _=>false
def zF3 (n:Nat):List (LL × Int × Int)→Bool
 | []=>true
 | q::r=>zAA n q.1&&zF3 n r
def zGs (n:Nat):List SRule→Bool
 | []=>true
 | q::r=>zAA n q.x.l&&zRy n q.v&&zGs n r
def zC1 (n:Nat):List (Key × List CV)→Bool
 | []=>true
 | q::r=>yh n q.2&&zC1 n r
def Lf.free (e:Lf) (n:Nat):Bool:=zF3 n e.f&&zGs n e.r&&zC1 n e.l&&Nat.ble e.b.length n
def upV (σ:Nat→Int) (n:Nat) (z:Int):Nat→Int:=fun i=>if i=n then z else σ i
theorem upd_same {σ:Nat→Int} {n:Nat} {z:Int}:upV σ n z n=z:=by simp [upV]
theorem upd_other {σ:Nat→Int} {n i:Nat} {z:Int} (h:i≠n):upV σ n z i=σ i:=by simp [upV,h]
theorem zAT {σ:Nat→Int} {n:Nat} {z:Int}:∀ {l:LL},zAA n l=true→evL (upV σ n z) l=evL σ l
 | [],_=>rfl
 | p::r,h=>by
  unfold zAA at h
  rw [Bool.and_eq_true] at h
  have hne:p.1≠n:=fun e=>by
   have h1:=h.1
   rw [e] at h1
   simp at h1
  show p.2*upV σ n z p.1+evL (upV σ n z) r=p.2*σ p.1+evL σ r
  rw [upd_other hne,zAT h.2]
theorem zDS {σ:Nat→Int} {n:Nat} {z:Int}:∀ {f:List (LL × Int × Int)},zF3 n f=true→jn σ f→jn (upV σ n z) f
 | [],_,_=>trivial
 | q::r,h,hf=>by
  unfold zF3 at h
  rw [Bool.and_eq_true] at h
  refine ⟨?_,zDS h.2 hf.2⟩
  rw [zAT h.1]; exact hf.1
theorem uE {σ:Nat→Int} {n:Nat} {z:Int} {e:SE} (h:zAA n e.l=true):evE (upV σ n z) e=evE σ e:=by
 unfold evE
 rw [zAT h]
theorem zAK {σ:Nat→Int} {n:Nat} {z:Int}:∀ {l:List CV},yh n l=true→xx (upV σ n z) l=xx σ l
 | [],_=>rfl
 | c::l,h=>by
  have key:yh n l=true∧zBG (upV σ n z) c=zBG σ c:=by
   cases c <;> first
    | (unfold yh at h
       rw [Bool.and_eq_true] at h
       exact ⟨h.2,uE h.1⟩)
    | (unfold yh at h
       rw [Bool.and_eq_true] at h
       exact ⟨h.2,rfl⟩)
    | exact ⟨h,rfl⟩
    | cases h
  show zBG _ c::xx _ l=_
  rw [key.2,zAK key.1]
  rfl
theorem zMJ {σ:Nat→Int} {n:Nat} {z:Int} {q:SRule} (h1:zAA n q.x.l=true) (h2:zRy n q.v=true) (h:z7 σ q):z7 (upV σ n z) q:=by
 have old:uN σ q→uN (upV σ n z) q:=by
  intro h
  obtain ⟨u,g1,g2,g3⟩:=h
  refine ⟨u,g1,?_,?_⟩
  · rw [uE h1]; exact g2
  · rcases g3 with g3 | ⟨e,g3,g4⟩
    · exact .inl g3
    · refine .inr ⟨e,g3,?_⟩
      rw [g3] at h2
      rw [uE (e:=e) h2]; exact g4
 unfold z7 at h ⊢
 split at h
 · unfold zBh at h ⊢
   split at h
   · rename_i m l hv
     rw [hv] at h2
     have:=zAK (σ:=σ) (z:=z) (show yh n (m::l)=true from h2)
     have e1:zBG (upV σ n z) m=zBG σ m:=by injection this
     have e2:xx (upV σ n z) l=xx σ l:=by injection this
     rw [uE h1,e1,e2]; exact h
   · exact h.elim
 · unfold zBe at h ⊢
   split at h
   · rename_i l hv
     rw [hv] at h2
     rw [uE h1,zAK (show yh n l=true from h2)]; exact h
   · exact h.elim
 · unfold zBc at h ⊢
   split at h
   · rename_i l hv
     rw [hv] at h2
     rw [uE h1,zAK (show yh n l=true from h2)]; exact h
   · exact h.elim
 · exact old h
theorem zDN {σ:Nat→Int} {n:Nat} {z:Int}:∀ {r:List SRule},zGs n r=true→xG σ r→xG (upV σ n z) r
 | [],_,_=>trivial
 | q::r,h,hr=>by
  unfold zGs at h
  rw [Bool.and_eq_true,Bool.and_eq_true] at h
  exact ⟨zMJ h.1.1 h.1.2 hr.1,zDN h.2 hr.2⟩
theorem zCu {σ:Nat→Int} {n:Nat} {z:Int}:∀ {b:List (Int × Int)} {k:Nat},k+b.length≤n→yL σ k b→yL (upV σ n z) k b
 | [],_,_,_=>trivial
 | q::r,k,h,hb=>by
  simp only [List.length_cons] at h
  refine ⟨?_,zCu (by omega) hb.2⟩
  rw [upd_other (by omega)]; exact hb.1
theorem qO {σ:Nat→Int} {lo hi:Int}:∀ {b:List (Int × Int)} {k:Nat},yL σ k b→lo≤σ (k+b.length)→σ (k+b.length)≤hi→yL σ k (b++[(lo,hi)])
 | [],k,_,h1,h2=>⟨⟨h1,h2⟩,trivial⟩
 | q::r,k,hb,h1,h2=>by
  simp only [List.length_cons] at h1 h2
  have e:k+1+r.length=k+(r.length+1):=by omega
  exact ⟨hb.1,qO hb.2 (by rw [e]; exact h1) (by rw [e]; exact h2)⟩
def vW (σ σ':Nat→Int):List CV→Prop
 | []=>True
 | .sym e::r=>evL σ' e.l=evL σ e.l∧vW σ σ' r
 | .win _ _ e m::r=>evL σ' e.l=evL σ e.l∧evL σ' m.l=evL σ m.l∧vW σ σ' r
 | _::r=>vW σ σ' r
def zMS (wins:List Win) (w0:World) (i:Int) (σ:Nat→Int) (l:List (Key × List CV)):Prop:=
 ∀ q∈l,∀ σ' K',ArgsAre K'.arg wins→vW σ σ' q.2→zBg (linSym σ' K') wins w0 i q
theorem vM {σ:Nat→Int}:∀ {l:List CV},vW σ σ l
 | []=>trivial
 | c::r=>by
  unfold vW
  split
  · trivial
  · rename_i h; injection h with h1 h2; subst h1 h2; exact ⟨rfl,vM⟩
  · rename_i h; injection h with h1 h2; subst h1 h2; exact ⟨rfl,rfl,vM⟩
  · rename_i h; injection h with h1 h2; subst h1 h2; exact vM
theorem kG {σ σ':Nat→Int} {n:Nat} {z:Int}:∀ {l:List CV},yh n l=true→vW (upV σ n z) σ' l→vW σ σ' l
 | [],_,_=>trivial
 | .sym e::r,h,hs=>by
  unfold yh at h
  rw [Bool.and_eq_true] at h
  obtain ⟨h1,h2⟩:=hs
  rw [zAT h.1] at h1
  exact ⟨h1,kG h.2 h2⟩
 | .win _ _ e m::r,h,hs=>by
  unfold yh at h
  rw [Bool.and_eq_true,Bool.and_eq_true] at h
  obtain ⟨h1,h2,h3⟩:=hs
  rw [zAT h.1.1] at h1
  rw [zAT h.1.2] at h2
  exact ⟨h1,h2,kG h.2 h3⟩
 | .nilsl::r,h,hs=>kG (l:=r) (by simpa [yh] using h) hs
 | .sl .. :: r,h,hs=>kG (l:=r) (by simpa [yh] using h) hs
 | .bool b::r,h,hs=>kG (l:=r) (by simpa [yh] using h) hs
 | .nat _::_,h,_=>by simp [yh] at h
 | .int _ _::_,h,_=>by simp [yh] at h
 | .anyi _::_,h,_=>by simp [yh] at h
 | .str _::_,h,_=>by simp [yh] at h
 | .nilptr::_,h,_=>by simp [yh] at h
 | .ptr _ _::_,h,_=>by simp [yh] at h
 | .nilmap::_,h,_=>by simp [yh] at h
 | .map _::_,h,_=>by simp [yh] at h
 | .func .. :: _,h,_=>by simp [yh] at h
 | .nilfunc::_,h,_=>by simp [yh] at h
 | .iface .. :: _,h,_=>by simp [yh] at h
 | .niliface::_,h,_=>by simp [yh] at h
 | .agg _::_,h,_=>by simp [yh] at h
 | .tup _::_,h,_=>by simp [yh] at h
 | .sst _::_,h,_=>by simp [yh] at h
 | .few .. :: _,h,_=>by simp [yh] at h
 | .elt .. :: _,h,_=>by simp [yh] at h
 | .any::_,h,_=>by simp [yh] at h
theorem zL5 {wins:List Win} {w0:World} {i:Int} {σ:Nat→Int} {n:Nat} {z:Int} {l:List (Key × List CV)} (h:zC1 n l=true) (hw:zMS wins w0 i σ l):zMS wins w0 i (upV σ n z) l:=by
 intro q hq σ' K' hA hs
 have:∀ {l:List (Key × List CV)},zC1 n l=true→q∈l→yh n q.2=true:=by
  intro l
  induction l with
  | nil=>intro _ hq; cases hq
  | cons x r ih=>
   intro h hq
   unfold zC1 at h
   rw [Bool.and_eq_true] at h
   rcases List.mem_cons.1 hq with rfl | hq
   · exact h.1
   · exact ih h.2 hq
 exact hw q hq σ' K' hA (kG (this h hq) hs)
structure zBO (wins:List Win) (w0:World) (i:Int) (σ:Nat→Int) (e:Lf):Prop where
 b:yL σ 0 e.b
 f:jn σ e.f
 r:xG σ e.r
 w:zMS wins w0 i σ e.l
theorem zVA {σ:Nat→Int} {c:Int} {v n:Nat} (h0:0≤σ v+c) (h1:σ v+c≤1000) (hn:σ n=(σ v+c) / 10):z7 σ ⟨.quo,⟨.i64,c,[(v,1)]⟩,10,.sym (sv n)⟩:=by
 refine ⟨_,.inl rfl,?_,.inr ⟨sv n,rfl,rfl⟩⟩
 have e1:evE σ ⟨.i64,c,[(v,1)]⟩=σ v+c:=by
  show c+(1*σ v+0)=_
  omega
 show yQ .quo .i64 (evE σ ⟨.i64,c,[(v,1)]⟩) (.ofNat 10)=some (zb .i64 (evE σ (sv n)))
 rw [xr,hn,e1]
 show some (zb .i64 (yr .i64 ((σ v+c).tdiv 10)))=_
 rw [Int.tdiv_eq_ediv_of_nonneg h0,jO .i64 (by show (-9223372036854775808:Int)≤_; omega) (by show _≤(9223372036854775807:Int); omega)]
theorem zVy {σ:Nat→Int} {c:Int} {v n:Nat} (h0:0≤σ v+c) (h1:σ v+c≤1000) (hn:σ n=(σ v+c) % 10):z7 σ ⟨.rem,⟨.i64,c,[(v,1)]⟩,10,.sym (sv n)⟩:=by
 refine ⟨_,.inl rfl,?_,.inr ⟨sv n,rfl,rfl⟩⟩
 have e1:evE σ ⟨.i64,c,[(v,1)]⟩=σ v+c:=by
  show c+(1*σ v+0)=_
  omega
 show yQ .rem .i64 (evE σ ⟨.i64,c,[(v,1)]⟩) (.ofNat 10)=some (zb .i64 (evE σ (sv n)))
 rw [xr,hn,e1]
 show some (zb .i64 ((σ v+c).tmod 10))=_
 rw [Int.tmod_eq_emod_of_nonneg h0]
theorem zBO.known {wins:List Win} {w0:World} {i:Int} {σ:Nat→Int} {e:Lf} (h:zBO wins w0 i σ e) (A:Key→Option Value):KnownOk σ (e.known A):=zT7 h.b h.f h.r
theorem zBO.upd {wins:List Win} {w0:World} {i:Int} {σ:Nat→Int} {e:Lf} (h:zBO wins w0 i σ e) {n:Nat} (hn:e.free n=true) (z:Int):zBO wins w0 i (Go.Ev.upV σ n z) e:=by
 unfold Lf.free at hn
 simp only [Bool.and_eq_true] at hn
 obtain ⟨⟨⟨h1,h2⟩,h3⟩,h4⟩:=hn
 exact ⟨zCu (by have:=@zL zP _ _ h4; omega) h.b,zDS h1 h.f,zDN h2 h.r,zL5 h3 h.w⟩
def zE9 (a b:Option (List Lf)):Option (List Lf):=match a,b with
 | some x,some y=>some (x++y)
 | _,_=>none
def zE0 (m:Nat) (g:Nat→Option (List Lf)):Option (List Lf):=Nat.rec (motive:=fun _=>Option (List Lf)) (g 0) (fun j ih=>zE9 ih (g (Nat.succ j))) m
def zLU (e:Lf) (l:LL):Option (Int × Int):=rng (e.known (fun _=>none)) l
def zJZ (e:Lf) (j:Nat):Bool:=match zLU e [(0,1),(Nat.succ j,-1)],zLU e [(0,1)] with
 | some p,some q=>decide (p.2<0)&&decide (0≤q.1)
 | _,_=>false
def zVd (e:Lf) (q:LL × Int × Int):Lf:={ e with f:=q::e.f }
def zDt (e:Lf) (q:SRule):Lf:={ e with r:=q::e.r }
def zKC (e:Lf) (q:Key × List CV):Lf:={ e with l:=q::e.l }
def zQZ (e:Lf) (lo hi:Int):Lf:={ e with b:=e.b++[(lo,hi)] }
def zWf (e:Lf):Lf:={ e with u:=Nat.succ e.u }
def qm (b:Bool) (o:Option (List Lf)):Option (List Lf):=match b with
 | true=>o
 | false=>none
def zAN (lo hi:Int) (o:Option (List Lf)):Option (List Lf):=match decide (hi<lo) with
 | true=>some []
 | false=>o
def vx (b:List (Int × Int)) (v:Nat) (q:Int × Int):List (Int × Int):=match b with
 | []=>[]
 | x::r=>match v with
  | 0=>q::r
  | v+1=>x::vx r v q
def zS2 (e:Lf) (v:Nat) (z:Int):Lf:={ e with b:=vx e.b v (z,z) }
def byV:Nat→Nat→List CV
 | 0,_=>[]
 | n+1,v=>.sym ⟨.u8,0,[(v,1)]⟩::byV n (Nat.succ v)
def byB:Nat→List (Int × Int)
 | 0=>[]
 | n+1=>(0,255)::byB n
def zUU (e:Lf) (n:Nat):Lf:={ e with b:=e.b++byB n }
def vw (e:Lf):Nat→Nat→Bool
 | 0,_=>true
 | m+1,n=>zF3 n e.f&&zGs n e.r&&zC1 n e.l&&vw e m (Nat.succ n)
def zVM (e:Lf) (n:Nat):Bool:=match nth e.b 0 with
 | some q=>decide (q.1=.ofNat n)&&decide (q.2=.ofNat n)
 | none=>false
def wVs:Nat→Nat→List CV
 | 0,_=>[]
 | n+1,u=>.sym (sv u)::wVs n (Nat.succ u)
def wRs (f B u:Nat):Nat→Nat→List SRule
 | _,0=>[]
 | t,n+1=>rv .rem (Nat.add u t) 3 (.sym ⟨.i64,0,[(Nat.succ (Nat.add f t),1),(Nat.add B t,3)]⟩)::wRs f B u (Nat.succ t) n
def zOV (q:Int × Int):Nat→List (Int × Int)
 | 0=>[]
 | n+1=>q::zOV q n
def zTP (ks:List (Key × Kd)) (f:Nat):Nat→Nat→Bool
 | _,0=>true
 | t,n+1=>(match nth ks (Nat.add f t) with
  | some (_,.q)=>true
  | _=>false)&&zTP ks f (Nat.succ t) n
def wLf (e:Lf) (k:Key) (f n:Nat):Lf:=⟨e.b++zOV (-1,0) n,e.f,wRs f e.b.length e.u 0 n++e.r,(k,wVs n e.u)::e.l,Nat.add e.u n⟩
def zRi (e:Lf) (v:Nat) (lo hi:Int):Lf:={ e with b:=vx e.b v (lo,hi) }
def zE2 (e:Lf) (c:Int) (v:Nat) (q:Int × Int):Lf:=zDt (zQZ e ((q.1+c) / 10) ((q.2+c) / 10)) ⟨.quo,⟨.i64,c,[(v,1)]⟩,10,.sym (sv e.b.length)⟩
def zWr (e:Lf) (c:Int) (v n:Nat):Lf:=zDt (zQZ e 0 9) ⟨.rem,⟨.i64,c,[(v,1)]⟩,10,.sym (sv n)⟩
def neR (c:Int) (l:LL):SRule:=⟨.eql,⟨.i64,c,l⟩,0,.bool false⟩
def symsN (ss:List Nat):List CV:=ss.map fun s=>.sym (sv s)
def zVm (v n:Nat) (ss:List Nat) (r:List SRule):List SRule:=match ss with
 | []=>r
 | s::ss=>neR 0 [(v,-1),(s,1),(n,-1)]::zVm v n ss r
def zUr (v:Nat) (ss:List Nat) (c:Nat) (q:SRule):Bool:=match q.op,q.v with
 | .sub,.agg l=>zPQ v q.x&&Nat.beq q.c c&&CV.beqs l (symsN ss)
 | _,_=>false
def zIV (v:Nat) (ss:List Nat) (c:Nat):List SRule→Bool
 | []=>false
 | q::r=>zUr v ss c q || zIV v ss c r
def zS0 (n:Nat):List Nat→Bool
 | []=>true
 | x::l=>!(Nat.beq x n)&&zS0 n l
def zUj (e:Lf) (v:Nat) (ss:List Nat) (c:Nat) (q:Int × Int):Lf:=
 { zQZ e 1 (min (Int.ofNat c+1 - q.1) (Int.ofNat (Nat.succ ss.length))) with f:=([(v,1),(e.b.length,1)],q.1+1,Int.ofNat c+1)::([(v,-1),(e.b.length,-1)],-(Int.ofNat c+1),-(q.1+1))::e.f,r:=zVm v e.b.length ss (⟨.add,⟨.i64,0,[(v,1),(e.b.length,1)]⟩,0,.agg (.sym (sv v)::symsN ss)⟩::e.r) }
def zUd (v n:Nat) (ss:List Nat) (q:SRule):Bool:=match q.op,q.v with
 | .add,.agg (.sym m::l)=>zPQ v m&&kEq q.x.k .i64&&zj q.x.c 0&&j6 q.x.l [(v,1),(n,1)]&&CV.beqs l (symsN ss)
 | _,_=>false
def zIx (v n:Nat) (ss:List Nat):List SRule→Bool
 | []=>false
 | q::r=>zUd v n ss q || zIx v n ss r
def zEw (v:Nat) (ss:List Nat) (l:Nat):SRule:=⟨.mul,⟨.i64,Int.ofNat l,[(v,1)]⟩,0,.agg (symsN ss)⟩
def zTp (v l:Nat) (ss:List Nat) (r:List SRule):List SRule:=match ss with
 | []=>r
 | s::ss=>neR (-Int.ofNat l) [(s,1),(v,-1)]::zTp v l ss r
def leaves (ks:List (Key × Kd)):LTree→Lf→Option (List Lf)
 | .leaf,e=>some [e]
 | .cmp l cut a b,e=>match zLU e l with
  | none=>none
  | some q=>zE9 (zAN q.1 (min q.2 (cut - 1)) (leaves ks a (zVd e (l,q.1,min q.2 (cut - 1))))) (zAN (max q.1 cut) q.2 (leaves ks b (zVd e (l,max q.1 cut,q.2))))
 | .and v m ts,e=>qm (Nat.ble m 127) (zE0 m fun j=>leaves ks (ts j) (zDt e (rv .and v m (zb .i64 (.ofNat j)))))
 | .rem v m ts,e=>zE0 (2*m) fun j=>leaves ks (ts j) (zDt e (rv .rem v (m+1) (zb .i64 (Int.ofNat j - Int.ofNat m))))
 | .remn v m ts,e=>match zLU e [(v,1)] with
  | none=>none
  | some q=>qm (decide (0≤q.1)) (zE0 m fun j=>leaves ks (ts j) (zDt e (rv .rem v (m+1) (zb .i64 (.ofNat j)))))
 | .bit v t a b,e=>qm (Nat.ble t 6) (zE9 (leaves ks a (zDt e (rv .and v (2 ^ t) (zb .i64 (.ofNat 0))))) (leaves ks b (zDt e (rv .and v (2 ^ t) (zb .i64 (.ofNat (2 ^ t)))))))
 | .shr v c t,e=>qm (e.free e.u && !(Nat.beq v e.u)) (leaves ks t (zDt (zWf e) (rv .shr v c (.sym (sv e.u)))))
 | .mask v m t,e=>qm (e.free e.b.length && !(Nat.beq v e.b.length)&&Nat.ble m 4294967295&&Nat.ble (Nat.succ e.b.length) 1000) (leaves ks t (zDt (zQZ e 0 (.ofNat m)) (rv .and v m (.sym (sv e.b.length)))))
 | .join h g a b t,e=>qm (zMm e.r h g a b) (leaves ks t { e with r:=zQ1 h a b e.r })
 | .cellI j t,e=>match nth ks j with
  | some (k,.i)=>qm (zJZ e j&&e.free e.u) (leaves ks t (zKC (zWf e) (k,[.sym (sv e.u)])))
  | _=>none
 | .cellB j a b,e=>match nth ks j with
  | some (k,.b)=>qm (zJZ e j) (zE9 (leaves ks a (zKC e (k,[.bool false]))) (leaves ks b (zKC e (k,[.bool true]))))
  | _=>none
 | .pin v ts,e=>match nth e.b v with
  | some q=>zE0 (q.2 - q.1).toNat fun j=>leaves ks (ts j) (zS2 e v (q.1+Int.ofNat j))
  | none=>none
 | .shrb v c t,e=>match nth e.b v with
  | some q=>qm (e.free e.b.length && !(Nat.beq v e.b.length)&&Nat.ble (Nat.succ e.b.length) 1000&&decide (0≤q.1)&&Nat.ble c 60) (leaves ks t (zDt (zQZ e (q.1 / 2 ^ c) (q.2 / 2 ^ c)) (rv .shr v c (.sym (sv e.b.length)))))
  | none=>none
 | .cmpb v cut a b,e=>match zLU e [(v,1)] with
  | none=>none
  | some q=>zE9 (zAN q.1 (min q.2 (cut - 1)) (leaves ks a (zRi e v q.1 (min q.2 (cut - 1))))) (zAN (max q.1 cut) q.2 (leaves ks b (zRi e v (max q.1 cut) q.2)))
 | .dec c v t,e=>match nth e.b v with
  | some q=>qm (e.free e.b.length && !(Nat.beq v e.b.length)&&Nat.ble (Nat.add e.b.length 2) 1000&&decide (0≤q.1+c)&&decide (q.2+c≤1000))
   (qm ((zE2 e c v q).free (Nat.succ e.b.length) && !(Nat.beq v (Nat.succ e.b.length))) (leaves ks t (zWr (zE2 e c v q) c v (Nat.succ e.b.length))))
  | none=>none
 | .ne c l a b,e=>zE9 (leaves ks a (zVd e (l,-c,-c))) (leaves ks b (zDt e (neR c l)))
 | .fre v ss c t,e=>match nth e.b v with
  | some q=>qm (e.free e.b.length&&zS0 e.b.length (v::ss)&&Nat.ble (Nat.succ e.b.length) 1000&&zIV v ss c e.r) (leaves ks t (zUj e v ss c q))
  | none=>none
 | .innl v n ss l t,e=>match nth e.b n with
  | some q=>qm (zIx v n ss e.r&&Nat.ble 1 l&&decide (Int.ofNat l<q.1)) (leaves ks t (zDt e (zEw v ss l)))
  | none=>none
 | .isin v l ss a b,e=>zE9 (leaves ks a (zDt e (zEw v ss l))) (leaves ks b { e with r:=zTp v l ss e.r })
 | .rows j n m t0 ts tz,e=>match nth ks j with
  | some (k,.r f)=>match nth ks (Nat.add f n) with
   | some (ki,.y)=>qm (zJZ e j&&zVM e n&&Nat.ble (Nat.succ n) 8&&vw e m e.b.length&&Nat.ble (Nat.add e.b.length m) 1000&&Nat.ble (Nat.succ (Nat.add f n)) ks.length)
    (zE9 (leaves ks t0 (zKC (zS2 e (Nat.succ (Nat.add f n)) 0) (k,[.win ki 1 ⟨.i64,0,[]⟩ ⟨.i64,0,[]⟩])))
    (zE9 (zE0 m fun l=>leaves ks (ts l) (zKC (zKC (zS2 (zUU e l) (Nat.succ (Nat.add f n)) (.ofNat l)) (ki,byV l e.b.length)) (k,[.sl ki 0 l l 1 false])))
      (match nth e.b (Nat.succ (Nat.add f n)) with
        | some q=>leaves ks tz (zKC (zKC { zUU e m with b:=vx (zUU e m).b (Nat.succ (Nat.add f n)) (.ofNat (Nat.succ m),q.2) } (ki,byV m e.b.length)) (k,[.win ki 1 ⟨.i64,0,[]⟩ (sv (Nat.succ (Nat.add f n)))]))
        | none=>none)))
   | _=>none
  | _=>none
 | .wcells j n t,e=>match nth ks j with
  | some (k,.w f)=>match zLU e [(Nat.succ j,1)] with
   | some q=>qm (decide (Int.ofNat n≤q.1)&&vw e n e.u&&vw e n e.b.length&&Nat.ble (Nat.add e.b.length n) 1000&&zTP ks f 0 n&&Nat.ble (Nat.add f n) ks.length&&Nat.ble n 8&&Nat.ble 1 n) (leaves ks t (wLf e k f n))
   | none=>none
  | _=>none
structure zIt (W:World) (v:Value) (wn:Win):Prop where
 val:v=.slice wn.base wn.len wn.cap
 base:wn.len=0∧wn.cap=0∨wn.base=some ⟨wn.B,wn.x,none⟩∧∃ arr elem fz,W.heap[wn.B]? = some (.cells arr elem fz)∧wn.x≤arr.size
 cell:∀ i,i<wn.len→∃ arr elem fz q,W.heap[wn.B]? = some (.cells arr elem fz)∧wn.x+i+1≤arr.size∧arr[wn.x+i]? = some (.int .u8 q)∧0≤q∧q≤255
 size:wn.sz=wn.x+wn.cap*1
 stay:wn.esz=0
 cap:wn.len≤wn.cap
structure zUV (W:World) (v:Value) (wn:Win):Prop where
 val:v=.slice wn.base wn.len wn.cap
 base:0<wn.len→wn.base=some ⟨wn.B,wn.x,none⟩
 size:wn.sz=wn.x+wn.cap*1
def zTh (w0:World) (v:Value) (wn:Win):Kd→Prop
 | .i=>wn.esz=1∧IntArg w0 v wn
 | .b=>wn.esz=1∧zNm w0 v wn
 | .r _=>wn.esz=1∧zUV w0 v wn
 | .y=>zIt w0 v wn
 | .w _=>wn.esz=0
 | .q=>True
structure WinIs (wins:List Win) (w0:World) (σ:Nat→Int) (ks:List (Key × Kd)):Prop where
 len:∀ j k,nth ks j=some k→∃ wn v,findW wins wn.key=some wn∧wn.key=k.1∧σ (Nat.succ j)=wn.len∧zTh w0 v wn k.2
 row:∀ j k f n ki wn wi,nth ks j=some (k,.r f)→nth ks (Nat.add f n)=some (ki,.y)→findW wins k=some wn→findW wins ki=some wi→n<wn.len→n<8 →
  ∃ arr elem fz,w0.heap[wn.B]? = some (.cells arr elem fz)∧wn.x+n+1≤arr.size∧arr[wn.x+n]? = some (.slice wi.base wi.len wi.cap)
 int:∀ j k f wn t,nth ks j=some (k,.w f)→findW wins k=some wn→t<wn.len→t<8 →
  ∃ arr elem fz z,w0.heap[wn.B]? = some (.cells arr elem fz)∧wn.x+t+1≤arr.size∧arr[wn.x+t]? = some (.int .i64 z)∧∀ kq wq,nth ks (Nat.add f t)=some (kq,.q)→findW wins kq=some wq→(wq.len:Int)=wI z
theorem WinIs.upd {wins:List Win} {w0:World} {σ σ':Nat→Int} {ks:List (Key × Kd)} (h:WinIs wins w0 σ ks) (hs:∀ j,j≤ks.length→σ' j=σ j):WinIs wins w0 σ' ks:=
 ⟨fun j k hj=>by
  obtain ⟨wn,v,q1,q2,q4,q5⟩:=h.len j k hj
  have hlt:j<ks.length:=by
   rw [@yg zP] at hj
   exact (List.getElem?_eq_some_iff.1 hj).1
  exact ⟨wn,v,q1,q2,by rw [hs _ (by omega)]; exact q4,q5⟩,h.row,h.int⟩
theorem zPs {w0:World} {σ:Nat→Int}:WinIs [] w0 σ []:=⟨fun j k hj=>by (cases j <;> cases hj),fun j k f n ki wn wi hj=>by (cases j <;> cases hj),fun j k f wn t hj=>by (cases j <;> cases hj)⟩
def upN (σ:Nat→Int) (n:Nat) (g:Nat→Int):Nat→Nat→Int
 | 0=>σ
 | m+1=>upV (upN σ n g m) (n+m) (g m)
theorem uk {σ:Nat→Int} {n:Nat} {g:Nat→Int}:∀ {m i:Nat},(i<n∨n+m≤i)→upN σ n g m i=σ i
 | 0,_,_=>rfl
 | m+1,i,h=>by
  show upV (upN σ n g m) (n+m) (g m) i=σ i
  rw [upd_other (by omega),uk (by omega)]
theorem zBs {σ:Nat→Int} {n:Nat} {g:Nat→Int}:∀ {m t:Nat},t<m→upN σ n g m (n+t)=g t
 | m+1,t,h=>by
  show upV (upN σ n g m) (n+m) (g m) (n+t)=g t
  by_cases e:t=m
  · subst e; exact upd_same
  · rw [upd_other (by omega),zBs (by omega)]
theorem vC {e:Lf}:∀ {m n:Nat},vw e m n=true→e.b.length≤n→∀ t,t<m→e.free (n+t)=true
 | m+1,n,h,hn,t,ht=>by
  unfold vw at h
  simp only [Bool.and_eq_true] at h
  obtain ⟨⟨⟨h1,h2⟩,h3⟩,h4⟩:=h
  cases t with
  | zero=>
   unfold Lf.free
   simp only [Bool.and_eq_true,Nat.add_zero]
   exact ⟨⟨⟨h1,h2⟩,h3⟩,Nat.ble_eq_true_of_le hn⟩
  | succ t=>
   rw [show n+(t+1)=n+1+t from by omega]
   exact vC h4 (by omega) t (by omega)
theorem zBO.updN {wins:List Win} {w0:World} {i:Int} {σ:Nat→Int} {e:Lf} (h:zBO wins w0 i σ e) {n:Nat} {g:Nat→Int}:∀ {m:Nat},(∀ t,t<m→e.free (n+t)=true)→zBO wins w0 i (upN σ n g m) e
 | 0,_=>h
 | m+1,hf=>(zBO.updN h fun t ht=>hf t (by omega)).upd (hf m (by omega)) (g m)
theorem wu {σ:Nat→Int}:∀ {m:Nat} {b:List (Int × Int)} {k:Nat},yL σ k b→(∀ t,t<m→0≤σ (k+b.length+t)∧σ (k+b.length+t)≤255)→yL σ k (b++byB m)
 | m,[],k,_,h=>by
  have:∀ {m k:Nat},(∀ t,t<m→0≤σ (k+t)∧σ (k+t)≤255)→yL σ k (byB m):=by
   intro m
   induction m with
   | zero=>intro k _; exact trivial
   | succ m ih=>
    intro k h
    exact ⟨h 0 (by omega),ih fun t ht=>by
     have:=h (t+1) (by omega)
     rwa [show k+(t+1)=k+1+t from by omega] at this⟩
  exact this fun t ht=>by simpa using h t ht
 | m,q::r,k,hb,h=>⟨hb.1,wu (b:=r) (k:=k+1) hb.2 fun t ht=>by
  have:=h t ht
  simp only [List.length_cons] at this
  rwa [show k+(r.length+1)+t=k+1+r.length+t from by omega] at this⟩
theorem zCk:∀ {m:Nat},(byB m).length=m
 | 0=>rfl
 | m+1=>by simp [byB,zCk]
theorem zN6:∀ {m v:Nat},(byV m v).length=m
 | 0,_=>rfl
 | m+1,v=>by simp [byV,zN6]
theorem zN4:∀ {m v t:Nat} {c:CV},(byV m v)[t]? = some c→t<m∧c=.sym ⟨.u8,0,[(v+t,1)]⟩
 | 0,v,t,c,h=>by simp [byV] at h
 | m+1,v,0,c,h=>by
  simp [byV] at h
  exact ⟨by omega,h.symm⟩
 | m+1,v,t+1,c,h=>by
  have:=zN4 (m:=m) (v:=Nat.succ v) (t:=t) (c:=c) (by simpa [byV] using h)
  exact ⟨by omega,by rw [this.2,show Nat.succ v+t=v+(t+1) from by omega]⟩
theorem uO {σ σ':Nat→Int}:∀ {m v:Nat},vW σ σ' (byV m v)→∀ t,t<m→σ' (v+t)=σ (v+t)
 | m+1,v,h,0,_=>by
  have h1:evL σ' [(v,1)]=evL σ [(v,1)]:=h.1
  have e:∀ s:Nat→Int,evL s [(v,1)]=s v:=fun s=>by show 1*s v+0=_; omega
  rw [e,e] at h1
  exact h1
 | m+1,v,h,t+1,ht=>by
  have:=uO (m:=m) (v:=Nat.succ v) h.2 t (by omega)
  rwa [show Nat.succ v+t=v+(t+1) from by omega] at this
theorem zGc {W:World} {v:Value} {wins:List Win} {wi:Win} (h:zIt W v wi) (hf:findW wins wi.key=some wi) (hb:∃ arr elem fz,W.heap[wi.B]? = some (.cells arr elem fz)∧wi.x≤arr.size) {m:Nat} (hm:m≤wi.len) (i:Int) :
 ∃ g:Nat→Int,(∀ t,t<m→0≤g t∧g t≤255)∧∀ (σ:Nat→Int) (K:zY) (n:Nat),(∀ t,t<m→σ (n+t)=g t)→zBg (linSym σ K) wins W i (wi.key,byV m n):=by
 obtain ⟨arr,elem,fz,k1,k2⟩:∃ arr elem fz,W.heap[wi.B]? = some (.cells arr elem fz)∧wi.x≤arr.size:=by
  exact hb
 have hcell:∀ t,t<m→∃ q,arr[wi.x+t]? = some (.int .u8 q)∧0≤q∧q≤255:=by
  intro t ht
  obtain ⟨arr',e',f',q,g1,g2,g3,g4,g5⟩:=h.cell t (by omega)
  rw [k1] at g1
  injection g1 with g1
  injection g1 with g1
  subst g1
  exact ⟨q,g3,g4,g5⟩
 obtain ⟨g,hg⟩:∃ g:Nat→Int,∀ t,t<m→arr[wi.x+t]? = some (.int .u8 (g t))∧0≤g t∧g t≤255:=
  ⟨fun t=>if ht:t<m then (hcell t ht).choose else 0,fun t ht=>by simp only [dif_pos ht]; exact (hcell t ht).choose_spec⟩
 refine ⟨g,fun t ht=>(hg t ht).2,fun σ K n hs=>⟨wi,arr,elem,fz,hf,k1,?_,fun j c hj=>?_⟩⟩
 · rw [h.stay,Nat.mul_zero,Nat.add_zero,zN6]
   rcases Nat.eq_zero_or_pos m with rfl | hp
   · exact k2
   · have:=(Array.getElem?_eq_some_iff.1 (hg (m - 1) (by omega)).1).1
     omega
 · obtain ⟨ht,rfl⟩:=zN4 hj
   refine ⟨.int .u8 (g j),by rw [h.stay,Nat.mul_zero,Nat.add_zero]; exact (hg j ht).1,fun ψ _=>?_⟩
   refine (@zq (linSym σ K) _ _ _).2 ?_
   show Value.int .u8 (g j)=.int .u8 (evE σ ⟨.u8,0,[(n+j,1)]⟩)
   rw [← hs j ht]
   show _=Value.int .u8 (0+(1*σ (n+j)+0))
   congr 1
   omega
theorem qz {a b:Option (List Lf)} {l:List Lf} (h:zE9 a b=some l):∃ x y,a=some x∧b=some y∧l=x++y:=by
 unfold zE9 at h
 split at h
 · injection h with h; exact ⟨_,_,rfl,rfl,h.symm⟩
 · cases h
theorem wT {g:Nat→Option (List Lf)}:∀ {m:Nat} {l:List Lf},zE0 m g=some l→∀ j,j≤m→∃ x,g j=some x∧∀ e∈x,e∈l
 | 0,l,h,j,hj=>by
  obtain rfl:j=0:=by omega
  exact ⟨l,h,fun e he=>he⟩
 | m+1,l,h,j,hj=>by
  obtain ⟨x,y,h1,h2,rfl⟩:=qz (a:=zE0 m g) (b:=g (m+1)) h
  by_cases e:j=m+1
  · subst e; exact ⟨y,h2,fun e he=>List.mem_append_right _ he⟩
  · obtain ⟨z,h3,h4⟩:=wT h1 j (by omega)
    exact ⟨z,h3,fun e he=>List.mem_append_left _ (h4 e he)⟩
theorem y8 {b:Bool} {o:Option (List Lf)} {l:List Lf} (h:qm b o=some l):b=true∧o=some l:=by
 unfold qm at h
 split at h
 · exact ⟨rfl,h⟩
 · cases h
theorem wM {lo hi:Int} {o:Option (List Lf)} {l:List Lf} (h:zAN lo hi o=some l) (hle:lo≤hi):o=some l:=by
 unfold zAN at h
 rw [decide_eq_false (by omega)] at h
 exact h
theorem xn:∀ {b:List (Int × Int)} {v:Nat} {q:Int × Int},(vx b v q).length=b.length
 | [],_,_=>rfl
 | _::r,0,_=>rfl
 | _::r,v+1,_=>by simp [vx,xn (b:=r)]
theorem xj {σ:Nat→Int}:∀ {b:List (Int × Int)} {k v:Nat} {q:Int × Int},yL σ k b→nth b v=some q→q.1≤σ (k+v)∧σ (k+v)≤q.2
 | [],_,_,_,_,h=>by cases h
 | x::r,k,0,q,hb,h=>by
  injection h with h; subst h
  exact hb.1
 | x::r,k,v+1,q,hb,h=>by
  have:=xj hb.2 (v:=v) h
  rw [show k+1+v=k+(v+1) from by omega] at this
  exact this
theorem wN {σ:Nat→Int} {z:Int}:∀ {b:List (Int × Int)} {k v:Nat},yL σ k b→σ (k+v)=z→yL σ k (vx b v (z,z))
 | [],_,_,_,_=>trivial
 | x::r,k,0,hb,h=>⟨by rw [← h]; exact ⟨Int.le_refl _,Int.le_refl _⟩,hb.2⟩
 | x::r,k,v+1,hb,h=>⟨hb.1,wN (b:=r) (k:=k+1) (v:=v) hb.2 (by rw [show k+1+v=k+(v+1) from by omega]; exact h)⟩
theorem kZ {σ:Nat→Int} {lo hi:Int}:∀ {b:List (Int × Int)} {k v:Nat},yL σ k b→lo≤σ (k+v)→σ (k+v)≤hi→yL σ k (vx b v (lo,hi))
 | [],_,_,_,_,_=>trivial
 | x::r,k,0,hb,h1,h2=>⟨⟨h1,h2⟩,hb.2⟩
 | x::r,k,v+1,hb,h1,h2=>⟨hb.1,kZ (b:=r) (k:=k+1) (v:=v) hb.2 (by rw [show k+1+v=k+(v+1) from by omega]; exact h1) (by rw [show k+1+v=k+(v+1) from by omega]; exact h2)⟩
section
variable {wins:List Win} {w0:World} {i:Int} {ks:List (Key × Kd)}
theorem zAQ {σ:Nat→Int} {e:Lf} (h:zBO wins w0 i σ e) {l:LL} {q:Int × Int} (hq:zLU e l=some q):q.1≤evL σ l∧evL σ l≤q.2:=
 yi (h.known _) hq
theorem vD {σ:Nat→Int} {v:Nat}:evL σ [(v,1)]=σ v:=by
 show 1*σ v+0=_; omega
theorem zFm {σ:Nat→Int} {e:Lf} (h:zBO wins w0 i σ e) {j:Nat} (hi:zJZ e j=true):0≤σ 0∧σ 0<σ (Nat.succ j):=by
 unfold zJZ at hi
 split at hi
 · rename_i p q hp hq
   rw [Bool.and_eq_true,decide_eq_true_eq,decide_eq_true_eq] at hi
   have g1:=(zAQ h hp).2
   have g2:=(zAQ h hq).1
   rw [vD] at g2
   have e:evL σ [(0,1),(Nat.succ j,-1)]=1*σ 0+(-1*σ (Nat.succ j)+0):=rfl
   rw [e] at g1
   omega
 · cases hi
theorem zNv:∀ {m v:Nat},(wVs m v).length=m
 | 0,_=>rfl
 | m+1,v=>by simp [wVs,zNv]
theorem zOI:∀ {m v t:Nat} {c:CV},(wVs m v)[t]? = some c→t<m∧c=.sym (sv (v+t))
 | 0,v,t,c,h=>by simp [wVs] at h
 | m+1,v,0,c,h=>by
  simp [wVs] at h
  exact ⟨by omega,h.symm⟩
 | m+1,v,t+1,c,h=>by
  have:=zOI (m:=m) (v:=Nat.succ v) (t:=t) (c:=c) (by simpa [wVs] using h)
  exact ⟨by omega,by rw [this.2,show Nat.succ v+t=v+(t+1) from by omega]⟩
theorem zKJ {σ σ':Nat→Int}:∀ {m v:Nat},vW σ σ' (wVs m v)→∀ t,t<m→σ' (v+t)=σ (v+t)
 | m+1,v,h,0,_=>by
  have h1:evL σ' [(v,1)]=evL σ [(v,1)]:=h.1
  have e:∀ s:Nat→Int,evL s [(v,1)]=s v:=fun s=>by show 1*s v+0=_; omega
  rw [e,e] at h1
  exact h1
 | m+1,v,h,t+1,ht=>by
  have:=zKJ (m:=m) (v:=Nat.succ v) h.2 t (by omega)
  rwa [show Nat.succ v+t=v+(t+1) from by omega] at this
theorem zE4 {q:Int × Int}:∀ {m:Nat},(zOV q m).length=m
 | 0=>rfl
 | m+1=>by simp [zOV,zE4]
theorem zCM {σ:Nat→Int} {q:Int × Int}:∀ {m:Nat} {b:List (Int × Int)} {k:Nat},yL σ k b→(∀ t,t<m→q.1≤σ (k+b.length+t)∧σ (k+b.length+t)≤q.2)→yL σ k (b++zOV q m)
 | m,[],k,_,h=>by
  have:∀ {m k:Nat},(∀ t,t<m→q.1≤σ (k+t)∧σ (k+t)≤q.2)→yL σ k (zOV q m):=by
   intro m
   induction m with
   | zero=>intro k _; exact trivial
   | succ m ih=>
    intro k h
    exact ⟨h 0 (by omega),ih fun t ht=>by
     have:=h (t+1) (by omega)
     rwa [show k+(t+1)=k+1+t from by omega] at this⟩
  exact this fun t ht=>by simpa using h t ht
 | m,x::r,k,hb,h=>⟨hb.1,zCM (b:=r) (k:=k+1) hb.2 fun t ht=>by
  have:=h t ht
  simp only [List.length_cons] at this
  rwa [show k+(r.length+1)+t=k+1+r.length+t from by omega] at this⟩
theorem zOt {ks:List (Key × Kd)} {f:Nat}:∀ {n t:Nat},zTP ks f t n=true→∀ i,t≤i→i<t+n→∃ kq,nth ks (Nat.add f i)=some (kq,.q)
 | 0,t,_,i,h1,h2=>by omega
 | n+1,t,h,i,h1,h2=>by
  unfold zTP at h
  rw [Bool.and_eq_true] at h
  rcases Nat.eq_or_lt_of_le h1 with rfl | h1
  · have h3:=h.1
    split at h3
    · rename_i kq hk
      exact ⟨kq,hk⟩
    · cases h3
  · exact zOt h.2 i h1 (by omega)
theorem zSb {σ:Nat→Int} {f B u:Nat}:∀ {n t:Nat},(∀ i,t≤i→i<t+n→z7 σ (rv .rem (Nat.add u i) 3 (.sym ⟨.i64,0,[(Nat.succ (Nat.add f i),1),(Nat.add B i,3)]⟩)))→∀ {r:List SRule},xG σ r→xG σ (wRs f B u t n++r)
 | 0,_,_,_,hr=>hr
 | n+1,t,h,_,hr=>⟨h t (by omega) (by omega),zSb (n:=n) (t:=Nat.succ t) (fun i h1 h2=>h i (by omega) (by omega)) hr⟩
theorem zMN {σ:Nat→Int} {c:Int} {l:LL} (h:c+evL σ l≠0):z7 σ (neR c l):=by
 refine (uu (r:=neR c l) rfl).2 ⟨.bool false,.inl rfl,?_,.inl rfl⟩
 show some (CV.bool (zj (c+evL σ l) (.ofNat 0)))=_
 rw [@za zP,decide_eq_false (by simpa using h)]
theorem zHT {σ:Nat→Int}:∀ {ss:List Nat},xx σ (symsN ss)=ss.map σ
 | []=>rfl
 | s::ss=>by
  show zBG σ (.sym (sv s))::xx σ (symsN ss)=_
  rw [zHT]
  show evE σ (sv s)::_=_
  rw [xr]; rfl
theorem zHA {σ:Nat→Int} {v:Nat} {ss:List Nat} {c:Nat}:∀ {r:List SRule},zIV v ss c r=true→xG σ r→σ v+jV (σ v) (ss.map σ)≤c
 | [],h,_=>by cases h
 | q::r,h,hr=>by
  unfold zIV at h
  rw [Bool.or_eq_true] at h
  rcases h with h | h
  · have hq:=hr.1
    unfold zUr at h
    split at h
    · rename_i l ho hv
      simp only [Bool.and_eq_true] at h
      obtain ⟨⟨h1,h2⟩,h3⟩:=h
      have h1:=zEm h1
      have h2:=Nat.eq_of_beq_eq_true h2
      have h3:=@CV.beqs_eq zP _ _ h3
      unfold z7 at hq
      rw [ho] at hq
      have hq:zBe σ q:=hq
      unfold zBe at hq
      rw [hv] at hq
      have hq:evE σ q.x+jV (evE σ q.x) (xx σ l)≤q.c:=hq
      rw [h1,h3,zHT,xr,h2] at hq
      exact hq
    · cases h
  · exact zHA h hr.2
theorem zNk {n:Nat}:∀ {l:List Nat},zS0 n l=true→∀ x∈l,x≠n
 | [],_,x,hx=>by cases hx
 | y::l,h,x,hx=>by
  unfold zS0 at h
  rw [Bool.and_eq_true] at h
  rcases List.mem_cons.1 hx with rfl | hx
  · intro e; rw [e] at h; simp at h
  · exact zNk h.2 x hx
theorem zOK {σ:Nat→Int} {v n:Nat}:∀ {ss:List Nat} {r:List SRule},(∀ s∈ss,σ s≠σ v+σ n)→xG σ r→xG σ (zVm v n ss r)
 | [],_,_,hr=>hr
 | s::ss,r,h,hr=>by
  refine ⟨zMN ?_,zOK (fun x hx=>h x (by simp [hx])) hr⟩
  have:=h s (by simp)
  simp only [evL]
  omega
theorem zNY {σ:Nat→Int} {v l:Nat}:∀ {ss:List Nat} {r:List SRule},(∀ s∈ss,σ s≠σ v+Int.ofNat l)→xG σ r→xG σ (zTp v l ss r)
 | [],_,_,hr=>hr
 | s::ss,r,h,hr=>by
  refine ⟨zMN ?_,zNY (fun x hx=>h x (by simp [hx])) hr⟩
  have:=h s (by simp)
  simp only [evL]
  omega
theorem zId {σ:Nat→Int} {v n:Nat} {ss:List Nat}:∀ {r:List SRule},zIx v n ss r=true→xG σ r→σ v+σ n=frA (σ v) (ss.map σ)
 | [],h,_=>by cases h
 | q::r,h,hr=>by
  unfold zIx at h
  rw [Bool.or_eq_true] at h
  rcases h with h | h
  · have hq:=hr.1
    unfold zUd at h
    split at h
    · rename_i m l ho hv
      simp only [Bool.and_eq_true] at h
      obtain ⟨⟨⟨⟨h1,_⟩,h2⟩,h3⟩,h4⟩:=h
      have h1:=zEm h1
      rw [@za zP,decide_eq_true_eq] at h2
      have h3:=@qq zP _ _ h3
      have h4:=@CV.beqs_eq zP _ _ h4
      unfold z7 at hq
      rw [ho] at hq
      have hq:zBh σ q:=hq
      unfold zBh at hq
      rw [hv] at hq
      have hq:evE σ q.x=frA (evE σ m) (xx σ l):=hq
      rw [h1,h4,zHT,xr] at hq
      rw [← hq]
      unfold evE
      rw [h2,h3]
      simp only [evL]
      omega
    · cases h
  · exact zId h hr.2
theorem zx:∀ (t:LTree) (e:Lf) (σ:Nat→Int) {ls:List Lf},leaves ks t e=some ls→zBO wins w0 i σ e→WinIs wins w0 σ ks→σ 0=i→ks.length<e.b.length→e.b.length≤1000→1000≤e.u →
 ∃ e'∈ls,∃ σ',zBO wins w0 i σ' e'∧∀ j,(j<e.b.length∨(1000≤j∧j<e.u))→σ' j=σ j
 | .leaf,e,σ,ls,h,he,_,_,_,_,_=>by
  injection h with h; subst h
  exact ⟨e,by simp,σ,he,fun _ _=>rfl⟩
 | .cmp l cut a b,e,σ,ls,h,he,hw,h0,hk,h1,h2=>by
  unfold leaves at h
  split at h
  · cases h
  · rename_i q hq
    obtain ⟨x,y,hx,hy,rfl⟩:=qz h
    obtain ⟨g1,g2⟩:=zAQ he hq
    by_cases hc:evL σ l<cut
    · have hx:=wM hx (by omega)
      obtain ⟨e',m,σ',r1,r2⟩:=zx a _ σ hx ⟨he.b,⟨⟨g1,by simp only; omega⟩,he.f⟩,he.r,he.w⟩ hw h0 hk h1 h2
      exact ⟨e',List.mem_append_left _ m,σ',r1,r2⟩
    · have hy:=wM hy (by omega)
      obtain ⟨e',m,σ',r1,r2⟩:=zx b _ σ hy ⟨he.b,⟨⟨by simp only; omega,g2⟩,he.f⟩,he.r,he.w⟩ hw h0 hk h1 h2
      exact ⟨e',List.mem_append_right _ m,σ',r1,r2⟩
 | .and v m ts,e,σ,ls,h,he,hw,h0,hk,h1,h2=>by
  unfold leaves at h
  obtain ⟨hm,h⟩:=y8 h
  obtain ⟨j,hj,hr⟩:=zPq (σ v) m (@zL zP _ _ hm)
  obtain ⟨x,hx,hin⟩:=wT h j hj
  obtain ⟨e',m,σ',r1,r2⟩:=zx (ts j) _ σ hx ⟨he.b,he.f,⟨zJ0 hr,he.r⟩,he.w⟩ hw h0 hk h1 h2
  exact ⟨e',hin _ m,σ',r1,r2⟩
 | .rem v m ts,e,σ,ls,h,he,hw,h0,hk,h1,h2=>by
  unfold leaves at h
  obtain ⟨z,hz,hr⟩:=zHN (σ v) m
  obtain ⟨x,hx,hin⟩:=wT h (z+m).toNat (by omega)
  have e1:(Int.ofNat (z+m).toNat - Int.ofNat m)=z:=by
   show (((z+m).toNat:Nat):Int) - (m:Int)=z
   omega
  rw [e1] at hx
  obtain ⟨e',m,σ',r1,r2⟩:=zx (ts (z+m).toNat) _ σ hx ⟨he.b,he.f,⟨zJ0 hr,he.r⟩,he.w⟩ hw h0 hk h1 h2
  exact ⟨e',hin _ m,σ',r1,r2⟩
 | .remn v m ts,e,σ,ls,h,he,hw,h0,hk,h1,h2=>by
  unfold leaves at h
  split at h
  · cases h
  · rename_i q hq
    obtain ⟨hq0,h⟩:=y8 h
    rw [decide_eq_true_eq] at hq0
    have g:=(zAQ he hq).1
    rw [vD] at g
    obtain ⟨j,hj,hr⟩:=zM0 (σ v) (by omega) m
    obtain ⟨x,hx,hin⟩:=wT h j hj
    obtain ⟨e',m,σ',r1,r2⟩:=zx (ts j) _ σ hx ⟨he.b,he.f,⟨zJ0 hr,he.r⟩,he.w⟩ hw h0 hk h1 h2
    exact ⟨e',hin _ m,σ',r1,r2⟩
 | .bit v t a b,e,σ,ls,h,he,hw,h0,hk,h1,h2=>by
  unfold leaves at h
  obtain ⟨ht,h⟩:=y8 h
  obtain ⟨x,y,hx,hy,rfl⟩:=qz h
  have ht:=@zL zP _ _ ht
  rcases zPt (σ v) t (by omega) with hr | hr
  · obtain ⟨e',m,σ',r1,r2⟩:=zx a _ σ hx ⟨he.b,he.f,⟨zJ0 hr,he.r⟩,he.w⟩ hw h0 hk h1 h2
    exact ⟨e',List.mem_append_left _ m,σ',r1,r2⟩
  · obtain ⟨e',m,σ',r1,r2⟩:=zx b _ σ hy ⟨he.b,he.f,⟨zJ0 hr,he.r⟩,he.w⟩ hw h0 hk h1 h2
    exact ⟨e',List.mem_append_right _ m,σ',r1,r2⟩
 | .shr v c t,e,σ,ls,h,he,hw,h0,hk,h1,h2=>by
  unfold leaves at h
  obtain ⟨hg,h⟩:=y8 h
  rw [Bool.and_eq_true] at hg
  have hne:v≠e.u:=fun q=>by have:=hg.2; rw [q] at this; simp at this
  obtain ⟨z,hr⟩:=zPE (σ v) c
  have he':=he.upd hg.1 z
  have hr':z7 (upV σ e.u z) (rv .shr v c (.sym (sv e.u))):=zM7 (by rw [upd_other hne,upd_same]; exact hr)
  obtain ⟨e',m,σ',r1,r2⟩:=zx t _ (upV σ e.u z) h ⟨he'.b,he'.f,⟨hr',he'.r⟩,he'.w⟩
   (hw.upd fun j hj=>upd_other (by show j≠e.u; omega)) (by rw [upd_other (by omega)]; exact h0) hk h1 (by show 1000≤e.u+1; omega)
  exact ⟨e',m,σ',r1,fun j hj=>by rw [r2 j (show j<e.b.length∨(1000≤j∧j<e.u+1) by omega),upd_other (by omega)]⟩
 | .mask v m t,e,σ,ls,h,he,hw,h0,hk,h1,h2=>by
  unfold leaves at h
  obtain ⟨hg,h⟩:=y8 h
  simp only [Bool.and_eq_true] at hg
  obtain ⟨⟨⟨g1,g2⟩,g3⟩,g4⟩:=hg
  have hb:=@zL zP _ _ g4
  have hne:v≠e.b.length:=fun q=>by rw [q] at g2; simp at g2
  obtain ⟨z,hz,hr⟩:=zMy (σ v) m (@zL zP _ _ g3)
  have he':=he.upd g1 (.ofNat z)
  have hr':z7 (upV σ e.b.length (.ofNat z)) (rv .and v m (.sym (sv e.b.length))):=zM7 (by rw [upd_other hne,upd_same]; exact hr)
  obtain ⟨e',m',σ',r1,r2⟩:=zx t _ (upV σ e.b.length (.ofNat z)) h
   ⟨qO he'.b (by rw [Nat.zero_add,upd_same]; exact Int.natCast_nonneg z) (by rw [Nat.zero_add,upd_same]; exact Int.ofNat_le.2 hz),he'.f,⟨hr',he'.r⟩,he'.w⟩
   (hw.upd fun j hj=>upd_other (by show j≠e.b.length; omega)) (by rw [upd_other (by omega)]; exact h0) (by show _<(e.b++_).length; simp; omega) (by show (e.b++_).length≤_; simp; omega) h2
  exact ⟨e',m',σ',r1,fun j hj=>by rw [r2 j (show j<(e.b++[((0:Int),Int.ofNat m)]).length∨(1000≤j∧j<e.u) by simp; omega),upd_other (by omega)]⟩
 | .join h' g a b t,e,σ,ls,h,he,hw,h0,hk,h1,h2=>by
  unfold leaves at h
  obtain ⟨hg,h⟩:=y8 h
  exact zx t { e with r:=zQ1 h' a b e.r } σ h ⟨he.b,he.f,zQ6 hg he.r,he.w⟩ hw h0 hk h1 h2
 | .cellI j t,e,σ,ls,h,he,hw,h0,hk,h1,h2=>by
  unfold leaves at h
  split at h
  · rename_i k hj
    obtain ⟨hg,h⟩:=y8 h
    rw [Bool.and_eq_true] at hg
    obtain ⟨wn,v,q1,q2,q4,q3,q5⟩:=hw.len j _ hj
    obtain ⟨g1,g2⟩:=zFm he hg.1
    obtain ⟨q,hq⟩:=zRK (i:=σ 0) q5 q3 q1 g1 (by rw [q4] at g2; exact g2)
    have he':=he.upd hg.2 q
    have hne:e.u≠0:=by omega
    obtain ⟨e',m,σ',r1,r2⟩:=zx t _ (upV σ e.u q) h
     ⟨he'.b,he'.f,he'.r,fun x hx σ' K' hA hs=>by
      rcases List.mem_cons.1 hx with rfl | hx
      · have e1:σ' e.u=q:=by
         have:=hs.1
         have e2:evL σ' [(e.u,1)]=evL (upV σ e.u q) [(e.u,1)]:=this
         rw [vD,vD,upd_same] at e2
         exact e2
        have:=hq σ' K' e.u e1
        rw [h0,q2] at this
        exact this
      · exact he'.w x hx σ' K' hA hs⟩
     (hw.upd fun j hj=>upd_other (by show j≠e.u; omega)) (by rw [upd_other (fun q=>hne q.symm)]; exact h0) hk h1 (by show 1000≤e.u+1; omega)
    exact ⟨e',m,σ',r1,fun j hj=>by rw [r2 j (show j<e.b.length∨(1000≤j∧j<e.u+1) by omega),upd_other (by omega)]⟩
  · cases h
 | .cellB j a b,e,σ,ls,h,he,hw,h0,hk,h1,h2=>by
  unfold leaves at h
  split at h
  · rename_i k hj
    obtain ⟨hg,h⟩:=y8 h
    obtain ⟨x,y,hx,hy,rfl⟩:=qz h
    obtain ⟨wn,v,q1,q2,q4,q3,q5⟩:=hw.len j _ hj
    obtain ⟨g1,g2⟩:=zFm he hg
    rcases zO4 (i:=σ 0) q5 q3 q1 g1 (by rw [q4] at g2; exact g2) with hq | hq
    · obtain ⟨e',m,σ',r1,r2⟩:=zx a _ σ hx ⟨he.b,he.f,he.r,fun x hx σ' K' hA hs=>by
       rcases List.mem_cons.1 hx with rfl | hx
       · have:=hq σ' K'
         rw [h0,q2] at this
         exact this
       · exact he.w x hx σ' K' hA hs⟩ hw h0 hk h1 h2
      exact ⟨e',List.mem_append_left _ m,σ',r1,r2⟩
    · obtain ⟨e',m,σ',r1,r2⟩:=zx b _ σ hy ⟨he.b,he.f,he.r,fun x hx σ' K' hA hs=>by
       rcases List.mem_cons.1 hx with rfl | hx
       · have:=hq σ' K'
         rw [h0,q2] at this
         exact this
       · exact he.w x hx σ' K' hA hs⟩ hw h0 hk h1 h2
      exact ⟨e',List.mem_append_right _ m,σ',r1,r2⟩
  · cases h
 | .pin v ts,e,σ,ls,h,he,hw,h0,hk,h1,h2=>by
  unfold leaves at h
  split at h
  · rename_i q hq
    have hb:=xj he.b hq
    rw [Nat.zero_add] at hb
    obtain ⟨x,hx,hin⟩:=wT h (σ v - q.1).toNat (by omega)
    have ez:q.1+Int.ofNat (σ v - q.1).toNat=σ v:=by
     show q.1+(((σ v - q.1).toNat:Nat):Int)=σ v
     omega
    rw [ez] at hx
    obtain ⟨e',m,σ',r1,r2⟩:=zx (ts (σ v - q.1).toNat) (zS2 e v (σ v)) σ hx ⟨wN he.b (by rw [Nat.zero_add]),he.f,he.r,he.w⟩ hw h0 (by show _<(vx e.b v _).length; rw [xn]; exact hk) (by show (vx e.b v _).length≤_; rw [xn]; exact h1) h2
    exact ⟨e',hin _ m,σ',r1,fun j hj=>r2 j (by show j<(vx e.b v _).length∨_; rw [xn]; exact hj)⟩
  · cases h
 | .shrb v c t,e,σ,ls,h,he,hw,h0,hk,h1,h2=>by
  unfold leaves at h
  split at h
  · rename_i q hq
    obtain ⟨hg,h⟩:=y8 h
    simp only [Bool.and_eq_true] at hg
    obtain ⟨⟨⟨⟨g1,g2⟩,g3⟩,g4⟩,g5⟩:=hg
    have hbl:=@zL zP _ _ g3
    have hc:=@zL zP _ _ g5
    rw [decide_eq_true_eq] at g4
    have hne:v≠e.b.length:=fun q=>by rw [q] at g2; simp at g2
    have hb:=xj he.b hq
    rw [Nat.zero_add] at hb
    obtain ⟨a,ha⟩:∃ a:Nat,σ v=Int.ofNat a:=⟨(σ v).toNat,by show σ v=(((σ v).toNat:Nat):Int); omega⟩
    have hz:yQ .shr .i64 (σ v) (.ofNat c)=some (zb .i64 (σ v / 2 ^ c)):=by
     rw [ha]
     have e1:(Int.ofNat a / 2 ^ c:Int)=Int.ofNat (a / 2 ^ c):=by
      show ((a:Int) / 2 ^ c)=((a / 2 ^ c:Nat):Int)
      rw [Int.natCast_ediv,Int.natCast_pow]; rfl
     rw [e1]
     show some (ji .i64 (Nat.div a (Nat.pow 2 (min c IntKind.i64.bits))))=_
     have e2:min c IntKind.i64.bits=c:=by
      show min c 64=c
      omega
     rw [e2]
     show some (ji .i64 (a / 2 ^ c))=some (zb .i64 (Int.ofNat (a / 2 ^ c)))
     cases a / 2 ^ c <;> rfl
    have he':=he.upd g1 (σ v / 2 ^ c)
    have hr':z7 (upV σ e.b.length (σ v / 2 ^ c)) (rv .shr v c (.sym (sv e.b.length))):=zM7 (by rw [upd_other hne,upd_same]; exact hz)
    have hpos:(0:Int)<2 ^ c:=Int.pow_pos (by decide)
    have hlo:q.1 / 2 ^ c≤σ v / 2 ^ c:=Int.ediv_le_ediv hpos hb.1
    have hhi:σ v / 2 ^ c≤q.2 / 2 ^ c:=Int.ediv_le_ediv hpos hb.2
    obtain ⟨e',m',σ',r1,r2⟩:=zx t _ (upV σ e.b.length (σ v / 2 ^ c)) h
     ⟨qO he'.b (by rw [Nat.zero_add,upd_same]; exact hlo) (by rw [Nat.zero_add,upd_same]; exact hhi),he'.f,⟨hr',he'.r⟩,he'.w⟩
     (hw.upd fun j hj=>upd_other (by show j≠e.b.length; omega)) (by rw [upd_other (by omega)]; exact h0) (by show _<(e.b++_).length; simp; omega) (by show (e.b++_).length≤_; simp; omega) h2
    exact ⟨e',m',σ',r1,fun j hj=>by rw [r2 j (show j<(e.b++[((q.1 / 2 ^ c:Int),(q.2 / 2 ^ c:Int))]).length∨(1000≤j∧j<e.u) by simp; omega),upd_other (by omega)]⟩
  · cases h
 | .cmpb v cut a b,e,σ,ls,h,he,hw,h0,hk,h1,h2=>by
  unfold leaves at h
  split at h
  · cases h
  · rename_i q hq
    obtain ⟨x,y,hx,hy,rfl⟩:=qz h
    obtain ⟨g1,g2⟩:=zAQ he hq
    rw [vD] at g1 g2
    have hlen:∀ lo hi,(zRi e v lo hi).b.length=e.b.length:=fun lo hi=>xn
    by_cases hc:σ v<cut
    · have hx:=wM hx (by omega)
      obtain ⟨e',m,σ',r1,r2⟩:=zx a (zRi e v q.1 (min q.2 (cut - 1))) σ hx ⟨kZ he.b (by rw [Nat.zero_add]; exact g1) (by rw [Nat.zero_add]; omega),he.f,he.r,he.w⟩ hw h0 (by rw [hlen]; exact hk) (by rw [hlen]; exact h1) h2
      exact ⟨e',List.mem_append_left _ m,σ',r1,fun j hj=>r2 j (by rw [hlen]; exact hj)⟩
    · have hy:=wM hy (by omega)
      obtain ⟨e',m,σ',r1,r2⟩:=zx b (zRi e v (max q.1 cut) q.2) σ hy ⟨kZ he.b (by rw [Nat.zero_add]; omega) (by rw [Nat.zero_add]; exact g2),he.f,he.r,he.w⟩ hw h0 (by rw [hlen]; exact hk) (by rw [hlen]; exact h1) h2
      exact ⟨e',List.mem_append_right _ m,σ',r1,fun j hj=>r2 j (by rw [hlen]; exact hj)⟩
 | .dec c v t,e,σ,ls,h,he,hw,h0,hk,h1,h2=>by
  unfold leaves at h
  split at h
  · rename_i q hq
    obtain ⟨hg,h⟩:=y8 h
    obtain ⟨hg',h⟩:=y8 h
    simp only [Bool.and_eq_true] at hg hg'
    obtain ⟨⟨⟨⟨g1,g2⟩,g3⟩,g4⟩,g5⟩:=hg
    obtain ⟨g6,g7⟩:=hg'
    have hbl:e.b.length+2≤1000:=@zL zP _ _ g3
    rw [decide_eq_true_eq] at g4 g5
    have hne:v≠e.b.length:=fun q=>by rw [q] at g2; simp at g2
    have hne':v≠Nat.succ e.b.length:=fun q=>by rw [q] at g7; simp at g7
    have hb:=xj he.b hq
    rw [Nat.zero_add] at hb
    have hx0:0≤σ v+c:=by omega
    have hx1:σ v+c≤1000:=by omega
    have he1:=he.upd g1 ((σ v+c) / 10)
    have hr1:z7 (upV σ e.b.length ((σ v+c) / 10)) ⟨.quo,⟨.i64,c,[(v,1)]⟩,10,.sym (sv e.b.length)⟩:=
     zVA (by rw [upd_other hne]; omega) (by rw [upd_other hne]; omega) (by rw [upd_other hne,upd_same])
    have he2:zBO wins w0 i (upV σ e.b.length ((σ v+c) / 10)) (zE2 e c v q):=⟨qO he1.b (by rw [Nat.zero_add,upd_same]; omega) (by rw [Nat.zero_add,upd_same]; omega),he1.f,⟨hr1,he1.r⟩,he1.w⟩
    have hlen:(zE2 e c v q).b.length=Nat.succ e.b.length:=by show (e.b++[_]).length=_; simp
    have he3:=he2.upd g6 ((σ v+c) % 10)
    have hr2:z7 (upV (upV σ e.b.length ((σ v+c) / 10)) (Nat.succ e.b.length) ((σ v+c) % 10)) ⟨.rem,⟨.i64,c,[(v,1)]⟩,10,.sym (sv (Nat.succ e.b.length))⟩:=
     zVy (by rw [upd_other hne',upd_other hne]; omega) (by rw [upd_other hne',upd_other hne]; omega) (by rw [upd_other hne',upd_other hne,upd_same])
    obtain ⟨e',m',σ',r1,r2⟩:=zx t _ (upV (upV σ e.b.length ((σ v+c) / 10)) (Nat.succ e.b.length) ((σ v+c) % 10)) h
     ⟨qO he3.b (by rw [Nat.zero_add,hlen,upd_same]; omega) (by rw [Nat.zero_add,hlen,upd_same]; omega),he3.f,⟨hr2,he3.r⟩,he3.w⟩
     ((hw.upd fun j hj=>upd_other (by show j≠e.b.length; omega)).upd fun j hj=>upd_other (by show j≠Nat.succ e.b.length; omega)) (by rw [upd_other (by omega),upd_other (by omega)]; exact h0) (by show _<((zE2 e c v q).b++_).length; rw [List.length_append,hlen]; simp; omega) (by show ((zE2 e c v q).b++_).length≤_; rw [List.length_append,hlen]; simp; omega) h2
    exact ⟨e',m',σ',r1,fun j hj=>by rw [r2 j (show j<((zE2 e c v q).b++[((0:Int),(9:Int))]).length∨(1000≤j∧j<e.u) by rw [List.length_append,hlen]; simp; omega),upd_other (by omega),upd_other (by omega)]⟩
  · cases h
 | .ne c l a b,e,σ,ls,h,he,hw,h0,hk,h1,h2=>by
  unfold leaves at h
  obtain ⟨x,y,hx,hy,rfl⟩:=qz h
  by_cases hc:c+evL σ l=0
  · obtain ⟨e',m,σ',r1,r2⟩:=zx a _ σ hx ⟨he.b,⟨⟨by simp only; omega,by simp only; omega⟩,he.f⟩,he.r,he.w⟩ hw h0 hk h1 h2
    exact ⟨e',List.mem_append_left _ m,σ',r1,r2⟩
  · obtain ⟨e',m,σ',r1,r2⟩:=zx b _ σ hy ⟨he.b,he.f,⟨zMN hc,he.r⟩,he.w⟩ hw h0 hk h1 h2
    exact ⟨e',List.mem_append_right _ m,σ',r1,r2⟩
 | .fre v ss c t,e,σ,ls,h,he,hw,h0,hk,h1,h2=>by
  unfold leaves at h
  split at h
  · rename_i q hq
    obtain ⟨hg,h⟩:=y8 h
    simp only [Bool.and_eq_true] at hg
    obtain ⟨⟨⟨g1,g2⟩,g3⟩,g4⟩:=hg
    have hbl:=@zL zP _ _ g3
    have hno:=zNk g2
    have hne:v≠e.b.length:=hno v (by simp)
    have hb:=xj he.b hq
    rw [Nat.zero_add] at hb
    have hc:=zHA g4 he.r
    obtain ⟨f1,f2,f3⟩:=zJK (σ v) (ss.map σ)
    obtain ⟨z,hz⟩:∃ z,z=frA (σ v) (ss.map σ) - σ v:=⟨_,rfl⟩
    have he1:=he.upd g1 z
    have hs:∀ s∈ss,upV σ e.b.length z s=σ s:=fun s hs=>upd_other (hno s (by simp [hs]))
    have hm:ss.map (upV σ e.b.length z)=ss.map σ:=List.map_congr_left hs
    have hv:upV σ e.b.length z v=σ v:=upd_other hne
    have hn:upV σ e.b.length z e.b.length=z:=upd_same
    have hfre:z7 (upV σ e.b.length z) ⟨.add,⟨.i64,0,[(v,1),(e.b.length,1)]⟩,0,.agg (.sym (sv v)::symsN ss)⟩:=by
     unfold z7
     show zBh (upV σ e.b.length z) _
     unfold zBh
     show (0:Int)+(1*upV σ e.b.length z v+(1*upV σ e.b.length z e.b.length+0))=frA (evE (upV σ e.b.length z) (sv v)) (xx (upV σ e.b.length z) (symsN ss))
     rw [zHT,hm,xr,hv,hn]
     omega
    have hi:(Int.ofNat c:Int)=(c:Int):=rfl
    obtain ⟨e',m',σ',r1,r2⟩:=zx t (zUj e v ss c q) (upV σ e.b.length z) h
     ⟨qO he1.b (by rw [Nat.zero_add,upd_same]; omega) (by
      rw [Nat.zero_add,upd_same]
      have hcl:=zJj (n:=σ v) (l:=ss.map σ)
      rw [List.length_map] at hcl
      have hsl:(Int.ofNat (Nat.succ ss.length):Int)=(ss.length:Int)+1:=rfl
      rw [hsl]
      omega),
      ⟨⟨(by show q.1+1≤1*upV σ e.b.length z v+(1*upV σ e.b.length z e.b.length+0); rw [hv,hn]; omega),(by show 1*upV σ e.b.length z v+(1*upV σ e.b.length z e.b.length+0)≤Int.ofNat c+1; rw [hv,hn]; omega)⟩,⟨(by show -(Int.ofNat c+1) ≤ -1*upV σ e.b.length z v+(-1*upV σ e.b.length z e.b.length+0); rw [hv,hn]; omega),(by show -1*upV σ e.b.length z v+(-1*upV σ e.b.length z e.b.length+0) ≤ -(q.1+1); rw [hv,hn]; omega)⟩,he1.f⟩,
      zOK (fun s hs'=>by rw [hs s hs',hv,hn]; intro e; exact f1 (by rw [show frA (σ v) (ss.map σ)=σ s by omega]; exact List.mem_map_of_mem hs')) ⟨hfre,he1.r⟩,he1.w⟩
     (hw.upd fun j hj=>upd_other (by show j≠e.b.length; omega)) (by rw [upd_other (by omega)]; exact h0) (by show _<(e.b++_).length; rw [List.length_append]; simp; omega) (by show (e.b++_).length≤_; rw [List.length_append]; simp; omega) h2
    exact ⟨e',m',σ',r1,fun j hj=>by rw [r2 j (show j<(e.b++[((1:Int),(min (Int.ofNat c+1 - q.1) (Int.ofNat (Nat.succ ss.length))))]).length∨(1000≤j∧j<e.u) by rw [List.length_append]; simp; omega),upd_other (by omega)]⟩
  · cases h
 | .innl v n ss l t,e,σ,ls,h,he,hw,h0,hk,h1,h2=>by
  unfold leaves at h
  split at h
  · rename_i q hq
    obtain ⟨hg,h⟩:=y8 h
    simp only [Bool.and_eq_true] at hg
    obtain ⟨⟨g1,g2⟩,g3⟩:=hg
    have g2:=@zL zP _ _ g2
    rw [decide_eq_true_eq] at g3
    have hb:=xj he.b hq
    rw [Nat.zero_add] at hb
    have hf:=zId g1 he.r
    have hi:(Int.ofNat l:Int)=(l:Int):=rfl
    have hm:σ v+Int.ofNat l∈ss.map σ:=zOv (l:=ss.map σ) (k:=(ss.map σ).length) (n:=σ v) (by omega) (by show _<frA (σ v) (ss.map σ); omega)
    have hr:z7 σ (zEw v ss l):=by
     unfold z7
     show zBc σ _
     unfold zBc
     show Int.ofNat l+(1*σ v+0)∈xx σ (symsN ss)
     rw [zHT,show Int.ofNat l+(1*σ v+0)=σ v+Int.ofNat l by omega]
     exact hm
    obtain ⟨e',m,σ',r1,r2⟩:=zx t _ σ h ⟨he.b,he.f,⟨hr,he.r⟩,he.w⟩ hw h0 hk h1 h2
    exact ⟨e',m,σ',r1,r2⟩
  · cases h
 | .isin v l ss a b,e,σ,ls,h,he,hw,h0,hk,h1,h2=>by
  unfold leaves at h
  obtain ⟨x,y,hx,hy,rfl⟩:=qz h
  by_cases hm:σ v+Int.ofNat l∈ss.map σ
  · have hr:z7 σ (zEw v ss l):=by
     unfold z7
     show zBc σ _
     unfold zBc
     show Int.ofNat l+(1*σ v+0)∈xx σ (symsN ss)
     rw [zHT,show Int.ofNat l+(1*σ v+0)=σ v+Int.ofNat l by omega]
     exact hm
    obtain ⟨e',m,σ',r1,r2⟩:=zx a _ σ hx ⟨he.b,he.f,⟨hr,he.r⟩,he.w⟩ hw h0 hk h1 h2
    exact ⟨e',List.mem_append_left _ m,σ',r1,r2⟩
  · obtain ⟨e',m,σ',r1,r2⟩:=zx b { e with r:=zTp v l ss e.r } σ hy ⟨he.b,he.f,zNY (fun s hs e=>hm (by rw [← e]; exact List.mem_map_of_mem hs)) he.r,he.w⟩ hw h0 hk h1 h2
    exact ⟨e',List.mem_append_right _ m,σ',r1,r2⟩
 | .rows j n m t0 ts tz,e,σ,ls,h,he,hw,h0,hk,h1,h2=>by
  unfold leaves at h
  split at h
  · rename_i k f hj
    split at h
    · rename_i ki hji
      obtain ⟨hg,h⟩:=y8 h
      simp only [Bool.and_eq_true] at hg
      obtain ⟨⟨⟨⟨⟨g1,g2⟩,g3⟩,g4⟩,g5⟩,g6⟩:=hg
      have g3:=@zL zP _ _ g3
      have g5:=@zL zP _ _ g5
      have g6:=@zL zP _ _ g6
      have hfree:=vC g4 (Nat.le_refl _)
      obtain ⟨x,y0,hx,hxy,rfl⟩:=qz h
      obtain ⟨y,z,hy,hz,rfl⟩:=qz hxy
      obtain ⟨wn,v,q1,q2,q4,q3,q5⟩:=hw.len j _ hj
      obtain ⟨wi,vi,r1,r2,r4,r5⟩:=hw.len _ _ hji
      have r5:zIt w0 vi wi:=r5
      have r2:wi.key=ki:=r2
      have q2:wn.key=k:=q2
      have r4:σ (Nat.succ (Nat.add f n))=wi.len:=r4
      obtain ⟨g1a,g1b⟩:=zFm he g1
      rw [q4] at g1b
      have hat:σ 0=(n:Int):=by
       unfold zVM at g2
       split at g2
       · rename_i q hq
         rw [Bool.and_eq_true,decide_eq_true_eq,decide_eq_true_eq] at g2
         have hb:=xj he.b hq
         rw [Nat.zero_add,g2.1,g2.2] at hb
         have b1:(n:Int)≤σ 0:=hb.1
         have b2:σ 0≤(n:Int):=hb.2
         omega
       · cases g2
      have hn:n<wn.len:=by omega
      obtain ⟨arr,elem,fz,a1,a2,a3⟩:=hw.row j k f n ki wn wi hj hji (q2 ▸ q1) (r2 ▸ r1) hn (by omega)
      have hi:i=(n:Int):=by rw [← h0]; exact hat
      have hplace:wn.x+i.toNat*wn.esz+0=wn.x+n:=by rw [hi,q3,Int.toNat_natCast]; omega
      have outer:∀ (σ':Nat→Int) (K':zY) (c:CV),(∀ ψ,zRw wins i ψ c→@zH (linSym σ' K') ψ c (.slice wi.base wi.len wi.cap))→zBg (linSym σ' K') wins w0 i (k,[c]):=by
       intro σ' K' c hc
       refine ⟨wn,arr,elem,fz,q2 ▸ q1,a1,by show wn.x+i.toNat*wn.esz+1≤_; omega,fun jj d hd=>?_⟩
       cases jj with
       | zero=>
        simp at hd
        subst hd
        exact ⟨_,by rw [hplace]; exact a3,hc⟩
       | succ jj=>simp at hd
      have hvlt:Nat.succ (Nat.add f n)≤ks.length:=g6
      have hle:∀ g l,l≤m→∀ j,j≤ks.length→upN σ e.b.length g l j=σ j:=fun g l _ j hj=>uk (.inl (by omega))
      rcases r5.base with ⟨b2,b3⟩ | ⟨b1,hb⟩
      · -- nothing
        obtain ⟨e',mm,σ',s1,s2⟩:=zx t0 _ σ hx ⟨wN he.b (by rw [Nat.zero_add,r4,b2]; rfl),he.f,he.r,fun q hq σ' K' hA hs=>by
         rcases List.mem_cons.1 hq with rfl | hq
         · refine outer σ' K' _ fun ψ _=>(@qA (linSym σ' K') _ _ _ _ _ _).2 ⟨?_,wi.base,wi.len,wi.cap,0,rfl,?_,rfl,fun _ h=>by omega⟩
           · obtain ⟨hm1,hm2⟩:=kM r1
             have:=(hA wi hm1).1
             rw [r2] at this
             exact this
           · rw [b2]; rfl
         · exact he.w q hq σ' K' hA hs⟩ hw h0 (by show _<(vx e.b _ _).length; rw [xn]; exact hk) (by show (vx e.b _ _).length≤_; rw [xn]; exact h1) h2
        exact ⟨e',List.mem_append_left _ mm,σ',s1,fun j hj=>s2 j (by show j<(vx e.b _ _).length∨(1000≤j∧j<e.u); rw [xn]; exact hj)⟩
      · by_cases hlen:wi.len≤m
        · -- so many
          obtain ⟨x',hx',hin⟩:=wT hy wi.len hlen
          obtain ⟨g,hg1,hg2⟩:=zGc r5 r1 hb (Nat.le_refl wi.len) i
          have he':=he.updN (g:=g) (m:=wi.len) (n:=e.b.length) fun t ht=>hfree t (by omega)
          have hs0:=hle g wi.len hlen
          obtain ⟨e',mm,σ',s1,s2⟩:=zx (ts wi.len) _ (upN σ e.b.length g wi.len) hx'
           ⟨wN (wu he'.b fun t ht=>by rw [Nat.zero_add,zBs ht]; exact hg1 t ht) (by rw [Nat.zero_add,hs0 _ hvlt,r4]; rfl),he'.f,he'.r,fun q hq σ' K' hA hs=>by
            rcases List.mem_cons.1 hq with rfl | hq
            · refine outer σ' K' _ fun ψ hψ=>(@yF (linSym σ' K') _ _ _ _ _ _ _ _).2 ⟨_,wi.x,wi.cap,hψ ki wi rfl (r2 ▸ r1),?_,r5.cap,r5.cap,(fun h=>by cases h),.inl ⟨?_,fun _=>?_⟩⟩
              · rw [b1]
              · show wi.x=wi.x+i.toNat*wi.esz+0
                rw [r5.stay]; omega
              · exact r5.size.symm
            · rcases List.mem_cons.1 hq with rfl | hq
              · have:=hg2 σ' K' e.b.length fun t ht=>by rw [uO hs t ht,zBs ht]
                rw [r2] at this
                exact this
              · exact he'.w q hq σ' K' hA hs⟩ (hw.upd hs0) (by rw [hs0 0 (by omega)]; exact h0) (by show _<(vx (e.b++_) _ _).length; rw [xn]; simp; omega)
            (by show (vx (e.b++_) _ _).length≤_; rw [xn,List.length_append,zCk]; have:e.b.length+m≤1000:=g5; omega) h2
          exact ⟨e',List.mem_append_right _ (List.mem_append_left _ (hin _ mm)),σ',s1,fun j hj=>by
           rw [s2 j (by show j<(vx (e.b++_) _ _).length∨(1000≤j∧j<e.u); rw [xn,List.length_append,zCk]; omega)]
           exact uk (by have:e.b.length+m≤1000:=g5; omega)⟩
        · -- more
          split at hz
          · rename_i q hq
            obtain ⟨g,hg1,hg2⟩:=zGc r5 r1 hb (show m≤wi.len by omega) i
            have he':=he.updN (g:=g) (m:=m) (n:=e.b.length) fun t ht=>hfree t ht
            have hs0:=hle g m (Nat.le_refl _)
            have hbq:=xj he.b hq
            rw [Nat.zero_add,r4] at hbq
            obtain ⟨e',mm,σ',s1,s2⟩:=zx tz _ (upN σ e.b.length g m) hz
             ⟨kZ (wu he'.b fun t ht=>by rw [Nat.zero_add,zBs ht]; exact hg1 t ht) (by rw [Nat.zero_add,hs0 _ hvlt,r4]; show ((m+1:Nat):Int)≤_; omega) (by rw [Nat.zero_add,hs0 _ hvlt,r4]; exact hbq.2),he'.f,he'.r,fun q hq σ' K' hA hs=>by
              rcases List.mem_cons.1 hq with rfl | hq
              · refine outer σ' K' _ fun ψ hψ=>(@qA (linSym σ' K') _ _ _ _ _ _).2 ⟨?_,wi.base,wi.len,wi.cap,0,rfl,?_,rfl,fun _ _=>⟨_,wi.x,hψ ki wi rfl (r2 ▸ r1),?_,?_,r5.size,r5.cap⟩⟩
                · obtain ⟨hm1,hm2⟩:=kM r1
                  have:=(hA wi hm1).1
                  rw [r2] at this
                  exact this
                · have e1:evL σ' [(Nat.succ (Nat.add f n),1)]=evL (upN σ e.b.length g m) [(Nat.succ (Nat.add f n),1)]:=hs.2.1
                  rw [vD,vD,hs0 _ hvlt,r4] at e1
                  show Value.int .i64 (evE σ' (sv (Nat.succ (Nat.add f n))))=_
                  rw [xr,e1]
                · rw [b1]
                · show wi.x+i.toNat*wi.esz=wi.x+(0:Int).toNat*1
                  rw [r5.stay]; simp
              · rcases List.mem_cons.1 hq with rfl | hq
                · have:=hg2 σ' K' e.b.length fun t ht=>by rw [uO hs t ht,zBs ht]
                  rw [r2] at this
                  exact this
                · exact he'.w q hq σ' K' hA hs⟩ (hw.upd hs0) (by rw [hs0 0 (by omega)]; exact h0) (by show _<(vx (e.b++_) _ _).length; rw [xn]; simp; omega)
              (by show (vx (e.b++_) _ _).length≤_; rw [xn,List.length_append,zCk]; exact g5) h2
            exact ⟨e',List.mem_append_right _ (List.mem_append_right _ mm),σ',s1,fun j hj=>by
             rw [s2 j (by show j<(vx (e.b++_) _ _).length∨(1000≤j∧j<e.u); rw [xn,List.length_append,zCk]; omega)]
             exact uk (by have:e.b.length+m≤1000:=g5; omega)⟩
          · cases hz
    · cases h
  · cases h
 | .wcells j n t,e,σ,ls,h,he,hw,h0,hk,h1,h2=>by
  unfold leaves at h
  split at h
  · rename_i k f hj
    split at h
    · rename_i q hq
      obtain ⟨hg,h⟩:=y8 h
      simp only [Bool.and_eq_true] at hg
      obtain ⟨⟨⟨⟨⟨⟨⟨g1,g2⟩,g3⟩,g4⟩,g5⟩,g6⟩,g7⟩,g8⟩:=hg
      rw [decide_eq_true_eq] at g1
      have g4:e.b.length+n≤1000:=@zL zP _ _ g4
      have g6:f+n≤ks.length:=@zL zP _ _ g6
      have g7:=@zL zP _ _ g7
      have g8:=@zL zP _ _ g8
      have hfu:=vC g2 (by omega)
      have hfb:=vC g3 (Nat.le_refl _)
      obtain ⟨wn,v,q1,q2,q4,q3⟩:=hw.len j _ hj
      have q2:wn.key=k:=q2
      have q3:wn.esz=0:=q3
      have q1':findW wins k=some wn:=q2 ▸ q1
      have hl:=(zAQ he hq).1
      rw [vD,q4] at hl
      have hnl:n≤wn.len:=by
       have:(n:Int)≤q.1:=g1
       omega
      have hcell:=fun t (ht:t<n)=>hw.int j k f wn t hj q1' (by omega) (by omega)
      obtain ⟨arr,elem,fz,_,a1,_,_,_⟩:=hcell 0 (by omega)
      have hcz:∀ t,t<n→∃ z,wn.x+t+1≤arr.size∧arr[wn.x+t]? = some (.int .i64 z)∧σ (Nat.succ (Nat.add f t))=wI z:=by
       intro t ht
       obtain ⟨arr',e',f',z,c1,c2,c3,c4⟩:=hcell t ht
       rw [a1] at c1
       injection c1 with c1
       injection c1 with c1
       subst c1
       obtain ⟨kq,hkq⟩:=zOt g5 t (Nat.zero_le _) (by omega)
       obtain ⟨wq,vq,d1,d2,d4,_⟩:=hw.len _ _ hkq
       exact ⟨z,c2,c3,by rw [d4]; exact c4 kq wq hkq (by rw [← d1]; exact congrArg _ d2.symm)⟩
      obtain ⟨g,hgz⟩:∃ g:Nat→Int,∀ t,t<n→wn.x+t+1≤arr.size∧arr[wn.x+t]? = some (.int .i64 (g t))∧σ (Nat.succ (Nat.add f t))=wI (g t):=
       ⟨fun t=>if ht:t<n then (hcz t ht).choose else 0,fun t ht=>by simp only [dif_pos ht]; exact (hcz t ht).choose_spec⟩
      have he1:=he.updN (g:=g) (m:=n) (n:=e.u) fun t ht=>hfu t ht
      have he2:=he1.updN (g:=fun t=>if (g t).tmod 3<0 then -1 else 0) (m:=n) (n:=e.b.length) fun t ht=>hfb t ht
      obtain ⟨σ2,hσ2⟩:∃ σ2,σ2=upN (upN σ e.u g n) e.b.length (fun t=>if (g t).tmod 3<0 then -1 else 0) n:=⟨_,rfl⟩
      rw [← hσ2] at he2
      have s1:∀ i,(i<e.b.length∨(1000≤i∧i<e.u))→σ2 i=σ i:=fun i hi=>by
       rw [hσ2,uk (by omega),uk (by omega)]
      have s2:∀ t,t<n→σ2 (e.u+t)=g t:=fun t ht=>by
       rw [hσ2,uk (by omega),zBs ht]
      have s3:∀ t,t<n→σ2 (e.b.length+t)=if (g t).tmod 3<0 then -1 else 0:=fun t ht=>by
       rw [hσ2,zBs ht]
      obtain ⟨e',mm,σ',r1,r2⟩:=zx t (wLf e k f n) σ2 h
       ⟨zCM he2.b fun t ht=>by rw [Nat.zero_add,s3 t ht]; split <;> simp,he2.f,zSb (fun i _ hi=>by
        have hi:i<n:=by omega
        refine ⟨zb .i64 ((g i).tmod 3),.inl rfl,?_,.inr ⟨_,rfl,?_⟩⟩
        · show yQ .rem .i64 (evE σ2 (sv (e.u+i))) (.ofNat 3)=_
          rw [xr,s2 i hi]
          exact zVr _
        · show zb .i64 ((g i).tmod 3)=zb .i64 ((0:Int)+(1*σ2 (Nat.succ (Nat.add f i))+(3*σ2 (e.b.length+i)+0)))
          rw [s1 _ (.inl (by show f+i+1<_; omega)),(hgz i hi).2.2,s3 i hi]
          congr 1
          unfold wI
          split <;> omega) he2.r,fun q hq σ' K' hA hs=>by
          rcases List.mem_cons.1 hq with rfl | hq
          · refine ⟨wn,arr,elem,fz,q1',a1,?_,fun jj d hd=>?_⟩
            · rw [q3,Nat.mul_zero,Nat.add_zero]
              show wn.x+(wVs n e.u).length≤_
              rw [zNv]
              have:=(hgz (n - 1) (by omega)).1
              omega
            · obtain ⟨ht,rfl⟩:=zOI hd
              refine ⟨.int .i64 (g jj),by rw [q3,Nat.mul_zero,Nat.add_zero]; exact (hgz jj ht).2.1,fun ψ _=>?_⟩
              refine (@zq (linSym σ' K') _ _ _).2 ?_
              show Value.int .i64 (g jj)=.int .i64 (evE σ' (sv (e.u+jj)))
              rw [xr,zKJ hs jj ht,s2 jj ht]
          · exact he2.w q hq σ' K' hA hs⟩
       (hw.upd fun j hj=>s1 j (.inl (by omega))) (by rw [s1 0 (.inl (by omega))]; exact h0) (by show _<(e.b++_).length; simp; omega) (by show (e.b++_).length≤_; rw [List.length_append,zE4]; exact g4) (by show 1000≤e.u+n; omega)
      exact ⟨e',mm,σ',r1,fun j hj=>by
       rw [r2 j (by show j<(e.b++_).length∨(1000≤j∧j<e.u+n); rw [List.length_append,zE4]; omega)]
       exact s1 j hj⟩
    · cases h
  · cases h
end
def AllG (Q:Lf→Prop):List Lf→Prop
 | []=>True
 | e::l=>Q e∧AllG Q l
theorem zCc {Q:Lf→Prop}:∀ {l:List Lf},AllG Q l→∀ e∈l,Q e
 | [],_,e,he=>by cases he
 | x::l,h,e,he=>by
  rcases List.mem_cons.1 he with rfl | he
  · exact h.1
  · exact zCc h.2 e he
def zBQ (m:Nat):List (Key × Nat)→Bool
 | []=>true
 | q::r=>Nat.ble (Nat.succ q.2) m&&zBQ m r
theorem zC2 {m:Nat}:∀ {l:List (Key × Nat)},zBQ m l=true→∀ q∈l,q.2<m
 | [],_,q,h=>by cases h
 | x::r,h,q,hq=>by
  unfold zBQ at h
  rw [Bool.and_eq_true] at h
  rcases List.mem_cons.1 hq with rfl | hq
  · exact @zL zP _ _ h.1
  · exact zC2 h.2 q hq
def AllS (Q:TS→Prop):List TS→Prop
 | []=>True
 | T::l=>Q T∧AllS Q l
theorem zLj {Q:TS→Prop}:∀ {l:List TS} {t:Nat} {T:TS},AllS Q l→nth l t=some T→Q T
 | [],_,_,_,h=>by cases h
 | x::l,0,T,h,hn=>by
  injection hn with hn
  subst hn
  exact h.1
 | x::l,t+1,T,h,hn=>zLj (t:=t) h.2 hn
theorem allG_nil {Q:Lf→Prop}:AllG Q []:=trivial
theorem allG_cons {Q:Lf→Prop} {e:Lf} {l:List Lf} (h:Q e) (r:AllG Q l):AllG Q (e::l):=⟨h,r⟩
theorem zSo {Q:TS→Prop}:AllS Q []:=trivial
theorem zPH {Q:TS→Prop} {T:TS} {l:List TS} (h:Q T) (r:AllS Q l):AllS Q (T::l):=⟨h,r⟩
theorem len_of {wins:List Win} {L:List (Key × Nat)} {σ:Nat→Int} {w:Win} {k:Key} {j:Nat} (h:LensAre wins L σ) (hm:(k,j)∈L) (hw:findW wins k=some w):σ j=w.len:=by
 obtain ⟨wn,h1,h2⟩:=h _ hm
 simp only at h1
 rw [hw] at h1
 injection h1 with h1
 subst h1
 exact h2
end
end Go.Ev
