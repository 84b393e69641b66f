/- A verified evaluator for the model's code: EvWord, EvTree. -/
import Derived.Test.YtmheccmahfgpoaaGreatDoorEvArg
set_option linter.unusedSectionVars false
set_option linter.unusedVariables false
set_option linter.unusedSimpArgs false
namespace Go.Ev
noncomputable section
theorem zAo (m:Nat):zU .i64 (.ofNat m)=.nat m:=by cases m <;> rfl
theorem zBC (m:Nat):zU .i64 (.negSucc m)=.int .i64 (.negSucc m):=by cases m <;> rfl
theorem zH2 {a b:Int} (h:zU .i64 a=zU .i64 b):a=b:=by
 cases a with
 | ofNat a=>cases b with
  | ofNat b=>rw [zAo,zAo] at h; injection h with h; rw [h]
  | negSucc b=>rw [zAo,zBC] at h; cases h
 | negSucc a=>cases b with
  | ofNat b=>rw [zAo,zBC] at h; cases h
  | negSucc b=>rw [zBC,zBC] at h; injection h
theorem zEu (q:Int):(toU .i64 q:Int)=q % 18446744073709551616:=by
 cases q with
 | ofNat m=>
  show ((m % 2 ^ 64:Nat):Int)=(m:Int) % 18446744073709551616
  omega
 | negSucc m=>
  show ((2 ^ 64 - 1 - m % 2 ^ 64:Nat):Int)=Int.negSucc m % 18446744073709551616
  rw [Int.negSucc_eq]
  omega
theorem zBp (q:Int) {n:Nat} (hn:n≤31):yO .and .i64 q (.ofNat (2 ^ n - 1))=some (zU .i64 (.ofNat (toU .i64 q % 2 ^ n))):=by
 have hp:2 ^ n≤2 ^ 31:=Nat.pow_le_pow_right (by decide) hn
 have h1:toU .i64 (.ofNat (2 ^ n - 1))=2 ^ n - 1:=Nat.mod_eq_of_lt (show 2 ^ n - 1<2 ^ 64 by omega)
 show some (zU .i64 (yZ .i64 (.ofNat (Nat.land (toU .i64 q) (toU .i64 (.ofNat (2 ^ n - 1)))))))=_
 rw [h1]
 have h2:Nat.land (toU .i64 q) (2 ^ n - 1)=toU .i64 q % 2 ^ n:=Nat.and_two_pow_sub_one_eq_mod _ n
 rw [h2]
 have h3:toU .i64 q % 2 ^ n<2 ^ n:=Nat.mod_lt _ (Nat.two_pow_pos n)
 have h4:yZ .i64 (.ofNat (toU .i64 q % 2 ^ n))=.ofNat (toU .i64 q % 2 ^ n):=by
  generalize toU .i64 q % 2 ^ n=x at h3
  rw [@yj noSym]
  simp [IntKind.wrap,IntKind.signed,IntKind.bits]
  omega
 rw [h4]
theorem zFl (q:Int):yO .shr .i64 q (.ofNat 4)=some (zU .i64 (q / 16)):=by
 cases q with
 | ofNat a=>
  show some (jH .i64 (Nat.div a (Nat.pow 2 (min 4 64))))=some (zU .i64 ((a:Int) / 16))
  have e:((a:Int) / 16)=Int.ofNat (a / 16):=by
   show (a:Int) / 16=((a / 16:Nat):Int)
   omega
  rw [e,zAo]
  show some (kP (a / 16))=_
  generalize a / 16=x
  cases x <;> rfl
 | negSucc a=>
  show some (zU .i64 ((Int.negSucc a).fdiv (.ofNat (Nat.pow 2 (min 4 64)))))=_
  have e:(Int.negSucc a).fdiv (.ofNat (Nat.pow 2 (min 4 64)))=Int.negSucc a / 16:=by
   show (Int.negSucc a).fdiv 16=_
   rw [Int.fdiv_eq_ediv_of_nonneg _ (by decide)]
  rw [e]
theorem zJ4 {h g a b:Int} (h1:yO .and .i64 h (.ofNat 15)=some (zU .i64 a)) (h2:yO .shr .i64 h (.ofNat 4)=some (zU .i64 g)) (h3:yO .and .i64 g (.ofNat 15)=some (zU .i64 b)) :
 yO .and .i64 h (.ofNat 255)=some (zU .i64 (a+16*b))∧yO .and .i64 (a+16*b) (.ofNat 15)=some (zU .i64 a)∧yO .shr .i64 (a+16*b) (.ofNat 4)=some (zU .i64 b):=by
 have e15:∀ q:Int,yO .and .i64 q (.ofNat 15)=some (zU .i64 (.ofNat (toU .i64 q % 16))):=fun q=>zBp q (n:=4) (by decide)
 have e255:∀ q:Int,yO .and .i64 q (.ofNat 255)=some (zU .i64 (.ofNat (toU .i64 q % 256))):=fun q=>zBp q (n:=8) (by decide)
 rw [e15] at h1 h3
 rw [zFl] at h2
 have a1:=zH2 (Option.some.inj h1)
 have a2:=zH2 (Option.some.inj h2)
 have a3:=zH2 (Option.some.inj h3)
 have u1:=zEu h
 have u2:=zEu g
 have u3:=zEu (a+16*b)
 have a1:((toU .i64 h % 16:Nat):Int)=a:=a1
 have a3:((toU .i64 g % 16:Nat):Int)=b:=a3
 refine ⟨?_,?_,?_⟩
 · rw [e255]
   congr 2
   show ((toU .i64 h % 256:Nat):Int)=a+16*b
   omega
 · rw [e15]
   congr 2
   show ((toU .i64 (a+16*b) % 16:Nat):Int)=a
   omega
 · rw [zFl]
   congr 2
   omega
def zRg (n:Nat) (e:SE):Bool:=match e.k,e.l with
 | .i64,[p]=>Nat.beq p.1 n&&decide (p.2=1)&&decide (e.c=0)
 | _,_=>false
theorem zLr {n:Nat} {e:SE} (h:zRg n e=true):e=sv n:=by
 obtain ⟨k,c,l⟩:=e
 unfold zRg at h
 split at h
 · rename_i p h1 h2
   simp only at h1 h2
   subst h1 h2
   simp only [Bool.and_eq_true,decide_eq_true_eq] at h
   obtain ⟨⟨h1,h2⟩,h3⟩:=h
   obtain ⟨i,z⟩:=p
   simp only at h1 h2 h3
   have h1:=Nat.eq_of_beq_eq_true h1
   subst h1 h2 h3
   rfl
 · cases h
def zR3:Bool→BinOp→Bool
 | true,.and=>true
 | false,.shr=>true
 | _,_=>false
def zM9:Bool→BinOp
 | true=>.and
 | false=>.shr
theorem zQY {b:Bool} {o:BinOp} (h:zR3 b o=true):o=zM9 b:=by
 unfold zR3 at h
 split at h
 · rfl
 · rfl
 · cases h
def zSG (b:Bool) (h c a:Nat) (q:xD):Bool:=zR3 b q.op&&zRg h q.x&&Nat.beq q.c c&&(match q.v with
 | .sym e=>zRg a e
 | _=>false)
def zNQ (b:Bool) (h c a:Nat):List xD→Bool
 | []=>false
 | q::r=>zSG b h c a q || zNQ b h c a r
theorem zQw {σ:Nat→Int} {b:Bool} {h c a:Nat} {q:xD} (hq:zSG b h c a q=true) (hr:qg σ q) {z:Int} (hz:yO (zM9 b) .i64 (σ h) (.ofNat c)=some (zU .i64 z)) :
 yO (zM9 b) .i64 (σ h) (.ofNat c)=some (zU .i64 (σ a)):=by
 unfold zSG at hq
 simp only [Bool.and_eq_true] at hq
 obtain ⟨⟨⟨h1,h2⟩,h3⟩,h4⟩:=hq
 split at h4
 · rename_i e he
   have h1:=zQY h1
   have h2:=zLr h2
   have h3:=Nat.eq_of_beq_eq_true h3
   have h4:=zLr h4
   subst h4
   obtain ⟨u,_,g2,g3⟩:=hr
   rw [h1,h2,h3] at g2
   have g2:yO (zM9 b) .i64 (evE σ (sv h)) (.ofNat c)=some u:=g2
   rw [jx] at g2
   rw [he] at g3
   rw [g2]
   rcases g3 with g3 | ⟨e,g3,g4⟩
   · rw [hz] at g2
     have g2:=Option.some.inj g2
     rw [← g3] at g2
     cases z with
     | ofNat m=>rw [zAo] at g2; cases g2
     | negSucc m=>rw [zBC] at g2; cases g2
   · injection g3 with g3
     subst g3
     rw [g4,jx]
     rfl
 · cases h4
theorem zDQ {σ:Nat→Int} {b:Bool} {h c a:Nat} {z:Int} (hz:yO (zM9 b) .i64 (σ h) (.ofNat c)=some (zU .i64 z)):∀ {r:List xD},zNQ b h c a r=true→qC σ r →
 yO (zM9 b) .i64 (σ h) (.ofNat c)=some (zU .i64 (σ a))
 | [],hr,_=>by cases hr
 | q::r,hr,ho=>by
  unfold zNQ at hr
  rw [Bool.or_eq_true] at hr
  rcases hr with hr | hr
  · exact zQw hr ho.1 hz
  · exact zDQ hz hr ho.2
def zCX (a b:Nat):SE:=⟨.i64,.ofNat 0,[(a,1),(b,16)]⟩
theorem zE3 (σ:Nat→Int) (a b:Nat):evE σ (zCX a b)=σ a+16*σ b:=by
 show (0:Int)+(1*σ a+(16*σ b+0))=_
 omega
def zKA (r:List xD) (h g a b:Nat):Bool:=zNQ true h 15 a r&&zNQ false h 4 g r&&zNQ true g 15 b r
def zON (h a b:Nat) (r:List xD):List xD:=⟨.and,sv h,255,.sym (zCX a b)⟩::⟨.and,zCX a b,15,.sym (sv a)⟩::⟨.shr,zCX a b,4,.sym (sv b)⟩::r
theorem zOS {σ:Nat→Int} {r:List xD} {h g a b:Nat} (hj:zKA r h g a b=true) (hr:qC σ r):qC σ (zON h a b r):=by
 unfold zKA at hj
 simp only [Bool.and_eq_true] at hj
 obtain ⟨⟨h1,h2⟩,h3⟩:=hj
 have g1:=zDQ (σ:=σ) (b:=true) (h:=h) (c:=15) (zBp (σ h) (n:=4) (by decide)) h1 hr
 have g2:=zDQ (σ:=σ) (b:=false) (h:=h) (c:=4) (zFl (σ h)) h2 hr
 have g3:=zDQ (σ:=σ) (b:=true) (h:=g) (c:=15) (zBp (σ g) (n:=4) (by decide)) h3 hr
 obtain ⟨w1,w2,w3⟩:=zJ4 g1 g2 g3
 refine ⟨⟨_,.inl rfl,?_,.inr ⟨zCX a b,rfl,rfl⟩⟩,⟨_,.inl rfl,?_,.inr ⟨sv a,rfl,rfl⟩⟩,⟨_,.inl rfl,?_,.inr ⟨sv b,rfl,rfl⟩⟩,hr⟩
 · show yO .and .i64 (evE σ (sv h)) (.ofNat 255)=some (zU .i64 (evE σ (zCX a b)))
   rw [jx,zE3]; exact w1
 · show yO .and .i64 (evE σ (zCX a b)) (.ofNat 15)=some (zU .i64 (evE σ (sv a)))
   rw [jx,zE3]; exact w2
 · show yO .shr .i64 (evE σ (zCX a b)) (.ofNat 4)=some (zU .i64 (evE σ (sv b)))
   rw [jx,zE3]; exact w3
end
end Go.Ev
namespace Go.Ev
open Go.RowKit
noncomputable section
variable {P:Program}
inductive Kd where
 | i
 | b
 | r (f:Nat)
 | y
inductive LTree where
 | leaf
 | cmp (l:LL) (cut:Int) (a b:LTree)
 | and (v m:Nat) (ts:Nat→LTree)
 | rem (v m:Nat) (ts:Nat→LTree)
 | remn (v m:Nat) (ts:Nat→LTree)
 | bit (v t:Nat) (a b:LTree)
 | shr (v c:Nat) (t:LTree)
 | mask (v m:Nat) (t:LTree)
 | join (h g a b:Nat) (t:LTree)
 | cellI (j:Nat) (t:LTree)
 | cellB (j:Nat) (a b:LTree)
 | pin (v:Nat) (ts:Nat→LTree)
 | shrb (v c:Nat) (t:LTree)
 | rows (j n m:Nat) (t0:LTree) (ts:Nat→LTree) (tz:LTree)
structure Lf where
 b:List (Int × Int)
 f:List (LL × Int × Int)
 r:List xD
 l:List (Key × List CV)
 u:Nat
def Lf.known (e:Lf) (A:Key→Option Value):zc:=⟨e.b,e.f,e.r,A⟩
def zAB (n:Nat):LL→Bool
 | []=>true
 | p::r=>!(Nat.beq p.1 n)&&zAB n r
def yh (n:Nat):List CV→Bool
 | []=>true
 | .sym e::r=>zAB n e.l&&yh n r
 | .bool _::r=>yh n r
 | .nilsl::r=>yh n r
 | .sl .. :: r=>yh n r
 | .win _ _ e m::r=>zAB n e.l&&zAB n m.l&&yh n r
 | _::_=>false
def zPh (n:Nat):CV→Bool
 | .sym e=>zAB n e.l
 | .nat _=>true
 | .int _ _=>true
 | _=>false
def zE9 (n:Nat):List (LL × Int × Int)→Bool
 | []=>true
 | q::r=>zAB n q.1&&zE9 n r
def zFy (n:Nat):List xD→Bool
 | []=>true
 | q::r=>zAB n q.x.l&&zPh n q.v&&zFy n r
def zCj (n:Nat):List (Key × List CV)→Bool
 | []=>true
 | q::r=>yh n q.2&&zCj n r
def Lf.free (e:Lf) (n:Nat):Bool:=zE9 n e.f&&zFy n e.r&&zCj n e.l&&Nat.ble e.b.length n
def upV (σ:Nat→Int) (n:Nat) (z:Int):Nat→Int:=fun i=>if i=n then z else σ i
theorem upd_same {σ:Nat→Int} {n:Nat} {z:Int}:upV σ n z n=z:=by simp [upV]
theorem upd_other {σ:Nat→Int} {n i:Nat} {z:Int} (h:i≠n):upV σ n z i=σ i:=by simp [upV,h]
theorem uB {σ:Nat→Int} {n:Nat} {z:Int}:∀ {l:LL},zAB n l=true→evL (upV σ n z) l=evL σ l
 | [],_=>rfl
 | p::r,h=>by
  unfold zAB at h
  rw [Bool.and_eq_true] at h
  have hne:p.1≠n:=fun e=>by
   have h1:=h.1
   rw [e] at h1
   simp at h1
  show p.2*upV σ n z p.1+evL (upV σ n z) r=p.2*σ p.1+evL σ r
  rw [upd_other hne,uB h.2]
theorem zC7 {σ:Nat→Int} {n:Nat} {z:Int}:∀ {f:List (LL × Int × Int)},zE9 n f=true→jJ σ f→jJ (upV σ n z) f
 | [],_,_=>trivial
 | q::r,h,hf=>by
  unfold zE9 at h
  rw [Bool.and_eq_true] at h
  refine ⟨?_,zC7 h.2 hf.2⟩
  rw [uB h.1]; exact hf.1
theorem zKX {σ:Nat→Int} {n:Nat} {z:Int} {q:xD} (h1:zAB n q.x.l=true) (h2:zPh n q.v=true) (h:qg σ q):qg (upV σ n z) q:=by
 obtain ⟨u,g1,g2,g3⟩:=h
 refine ⟨u,g1,?_,?_⟩
 · unfold evE at g2 ⊢
   rw [uB h1]; exact g2
 · rcases g3 with g3 | ⟨e,g3,g4⟩
   · exact .inl g3
   · refine .inr ⟨e,g3,?_⟩
     rw [g3] at h2
     unfold evE at g4 ⊢
     rw [uB (l:=e.l) h2]; exact g4
theorem zC2 {σ:Nat→Int} {n:Nat} {z:Int}:∀ {r:List xD},zFy n r=true→qC σ r→qC (upV σ n z) r
 | [],_,_=>trivial
 | q::r,h,hr=>by
  unfold zFy at h
  rw [Bool.and_eq_true,Bool.and_eq_true] at h
  exact ⟨zKX h.1.1 h.1.2 hr.1,zC2 h.2 hr.2⟩
theorem zBJ {σ:Nat→Int} {n:Nat} {z:Int}:∀ {b:List (Int × Int)} {k:Nat},k+b.length≤n→yF σ k b→yF (upV σ n z) k b
 | [],_,_,_=>trivial
 | q::r,k,h,hb=>by
  simp only [List.length_cons] at h
  refine ⟨?_,zBJ (by omega) hb.2⟩
  rw [upd_other (by omega)]; exact hb.1
theorem w5 {σ:Nat→Int} {lo hi:Int}:∀ {b:List (Int × Int)} {k:Nat},yF σ k b→lo≤σ (k+b.length)→σ (k+b.length)≤hi→yF σ k (b++[(lo,hi)])
 | [],k,_,h1,h2=>⟨⟨h1,h2⟩,trivial⟩
 | q::r,k,hb,h1,h2=>by
  simp only [List.length_cons] at h1 h2
  have e:k+1+r.length=k+(r.length+1):=by omega
  exact ⟨hb.1,w5 hb.2 (by rw [e]; exact h1) (by rw [e]; exact h2)⟩
def vg (σ σ':Nat→Int):List CV→Prop
 | []=>True
 | .sym e::r=>evL σ' e.l=evL σ e.l∧vg σ σ' r
 | .win _ _ e m::r=>evL σ' e.l=evL σ e.l∧evL σ' m.l=evL σ m.l∧vg σ σ' r
 | _::r=>vg σ σ' r
def zK4 (wins:List Win) (w0:World) (i:Int) (σ:Nat→Int) (l:List (Key × List CV)):Prop:=
 ∀ q∈l,∀ σ' K',ArgsAre K'.arg wins→vg σ σ' q.2→zAA (linSym σ' K') wins w0 i q
theorem wl {σ:Nat→Int}:∀ {l:List CV},vg σ σ l
 | []=>trivial
 | c::r=>by
  unfold vg
  split
  · trivial
  · rename_i h; injection h with h1 h2; subst h1 h2; exact ⟨rfl,wl⟩
  · rename_i h; injection h with h1 h2; subst h1 h2; exact ⟨rfl,rfl,wl⟩
  · rename_i h; injection h with h1 h2; subst h1 h2; exact wl
theorem jn {σ σ':Nat→Int} {n:Nat} {z:Int}:∀ {l:List CV},yh n l=true→vg (upV σ n z) σ' l→vg σ σ' l
 | [],_,_=>trivial
 | .sym e::r,h,hs=>by
  unfold yh at h
  rw [Bool.and_eq_true] at h
  obtain ⟨h1,h2⟩:=hs
  rw [uB h.1] at h1
  exact ⟨h1,jn h.2 h2⟩
 | .win _ _ e m::r,h,hs=>by
  unfold yh at h
  rw [Bool.and_eq_true,Bool.and_eq_true] at h
  obtain ⟨h1,h2,h3⟩:=hs
  rw [uB h.1.1] at h1
  rw [uB h.1.2] at h2
  exact ⟨h1,h2,jn h.2 h3⟩
 | .nilsl::r,h,hs=>jn (l:=r) (by simpa [yh] using h) hs
 | .sl .. :: r,h,hs=>jn (l:=r) (by simpa [yh] using h) hs
 | .bool b::r,h,hs=>jn (l:=r) (by simpa [yh] using h) hs
 | .nat _::_,h,_=>by simp [yh] at h
 | .int _ _::_,h,_=>by simp [yh] at h
 | .anyi _::_,h,_=>by simp [yh] at h
 | .str _::_,h,_=>by simp [yh] at h
 | .nilptr::_,h,_=>by simp [yh] at h
 | .ptr _ _::_,h,_=>by simp [yh] at h
 | .nilmap::_,h,_=>by simp [yh] at h
 | .map _::_,h,_=>by simp [yh] at h
 | .func .. :: _,h,_=>by simp [yh] at h
 | .nilfunc::_,h,_=>by simp [yh] at h
 | .iface .. :: _,h,_=>by simp [yh] at h
 | .niliface::_,h,_=>by simp [yh] at h
 | .agg _::_,h,_=>by simp [yh] at h
 | .tup _::_,h,_=>by simp [yh] at h
 | .sst _::_,h,_=>by simp [yh] at h
 | .few .. :: _,h,_=>by simp [yh] at h
 | .elt .. :: _,h,_=>by simp [yh] at h
 | .any::_,h,_=>by simp [yh] at h
theorem zKo {wins:List Win} {w0:World} {i:Int} {σ:Nat→Int} {n:Nat} {z:Int} {l:List (Key × List CV)} (h:zCj n l=true) (hw:zK4 wins w0 i σ l):zK4 wins w0 i (upV σ n z) l:=by
 intro q hq σ' K' hA hs
 have:∀ {l:List (Key × List CV)},zCj n l=true→q∈l→yh n q.2=true:=by
  intro l
  induction l with
  | nil=>intro _ hq; cases hq
  | cons x r ih=>
   intro h hq
   unfold zCj at h
   rw [Bool.and_eq_true] at h
   rcases List.mem_cons.1 hq with rfl | hq
   · exact h.1
   · exact ih h.2 hq
 exact hw q hq σ' K' hA (jn (this h hq) hs)
structure zB8 (wins:List Win) (w0:World) (i:Int) (σ:Nat→Int) (e:Lf):Prop where
 b:yF σ 0 e.b
 f:jJ σ e.f
 r:qC σ e.r
 w:zK4 wins w0 i σ e.l
theorem zB8.known {wins:List Win} {w0:World} {i:Int} {σ:Nat→Int} {e:Lf} (h:zB8 wins w0 i σ e) (A:Key→Option Value):KnownOk σ (e.known A):=zRu h.b h.f h.r
theorem zB8.upd {wins:List Win} {w0:World} {i:Int} {σ:Nat→Int} {e:Lf} (h:zB8 wins w0 i σ e) {n:Nat} (hn:e.free n=true) (z:Int):zB8 wins w0 i (Go.Ev.upV σ n z) e:=by
 unfold Lf.free at hn
 simp only [Bool.and_eq_true] at hn
 obtain ⟨⟨⟨h1,h2⟩,h3⟩,h4⟩:=hn
 exact ⟨zBJ (by have:=@zJ noSym _ _ h4; omega) h.b,zC7 h1 h.f,zC2 h2 h.r,zKo h3 h.w⟩
def zIP (a b:Option (List Lf)):Option (List Lf):=match a,b with
 | some x,some y=>some (x++y)
 | _,_=>none
def zD9 (m:Nat) (g:Nat→Option (List Lf)):Option (List Lf):=Nat.rec (motive:=fun _=>Option (List Lf)) (g 0) (fun j ih=>zIP ih (g (Nat.succ j))) m
def zOv (e:Lf) (l:LL):Option (Int × Int):=rng (e.known (fun _=>none)) l
def zIH (e:Lf) (j:Nat):Bool:=match zOv e [(0,1),(Nat.succ j,-1)],zOv e [(0,1)] with
 | some p,some q=>decide (p.2<0)&&decide (0≤q.1)
 | _,_=>false
def zS0 (e:Lf) (q:LL × Int × Int):Lf:={ e with f:=q::e.f }
def zJx (e:Lf) (q:xD):Lf:={ e with r:=q::e.r }
def zJi (e:Lf) (q:Key × List CV):Lf:={ e with l:=q::e.l }
def zSW (e:Lf) (lo hi:Int):Lf:={ e with b:=e.b++[(lo,hi)] }
def zTg (e:Lf):Lf:={ e with u:=Nat.succ e.u }
def kZ (b:Bool) (o:Option (List Lf)):Option (List Lf):=match b with
 | true=>o
 | false=>none
def zDE (lo hi:Int) (o:Option (List Lf)):Option (List Lf):=match decide (hi<lo) with
 | true=>some []
 | false=>o
def vu (b:List (Int × Int)) (v:Nat) (q:Int × Int):List (Int × Int):=match b with
 | []=>[]
 | x::r=>match v with
  | 0=>q::r
  | v+1=>x::vu r v q
def zQz (e:Lf) (v:Nat) (z:Int):Lf:={ e with b:=vu e.b v (z,z) }
def byV:Nat→Nat→List CV
 | 0,_=>[]
 | n+1,v=>.sym ⟨.u8,0,[(v,1)]⟩::byV n (Nat.succ v)
def byB:Nat→List (Int × Int)
 | 0=>[]
 | n+1=>(0,255)::byB n
def zSa (e:Lf) (n:Nat):Lf:={ e with b:=e.b++byB n }
def zBq (e:Lf):Nat→Nat→Bool
 | 0,_=>true
 | m+1,n=>zE9 n e.f&&zFy n e.r&&zCj n e.l&&zBq e m (Nat.succ n)
def zSP (e:Lf) (n:Nat):Bool:=match nth e.b 0 with
 | some q=>decide (q.1=.ofNat n)&&decide (q.2=.ofNat n)
 | none=>false
def leaves (ks:List (Key × Kd)):LTree→Lf→Option (List Lf)
 | .leaf,e=>some [e]
 | .cmp l cut a b,e=>match zOv e l with
  | none=>none
  | some q=>zIP (zDE q.1 (min q.2 (cut - 1)) (leaves ks a (zS0 e (l,q.1,min q.2 (cut - 1))))) (zDE (max q.1 cut) q.2 (leaves ks b (zS0 e (l,max q.1 cut,q.2))))
 | .and v m ts,e=>kZ (Nat.ble m 127) (zD9 m fun j=>leaves ks (ts j) (zJx e (rv .and v m (zU .i64 (.ofNat j)))))
 | .rem v m ts,e=>zD9 (2*m) fun j=>leaves ks (ts j) (zJx e (rv .rem v (m+1) (zU .i64 (Int.ofNat j - Int.ofNat m))))
 | .remn v m ts,e=>match zOv e [(v,1)] with
  | none=>none
  | some q=>kZ (decide (0≤q.1)) (zD9 m fun j=>leaves ks (ts j) (zJx e (rv .rem v (m+1) (zU .i64 (.ofNat j)))))
 | .bit v t a b,e=>kZ (Nat.ble t 6) (zIP (leaves ks a (zJx e (rv .and v (2 ^ t) (zU .i64 (.ofNat 0))))) (leaves ks b (zJx e (rv .and v (2 ^ t) (zU .i64 (.ofNat (2 ^ t)))))))
 | .shr v c t,e=>kZ (e.free e.u && !(Nat.beq v e.u)) (leaves ks t (zJx (zTg e) (rv .shr v c (.sym (sv e.u)))))
 | .mask v m t,e=>kZ (e.free e.b.length && !(Nat.beq v e.b.length)&&Nat.ble m 4294967295&&Nat.ble (Nat.succ e.b.length) 1000) (leaves ks t (zJx (zSW e 0 (.ofNat m)) (rv .and v m (.sym (sv e.b.length)))))
 | .join h g a b t,e=>kZ (zKA e.r h g a b) (leaves ks t { e with r:=zON h a b e.r })
 | .cellI j t,e=>match nth ks j with
  | some (k,.i)=>kZ (zIH e j&&e.free e.u) (leaves ks t (zJi (zTg e) (k,[.sym (sv e.u)])))
  | _=>none
 | .cellB j a b,e=>match nth ks j with
  | some (k,.b)=>kZ (zIH e j) (zIP (leaves ks a (zJi e (k,[.bool false]))) (leaves ks b (zJi e (k,[.bool true]))))
  | _=>none
 | .pin v ts,e=>match nth e.b v with
  | some q=>zD9 (q.2 - q.1).toNat fun j=>leaves ks (ts j) (zQz e v (q.1+Int.ofNat j))
  | none=>none
 | .shrb v c t,e=>match nth e.b v with
  | some q=>kZ (e.free e.b.length && !(Nat.beq v e.b.length)&&Nat.ble (Nat.succ e.b.length) 1000&&decide (0≤q.1)&&Nat.ble c 60) (leaves ks t (zJx (zSW e (q.1 / 2 ^ c) (q.2 / 2 ^ c)) (rv .shr v c (.sym (sv e.b.length)))))
  | none=>none
 | .rows j n m t0 ts tz,e=>match nth ks j with
  | some (k,.r f)=>match nth ks (Nat.add f n) with
   | some (ki,.y)=>kZ (zIH e j&&zSP e n&&Nat.ble (Nat.succ n) 8&&zBq e m e.b.length&&Nat.ble (Nat.add e.b.length m) 1000&&Nat.ble (Nat.succ (Nat.add f n)) ks.length)
    (zIP (leaves ks t0 (zJi (zQz e (Nat.succ (Nat.add f n)) 0) (k,[.win ki 1 ⟨.i64,0,[]⟩ ⟨.i64,0,[]⟩])))
    (zIP (zD9 m fun l=>leaves ks (ts l) (zJi (zJi (zQz (zSa e l) (Nat.succ (Nat.add f n)) (.ofNat l)) (ki,byV l e.b.length)) (k,[.sl ki 0 l l 1 false])))
      (match nth e.b (Nat.succ (Nat.add f n)) with
        | some q=>leaves ks tz (zJi (zJi { zSa e m with b:=vu (zSa e m).b (Nat.succ (Nat.add f n)) (.ofNat (Nat.succ m),q.2) } (ki,byV m e.b.length)) (k,[.win ki 1 ⟨.i64,0,[]⟩ (sv (Nat.succ (Nat.add f n)))]))
        | none=>none)))
   | _=>none
  | _=>none
structure ByteArg (W:World) (v:Value) (wn:Win):Prop where
 val:v=.slice wn.base wn.len wn.cap
 base:wn.len=0∧wn.cap=0∨wn.base=some ⟨wn.B,wn.x,none⟩∧∃ arr elem fz,W.heap[wn.B]? = some (.cells arr elem fz)∧wn.x≤arr.size
 cell:∀ i,i<wn.len→∃ arr elem fz q,W.heap[wn.B]? = some (.cells arr elem fz)∧wn.x+i+1≤arr.size∧arr[wn.x+i]? = some (.int .u8 q)∧0≤q∧q≤255
 size:wn.sz=wn.x+wn.cap*1
 stay:wn.esz=0
 cap:wn.len≤wn.cap
structure RowArg (W:World) (v:Value) (wn:Win):Prop where
 val:v=.slice wn.base wn.len wn.cap
 base:0<wn.len→wn.base=some ⟨wn.B,wn.x,none⟩
 size:wn.sz=wn.x+wn.cap*1
def zQM (w0:World) (v:Value) (wn:Win):Kd→Prop
 | .i=>wn.esz=1∧zPj w0 v wn
 | .b=>wn.esz=1∧BoolArg w0 v wn
 | .r _=>wn.esz=1∧RowArg w0 v wn
 | .y=>ByteArg w0 v wn
structure WinIs (wins:List Win) (w0:World) (σ:Nat→Int) (ks:List (Key × Kd)):Prop where
 len:∀ j k,nth ks j=some k→∃ wn v,findW wins wn.key=some wn∧wn.key=k.1∧σ (Nat.succ j)=wn.len∧zQM w0 v wn k.2
 row:∀ j k f n ki wn wi,nth ks j=some (k,.r f)→nth ks (Nat.add f n)=some (ki,.y)→findW wins k=some wn→findW wins ki=some wi→n<wn.len→n<8 →
  ∃ arr elem fz,w0.heap[wn.B]? = some (.cells arr elem fz)∧wn.x+n+1≤arr.size∧arr[wn.x+n]? = some (.slice wi.base wi.len wi.cap)
theorem WinIs.upd {wins:List Win} {w0:World} {σ σ':Nat→Int} {ks:List (Key × Kd)} (h:WinIs wins w0 σ ks) (hs:∀ j,j≤ks.length→σ' j=σ j):WinIs wins w0 σ' ks:=
 ⟨fun j k hj=>by
  obtain ⟨wn,v,q1,q2,q4,q5⟩:=h.len j k hj
  have hlt:j<ks.length:=by
   rw [@nth_eq noSym] at hj
   exact (List.getElem?_eq_some_iff.1 hj).1
  exact ⟨wn,v,q1,q2,by rw [hs _ (by omega)]; exact q4,q5⟩,h.row⟩
theorem zNj {w0:World} {σ:Nat→Int}:WinIs [] w0 σ []:=⟨fun j k hj=>by (cases j <;> cases hj),fun j k f n ki wn wi hj=>by (cases j <;> cases hj)⟩
def upN (σ:Nat→Int) (n:Nat) (g:Nat→Int):Nat→Nat→Int
 | 0=>σ
 | m+1=>upV (upN σ n g m) (n+m) (g m)
theorem zDO {σ:Nat→Int} {n:Nat} {g:Nat→Int}:∀ {m i:Nat},(i<n∨n+m≤i)→upN σ n g m i=σ i
 | 0,_,_=>rfl
 | m+1,i,h=>by
  show upV (upN σ n g m) (n+m) (g m) i=σ i
  rw [upd_other (by omega),zDO (by omega)]
theorem zEb {σ:Nat→Int} {n:Nat} {g:Nat→Int}:∀ {m t:Nat},t<m→upN σ n g m (n+t)=g t
 | m+1,t,h=>by
  show upV (upN σ n g m) (n+m) (g m) (n+t)=g t
  by_cases e:t=m
  · subst e; exact upd_same
  · rw [upd_other (by omega),zEb (by omega)]
theorem zCZ {e:Lf}:∀ {m n:Nat},zBq e m n=true→e.b.length≤n→∀ t,t<m→e.free (n+t)=true
 | m+1,n,h,hn,t,ht=>by
  unfold zBq at h
  simp only [Bool.and_eq_true] at h
  obtain ⟨⟨⟨h1,h2⟩,h3⟩,h4⟩:=h
  cases t with
  | zero=>
   unfold Lf.free
   simp only [Bool.and_eq_true,Nat.add_zero]
   exact ⟨⟨⟨h1,h2⟩,h3⟩,Nat.ble_eq_true_of_le hn⟩
  | succ t=>
   rw [show n+(t+1)=n+1+t from by omega]
   exact zCZ h4 (by omega) t (by omega)
theorem zB8.updN {wins:List Win} {w0:World} {i:Int} {σ:Nat→Int} {e:Lf} (h:zB8 wins w0 i σ e) {n:Nat} {g:Nat→Int}:∀ {m:Nat},(∀ t,t<m→e.free (n+t)=true)→zB8 wins w0 i (upN σ n g m) e
 | 0,_=>h
 | m+1,hf=>(zB8.updN h fun t ht=>hf t (by omega)).upd (hf m (by omega)) (g m)
theorem wM {σ:Nat→Int}:∀ {m:Nat} {b:List (Int × Int)} {k:Nat},yF σ k b→(∀ t,t<m→0≤σ (k+b.length+t)∧σ (k+b.length+t)≤255)→yF σ k (b++byB m)
 | m,[],k,_,h=>by
  have:∀ {m k:Nat},(∀ t,t<m→0≤σ (k+t)∧σ (k+t)≤255)→yF σ k (byB m):=by
   intro m
   induction m with
   | zero=>intro k _; exact trivial
   | succ m ih=>
    intro k h
    exact ⟨h 0 (by omega),ih fun t ht=>by
     have:=h (t+1) (by omega)
     rwa [show k+(t+1)=k+1+t from by omega] at this⟩
  exact this fun t ht=>by simpa using h t ht
 | m,q::r,k,hb,h=>⟨hb.1,wM (b:=r) (k:=k+1) hb.2 fun t ht=>by
  have:=h t ht
  simp only [List.length_cons] at this
  rwa [show k+(r.length+1)+t=k+1+r.length+t from by omega] at this⟩
theorem zBx:∀ {m:Nat},(byB m).length=m
 | 0=>rfl
 | m+1=>by simp [byB,zBx]
theorem zMc:∀ {m v:Nat},(byV m v).length=m
 | 0,_=>rfl
 | m+1,v=>by simp [byV,zMc]
theorem zMb:∀ {m v t:Nat} {c:CV},(byV m v)[t]? = some c→t<m∧c=.sym ⟨.u8,0,[(v+t,1)]⟩
 | 0,v,t,c,h=>by simp [byV] at h
 | m+1,v,0,c,h=>by
  simp [byV] at h
  exact ⟨by omega,h.symm⟩
 | m+1,v,t+1,c,h=>by
  have:=zMb (m:=m) (v:=Nat.succ v) (t:=t) (c:=c) (by simpa [byV] using h)
  exact ⟨by omega,by rw [this.2,show Nat.succ v+t=v+(t+1) from by omega]⟩
theorem ve {σ σ':Nat→Int}:∀ {m v:Nat},vg σ σ' (byV m v)→∀ t,t<m→σ' (v+t)=σ (v+t)
 | m+1,v,h,0,_=>by
  have h1:evL σ' [(v,1)]=evL σ [(v,1)]:=h.1
  have e:∀ s:Nat→Int,evL s [(v,1)]=s v:=fun s=>by show 1*s v+0=_; omega
  rw [e,e] at h1
  exact h1
 | m+1,v,h,t+1,ht=>by
  have:=ve (m:=m) (v:=Nat.succ v) h.2 t (by omega)
  rwa [show Nat.succ v+t=v+(t+1) from by omega] at this
theorem zFj {W:World} {v:Value} {wins:List Win} {wi:Win} (h:ByteArg W v wi) (hf:findW wins wi.key=some wi) (hb:∃ arr elem fz,W.heap[wi.B]? = some (.cells arr elem fz)∧wi.x≤arr.size) {m:Nat} (hm:m≤wi.len) (i:Int) :
 ∃ g:Nat→Int,(∀ t,t<m→0≤g t∧g t≤255)∧∀ (σ:Nat→Int) (K:zc) (n:Nat),(∀ t,t<m→σ (n+t)=g t)→zAA (linSym σ K) wins W i (wi.key,byV m n):=by
 obtain ⟨arr,elem,fz,k1,k2⟩:∃ arr elem fz,W.heap[wi.B]? = some (.cells arr elem fz)∧wi.x≤arr.size:=by
  exact hb
 have hcell:∀ t,t<m→∃ q,arr[wi.x+t]? = some (.int .u8 q)∧0≤q∧q≤255:=by
  intro t ht
  obtain ⟨arr',e',f',q,g1,g2,g3,g4,g5⟩:=h.cell t (by omega)
  rw [k1] at g1
  injection g1 with g1
  injection g1 with g1
  subst g1
  exact ⟨q,g3,g4,g5⟩
 obtain ⟨g,hg⟩:∃ g:Nat→Int,∀ t,t<m→arr[wi.x+t]? = some (.int .u8 (g t))∧0≤g t∧g t≤255:=
  ⟨fun t=>if ht:t<m then (hcell t ht).choose else 0,fun t ht=>by simp only [dif_pos ht]; exact (hcell t ht).choose_spec⟩
 refine ⟨g,fun t ht=>(hg t ht).2,fun σ K n hs=>⟨wi,arr,elem,fz,hf,k1,?_,fun j c hj=>?_⟩⟩
 · rw [h.stay,Nat.mul_zero,Nat.add_zero,zMc]
   rcases Nat.eq_zero_or_pos m with rfl | hp
   · exact k2
   · have:=(Array.getElem?_eq_some_iff.1 (hg (m - 1) (by omega)).1).1
     omega
 · obtain ⟨ht,rfl⟩:=zMb hj
   refine ⟨.int .u8 (g j),by rw [h.stay,Nat.mul_zero,Nat.add_zero]; exact (hg j ht).1,fun ψ _=>?_⟩
   refine (@z8 (linSym σ K) _ _ _).2 ?_
   show Value.int .u8 (g j)=.int .u8 (evE σ ⟨.u8,0,[(n+j,1)]⟩)
   rw [← hs j ht]
   show _=Value.int .u8 (0+(1*σ (n+j)+0))
   congr 1
   omega
theorem kv {a b:Option (List Lf)} {l:List Lf} (h:zIP a b=some l):∃ x y,a=some x∧b=some y∧l=x++y:=by
 unfold zIP at h
 split at h
 · injection h with h; exact ⟨_,_,rfl,rfl,h.symm⟩
 · cases h
theorem ku {g:Nat→Option (List Lf)}:∀ {m:Nat} {l:List Lf},zD9 m g=some l→∀ j,j≤m→∃ x,g j=some x∧∀ e∈x,e∈l
 | 0,l,h,j,hj=>by
  obtain rfl:j=0:=by omega
  exact ⟨l,h,fun e he=>he⟩
 | m+1,l,h,j,hj=>by
  obtain ⟨x,y,h1,h2,rfl⟩:=kv (a:=zD9 m g) (b:=g (m+1)) h
  by_cases e:j=m+1
  · subst e; exact ⟨y,h2,fun e he=>List.mem_append_right _ he⟩
  · obtain ⟨z,h3,h4⟩:=ku h1 j (by omega)
    exact ⟨z,h3,fun e he=>List.mem_append_left _ (h4 e he)⟩
theorem xY {b:Bool} {o:Option (List Lf)} {l:List Lf} (h:kZ b o=some l):b=true∧o=some l:=by
 unfold kZ at h
 split at h
 · exact ⟨rfl,h⟩
 · cases h
theorem zA2 {lo hi:Int} {o:Option (List Lf)} {l:List Lf} (h:zDE lo hi o=some l) (hle:lo≤hi):o=some l:=by
 unfold zDE at h
 rw [decide_eq_false (by omega)] at h
 exact h
theorem xj:∀ {b:List (Int × Int)} {v:Nat} {q:Int × Int},(vu b v q).length=b.length
 | [],_,_=>rfl
 | _::r,0,_=>rfl
 | _::r,v+1,_=>by simp [vu,xj (b:=r)]
theorem jM {σ:Nat→Int}:∀ {b:List (Int × Int)} {k v:Nat} {q:Int × Int},yF σ k b→nth b v=some q→q.1≤σ (k+v)∧σ (k+v)≤q.2
 | [],_,_,_,_,h=>by cases h
 | x::r,k,0,q,hb,h=>by
  injection h with h; subst h
  exact hb.1
 | x::r,k,v+1,q,hb,h=>by
  have:=jM hb.2 (v:=v) h
  rw [show k+1+v=k+(v+1) from by omega] at this
  exact this
theorem kh {σ:Nat→Int} {z:Int}:∀ {b:List (Int × Int)} {k v:Nat},yF σ k b→σ (k+v)=z→yF σ k (vu b v (z,z))
 | [],_,_,_,_=>trivial
 | x::r,k,0,hb,h=>⟨by rw [← h]; exact ⟨Int.le_refl _,Int.le_refl _⟩,hb.2⟩
 | x::r,k,v+1,hb,h=>⟨hb.1,kh (b:=r) (k:=k+1) (v:=v) hb.2 (by rw [show k+1+v=k+(v+1) from by omega]; exact h)⟩
theorem zAy {σ:Nat→Int} {lo hi:Int}:∀ {b:List (Int × Int)} {k v:Nat},yF σ k b→lo≤σ (k+v)→σ (k+v)≤hi→yF σ k (vu b v (lo,hi))
 | [],_,_,_,_,_=>trivial
 | x::r,k,0,hb,h1,h2=>⟨⟨h1,h2⟩,hb.2⟩
 | x::r,k,v+1,hb,h1,h2=>⟨hb.1,zAy (b:=r) (k:=k+1) (v:=v) hb.2 (by rw [show k+1+v=k+(v+1) from by omega]; exact h1) (by rw [show k+1+v=k+(v+1) from by omega]; exact h2)⟩
section
variable {wins:List Win} {w0:World} {i:Int} {ks:List (Key × Kd)}
theorem zDF {σ:Nat→Int} {e:Lf} (h:zB8 wins w0 i σ e) {l:LL} {q:Int × Int} (hq:zOv e l=some q):q.1≤evL σ l∧evL σ l≤q.2:=
 yq (h.known _) hq
theorem u7 {σ:Nat→Int} {v:Nat}:evL σ [(v,1)]=σ v:=by
 show 1*σ v+0=_; omega
theorem zEt {σ:Nat→Int} {e:Lf} (h:zB8 wins w0 i σ e) {j:Nat} (hi:zIH e j=true):0≤σ 0∧σ 0<σ (Nat.succ j):=by
 unfold zIH at hi
 split at hi
 · rename_i p q hp hq
   rw [Bool.and_eq_true,decide_eq_true_eq,decide_eq_true_eq] at hi
   have g1:=(zDF h hp).2
   have g2:=(zDF h hq).1
   rw [u7] at g2
   have e:evL σ [(0,1),(Nat.succ j,-1)]=1*σ 0+(-1*σ (Nat.succ j)+0):=rfl
   rw [e] at g1
   omega
 · cases hi
theorem yS:∀ (t:LTree) (e:Lf) (σ:Nat→Int) {ls:List Lf},leaves ks t e=some ls→zB8 wins w0 i σ e→WinIs wins w0 σ ks→σ 0=i→ks.length<e.b.length→e.b.length≤1000→1000≤e.u →
 ∃ e'∈ls,∃ σ',zB8 wins w0 i σ' e'∧∀ j,(j<e.b.length∨(1000≤j∧j<e.u))→σ' j=σ j
 | .leaf,e,σ,ls,h,he,_,_,_,_,_=>by
  injection h with h; subst h
  exact ⟨e,by simp,σ,he,fun _ _=>rfl⟩
 | .cmp l cut a b,e,σ,ls,h,he,hw,h0,hk,h1,h2=>by
  unfold leaves at h
  split at h
  · cases h
  · rename_i q hq
    obtain ⟨x,y,hx,hy,rfl⟩:=kv h
    obtain ⟨g1,g2⟩:=zDF he hq
    by_cases hc:evL σ l<cut
    · have hx:=zA2 hx (by omega)
      obtain ⟨e',m,σ',r1,r2⟩:=yS a _ σ hx ⟨he.b,⟨⟨g1,by simp only; omega⟩,he.f⟩,he.r,he.w⟩ hw h0 hk h1 h2
      exact ⟨e',List.mem_append_left _ m,σ',r1,r2⟩
    · have hy:=zA2 hy (by omega)
      obtain ⟨e',m,σ',r1,r2⟩:=yS b _ σ hy ⟨he.b,⟨⟨by simp only; omega,g2⟩,he.f⟩,he.r,he.w⟩ hw h0 hk h1 h2
      exact ⟨e',List.mem_append_right _ m,σ',r1,r2⟩
 | .and v m ts,e,σ,ls,h,he,hw,h0,hk,h1,h2=>by
  unfold leaves at h
  obtain ⟨hm,h⟩:=xY h
  obtain ⟨j,hj,hr⟩:=zNh (σ v) m (@zJ noSym _ _ hm)
  obtain ⟨x,hx,hin⟩:=ku h j hj
  obtain ⟨e',m,σ',r1,r2⟩:=yS (ts j) _ σ hx ⟨he.b,he.f,⟨zII hr,he.r⟩,he.w⟩ hw h0 hk h1 h2
  exact ⟨e',hin _ m,σ',r1,r2⟩
 | .rem v m ts,e,σ,ls,h,he,hw,h0,hk,h1,h2=>by
  unfold leaves at h
  obtain ⟨z,hz,hr⟩:=zGO (σ v) m
  obtain ⟨x,hx,hin⟩:=ku h (z+m).toNat (by omega)
  have e1:(Int.ofNat (z+m).toNat - Int.ofNat m)=z:=by
   show (((z+m).toNat:Nat):Int) - (m:Int)=z
   omega
  rw [e1] at hx
  obtain ⟨e',m,σ',r1,r2⟩:=yS (ts (z+m).toNat) _ σ hx ⟨he.b,he.f,⟨zII hr,he.r⟩,he.w⟩ hw h0 hk h1 h2
  exact ⟨e',hin _ m,σ',r1,r2⟩
 | .remn v m ts,e,σ,ls,h,he,hw,h0,hk,h1,h2=>by
  unfold leaves at h
  split at h
  · cases h
  · rename_i q hq
    obtain ⟨hq0,h⟩:=xY h
    rw [decide_eq_true_eq] at hq0
    have g:=(zDF he hq).1
    rw [u7] at g
    obtain ⟨j,hj,hr⟩:=zLd (σ v) (by omega) m
    obtain ⟨x,hx,hin⟩:=ku h j hj
    obtain ⟨e',m,σ',r1,r2⟩:=yS (ts j) _ σ hx ⟨he.b,he.f,⟨zII hr,he.r⟩,he.w⟩ hw h0 hk h1 h2
    exact ⟨e',hin _ m,σ',r1,r2⟩
 | .bit v t a b,e,σ,ls,h,he,hw,h0,hk,h1,h2=>by
  unfold leaves at h
  obtain ⟨ht,h⟩:=xY h
  obtain ⟨x,y,hx,hy,rfl⟩:=kv h
  have ht:=@zJ noSym _ _ ht
  rcases zNk (σ v) t (by omega) with hr | hr
  · obtain ⟨e',m,σ',r1,r2⟩:=yS a _ σ hx ⟨he.b,he.f,⟨zII hr,he.r⟩,he.w⟩ hw h0 hk h1 h2
    exact ⟨e',List.mem_append_left _ m,σ',r1,r2⟩
  · obtain ⟨e',m,σ',r1,r2⟩:=yS b _ σ hy ⟨he.b,he.f,⟨zII hr,he.r⟩,he.w⟩ hw h0 hk h1 h2
    exact ⟨e',List.mem_append_right _ m,σ',r1,r2⟩
 | .shr v c t,e,σ,ls,h,he,hw,h0,hk,h1,h2=>by
  unfold leaves at h
  obtain ⟨hg,h⟩:=xY h
  rw [Bool.and_eq_true] at hg
  have hne:v≠e.u:=fun q=>by have:=hg.2; rw [q] at this; simp at this
  obtain ⟨z,hr⟩:=zNu (σ v) c
  have he':=he.upd hg.1 z
  have hr':qg (upV σ e.u z) (rv .shr v c (.sym (sv e.u))):=zLk (by rw [upd_other hne,upd_same]; exact hr)
  obtain ⟨e',m,σ',r1,r2⟩:=yS t _ (upV σ e.u z) h ⟨he'.b,he'.f,⟨hr',he'.r⟩,he'.w⟩
   (hw.upd fun j hj=>upd_other (by show j≠e.u; omega)) (by rw [upd_other (by omega)]; exact h0) hk h1 (by show 1000≤e.u+1; omega)
  exact ⟨e',m,σ',r1,fun j hj=>by rw [r2 j (show j<e.b.length∨(1000≤j∧j<e.u+1) by omega),upd_other (by omega)]⟩
 | .mask v m t,e,σ,ls,h,he,hw,h0,hk,h1,h2=>by
  unfold leaves at h
  obtain ⟨hg,h⟩:=xY h
  simp only [Bool.and_eq_true] at hg
  obtain ⟨⟨⟨g1,g2⟩,g3⟩,g4⟩:=hg
  have hb:=@zJ noSym _ _ g4
  have hne:v≠e.b.length:=fun q=>by rw [q] at g2; simp at g2
  obtain ⟨z,hz,hr⟩:=zKM (σ v) m (@zJ noSym _ _ g3)
  have he':=he.upd g1 (.ofNat z)
  have hr':qg (upV σ e.b.length (.ofNat z)) (rv .and v m (.sym (sv e.b.length))):=zLk (by rw [upd_other hne,upd_same]; exact hr)
  obtain ⟨e',m',σ',r1,r2⟩:=yS t _ (upV σ e.b.length (.ofNat z)) h
   ⟨w5 he'.b (by rw [Nat.zero_add,upd_same]; exact Int.natCast_nonneg z) (by rw [Nat.zero_add,upd_same]; exact Int.ofNat_le.2 hz),he'.f,⟨hr',he'.r⟩,he'.w⟩
   (hw.upd fun j hj=>upd_other (by show j≠e.b.length; omega)) (by rw [upd_other (by omega)]; exact h0) (by show _<(e.b++_).length; simp; omega) (by show (e.b++_).length≤_; simp; omega) h2
  exact ⟨e',m',σ',r1,fun j hj=>by rw [r2 j (show j<(e.b++[((0:Int),Int.ofNat m)]).length∨(1000≤j∧j<e.u) by simp; omega),upd_other (by omega)]⟩
 | .join h' g a b t,e,σ,ls,h,he,hw,h0,hk,h1,h2=>by
  unfold leaves at h
  obtain ⟨hg,h⟩:=xY h
  exact yS t { e with r:=zON h' a b e.r } σ h ⟨he.b,he.f,zOS hg he.r,he.w⟩ hw h0 hk h1 h2
 | .cellI j t,e,σ,ls,h,he,hw,h0,hk,h1,h2=>by
  unfold leaves at h
  split at h
  · rename_i k hj
    obtain ⟨hg,h⟩:=xY h
    rw [Bool.and_eq_true] at hg
    obtain ⟨wn,v,q1,q2,q4,q3,q5⟩:=hw.len j _ hj
    obtain ⟨g1,g2⟩:=zEt he hg.1
    obtain ⟨q,hq⟩:=zPt (i:=σ 0) q5 q3 q1 g1 (by rw [q4] at g2; exact g2)
    have he':=he.upd hg.2 q
    have hne:e.u≠0:=by omega
    obtain ⟨e',m,σ',r1,r2⟩:=yS t _ (upV σ e.u q) h
     ⟨he'.b,he'.f,he'.r,fun x hx σ' K' hA hs=>by
      rcases List.mem_cons.1 hx with rfl | hx
      · have e1:σ' e.u=q:=by
         have:=hs.1
         have e2:evL σ' [(e.u,1)]=evL (upV σ e.u q) [(e.u,1)]:=this
         rw [u7,u7,upd_same] at e2
         exact e2
        have:=hq σ' K' e.u e1
        rw [h0,q2] at this
        exact this
      · exact he'.w x hx σ' K' hA hs⟩
     (hw.upd fun j hj=>upd_other (by show j≠e.u; omega)) (by rw [upd_other (fun q=>hne q.symm)]; exact h0) hk h1 (by show 1000≤e.u+1; omega)
    exact ⟨e',m,σ',r1,fun j hj=>by rw [r2 j (show j<e.b.length∨(1000≤j∧j<e.u+1) by omega),upd_other (by omega)]⟩
  · cases h
 | .cellB j a b,e,σ,ls,h,he,hw,h0,hk,h1,h2=>by
  unfold leaves at h
  split at h
  · rename_i k hj
    obtain ⟨hg,h⟩:=xY h
    obtain ⟨x,y,hx,hy,rfl⟩:=kv h
    obtain ⟨wn,v,q1,q2,q4,q3,q5⟩:=hw.len j _ hj
    obtain ⟨g1,g2⟩:=zEt he hg
    rcases zMV (i:=σ 0) q5 q3 q1 g1 (by rw [q4] at g2; exact g2) with hq | hq
    · obtain ⟨e',m,σ',r1,r2⟩:=yS a _ σ hx ⟨he.b,he.f,he.r,fun x hx σ' K' hA hs=>by
       rcases List.mem_cons.1 hx with rfl | hx
       · have:=hq σ' K'
         rw [h0,q2] at this
         exact this
       · exact he.w x hx σ' K' hA hs⟩ hw h0 hk h1 h2
      exact ⟨e',List.mem_append_left _ m,σ',r1,r2⟩
    · obtain ⟨e',m,σ',r1,r2⟩:=yS b _ σ hy ⟨he.b,he.f,he.r,fun x hx σ' K' hA hs=>by
       rcases List.mem_cons.1 hx with rfl | hx
       · have:=hq σ' K'
         rw [h0,q2] at this
         exact this
       · exact he.w x hx σ' K' hA hs⟩ hw h0 hk h1 h2
      exact ⟨e',List.mem_append_right _ m,σ',r1,r2⟩
  · cases h
 | .pin v ts,e,σ,ls,h,he,hw,h0,hk,h1,h2=>by
  unfold leaves at h
  split at h
  · rename_i q hq
    have hb:=jM he.b hq
    rw [Nat.zero_add] at hb
    obtain ⟨x,hx,hin⟩:=ku h (σ v - q.1).toNat (by omega)
    have ez:q.1+Int.ofNat (σ v - q.1).toNat=σ v:=by
     show q.1+(((σ v - q.1).toNat:Nat):Int)=σ v
     omega
    rw [ez] at hx
    obtain ⟨e',m,σ',r1,r2⟩:=yS (ts (σ v - q.1).toNat) (zQz e v (σ v)) σ hx ⟨kh he.b (by rw [Nat.zero_add]),he.f,he.r,he.w⟩ hw h0 (by show _<(vu e.b v _).length; rw [xj]; exact hk) (by show (vu e.b v _).length≤_; rw [xj]; exact h1) h2
    exact ⟨e',hin _ m,σ',r1,fun j hj=>r2 j (by show j<(vu e.b v _).length∨_; rw [xj]; exact hj)⟩
  · cases h
 | .shrb v c t,e,σ,ls,h,he,hw,h0,hk,h1,h2=>by
  unfold leaves at h
  split at h
  · rename_i q hq
    obtain ⟨hg,h⟩:=xY h
    simp only [Bool.and_eq_true] at hg
    obtain ⟨⟨⟨⟨g1,g2⟩,g3⟩,g4⟩,g5⟩:=hg
    have hbl:=@zJ noSym _ _ g3
    have hc:=@zJ noSym _ _ g5
    rw [decide_eq_true_eq] at g4
    have hne:v≠e.b.length:=fun q=>by rw [q] at g2; simp at g2
    have hb:=jM he.b hq
    rw [Nat.zero_add] at hb
    obtain ⟨a,ha⟩:∃ a:Nat,σ v=Int.ofNat a:=⟨(σ v).toNat,by show σ v=(((σ v).toNat:Nat):Int); omega⟩
    have hz:yO .shr .i64 (σ v) (.ofNat c)=some (zU .i64 (σ v / 2 ^ c)):=by
     rw [ha]
     have e1:(Int.ofNat a / 2 ^ c:Int)=Int.ofNat (a / 2 ^ c):=by
      show ((a:Int) / 2 ^ c)=((a / 2 ^ c:Nat):Int)
      rw [Int.natCast_ediv,Int.natCast_pow]; rfl
     rw [e1]
     show some (jH .i64 (Nat.div a (Nat.pow 2 (min c IntKind.i64.bits))))=_
     have e2:min c IntKind.i64.bits=c:=by
      show min c 64=c
      omega
     rw [e2]
     show some (jH .i64 (a / 2 ^ c))=some (zU .i64 (Int.ofNat (a / 2 ^ c)))
     cases a / 2 ^ c <;> rfl
    have he':=he.upd g1 (σ v / 2 ^ c)
    have hr':qg (upV σ e.b.length (σ v / 2 ^ c)) (rv .shr v c (.sym (sv e.b.length))):=zLk (by rw [upd_other hne,upd_same]; exact hz)
    have hpos:(0:Int)<2 ^ c:=Int.pow_pos (by decide)
    have hlo:q.1 / 2 ^ c≤σ v / 2 ^ c:=Int.ediv_le_ediv hpos hb.1
    have hhi:σ v / 2 ^ c≤q.2 / 2 ^ c:=Int.ediv_le_ediv hpos hb.2
    obtain ⟨e',m',σ',r1,r2⟩:=yS t _ (upV σ e.b.length (σ v / 2 ^ c)) h
     ⟨w5 he'.b (by rw [Nat.zero_add,upd_same]; exact hlo) (by rw [Nat.zero_add,upd_same]; exact hhi),he'.f,⟨hr',he'.r⟩,he'.w⟩
     (hw.upd fun j hj=>upd_other (by show j≠e.b.length; omega)) (by rw [upd_other (by omega)]; exact h0) (by show _<(e.b++_).length; simp; omega) (by show (e.b++_).length≤_; simp; omega) h2
    exact ⟨e',m',σ',r1,fun j hj=>by rw [r2 j (show j<(e.b++[((q.1 / 2 ^ c:Int),(q.2 / 2 ^ c:Int))]).length∨(1000≤j∧j<e.u) by simp; omega),upd_other (by omega)]⟩
  · cases h
 | .rows j n m t0 ts tz,e,σ,ls,h,he,hw,h0,hk,h1,h2=>by
  unfold leaves at h
  split at h
  · rename_i k f hj
    split at h
    · rename_i ki hji
      obtain ⟨hg,h⟩:=xY h
      simp only [Bool.and_eq_true] at hg
      obtain ⟨⟨⟨⟨⟨g1,g2⟩,g3⟩,g4⟩,g5⟩,g6⟩:=hg
      have g3:=@zJ noSym _ _ g3
      have g5:=@zJ noSym _ _ g5
      have g6:=@zJ noSym _ _ g6
      have hfree:=zCZ g4 (Nat.le_refl _)
      obtain ⟨x,y0,hx,hxy,rfl⟩:=kv h
      obtain ⟨y,z,hy,hz,rfl⟩:=kv hxy
      obtain ⟨wn,v,q1,q2,q4,q3,q5⟩:=hw.len j _ hj
      obtain ⟨wi,vi,r1,r2,r4,r5⟩:=hw.len _ _ hji
      have r5:ByteArg w0 vi wi:=r5
      have r2:wi.key=ki:=r2
      have q2:wn.key=k:=q2
      have r4:σ (Nat.succ (Nat.add f n))=wi.len:=r4
      obtain ⟨g1a,g1b⟩:=zEt he g1
      rw [q4] at g1b
      have hat:σ 0=(n:Int):=by
       unfold zSP at g2
       split at g2
       · rename_i q hq
         rw [Bool.and_eq_true,decide_eq_true_eq,decide_eq_true_eq] at g2
         have hb:=jM he.b hq
         rw [Nat.zero_add,g2.1,g2.2] at hb
         have b1:(n:Int)≤σ 0:=hb.1
         have b2:σ 0≤(n:Int):=hb.2
         omega
       · cases g2
      have hn:n<wn.len:=by omega
      obtain ⟨arr,elem,fz,a1,a2,a3⟩:=hw.row j k f n ki wn wi hj hji (q2 ▸ q1) (r2 ▸ r1) hn (by omega)
      have hi:i=(n:Int):=by rw [← h0]; exact hat
      have hplace:wn.x+i.toNat*wn.esz+0=wn.x+n:=by rw [hi,q3,Int.toNat_natCast]; omega
      have outer:∀ (σ':Nat→Int) (K':zc) (c:CV),(∀ ψ,zPf wins i ψ c→@zG (linSym σ' K') ψ c (.slice wi.base wi.len wi.cap))→zAA (linSym σ' K') wins w0 i (k,[c]):=by
       intro σ' K' c hc
       refine ⟨wn,arr,elem,fz,q2 ▸ q1,a1,by show wn.x+i.toNat*wn.esz+1≤_; omega,fun jj d hd=>?_⟩
       cases jj with
       | zero=>
        simp at hd
        subst hd
        exact ⟨_,by rw [hplace]; exact a3,hc⟩
       | succ jj=>simp at hd
      have hvlt:Nat.succ (Nat.add f n)≤ks.length:=g6
      have hle:∀ g l,l≤m→∀ j,j≤ks.length→upN σ e.b.length g l j=σ j:=fun g l _ j hj=>zDO (.inl (by omega))
      rcases r5.base with ⟨b2,b3⟩ | ⟨b1,hb⟩
      · -- nothing
        obtain ⟨e',mm,σ',s1,s2⟩:=yS t0 _ σ hx ⟨kh he.b (by rw [Nat.zero_add,r4,b2]; rfl),he.f,he.r,fun q hq σ' K' hA hs=>by
         rcases List.mem_cons.1 hq with rfl | hq
         · refine outer σ' K' _ fun ψ _=>(@xo (linSym σ' K') _ _ _ _ _ _).2 ⟨?_,wi.base,wi.len,wi.cap,0,rfl,?_,rfl,fun _ h=>by omega⟩
           · obtain ⟨hm1,hm2⟩:=jr r1
             have:=(hA wi hm1).1
             rw [r2] at this
             exact this
           · rw [b2]; rfl
         · exact he.w q hq σ' K' hA hs⟩ hw h0 (by show _<(vu e.b _ _).length; rw [xj]; exact hk) (by show (vu e.b _ _).length≤_; rw [xj]; exact h1) h2
        exact ⟨e',List.mem_append_left _ mm,σ',s1,fun j hj=>s2 j (by show j<(vu e.b _ _).length∨(1000≤j∧j<e.u); rw [xj]; exact hj)⟩
      · by_cases hlen:wi.len≤m
        · -- so many
          obtain ⟨x',hx',hin⟩:=ku hy wi.len hlen
          obtain ⟨g,hg1,hg2⟩:=zFj r5 r1 hb (Nat.le_refl wi.len) i
          have he':=he.updN (g:=g) (m:=wi.len) (n:=e.b.length) fun t ht=>hfree t (by omega)
          have hs0:=hle g wi.len hlen
          obtain ⟨e',mm,σ',s1,s2⟩:=yS (ts wi.len) _ (upN σ e.b.length g wi.len) hx'
           ⟨kh (wM he'.b fun t ht=>by rw [Nat.zero_add,zEb ht]; exact hg1 t ht) (by rw [Nat.zero_add,hs0 _ hvlt,r4]; rfl),he'.f,he'.r,fun q hq σ' K' hA hs=>by
            rcases List.mem_cons.1 hq with rfl | hq
            · refine outer σ' K' _ fun ψ hψ=>(@zz (linSym σ' K') _ _ _ _ _ _ _ _).2 ⟨_,wi.x,wi.cap,hψ ki wi rfl (r2 ▸ r1),?_,r5.cap,r5.cap,(fun h=>by cases h),.inl ⟨?_,fun _=>?_⟩⟩
              · rw [b1]
              · show wi.x=wi.x+i.toNat*wi.esz+0
                rw [r5.stay]; omega
              · exact r5.size.symm
            · rcases List.mem_cons.1 hq with rfl | hq
              · have:=hg2 σ' K' e.b.length fun t ht=>by rw [ve hs t ht,zEb ht]
                rw [r2] at this
                exact this
              · exact he'.w q hq σ' K' hA hs⟩ (hw.upd hs0) (by rw [hs0 0 (by omega)]; exact h0) (by show _<(vu (e.b++_) _ _).length; rw [xj]; simp; omega)
            (by show (vu (e.b++_) _ _).length≤_; rw [xj,List.length_append,zBx]; have:e.b.length+m≤1000:=g5; omega) h2
          exact ⟨e',List.mem_append_right _ (List.mem_append_left _ (hin _ mm)),σ',s1,fun j hj=>by
           rw [s2 j (by show j<(vu (e.b++_) _ _).length∨(1000≤j∧j<e.u); rw [xj,List.length_append,zBx]; omega)]
           exact zDO (by have:e.b.length+m≤1000:=g5; omega)⟩
        · -- more
          split at hz
          · rename_i q hq
            obtain ⟨g,hg1,hg2⟩:=zFj r5 r1 hb (show m≤wi.len by omega) i
            have he':=he.updN (g:=g) (m:=m) (n:=e.b.length) fun t ht=>hfree t ht
            have hs0:=hle g m (Nat.le_refl _)
            have hbq:=jM he.b hq
            rw [Nat.zero_add,r4] at hbq
            obtain ⟨e',mm,σ',s1,s2⟩:=yS tz _ (upN σ e.b.length g m) hz
             ⟨zAy (wM he'.b fun t ht=>by rw [Nat.zero_add,zEb ht]; exact hg1 t ht) (by rw [Nat.zero_add,hs0 _ hvlt,r4]; show ((m+1:Nat):Int)≤_; omega) (by rw [Nat.zero_add,hs0 _ hvlt,r4]; exact hbq.2),he'.f,he'.r,fun q hq σ' K' hA hs=>by
              rcases List.mem_cons.1 hq with rfl | hq
              · refine outer σ' K' _ fun ψ hψ=>(@xo (linSym σ' K') _ _ _ _ _ _).2 ⟨?_,wi.base,wi.len,wi.cap,0,rfl,?_,rfl,fun _ _=>⟨_,wi.x,hψ ki wi rfl (r2 ▸ r1),?_,?_,r5.size,r5.cap⟩⟩
                · obtain ⟨hm1,hm2⟩:=jr r1
                  have:=(hA wi hm1).1
                  rw [r2] at this
                  exact this
                · have e1:evL σ' [(Nat.succ (Nat.add f n),1)]=evL (upN σ e.b.length g m) [(Nat.succ (Nat.add f n),1)]:=hs.2.1
                  rw [u7,u7,hs0 _ hvlt,r4] at e1
                  show Value.int .i64 (evE σ' (sv (Nat.succ (Nat.add f n))))=_
                  rw [jx,e1]
                · rw [b1]
                · show wi.x+i.toNat*wi.esz=wi.x+(0:Int).toNat*1
                  rw [r5.stay]; simp
              · rcases List.mem_cons.1 hq with rfl | hq
                · have:=hg2 σ' K' e.b.length fun t ht=>by rw [ve hs t ht,zEb ht]
                  rw [r2] at this
                  exact this
                · exact he'.w q hq σ' K' hA hs⟩ (hw.upd hs0) (by rw [hs0 0 (by omega)]; exact h0) (by show _<(vu (e.b++_) _ _).length; rw [xj]; simp; omega)
              (by show (vu (e.b++_) _ _).length≤_; rw [xj,List.length_append,zBx]; exact g5) h2
            exact ⟨e',List.mem_append_right _ (List.mem_append_right _ mm),σ',s1,fun j hj=>by
             rw [s2 j (by show j<(vu (e.b++_) _ _).length∨(1000≤j∧j<e.u); rw [xj,List.length_append,zBx]; omega)]
             exact zDO (by have:e.b.length+m≤1000:=g5; omega)⟩
          · cases hz
    · cases h
  · cases h
end
def AllG (Q:Lf→Prop):List Lf→Prop
 | []=>True
 | e::l=>Q e∧AllG Q l
theorem zBn {Q:Lf→Prop}:∀ {l:List Lf},AllG Q l→∀ e∈l,Q e
 | [],_,e,he=>by cases he
 | x::l,h,e,he=>by
  rcases List.mem_cons.1 he with rfl | he
  · exact h.1
  · exact zBn h.2 e he
def zCQ (m:Nat):List (Key × Nat)→Bool
 | []=>true
 | q::r=>Nat.ble (Nat.succ q.2) m&&zCQ m r
theorem zCk {m:Nat}:∀ {l:List (Key × Nat)},zCQ m l=true→∀ q∈l,q.2<m
 | [],_,q,h=>by cases h
 | x::r,h,q,hq=>by
  unfold zCQ at h
  rw [Bool.and_eq_true] at h
  rcases List.mem_cons.1 hq with rfl | hq
  · exact @zJ noSym _ _ h.1
  · exact zCk h.2 q hq
def AllS (Q:TS→Prop):List TS→Prop
 | []=>True
 | T::l=>Q T∧AllS Q l
theorem zJP {Q:TS→Prop}:∀ {l:List TS} {t:Nat} {T:TS},AllS Q l→nth l t=some T→Q T
 | [],_,_,_,h=>by cases h
 | x::l,0,T,h,hn=>by
  injection hn with hn
  subst hn
  exact h.1
 | x::l,t+1,T,h,hn=>zJP (t:=t) h.2 hn
theorem allG_nil {Q:Lf→Prop}:AllG Q []:=trivial
theorem allG_cons {Q:Lf→Prop} {e:Lf} {l:List Lf} (h:Q e) (r:AllG Q l):AllG Q (e::l):=⟨h,r⟩
theorem zP4 {Q:TS→Prop}:AllS Q []:=trivial
theorem zNy {Q:TS→Prop} {T:TS} {l:List TS} (h:Q T) (r:AllS Q l):AllS Q (T::l):=⟨h,r⟩
theorem len_of {wins:List Win} {L:List (Key × Nat)} {σ:Nat→Int} {w:Win} {k:Key} {j:Nat} (h:LensAre wins L σ) (hm:(k,j)∈L) (hw:findW wins k=some w):σ j=w.len:=by
 obtain ⟨wn,h1,h2⟩:=h _ hm
 simp only at h1
 rw [hw] at h1
 injection h1 with h1
 subst h1
 exact h2
end
end Go.Ev
