/- A verified evaluator for the model's code: EvWord, EvTree. -/
import Derived.Test.YteejciioplkoeaaGreatDoorEvArg
set_option linter.unusedSectionVars false
set_option linter.unusedVariables false
set_option linter.unusedSimpArgs false
namespace Go.Ev
noncomputable section
theorem zAX (m:Nat):zY .i64 (.ofNat m)=.nat m:=by cases m <;> rfl
theorem zCe (m:Nat):zY .i64 (.negSucc m)=.int .i64 (.negSucc m):=by cases m <;> rfl
theorem zIL {a b:Int} (h:zY .i64 a=zY .i64 b):a=b:=by
 cases a with
 | ofNat a=>cases b with
  | ofNat b=>rw [zAX,zAX] at h; injection h with h; rw [h]
  | negSucc b=>rw [zAX,zCe] at h; cases h
 | negSucc a=>cases b with
  | ofNat b=>rw [zAX,zCe] at h; cases h
  | negSucc b=>rw [zCe,zCe] at h; injection h
theorem zE5 (q:Int):(toU .i64 q:Int)=q % 18446744073709551616:=by
 cases q with
 | ofNat m=>
  show ((m % 2 ^ 64:Nat):Int)=(m:Int) % 18446744073709551616
  omega
 | negSucc m=>
  show ((2 ^ 64 - 1 - m % 2 ^ 64:Nat):Int)=Int.negSucc m % 18446744073709551616
  rw [Int.negSucc_eq]
  omega
theorem zB1 (q:Int) {n:Nat} (hn:n≤31):yQ .and .i64 q (.ofNat (2 ^ n - 1))=some (zY .i64 (.ofNat (toU .i64 q % 2 ^ n))):=by
 have hp:2 ^ n≤2 ^ 31:=Nat.pow_le_pow_right (by decide) hn
 have h1:toU .i64 (.ofNat (2 ^ n - 1))=2 ^ n - 1:=Nat.mod_eq_of_lt (show 2 ^ n - 1<2 ^ 64 by omega)
 show some (zY .i64 (yk .i64 (.ofNat (Nat.land (toU .i64 q) (toU .i64 (.ofNat (2 ^ n - 1)))))))=_
 rw [h1]
 have h2:Nat.land (toU .i64 q) (2 ^ n - 1)=toU .i64 q % 2 ^ n:=Nat.and_two_pow_sub_one_eq_mod _ n
 rw [h2]
 have h3:toU .i64 q % 2 ^ n<2 ^ n:=Nat.mod_lt _ (Nat.two_pow_pos n)
 have h4:yk .i64 (.ofNat (toU .i64 q % 2 ^ n))=.ofNat (toU .i64 q % 2 ^ n):=by
  generalize toU .i64 q % 2 ^ n=x at h3
  rw [@yr zR]
  simp [IntKind.wrap,IntKind.signed,IntKind.bits]
  omega
 rw [h4]
theorem zFX (q:Int):yQ .shr .i64 q (.ofNat 4)=some (zY .i64 (q / 16)):=by
 cases q with
 | ofNat a=>
  show some (jZ .i64 (Nat.div a (Nat.pow 2 (min 4 64))))=some (zY .i64 ((a:Int) / 16))
  have e:((a:Int) / 16)=Int.ofNat (a / 16):=by
   show (a:Int) / 16=((a / 16:Nat):Int)
   omega
  rw [e,zAX]
  show some (kr (a / 16))=_
  generalize a / 16=x
  cases x <;> rfl
 | negSucc a=>
  show some (zY .i64 ((Int.negSucc a).fdiv (.ofNat (Nat.pow 2 (min 4 64)))))=_
  have e:(Int.negSucc a).fdiv (.ofNat (Nat.pow 2 (min 4 64)))=Int.negSucc a / 16:=by
   show (Int.negSucc a).fdiv 16=_
   rw [Int.fdiv_eq_ediv_of_nonneg _ (by decide)]
  rw [e]
theorem zKV {h g a b:Int} (h1:yQ .and .i64 h (.ofNat 15)=some (zY .i64 a)) (h2:yQ .shr .i64 h (.ofNat 4)=some (zY .i64 g)) (h3:yQ .and .i64 g (.ofNat 15)=some (zY .i64 b)) :
 yQ .and .i64 h (.ofNat 255)=some (zY .i64 (a+16*b))∧yQ .and .i64 (a+16*b) (.ofNat 15)=some (zY .i64 a)∧yQ .shr .i64 (a+16*b) (.ofNat 4)=some (zY .i64 b):=by
 have e15:∀ q:Int,yQ .and .i64 q (.ofNat 15)=some (zY .i64 (.ofNat (toU .i64 q % 16))):=fun q=>zB1 q (n:=4) (by decide)
 have e255:∀ q:Int,yQ .and .i64 q (.ofNat 255)=some (zY .i64 (.ofNat (toU .i64 q % 256))):=fun q=>zB1 q (n:=8) (by decide)
 rw [e15] at h1 h3
 rw [zFX] at h2
 have a1:=zIL (Option.some.inj h1)
 have a2:=zIL (Option.some.inj h2)
 have a3:=zIL (Option.some.inj h3)
 have u1:=zE5 h
 have u2:=zE5 g
 have u3:=zE5 (a+16*b)
 have a1:((toU .i64 h % 16:Nat):Int)=a:=a1
 have a3:((toU .i64 g % 16:Nat):Int)=b:=a3
 refine ⟨?_,?_,?_⟩
 · rw [e255]
   congr 2
   show ((toU .i64 h % 256:Nat):Int)=a+16*b
   omega
 · rw [e15]
   congr 2
   show ((toU .i64 (a+16*b) % 16:Nat):Int)=a
   omega
 · rw [zFX]
   congr 2
   omega
def zSJ (n:Nat) (e:SE):Bool:=match e.k,e.l with
 | .i64,[p]=>Nat.beq p.1 n&&decide (p.2=1)&&decide (e.c=0)
 | _,_=>false
theorem zMr {n:Nat} {e:SE} (h:zSJ n e=true):e=sv n:=by
 obtain ⟨k,c,l⟩:=e
 unfold zSJ at h
 split at h
 · rename_i p h1 h2
   simp only at h1 h2
   subst h1 h2
   simp only [Bool.and_eq_true,decide_eq_true_eq] at h
   obtain ⟨⟨h1,h2⟩,h3⟩:=h
   obtain ⟨i,z⟩:=p
   simp only at h1 h2 h3
   have h1:=Nat.eq_of_beq_eq_true h1
   subst h1 h2 h3
   rfl
 · cases h
def zTw:Bool→BinOp→Bool
 | true,.and=>true
 | false,.shr=>true
 | _,_=>false
def zOm:Bool→BinOp
 | true=>.and
 | false=>.shr
theorem zSp {b:Bool} {o:BinOp} (h:zTw b o=true):o=zOm b:=by
 unfold zTw at h
 split at h
 · rfl
 · rfl
 · cases h
def zUd (b:Bool) (h c a:Nat) (q:xE):Bool:=zTw b q.op&&zSJ h q.x&&Nat.beq q.c c&&(match q.v with
 | .sym e=>zSJ a e
 | _=>false)
def zO5 (b:Bool) (h c a:Nat):List xE→Bool
 | []=>false
 | q::r=>zUd b h c a q || zO5 b h c a r
theorem zRV {σ:Nat→Int} {b:Bool} {h c a:Nat} {q:xE} (hq:zUd b h c a q=true) (hr:xu σ q) {z:Int} (hz:yQ (zOm b) .i64 (σ h) (.ofNat c)=some (zY .i64 z)) :
 yQ (zOm b) .i64 (σ h) (.ofNat c)=some (zY .i64 (σ a)):=by
 unfold zUd at hq
 simp only [Bool.and_eq_true] at hq
 obtain ⟨⟨⟨h1,h2⟩,h3⟩,h4⟩:=hq
 split at h4
 · rename_i e he
   have h1:=zSp h1
   have h2:=zMr h2
   have h3:=Nat.eq_of_beq_eq_true h3
   have h4:=zMr h4
   subst h4
   obtain ⟨u,_,g2,g3⟩:=hr
   rw [h1,h2,h3] at g2
   have g2:yQ (zOm b) .i64 (evE σ (sv h)) (.ofNat c)=some u:=g2
   rw [qe] at g2
   rw [he] at g3
   rw [g2]
   rcases g3 with g3 | ⟨e,g3,g4⟩
   · rw [hz] at g2
     have g2:=Option.some.inj g2
     rw [← g3] at g2
     cases z with
     | ofNat m=>rw [zAX] at g2; cases g2
     | negSucc m=>rw [zCe] at g2; cases g2
   · injection g3 with g3
     subst g3
     rw [g4,qe]
     rfl
 · cases h4
theorem zEr {σ:Nat→Int} {b:Bool} {h c a:Nat} {z:Int} (hz:yQ (zOm b) .i64 (σ h) (.ofNat c)=some (zY .i64 z)):∀ {r:List xE},zO5 b h c a r=true→xy σ r →
 yQ (zOm b) .i64 (σ h) (.ofNat c)=some (zY .i64 (σ a))
 | [],hr,_=>by cases hr
 | q::r,hr,ho=>by
  unfold zO5 at hr
  rw [Bool.or_eq_true] at hr
  rcases hr with hr | hr
  · exact zRV hr ho.1 hz
  · exact zEr hz hr ho.2
def zDC (a b:Nat):SE:=⟨.i64,.ofNat 0,[(a,1),(b,16)]⟩
theorem zFF (σ:Nat→Int) (a b:Nat):evE σ (zDC a b)=σ a+16*σ b:=by
 show (0:Int)+(1*σ a+(16*σ b+0))=_
 omega
def zLA (r:List xE) (h g a b:Nat):Bool:=zO5 true h 15 a r&&zO5 false h 4 g r&&zO5 true g 15 b r
def zP2 (h a b:Nat) (r:List xE):List xE:=⟨.and,sv h,255,.sym (zDC a b)⟩::⟨.and,zDC a b,15,.sym (sv a)⟩::⟨.shr,zDC a b,4,.sym (sv b)⟩::r
theorem zP7 {σ:Nat→Int} {r:List xE} {h g a b:Nat} (hj:zLA r h g a b=true) (hr:xy σ r):xy σ (zP2 h a b r):=by
 unfold zLA at hj
 simp only [Bool.and_eq_true] at hj
 obtain ⟨⟨h1,h2⟩,h3⟩:=hj
 have g1:=zEr (σ:=σ) (b:=true) (h:=h) (c:=15) (zB1 (σ h) (n:=4) (by decide)) h1 hr
 have g2:=zEr (σ:=σ) (b:=false) (h:=h) (c:=4) (zFX (σ h)) h2 hr
 have g3:=zEr (σ:=σ) (b:=true) (h:=g) (c:=15) (zB1 (σ g) (n:=4) (by decide)) h3 hr
 obtain ⟨w1,w2,w3⟩:=zKV g1 g2 g3
 refine ⟨⟨_,.inl rfl,?_,.inr ⟨zDC a b,rfl,rfl⟩⟩,⟨_,.inl rfl,?_,.inr ⟨sv a,rfl,rfl⟩⟩,⟨_,.inl rfl,?_,.inr ⟨sv b,rfl,rfl⟩⟩,hr⟩
 · show yQ .and .i64 (evE σ (sv h)) (.ofNat 255)=some (zY .i64 (evE σ (zDC a b)))
   rw [qe,zFF]; exact w1
 · show yQ .and .i64 (evE σ (zDC a b)) (.ofNat 15)=some (zY .i64 (evE σ (sv a)))
   rw [qe,zFF]; exact w2
 · show yQ .shr .i64 (evE σ (zDC a b)) (.ofNat 4)=some (zY .i64 (evE σ (sv b)))
   rw [qe,zFF]; exact w3
end
end Go.Ev
namespace Go.Ev
open Go.RowKit
noncomputable section
variable {P:Program}
inductive Kd where
 | i
 | b
 | r (f:Nat)
 | y
 | w (f:Nat)
 | q
inductive LTree where
 | leaf
 | cmp (l:LL) (cut:Int) (a b:LTree)
 | and (v m:Nat) (ts:Nat→LTree)
 | rem (v m:Nat) (ts:Nat→LTree)
 | remn (v m:Nat) (ts:Nat→LTree)
 | bit (v t:Nat) (a b:LTree)
 | shr (v c:Nat) (t:LTree)
 | mask (v m:Nat) (t:LTree)
 | join (h g a b:Nat) (t:LTree)
 | cellI (j:Nat) (t:LTree)
 | cellB (j:Nat) (a b:LTree)
 | pin (v:Nat) (ts:Nat→LTree)
 | shrb (v c:Nat) (t:LTree)
 | cmpb (v:Nat) (cut:Int) (a b:LTree)
 | dec (c:Int) (v:Nat) (t:LTree)
 | rows (j n m:Nat) (t0:LTree) (ts:Nat→LTree) (tz:LTree)
 | wcells (j n:Nat) (t:LTree)
structure Lf where
 b:List (Int × Int)
 f:List (LL × Int × Int)
 r:List xE
 l:List (Key × List CV)
 u:Nat
def Lf.known (e:Lf) (A:Key→Option Value):zc:=⟨e.b,e.f,e.r,A⟩
def zA9 (n:Nat):LL→Bool
 | []=>true
 | p::r=>!(Nat.beq p.1 n)&&zA9 n r
def yw (n:Nat):List CV→Bool
 | []=>true
 | .sym e::r=>zA9 n e.l&&yw n r
 | .bool _::r=>yw n r
 | .nilsl::r=>yw n r
 | .sl .. :: r=>yw n r
 | .win _ _ e m::r=>zA9 n e.l&&zA9 n m.l&&yw n r
 | _::_=>false
def zQz (n:Nat):CV→Bool
 | .sym e=>zA9 n e.l
 | .nat _=>true
 | .int _ _=>true
 | _=>false
def zFL (n:Nat):List (LL × Int × Int)→Bool
 | []=>true
 | q::r=>zA9 n q.1&&zFL n r
def zGa (n:Nat):List xE→Bool
 | []=>true
 | q::r=>zA9 n q.x.l&&zQz n q.v&&zGa n r
def zCU (n:Nat):List (Key × List CV)→Bool
 | []=>true
 | q::r=>yw n q.2&&zCU n r
def Lf.free (e:Lf) (n:Nat):Bool:=zFL n e.f&&zGa n e.r&&zCU n e.l&&Nat.ble e.b.length n
def upV (σ:Nat→Int) (n:Nat) (z:Int):Nat→Int:=fun i=>if i=n then z else σ i
theorem upd_same {σ:Nat→Int} {n:Nat} {z:Int}:upV σ n z n=z:=by simp [upV]
theorem upd_other {σ:Nat→Int} {n i:Nat} {z:Int} (h:i≠n):upV σ n z i=σ i:=by simp [upV,h]
theorem uX {σ:Nat→Int} {n:Nat} {z:Int}:∀ {l:LL},zA9 n l=true→evL (upV σ n z) l=evL σ l
 | [],_=>rfl
 | p::r,h=>by
  unfold zA9 at h
  rw [Bool.and_eq_true] at h
  have hne:p.1≠n:=fun e=>by
   have h1:=h.1
   rw [e] at h1
   simp at h1
  show p.2*upV σ n z p.1+evL (upV σ n z) r=p.2*σ p.1+evL σ r
  rw [upd_other hne,uX h.2]
theorem zDL {σ:Nat→Int} {n:Nat} {z:Int}:∀ {f:List (LL × Int × Int)},zFL n f=true→jb σ f→jb (upV σ n z) f
 | [],_,_=>trivial
 | q::r,h,hf=>by
  unfold zFL at h
  rw [Bool.and_eq_true] at h
  refine ⟨?_,zDL h.2 hf.2⟩
  rw [uX h.1]; exact hf.1
theorem zLY {σ:Nat→Int} {n:Nat} {z:Int} {q:xE} (h1:zA9 n q.x.l=true) (h2:zQz n q.v=true) (h:xu σ q):xu (upV σ n z) q:=by
 obtain ⟨u,g1,g2,g3⟩:=h
 refine ⟨u,g1,?_,?_⟩
 · unfold evE at g2 ⊢
   rw [uX h1]; exact g2
 · rcases g3 with g3 | ⟨e,g3,g4⟩
   · exact .inl g3
   · refine .inr ⟨e,g3,?_⟩
     rw [g3] at h2
     unfold evE at g4 ⊢
     rw [uX (l:=e.l) h2]; exact g4
theorem zDG {σ:Nat→Int} {n:Nat} {z:Int}:∀ {r:List xE},zGa n r=true→xy σ r→xy (upV σ n z) r
 | [],_,_=>trivial
 | q::r,h,hr=>by
  unfold zGa at h
  rw [Bool.and_eq_true,Bool.and_eq_true] at h
  exact ⟨zLY h.1.1 h.1.2 hr.1,zDG h.2 hr.2⟩
theorem zCi {σ:Nat→Int} {n:Nat} {z:Int}:∀ {b:List (Int × Int)} {k:Nat},k+b.length≤n→yH σ k b→yH (upV σ n z) k b
 | [],_,_,_=>trivial
 | q::r,k,h,hb=>by
  simp only [List.length_cons] at h
  refine ⟨?_,zCi (by omega) hb.2⟩
  rw [upd_other (by omega)]; exact hb.1
theorem jC {σ:Nat→Int} {lo hi:Int}:∀ {b:List (Int × Int)} {k:Nat},yH σ k b→lo≤σ (k+b.length)→σ (k+b.length)≤hi→yH σ k (b++[(lo,hi)])
 | [],k,_,h1,h2=>⟨⟨h1,h2⟩,trivial⟩
 | q::r,k,hb,h1,h2=>by
  simp only [List.length_cons] at h1 h2
  have e:k+1+r.length=k+(r.length+1):=by omega
  exact ⟨hb.1,jC hb.2 (by rw [e]; exact h1) (by rw [e]; exact h2)⟩
def vO (σ σ':Nat→Int):List CV→Prop
 | []=>True
 | .sym e::r=>evL σ' e.l=evL σ e.l∧vO σ σ' r
 | .win _ _ e m::r=>evL σ' e.l=evL σ e.l∧evL σ' m.l=evL σ m.l∧vO σ σ' r
 | _::r=>vO σ σ' r
def zL5 (wins:List Win) (w0:World) (i:Int) (σ:Nat→Int) (l:List (Key × List CV)):Prop:=
 ∀ q∈l,∀ σ' K',ArgsAre K'.arg wins→vO σ σ' q.2→zA8 (linSym σ' K') wins w0 i q
theorem vG {σ:Nat→Int}:∀ {l:List CV},vO σ σ l
 | []=>trivial
 | c::r=>by
  unfold vO
  split
  · trivial
  · rename_i h; injection h with h1 h2; subst h1 h2; exact ⟨rfl,vG⟩
  · rename_i h; injection h with h1 h2; subst h1 h2; exact ⟨rfl,rfl,vG⟩
  · rename_i h; injection h with h1 h2; subst h1 h2; exact vG
theorem j7 {σ σ':Nat→Int} {n:Nat} {z:Int}:∀ {l:List CV},yw n l=true→vO (upV σ n z) σ' l→vO σ σ' l
 | [],_,_=>trivial
 | .sym e::r,h,hs=>by
  unfold yw at h
  rw [Bool.and_eq_true] at h
  obtain ⟨h1,h2⟩:=hs
  rw [uX h.1] at h1
  exact ⟨h1,j7 h.2 h2⟩
 | .win _ _ e m::r,h,hs=>by
  unfold yw at h
  rw [Bool.and_eq_true,Bool.and_eq_true] at h
  obtain ⟨h1,h2,h3⟩:=hs
  rw [uX h.1.1] at h1
  rw [uX h.1.2] at h2
  exact ⟨h1,h2,j7 h.2 h3⟩
 | .nilsl::r,h,hs=>j7 (l:=r) (by simpa [yw] using h) hs
 | .sl .. :: r,h,hs=>j7 (l:=r) (by simpa [yw] using h) hs
 | .bool b::r,h,hs=>j7 (l:=r) (by simpa [yw] using h) hs
 | .nat _::_,h,_=>by simp [yw] at h
 | .int _ _::_,h,_=>by simp [yw] at h
 | .anyi _::_,h,_=>by simp [yw] at h
 | .str _::_,h,_=>by simp [yw] at h
 | .nilptr::_,h,_=>by simp [yw] at h
 | .ptr _ _::_,h,_=>by simp [yw] at h
 | .nilmap::_,h,_=>by simp [yw] at h
 | .map _::_,h,_=>by simp [yw] at h
 | .func .. :: _,h,_=>by simp [yw] at h
 | .nilfunc::_,h,_=>by simp [yw] at h
 | .iface .. :: _,h,_=>by simp [yw] at h
 | .niliface::_,h,_=>by simp [yw] at h
 | .agg _::_,h,_=>by simp [yw] at h
 | .tup _::_,h,_=>by simp [yw] at h
 | .sst _::_,h,_=>by simp [yw] at h
 | .few .. :: _,h,_=>by simp [yw] at h
 | .elt .. :: _,h,_=>by simp [yw] at h
 | .any::_,h,_=>by simp [yw] at h
theorem zLm {wins:List Win} {w0:World} {i:Int} {σ:Nat→Int} {n:Nat} {z:Int} {l:List (Key × List CV)} (h:zCU n l=true) (hw:zL5 wins w0 i σ l):zL5 wins w0 i (upV σ n z) l:=by
 intro q hq σ' K' hA hs
 have:∀ {l:List (Key × List CV)},zCU n l=true→q∈l→yw n q.2=true:=by
  intro l
  induction l with
  | nil=>intro _ hq; cases hq
  | cons x r ih=>
   intro h hq
   unfold zCU at h
   rw [Bool.and_eq_true] at h
   rcases List.mem_cons.1 hq with rfl | hq
   · exact h.1
   · exact ih h.2 hq
 exact hw q hq σ' K' hA (j7 (this h hq) hs)
structure zBB (wins:List Win) (w0:World) (i:Int) (σ:Nat→Int) (e:Lf):Prop where
 b:yH σ 0 e.b
 f:jb σ e.f
 r:xy σ e.r
 w:zL5 wins w0 i σ e.l
theorem zUc {σ:Nat→Int} {c:Int} {v n:Nat} (h0:0≤σ v+c) (h1:σ v+c≤1000) (hn:σ n=(σ v+c) / 10):xu σ ⟨.quo,⟨.i64,c,[(v,1)]⟩,10,.sym (sv n)⟩:=by
 refine ⟨_,.inl rfl,?_,.inr ⟨sv n,rfl,rfl⟩⟩
 have e1:evE σ ⟨.i64,c,[(v,1)]⟩=σ v+c:=by
  show c+(1*σ v+0)=_
  omega
 show yQ .quo .i64 (evE σ ⟨.i64,c,[(v,1)]⟩) (.ofNat 10)=some (zY .i64 (evE σ (sv n)))
 rw [qe,hn,e1]
 show some (zY .i64 (yk .i64 ((σ v+c).tdiv 10)))=_
 rw [Int.tdiv_eq_ediv_of_nonneg h0,jH .i64 (by show (-9223372036854775808:Int)≤_; omega) (by show _≤(9223372036854775807:Int); omega)]
theorem zUa {σ:Nat→Int} {c:Int} {v n:Nat} (h0:0≤σ v+c) (h1:σ v+c≤1000) (hn:σ n=(σ v+c) % 10):xu σ ⟨.rem,⟨.i64,c,[(v,1)]⟩,10,.sym (sv n)⟩:=by
 refine ⟨_,.inl rfl,?_,.inr ⟨sv n,rfl,rfl⟩⟩
 have e1:evE σ ⟨.i64,c,[(v,1)]⟩=σ v+c:=by
  show c+(1*σ v+0)=_
  omega
 show yQ .rem .i64 (evE σ ⟨.i64,c,[(v,1)]⟩) (.ofNat 10)=some (zY .i64 (evE σ (sv n)))
 rw [qe,hn,e1]
 show some (zY .i64 ((σ v+c).tmod 10))=_
 rw [Int.tmod_eq_emod_of_nonneg h0]
theorem zBB.known {wins:List Win} {w0:World} {i:Int} {σ:Nat→Int} {e:Lf} (h:zBB wins w0 i σ e) (A:Key→Option Value):KnownOk σ (e.known A):=zSX h.b h.f h.r
theorem zBB.upd {wins:List Win} {w0:World} {i:Int} {σ:Nat→Int} {e:Lf} (h:zBB wins w0 i σ e) {n:Nat} (hn:e.free n=true) (z:Int):zBB wins w0 i (Go.Ev.upV σ n z) e:=by
 unfold Lf.free at hn
 simp only [Bool.and_eq_true] at hn
 obtain ⟨⟨⟨h1,h2⟩,h3⟩,h4⟩:=hn
 exact ⟨zCi (by have:=@zL zR _ _ h4; omega) h.b,zDL h1 h.f,zDG h2 h.r,zLm h3 h.w⟩
def zIj (a b:Option (List Lf)):Option (List Lf):=match a,b with
 | some x,some y=>some (x++y)
 | _,_=>none
def zEK (m:Nat) (g:Nat→Option (List Lf)):Option (List Lf):=Nat.rec (motive:=fun _=>Option (List Lf)) (g 0) (fun j ih=>zIj ih (g (Nat.succ j))) m
def zLb (e:Lf) (l:LL):Option (Int × Int):=rng (e.known (fun _=>none)) l
def zJt (e:Lf) (j:Nat):Bool:=match zLb e [(0,1),(Nat.succ j,-1)],zLb e [(0,1)] with
 | some p,some q=>decide (p.2<0)&&decide (0≤q.1)
 | _,_=>false
def zUy (e:Lf) (q:LL × Int × Int):Lf:={ e with f:=q::e.f }
def zGy (e:Lf) (q:xE):Lf:={ e with r:=q::e.r }
def zJ6 (e:Lf) (q:Key × List CV):Lf:={ e with l:=q::e.l }
def zSj (e:Lf) (lo hi:Int):Lf:={ e with b:=e.b++[(lo,hi)] }
def zUQ (e:Lf):Lf:={ e with u:=Nat.succ e.u }
def jO (b:Bool) (o:Option (List Lf)):Option (List Lf):=match b with
 | true=>o
 | false=>none
def zAF (lo hi:Int) (o:Option (List Lf)):Option (List Lf):=match decide (hi<lo) with
 | true=>some []
 | false=>o
def vn (b:List (Int × Int)) (v:Nat) (q:Int × Int):List (Int × Int):=match b with
 | []=>[]
 | x::r=>match v with
  | 0=>q::r
  | v+1=>x::vn r v q
def zRY (e:Lf) (v:Nat) (z:Int):Lf:={ e with b:=vn e.b v (z,z) }
def byV:Nat→Nat→List CV
 | 0,_=>[]
 | n+1,v=>.sym ⟨.u8,0,[(v,1)]⟩::byV n (Nat.succ v)
def byB:Nat→List (Int × Int)
 | 0=>[]
 | n+1=>(0,255)::byB n
def zTD (e:Lf) (n:Nat):Lf:={ e with b:=e.b++byB n }
def vm (e:Lf):Nat→Nat→Bool
 | 0,_=>true
 | m+1,n=>zFL n e.f&&zGa n e.r&&zCU n e.l&&vm e m (Nat.succ n)
def zUn (e:Lf) (n:Nat):Bool:=match nth e.b 0 with
 | some q=>decide (q.1=.ofNat n)&&decide (q.2=.ofNat n)
 | none=>false
def wVs:Nat→Nat→List CV
 | 0,_=>[]
 | n+1,u=>.sym (sv u)::wVs n (Nat.succ u)
def wRs (f B u:Nat):Nat→Nat→List xE
 | _,0=>[]
 | t,n+1=>rv .rem (Nat.add u t) 3 (.sym ⟨.i64,0,[(Nat.succ (Nat.add f t),1),(Nat.add B t,3)]⟩)::wRs f B u (Nat.succ t) n
def zNY (q:Int × Int):Nat→List (Int × Int)
 | 0=>[]
 | n+1=>q::zNY q n
def zSD (ks:List (Key × Kd)) (f:Nat):Nat→Nat→Bool
 | _,0=>true
 | t,n+1=>(match nth ks (Nat.add f t) with
  | some (_,.q)=>true
  | _=>false)&&zSD ks f (Nat.succ t) n
def wLf (e:Lf) (k:Key) (f n:Nat):Lf:=⟨e.b++zNY (-1,0) n,e.f,wRs f e.b.length e.u 0 n++e.r,(k,wVs n e.u)::e.l,Nat.add e.u n⟩
def zQj (e:Lf) (v:Nat) (lo hi:Int):Lf:={ e with b:=vn e.b v (lo,hi) }
def zEM (e:Lf) (c:Int) (v:Nat) (q:Int × Int):Lf:=zGy (zSj e ((q.1+c) / 10) ((q.2+c) / 10)) ⟨.quo,⟨.i64,c,[(v,1)]⟩,10,.sym (sv e.b.length)⟩
def zU3 (e:Lf) (c:Int) (v n:Nat):Lf:=zGy (zSj e 0 9) ⟨.rem,⟨.i64,c,[(v,1)]⟩,10,.sym (sv n)⟩
def leaves (ks:List (Key × Kd)):LTree→Lf→Option (List Lf)
 | .leaf,e=>some [e]
 | .cmp l cut a b,e=>match zLb e l with
  | none=>none
  | some q=>zIj (zAF q.1 (min q.2 (cut - 1)) (leaves ks a (zUy e (l,q.1,min q.2 (cut - 1))))) (zAF (max q.1 cut) q.2 (leaves ks b (zUy e (l,max q.1 cut,q.2))))
 | .and v m ts,e=>jO (Nat.ble m 127) (zEK m fun j=>leaves ks (ts j) (zGy e (rv .and v m (zY .i64 (.ofNat j)))))
 | .rem v m ts,e=>zEK (2*m) fun j=>leaves ks (ts j) (zGy e (rv .rem v (m+1) (zY .i64 (Int.ofNat j - Int.ofNat m))))
 | .remn v m ts,e=>match zLb e [(v,1)] with
  | none=>none
  | some q=>jO (decide (0≤q.1)) (zEK m fun j=>leaves ks (ts j) (zGy e (rv .rem v (m+1) (zY .i64 (.ofNat j)))))
 | .bit v t a b,e=>jO (Nat.ble t 6) (zIj (leaves ks a (zGy e (rv .and v (2 ^ t) (zY .i64 (.ofNat 0))))) (leaves ks b (zGy e (rv .and v (2 ^ t) (zY .i64 (.ofNat (2 ^ t)))))))
 | .shr v c t,e=>jO (e.free e.u && !(Nat.beq v e.u)) (leaves ks t (zGy (zUQ e) (rv .shr v c (.sym (sv e.u)))))
 | .mask v m t,e=>jO (e.free e.b.length && !(Nat.beq v e.b.length)&&Nat.ble m 4294967295&&Nat.ble (Nat.succ e.b.length) 1000) (leaves ks t (zGy (zSj e 0 (.ofNat m)) (rv .and v m (.sym (sv e.b.length)))))
 | .join h g a b t,e=>jO (zLA e.r h g a b) (leaves ks t { e with r:=zP2 h a b e.r })
 | .cellI j t,e=>match nth ks j with
  | some (k,.i)=>jO (zJt e j&&e.free e.u) (leaves ks t (zJ6 (zUQ e) (k,[.sym (sv e.u)])))
  | _=>none
 | .cellB j a b,e=>match nth ks j with
  | some (k,.b)=>jO (zJt e j) (zIj (leaves ks a (zJ6 e (k,[.bool false]))) (leaves ks b (zJ6 e (k,[.bool true]))))
  | _=>none
 | .pin v ts,e=>match nth e.b v with
  | some q=>zEK (q.2 - q.1).toNat fun j=>leaves ks (ts j) (zRY e v (q.1+Int.ofNat j))
  | none=>none
 | .shrb v c t,e=>match nth e.b v with
  | some q=>jO (e.free e.b.length && !(Nat.beq v e.b.length)&&Nat.ble (Nat.succ e.b.length) 1000&&decide (0≤q.1)&&Nat.ble c 60) (leaves ks t (zGy (zSj e (q.1 / 2 ^ c) (q.2 / 2 ^ c)) (rv .shr v c (.sym (sv e.b.length)))))
  | none=>none
 | .cmpb v cut a b,e=>match zLb e [(v,1)] with
  | none=>none
  | some q=>zIj (zAF q.1 (min q.2 (cut - 1)) (leaves ks a (zQj e v q.1 (min q.2 (cut - 1))))) (zAF (max q.1 cut) q.2 (leaves ks b (zQj e v (max q.1 cut) q.2)))
 | .dec c v t,e=>match nth e.b v with
  | some q=>jO (e.free e.b.length && !(Nat.beq v e.b.length)&&Nat.ble (Nat.add e.b.length 2) 1000&&decide (0≤q.1+c)&&decide (q.2+c≤1000))
   (jO ((zEM e c v q).free (Nat.succ e.b.length) && !(Nat.beq v (Nat.succ e.b.length))) (leaves ks t (zU3 (zEM e c v q) c v (Nat.succ e.b.length))))
  | none=>none
 | .rows j n m t0 ts tz,e=>match nth ks j with
  | some (k,.r f)=>match nth ks (Nat.add f n) with
   | some (ki,.y)=>jO (zJt e j&&zUn e n&&Nat.ble (Nat.succ n) 8&&vm e m e.b.length&&Nat.ble (Nat.add e.b.length m) 1000&&Nat.ble (Nat.succ (Nat.add f n)) ks.length)
    (zIj (leaves ks t0 (zJ6 (zRY e (Nat.succ (Nat.add f n)) 0) (k,[.win ki 1 ⟨.i64,0,[]⟩ ⟨.i64,0,[]⟩])))
    (zIj (zEK m fun l=>leaves ks (ts l) (zJ6 (zJ6 (zRY (zTD e l) (Nat.succ (Nat.add f n)) (.ofNat l)) (ki,byV l e.b.length)) (k,[.sl ki 0 l l 1 false])))
      (match nth e.b (Nat.succ (Nat.add f n)) with
        | some q=>leaves ks tz (zJ6 (zJ6 { zTD e m with b:=vn (zTD e m).b (Nat.succ (Nat.add f n)) (.ofNat (Nat.succ m),q.2) } (ki,byV m e.b.length)) (k,[.win ki 1 ⟨.i64,0,[]⟩ (sv (Nat.succ (Nat.add f n)))]))
        | none=>none)))
   | _=>none
  | _=>none
 | .wcells j n t,e=>match nth ks j with
  | some (k,.w f)=>match zLb e [(Nat.succ j,1)] with
   | some q=>jO (decide (Int.ofNat n≤q.1)&&vm e n e.u&&vm e n e.b.length&&Nat.ble (Nat.add e.b.length n) 1000&&zSD ks f 0 n&&Nat.ble (Nat.add f n) ks.length&&Nat.ble n 8&&Nat.ble 1 n) (leaves ks t (wLf e k f n))
   | none=>none
  | _=>none
structure zH5 (W:World) (v:Value) (wn:Win):Prop where
 val:v=.slice wn.base wn.len wn.cap
 base:wn.len=0∧wn.cap=0∨wn.base=some ⟨wn.B,wn.x,none⟩∧∃ arr elem fz,W.heap[wn.B]? = some (.cells arr elem fz)∧wn.x≤arr.size
 cell:∀ i,i<wn.len→∃ arr elem fz q,W.heap[wn.B]? = some (.cells arr elem fz)∧wn.x+i+1≤arr.size∧arr[wn.x+i]? = some (.int .u8 q)∧0≤q∧q≤255
 size:wn.sz=wn.x+wn.cap*1
 stay:wn.esz=0
 cap:wn.len≤wn.cap
structure zTE (W:World) (v:Value) (wn:Win):Prop where
 val:v=.slice wn.base wn.len wn.cap
 base:0<wn.len→wn.base=some ⟨wn.B,wn.x,none⟩
 size:wn.sz=wn.x+wn.cap*1
def zSb (w0:World) (v:Value) (wn:Win):Kd→Prop
 | .i=>wn.esz=1∧IntArg w0 v wn
 | .b=>wn.esz=1∧zMz w0 v wn
 | .r _=>wn.esz=1∧zTE w0 v wn
 | .y=>zH5 w0 v wn
 | .w _=>wn.esz=0
 | .q=>True
structure WinIs (wins:List Win) (w0:World) (σ:Nat→Int) (ks:List (Key × Kd)):Prop where
 len:∀ j k,nth ks j=some k→∃ wn v,findW wins wn.key=some wn∧wn.key=k.1∧σ (Nat.succ j)=wn.len∧zSb w0 v wn k.2
 row:∀ j k f n ki wn wi,nth ks j=some (k,.r f)→nth ks (Nat.add f n)=some (ki,.y)→findW wins k=some wn→findW wins ki=some wi→n<wn.len→n<8 →
  ∃ arr elem fz,w0.heap[wn.B]? = some (.cells arr elem fz)∧wn.x+n+1≤arr.size∧arr[wn.x+n]? = some (.slice wi.base wi.len wi.cap)
 int:∀ j k f wn t,nth ks j=some (k,.w f)→findW wins k=some wn→t<wn.len→t<8 →
  ∃ arr elem fz z,w0.heap[wn.B]? = some (.cells arr elem fz)∧wn.x+t+1≤arr.size∧arr[wn.x+t]? = some (.int .i64 z)∧∀ kq wq,nth ks (Nat.add f t)=some (kq,.q)→findW wins kq=some wq→(wq.len:Int)=wI z
theorem WinIs.upd {wins:List Win} {w0:World} {σ σ':Nat→Int} {ks:List (Key × Kd)} (h:WinIs wins w0 σ ks) (hs:∀ j,j≤ks.length→σ' j=σ j):WinIs wins w0 σ' ks:=
 ⟨fun j k hj=>by
  obtain ⟨wn,v,q1,q2,q4,q5⟩:=h.len j k hj
  have hlt:j<ks.length:=by
   rw [@ye zR] at hj
   exact (List.getElem?_eq_some_iff.1 hj).1
  exact ⟨wn,v,q1,q2,by rw [hs _ (by omega)]; exact q4,q5⟩,h.row,h.int⟩
theorem zOx {w0:World} {σ:Nat→Int}:WinIs [] w0 σ []:=⟨fun j k hj=>by (cases j <;> cases hj),fun j k f n ki wn wi hj=>by (cases j <;> cases hj),fun j k f wn t hj=>by (cases j <;> cases hj)⟩
def upN (σ:Nat→Int) (n:Nat) (g:Nat→Int):Nat→Nat→Int
 | 0=>σ
 | m+1=>upV (upN σ n g m) (n+m) (g m)
theorem ub {σ:Nat→Int} {n:Nat} {g:Nat→Int}:∀ {m i:Nat},(i<n∨n+m≤i)→upN σ n g m i=σ i
 | 0,_,_=>rfl
 | m+1,i,h=>by
  show upV (upN σ n g m) (n+m) (g m) i=σ i
  rw [upd_other (by omega),ub (by omega)]
theorem zBi {σ:Nat→Int} {n:Nat} {g:Nat→Int}:∀ {m t:Nat},t<m→upN σ n g m (n+t)=g t
 | m+1,t,h=>by
  show upV (upN σ n g m) (n+m) (g m) (n+t)=g t
  by_cases e:t=m
  · subst e; exact upd_same
  · rw [upd_other (by omega),zBi (by omega)]
theorem w6 {e:Lf}:∀ {m n:Nat},vm e m n=true→e.b.length≤n→∀ t,t<m→e.free (n+t)=true
 | m+1,n,h,hn,t,ht=>by
  unfold vm at h
  simp only [Bool.and_eq_true] at h
  obtain ⟨⟨⟨h1,h2⟩,h3⟩,h4⟩:=h
  cases t with
  | zero=>
   unfold Lf.free
   simp only [Bool.and_eq_true,Nat.add_zero]
   exact ⟨⟨⟨h1,h2⟩,h3⟩,Nat.ble_eq_true_of_le hn⟩
  | succ t=>
   rw [show n+(t+1)=n+1+t from by omega]
   exact w6 h4 (by omega) t (by omega)
theorem zBB.updN {wins:List Win} {w0:World} {i:Int} {σ:Nat→Int} {e:Lf} (h:zBB wins w0 i σ e) {n:Nat} {g:Nat→Int}:∀ {m:Nat},(∀ t,t<m→e.free (n+t)=true)→zBB wins w0 i (upN σ n g m) e
 | 0,_=>h
 | m+1,hf=>(zBB.updN h fun t ht=>hf t (by omega)).upd (hf m (by omega)) (g m)
theorem wk {σ:Nat→Int}:∀ {m:Nat} {b:List (Int × Int)} {k:Nat},yH σ k b→(∀ t,t<m→0≤σ (k+b.length+t)∧σ (k+b.length+t)≤255)→yH σ k (b++byB m)
 | m,[],k,_,h=>by
  have:∀ {m k:Nat},(∀ t,t<m→0≤σ (k+t)∧σ (k+t)≤255)→yH σ k (byB m):=by
   intro m
   induction m with
   | zero=>intro k _; exact trivial
   | succ m ih=>
    intro k h
    exact ⟨h 0 (by omega),ih fun t ht=>by
     have:=h (t+1) (by omega)
     rwa [show k+(t+1)=k+1+t from by omega] at this⟩
  exact this fun t ht=>by simpa using h t ht
 | m,q::r,k,hb,h=>⟨hb.1,wk (b:=r) (k:=k+1) hb.2 fun t ht=>by
  have:=h t ht
  simp only [List.length_cons] at this
  rwa [show k+(r.length+1)+t=k+1+r.length+t from by omega] at this⟩
theorem zB8:∀ {m:Nat},(byB m).length=m
 | 0=>rfl
 | m+1=>by simp [byB,zB8]
theorem zNe:∀ {m v:Nat},(byV m v).length=m
 | 0,_=>rfl
 | m+1,v=>by simp [byV,zNe]
theorem zNc:∀ {m v t:Nat} {c:CV},(byV m v)[t]? = some c→t<m∧c=.sym ⟨.u8,0,[(v+t,1)]⟩
 | 0,v,t,c,h=>by simp [byV] at h
 | m+1,v,0,c,h=>by
  simp [byV] at h
  exact ⟨by omega,h.symm⟩
 | m+1,v,t+1,c,h=>by
  have:=zNc (m:=m) (v:=Nat.succ v) (t:=t) (c:=c) (by simpa [byV] using h)
  exact ⟨by omega,by rw [this.2,show Nat.succ v+t=v+(t+1) from by omega]⟩
theorem uG {σ σ':Nat→Int}:∀ {m v:Nat},vO σ σ' (byV m v)→∀ t,t<m→σ' (v+t)=σ (v+t)
 | m+1,v,h,0,_=>by
  have h1:evL σ' [(v,1)]=evL σ [(v,1)]:=h.1
  have e:∀ s:Nat→Int,evL s [(v,1)]=s v:=fun s=>by show 1*s v+0=_; omega
  rw [e,e] at h1
  exact h1
 | m+1,v,h,t+1,ht=>by
  have:=uG (m:=m) (v:=Nat.succ v) h.2 t (by omega)
  rwa [show Nat.succ v+t=v+(t+1) from by omega] at this
theorem zFV {W:World} {v:Value} {wins:List Win} {wi:Win} (h:zH5 W v wi) (hf:findW wins wi.key=some wi) (hb:∃ arr elem fz,W.heap[wi.B]? = some (.cells arr elem fz)∧wi.x≤arr.size) {m:Nat} (hm:m≤wi.len) (i:Int) :
 ∃ g:Nat→Int,(∀ t,t<m→0≤g t∧g t≤255)∧∀ (σ:Nat→Int) (K:zc) (n:Nat),(∀ t,t<m→σ (n+t)=g t)→zA8 (linSym σ K) wins W i (wi.key,byV m n):=by
 obtain ⟨arr,elem,fz,k1,k2⟩:∃ arr elem fz,W.heap[wi.B]? = some (.cells arr elem fz)∧wi.x≤arr.size:=by
  exact hb
 have hcell:∀ t,t<m→∃ q,arr[wi.x+t]? = some (.int .u8 q)∧0≤q∧q≤255:=by
  intro t ht
  obtain ⟨arr',e',f',q,g1,g2,g3,g4,g5⟩:=h.cell t (by omega)
  rw [k1] at g1
  injection g1 with g1
  injection g1 with g1
  subst g1
  exact ⟨q,g3,g4,g5⟩
 obtain ⟨g,hg⟩:∃ g:Nat→Int,∀ t,t<m→arr[wi.x+t]? = some (.int .u8 (g t))∧0≤g t∧g t≤255:=
  ⟨fun t=>if ht:t<m then (hcell t ht).choose else 0,fun t ht=>by simp only [dif_pos ht]; exact (hcell t ht).choose_spec⟩
 refine ⟨g,fun t ht=>(hg t ht).2,fun σ K n hs=>⟨wi,arr,elem,fz,hf,k1,?_,fun j c hj=>?_⟩⟩
 · rw [h.stay,Nat.mul_zero,Nat.add_zero,zNe]
   rcases Nat.eq_zero_or_pos m with rfl | hp
   · exact k2
   · have:=(Array.getElem?_eq_some_iff.1 (hg (m - 1) (by omega)).1).1
     omega
 · obtain ⟨ht,rfl⟩:=zNc hj
   refine ⟨.int .u8 (g j),by rw [h.stay,Nat.mul_zero,Nat.add_zero]; exact (hg j ht).1,fun ψ _=>?_⟩
   refine (@zt (linSym σ K) _ _ _).2 ?_
   show Value.int .u8 (g j)=.int .u8 (evE σ ⟨.u8,0,[(n+j,1)]⟩)
   rw [← hs j ht]
   show _=Value.int .u8 (0+(1*σ (n+j)+0))
   congr 1
   omega
theorem kE {a b:Option (List Lf)} {l:List Lf} (h:zIj a b=some l):∃ x y,a=some x∧b=some y∧l=x++y:=by
 unfold zIj at h
 split at h
 · injection h with h; exact ⟨_,_,rfl,rfl,h.symm⟩
 · cases h
theorem wL {g:Nat→Option (List Lf)}:∀ {m:Nat} {l:List Lf},zEK m g=some l→∀ j,j≤m→∃ x,g j=some x∧∀ e∈x,e∈l
 | 0,l,h,j,hj=>by
  obtain rfl:j=0:=by omega
  exact ⟨l,h,fun e he=>he⟩
 | m+1,l,h,j,hj=>by
  obtain ⟨x,y,h1,h2,rfl⟩:=kE (a:=zEK m g) (b:=g (m+1)) h
  by_cases e:j=m+1
  · subst e; exact ⟨y,h2,fun e he=>List.mem_append_right _ he⟩
  · obtain ⟨z,h3,h4⟩:=wL h1 j (by omega)
    exact ⟨z,h3,fun e he=>List.mem_append_left _ (h4 e he)⟩
theorem xI {b:Bool} {o:Option (List Lf)} {l:List Lf} (h:jO b o=some l):b=true∧o=some l:=by
 unfold jO at h
 split at h
 · exact ⟨rfl,h⟩
 · cases h
theorem wC {lo hi:Int} {o:Option (List Lf)} {l:List Lf} (h:zAF lo hi o=some l) (hle:lo≤hi):o=some l:=by
 unfold zAF at h
 rw [decide_eq_false (by omega)] at h
 exact h
theorem xk:∀ {b:List (Int × Int)} {v:Nat} {q:Int × Int},(vn b v q).length=b.length
 | [],_,_=>rfl
 | _::r,0,_=>rfl
 | _::r,v+1,_=>by simp [vn,xk (b:=r)]
theorem qn {σ:Nat→Int}:∀ {b:List (Int × Int)} {k v:Nat} {q:Int × Int},yH σ k b→nth b v=some q→q.1≤σ (k+v)∧σ (k+v)≤q.2
 | [],_,_,_,_,h=>by cases h
 | x::r,k,0,q,hb,h=>by
  injection h with h; subst h
  exact hb.1
 | x::r,k,v+1,q,hb,h=>by
  have:=qn hb.2 (v:=v) h
  rw [show k+1+v=k+(v+1) from by omega] at this
  exact this
theorem wD {σ:Nat→Int} {z:Int}:∀ {b:List (Int × Int)} {k v:Nat},yH σ k b→σ (k+v)=z→yH σ k (vn b v (z,z))
 | [],_,_,_,_=>trivial
 | x::r,k,0,hb,h=>⟨by rw [← h]; exact ⟨Int.le_refl _,Int.le_refl _⟩,hb.2⟩
 | x::r,k,v+1,hb,h=>⟨hb.1,wD (b:=r) (k:=k+1) (v:=v) hb.2 (by rw [show k+1+v=k+(v+1) from by omega]; exact h)⟩
theorem kU {σ:Nat→Int} {lo hi:Int}:∀ {b:List (Int × Int)} {k v:Nat},yH σ k b→lo≤σ (k+v)→σ (k+v)≤hi→yH σ k (vn b v (lo,hi))
 | [],_,_,_,_,_=>trivial
 | x::r,k,0,hb,h1,h2=>⟨⟨h1,h2⟩,hb.2⟩
 | x::r,k,v+1,hb,h1,h2=>⟨hb.1,kU (b:=r) (k:=k+1) (v:=v) hb.2 (by rw [show k+1+v=k+(v+1) from by omega]; exact h1) (by rw [show k+1+v=k+(v+1) from by omega]; exact h2)⟩
section
variable {wins:List Win} {w0:World} {i:Int} {ks:List (Key × Kd)}
theorem zAJ {σ:Nat→Int} {e:Lf} (h:zBB wins w0 i σ e) {l:LL} {q:Int × Int} (hq:zLb e l=some q):q.1≤evL σ l∧evL σ l≤q.2:=
 xB (h.known _) hq
theorem w7 {σ:Nat→Int} {v:Nat}:evL σ [(v,1)]=σ v:=by
 show 1*σ v+0=_; omega
theorem zE4 {σ:Nat→Int} {e:Lf} (h:zBB wins w0 i σ e) {j:Nat} (hi:zJt e j=true):0≤σ 0∧σ 0<σ (Nat.succ j):=by
 unfold zJt at hi
 split at hi
 · rename_i p q hp hq
   rw [Bool.and_eq_true,decide_eq_true_eq,decide_eq_true_eq] at hi
   have g1:=(zAJ h hp).2
   have g2:=(zAJ h hq).1
   rw [w7] at g2
   have e:evL σ [(0,1),(Nat.succ j,-1)]=1*σ 0+(-1*σ (Nat.succ j)+0):=rfl
   rw [e] at g1
   omega
 · cases hi
theorem zMH:∀ {m v:Nat},(wVs m v).length=m
 | 0,_=>rfl
 | m+1,v=>by simp [wVs,zMH]
theorem zNN:∀ {m v t:Nat} {c:CV},(wVs m v)[t]? = some c→t<m∧c=.sym (sv (v+t))
 | 0,v,t,c,h=>by simp [wVs] at h
 | m+1,v,0,c,h=>by
  simp [wVs] at h
  exact ⟨by omega,h.symm⟩
 | m+1,v,t+1,c,h=>by
  have:=zNN (m:=m) (v:=Nat.succ v) (t:=t) (c:=c) (by simpa [wVs] using h)
  exact ⟨by omega,by rw [this.2,show Nat.succ v+t=v+(t+1) from by omega]⟩
theorem zKc {σ σ':Nat→Int}:∀ {m v:Nat},vO σ σ' (wVs m v)→∀ t,t<m→σ' (v+t)=σ (v+t)
 | m+1,v,h,0,_=>by
  have h1:evL σ' [(v,1)]=evL σ [(v,1)]:=h.1
  have e:∀ s:Nat→Int,evL s [(v,1)]=s v:=fun s=>by show 1*s v+0=_; omega
  rw [e,e] at h1
  exact h1
 | m+1,v,h,t+1,ht=>by
  have:=zKc (m:=m) (v:=Nat.succ v) h.2 t (by omega)
  rwa [show Nat.succ v+t=v+(t+1) from by omega] at this
theorem zEO {q:Int × Int}:∀ {m:Nat},(zNY q m).length=m
 | 0=>rfl
 | m+1=>by simp [zNY,zEO]
theorem zCC {σ:Nat→Int} {q:Int × Int}:∀ {m:Nat} {b:List (Int × Int)} {k:Nat},yH σ k b→(∀ t,t<m→q.1≤σ (k+b.length+t)∧σ (k+b.length+t)≤q.2)→yH σ k (b++zNY q m)
 | m,[],k,_,h=>by
  have:∀ {m k:Nat},(∀ t,t<m→q.1≤σ (k+t)∧σ (k+t)≤q.2)→yH σ k (zNY q m):=by
   intro m
   induction m with
   | zero=>intro k _; exact trivial
   | succ m ih=>
    intro k h
    exact ⟨h 0 (by omega),ih fun t ht=>by
     have:=h (t+1) (by omega)
     rwa [show k+(t+1)=k+1+t from by omega] at this⟩
  exact this fun t ht=>by simpa using h t ht
 | m,x::r,k,hb,h=>⟨hb.1,zCC (b:=r) (k:=k+1) hb.2 fun t ht=>by
  have:=h t ht
  simp only [List.length_cons] at this
  rwa [show k+(r.length+1)+t=k+1+r.length+t from by omega] at this⟩
theorem zNC {ks:List (Key × Kd)} {f:Nat}:∀ {n t:Nat},zSD ks f t n=true→∀ i,t≤i→i<t+n→∃ kq,nth ks (Nat.add f i)=some (kq,.q)
 | 0,t,_,i,h1,h2=>by omega
 | n+1,t,h,i,h1,h2=>by
  unfold zSD at h
  rw [Bool.and_eq_true] at h
  rcases Nat.eq_or_lt_of_le h1 with rfl | h1
  · have h3:=h.1
    split at h3
    · rename_i kq hk
      exact ⟨kq,hk⟩
    · cases h3
  · exact zNC h.2 i h1 (by omega)
theorem zRc {σ:Nat→Int} {f B u:Nat}:∀ {n t:Nat},(∀ i,t≤i→i<t+n→xu σ (rv .rem (Nat.add u i) 3 (.sym ⟨.i64,0,[(Nat.succ (Nat.add f i),1),(Nat.add B i,3)]⟩)))→∀ {r:List xE},xy σ r→xy σ (wRs f B u t n++r)
 | 0,_,_,_,hr=>hr
 | n+1,t,h,_,hr=>⟨h t (by omega) (by omega),zRc (n:=n) (t:=Nat.succ t) (fun i h1 h2=>h i (by omega) (by omega)) hr⟩
theorem yK:∀ (t:LTree) (e:Lf) (σ:Nat→Int) {ls:List Lf},leaves ks t e=some ls→zBB wins w0 i σ e→WinIs wins w0 σ ks→σ 0=i→ks.length<e.b.length→e.b.length≤1000→1000≤e.u →
 ∃ e'∈ls,∃ σ',zBB wins w0 i σ' e'∧∀ j,(j<e.b.length∨(1000≤j∧j<e.u))→σ' j=σ j
 | .leaf,e,σ,ls,h,he,_,_,_,_,_=>by
  injection h with h; subst h
  exact ⟨e,by simp,σ,he,fun _ _=>rfl⟩
 | .cmp l cut a b,e,σ,ls,h,he,hw,h0,hk,h1,h2=>by
  unfold leaves at h
  split at h
  · cases h
  · rename_i q hq
    obtain ⟨x,y,hx,hy,rfl⟩:=kE h
    obtain ⟨g1,g2⟩:=zAJ he hq
    by_cases hc:evL σ l<cut
    · have hx:=wC hx (by omega)
      obtain ⟨e',m,σ',r1,r2⟩:=yK a _ σ hx ⟨he.b,⟨⟨g1,by simp only; omega⟩,he.f⟩,he.r,he.w⟩ hw h0 hk h1 h2
      exact ⟨e',List.mem_append_left _ m,σ',r1,r2⟩
    · have hy:=wC hy (by omega)
      obtain ⟨e',m,σ',r1,r2⟩:=yK b _ σ hy ⟨he.b,⟨⟨by simp only; omega,g2⟩,he.f⟩,he.r,he.w⟩ hw h0 hk h1 h2
      exact ⟨e',List.mem_append_right _ m,σ',r1,r2⟩
 | .and v m ts,e,σ,ls,h,he,hw,h0,hk,h1,h2=>by
  unfold leaves at h
  obtain ⟨hm,h⟩:=xI h
  obtain ⟨j,hj,hr⟩:=zOw (σ v) m (@zL zR _ _ hm)
  obtain ⟨x,hx,hin⟩:=wL h j hj
  obtain ⟨e',m,σ',r1,r2⟩:=yK (ts j) _ σ hx ⟨he.b,he.f,⟨zJu hr,he.r⟩,he.w⟩ hw h0 hk h1 h2
  exact ⟨e',hin _ m,σ',r1,r2⟩
 | .rem v m ts,e,σ,ls,h,he,hw,h0,hk,h1,h2=>by
  unfold leaves at h
  obtain ⟨z,hz,hr⟩:=zHu (σ v) m
  obtain ⟨x,hx,hin⟩:=wL h (z+m).toNat (by omega)
  have e1:(Int.ofNat (z+m).toNat - Int.ofNat m)=z:=by
   show (((z+m).toNat:Nat):Int) - (m:Int)=z
   omega
  rw [e1] at hx
  obtain ⟨e',m,σ',r1,r2⟩:=yK (ts (z+m).toNat) _ σ hx ⟨he.b,he.f,⟨zJu hr,he.r⟩,he.w⟩ hw h0 hk h1 h2
  exact ⟨e',hin _ m,σ',r1,r2⟩
 | .remn v m ts,e,σ,ls,h,he,hw,h0,hk,h1,h2=>by
  unfold leaves at h
  split at h
  · cases h
  · rename_i q hq
    obtain ⟨hq0,h⟩:=xI h
    rw [decide_eq_true_eq] at hq0
    have g:=(zAJ he hq).1
    rw [w7] at g
    obtain ⟨j,hj,hr⟩:=zMd (σ v) (by omega) m
    obtain ⟨x,hx,hin⟩:=wL h j hj
    obtain ⟨e',m,σ',r1,r2⟩:=yK (ts j) _ σ hx ⟨he.b,he.f,⟨zJu hr,he.r⟩,he.w⟩ hw h0 hk h1 h2
    exact ⟨e',hin _ m,σ',r1,r2⟩
 | .bit v t a b,e,σ,ls,h,he,hw,h0,hk,h1,h2=>by
  unfold leaves at h
  obtain ⟨ht,h⟩:=xI h
  obtain ⟨x,y,hx,hy,rfl⟩:=kE h
  have ht:=@zL zR _ _ ht
  rcases zOz (σ v) t (by omega) with hr | hr
  · obtain ⟨e',m,σ',r1,r2⟩:=yK a _ σ hx ⟨he.b,he.f,⟨zJu hr,he.r⟩,he.w⟩ hw h0 hk h1 h2
    exact ⟨e',List.mem_append_left _ m,σ',r1,r2⟩
  · obtain ⟨e',m,σ',r1,r2⟩:=yK b _ σ hy ⟨he.b,he.f,⟨zJu hr,he.r⟩,he.w⟩ hw h0 hk h1 h2
    exact ⟨e',List.mem_append_right _ m,σ',r1,r2⟩
 | .shr v c t,e,σ,ls,h,he,hw,h0,hk,h1,h2=>by
  unfold leaves at h
  obtain ⟨hg,h⟩:=xI h
  rw [Bool.and_eq_true] at hg
  have hne:v≠e.u:=fun q=>by have:=hg.2; rw [q] at this; simp at this
  obtain ⟨z,hr⟩:=zOI (σ v) c
  have he':=he.upd hg.1 z
  have hr':xu (upV σ e.u z) (rv .shr v c (.sym (sv e.u))):=zMk (by rw [upd_other hne,upd_same]; exact hr)
  obtain ⟨e',m,σ',r1,r2⟩:=yK t _ (upV σ e.u z) h ⟨he'.b,he'.f,⟨hr',he'.r⟩,he'.w⟩
   (hw.upd fun j hj=>upd_other (by show j≠e.u; omega)) (by rw [upd_other (by omega)]; exact h0) hk h1 (by show 1000≤e.u+1; omega)
  exact ⟨e',m,σ',r1,fun j hj=>by rw [r2 j (show j<e.b.length∨(1000≤j∧j<e.u+1) by omega),upd_other (by omega)]⟩
 | .mask v m t,e,σ,ls,h,he,hw,h0,hk,h1,h2=>by
  unfold leaves at h
  obtain ⟨hg,h⟩:=xI h
  simp only [Bool.and_eq_true] at hg
  obtain ⟨⟨⟨g1,g2⟩,g3⟩,g4⟩:=hg
  have hb:=@zL zR _ _ g4
  have hne:v≠e.b.length:=fun q=>by rw [q] at g2; simp at g2
  obtain ⟨z,hz,hr⟩:=zLN (σ v) m (@zL zR _ _ g3)
  have he':=he.upd g1 (.ofNat z)
  have hr':xu (upV σ e.b.length (.ofNat z)) (rv .and v m (.sym (sv e.b.length))):=zMk (by rw [upd_other hne,upd_same]; exact hr)
  obtain ⟨e',m',σ',r1,r2⟩:=yK t _ (upV σ e.b.length (.ofNat z)) h
   ⟨jC he'.b (by rw [Nat.zero_add,upd_same]; exact Int.natCast_nonneg z) (by rw [Nat.zero_add,upd_same]; exact Int.ofNat_le.2 hz),he'.f,⟨hr',he'.r⟩,he'.w⟩
   (hw.upd fun j hj=>upd_other (by show j≠e.b.length; omega)) (by rw [upd_other (by omega)]; exact h0) (by show _<(e.b++_).length; simp; omega) (by show (e.b++_).length≤_; simp; omega) h2
  exact ⟨e',m',σ',r1,fun j hj=>by rw [r2 j (show j<(e.b++[((0:Int),Int.ofNat m)]).length∨(1000≤j∧j<e.u) by simp; omega),upd_other (by omega)]⟩
 | .join h' g a b t,e,σ,ls,h,he,hw,h0,hk,h1,h2=>by
  unfold leaves at h
  obtain ⟨hg,h⟩:=xI h
  exact yK t { e with r:=zP2 h' a b e.r } σ h ⟨he.b,he.f,zP7 hg he.r,he.w⟩ hw h0 hk h1 h2
 | .cellI j t,e,σ,ls,h,he,hw,h0,hk,h1,h2=>by
  unfold leaves at h
  split at h
  · rename_i k hj
    obtain ⟨hg,h⟩:=xI h
    rw [Bool.and_eq_true] at hg
    obtain ⟨wn,v,q1,q2,q4,q3,q5⟩:=hw.len j _ hj
    obtain ⟨g1,g2⟩:=zE4 he hg.1
    obtain ⟨q,hq⟩:=zQL (i:=σ 0) q5 q3 q1 g1 (by rw [q4] at g2; exact g2)
    have he':=he.upd hg.2 q
    have hne:e.u≠0:=by omega
    obtain ⟨e',m,σ',r1,r2⟩:=yK t _ (upV σ e.u q) h
     ⟨he'.b,he'.f,he'.r,fun x hx σ' K' hA hs=>by
      rcases List.mem_cons.1 hx with rfl | hx
      · have e1:σ' e.u=q:=by
         have:=hs.1
         have e2:evL σ' [(e.u,1)]=evL (upV σ e.u q) [(e.u,1)]:=this
         rw [w7,w7,upd_same] at e2
         exact e2
        have:=hq σ' K' e.u e1
        rw [h0,q2] at this
        exact this
      · exact he'.w x hx σ' K' hA hs⟩
     (hw.upd fun j hj=>upd_other (by show j≠e.u; omega)) (by rw [upd_other (fun q=>hne q.symm)]; exact h0) hk h1 (by show 1000≤e.u+1; omega)
    exact ⟨e',m,σ',r1,fun j hj=>by rw [r2 j (show j<e.b.length∨(1000≤j∧j<e.u+1) by omega),upd_other (by omega)]⟩
  · cases h
 | .cellB j a b,e,σ,ls,h,he,hw,h0,hk,h1,h2=>by
  unfold leaves at h
  split at h
  · rename_i k hj
    obtain ⟨hg,h⟩:=xI h
    obtain ⟨x,y,hx,hy,rfl⟩:=kE h
    obtain ⟨wn,v,q1,q2,q4,q3,q5⟩:=hw.len j _ hj
    obtain ⟨g1,g2⟩:=zE4 he hg
    rcases zN8 (i:=σ 0) q5 q3 q1 g1 (by rw [q4] at g2; exact g2) with hq | hq
    · obtain ⟨e',m,σ',r1,r2⟩:=yK a _ σ hx ⟨he.b,he.f,he.r,fun x hx σ' K' hA hs=>by
       rcases List.mem_cons.1 hx with rfl | hx
       · have:=hq σ' K'
         rw [h0,q2] at this
         exact this
       · exact he.w x hx σ' K' hA hs⟩ hw h0 hk h1 h2
      exact ⟨e',List.mem_append_left _ m,σ',r1,r2⟩
    · obtain ⟨e',m,σ',r1,r2⟩:=yK b _ σ hy ⟨he.b,he.f,he.r,fun x hx σ' K' hA hs=>by
       rcases List.mem_cons.1 hx with rfl | hx
       · have:=hq σ' K'
         rw [h0,q2] at this
         exact this
       · exact he.w x hx σ' K' hA hs⟩ hw h0 hk h1 h2
      exact ⟨e',List.mem_append_right _ m,σ',r1,r2⟩
  · cases h
 | .pin v ts,e,σ,ls,h,he,hw,h0,hk,h1,h2=>by
  unfold leaves at h
  split at h
  · rename_i q hq
    have hb:=qn he.b hq
    rw [Nat.zero_add] at hb
    obtain ⟨x,hx,hin⟩:=wL h (σ v - q.1).toNat (by omega)
    have ez:q.1+Int.ofNat (σ v - q.1).toNat=σ v:=by
     show q.1+(((σ v - q.1).toNat:Nat):Int)=σ v
     omega
    rw [ez] at hx
    obtain ⟨e',m,σ',r1,r2⟩:=yK (ts (σ v - q.1).toNat) (zRY e v (σ v)) σ hx ⟨wD he.b (by rw [Nat.zero_add]),he.f,he.r,he.w⟩ hw h0 (by show _<(vn e.b v _).length; rw [xk]; exact hk) (by show (vn e.b v _).length≤_; rw [xk]; exact h1) h2
    exact ⟨e',hin _ m,σ',r1,fun j hj=>r2 j (by show j<(vn e.b v _).length∨_; rw [xk]; exact hj)⟩
  · cases h
 | .shrb v c t,e,σ,ls,h,he,hw,h0,hk,h1,h2=>by
  unfold leaves at h
  split at h
  · rename_i q hq
    obtain ⟨hg,h⟩:=xI h
    simp only [Bool.and_eq_true] at hg
    obtain ⟨⟨⟨⟨g1,g2⟩,g3⟩,g4⟩,g5⟩:=hg
    have hbl:=@zL zR _ _ g3
    have hc:=@zL zR _ _ g5
    rw [decide_eq_true_eq] at g4
    have hne:v≠e.b.length:=fun q=>by rw [q] at g2; simp at g2
    have hb:=qn he.b hq
    rw [Nat.zero_add] at hb
    obtain ⟨a,ha⟩:∃ a:Nat,σ v=Int.ofNat a:=⟨(σ v).toNat,by show σ v=(((σ v).toNat:Nat):Int); omega⟩
    have hz:yQ .shr .i64 (σ v) (.ofNat c)=some (zY .i64 (σ v / 2 ^ c)):=by
     rw [ha]
     have e1:(Int.ofNat a / 2 ^ c:Int)=Int.ofNat (a / 2 ^ c):=by
      show ((a:Int) / 2 ^ c)=((a / 2 ^ c:Nat):Int)
      rw [Int.natCast_ediv,Int.natCast_pow]; rfl
     rw [e1]
     show some (jZ .i64 (Nat.div a (Nat.pow 2 (min c IntKind.i64.bits))))=_
     have e2:min c IntKind.i64.bits=c:=by
      show min c 64=c
      omega
     rw [e2]
     show some (jZ .i64 (a / 2 ^ c))=some (zY .i64 (Int.ofNat (a / 2 ^ c)))
     cases a / 2 ^ c <;> rfl
    have he':=he.upd g1 (σ v / 2 ^ c)
    have hr':xu (upV σ e.b.length (σ v / 2 ^ c)) (rv .shr v c (.sym (sv e.b.length))):=zMk (by rw [upd_other hne,upd_same]; exact hz)
    have hpos:(0:Int)<2 ^ c:=Int.pow_pos (by decide)
    have hlo:q.1 / 2 ^ c≤σ v / 2 ^ c:=Int.ediv_le_ediv hpos hb.1
    have hhi:σ v / 2 ^ c≤q.2 / 2 ^ c:=Int.ediv_le_ediv hpos hb.2
    obtain ⟨e',m',σ',r1,r2⟩:=yK t _ (upV σ e.b.length (σ v / 2 ^ c)) h
     ⟨jC he'.b (by rw [Nat.zero_add,upd_same]; exact hlo) (by rw [Nat.zero_add,upd_same]; exact hhi),he'.f,⟨hr',he'.r⟩,he'.w⟩
     (hw.upd fun j hj=>upd_other (by show j≠e.b.length; omega)) (by rw [upd_other (by omega)]; exact h0) (by show _<(e.b++_).length; simp; omega) (by show (e.b++_).length≤_; simp; omega) h2
    exact ⟨e',m',σ',r1,fun j hj=>by rw [r2 j (show j<(e.b++[((q.1 / 2 ^ c:Int),(q.2 / 2 ^ c:Int))]).length∨(1000≤j∧j<e.u) by simp; omega),upd_other (by omega)]⟩
  · cases h
 | .cmpb v cut a b,e,σ,ls,h,he,hw,h0,hk,h1,h2=>by
  unfold leaves at h
  split at h
  · cases h
  · rename_i q hq
    obtain ⟨x,y,hx,hy,rfl⟩:=kE h
    obtain ⟨g1,g2⟩:=zAJ he hq
    rw [w7] at g1 g2
    have hlen:∀ lo hi,(zQj e v lo hi).b.length=e.b.length:=fun lo hi=>xk
    by_cases hc:σ v<cut
    · have hx:=wC hx (by omega)
      obtain ⟨e',m,σ',r1,r2⟩:=yK a (zQj e v q.1 (min q.2 (cut - 1))) σ hx ⟨kU he.b (by rw [Nat.zero_add]; exact g1) (by rw [Nat.zero_add]; omega),he.f,he.r,he.w⟩ hw h0 (by rw [hlen]; exact hk) (by rw [hlen]; exact h1) h2
      exact ⟨e',List.mem_append_left _ m,σ',r1,fun j hj=>r2 j (by rw [hlen]; exact hj)⟩
    · have hy:=wC hy (by omega)
      obtain ⟨e',m,σ',r1,r2⟩:=yK b (zQj e v (max q.1 cut) q.2) σ hy ⟨kU he.b (by rw [Nat.zero_add]; omega) (by rw [Nat.zero_add]; exact g2),he.f,he.r,he.w⟩ hw h0 (by rw [hlen]; exact hk) (by rw [hlen]; exact h1) h2
      exact ⟨e',List.mem_append_right _ m,σ',r1,fun j hj=>r2 j (by rw [hlen]; exact hj)⟩
 | .dec c v t,e,σ,ls,h,he,hw,h0,hk,h1,h2=>by
  unfold leaves at h
  split at h
  · rename_i q hq
    obtain ⟨hg,h⟩:=xI h
    obtain ⟨hg',h⟩:=xI h
    simp only [Bool.and_eq_true] at hg hg'
    obtain ⟨⟨⟨⟨g1,g2⟩,g3⟩,g4⟩,g5⟩:=hg
    obtain ⟨g6,g7⟩:=hg'
    have hbl:e.b.length+2≤1000:=@zL zR _ _ g3
    rw [decide_eq_true_eq] at g4 g5
    have hne:v≠e.b.length:=fun q=>by rw [q] at g2; simp at g2
    have hne':v≠Nat.succ e.b.length:=fun q=>by rw [q] at g7; simp at g7
    have hb:=qn he.b hq
    rw [Nat.zero_add] at hb
    have hx0:0≤σ v+c:=by omega
    have hx1:σ v+c≤1000:=by omega
    have he1:=he.upd g1 ((σ v+c) / 10)
    have hr1:xu (upV σ e.b.length ((σ v+c) / 10)) ⟨.quo,⟨.i64,c,[(v,1)]⟩,10,.sym (sv e.b.length)⟩:=
     zUc (by rw [upd_other hne]; omega) (by rw [upd_other hne]; omega) (by rw [upd_other hne,upd_same])
    have he2:zBB wins w0 i (upV σ e.b.length ((σ v+c) / 10)) (zEM e c v q):=⟨jC he1.b (by rw [Nat.zero_add,upd_same]; omega) (by rw [Nat.zero_add,upd_same]; omega),he1.f,⟨hr1,he1.r⟩,he1.w⟩
    have hlen:(zEM e c v q).b.length=Nat.succ e.b.length:=by show (e.b++[_]).length=_; simp
    have he3:=he2.upd g6 ((σ v+c) % 10)
    have hr2:xu (upV (upV σ e.b.length ((σ v+c) / 10)) (Nat.succ e.b.length) ((σ v+c) % 10)) ⟨.rem,⟨.i64,c,[(v,1)]⟩,10,.sym (sv (Nat.succ e.b.length))⟩:=
     zUa (by rw [upd_other hne',upd_other hne]; omega) (by rw [upd_other hne',upd_other hne]; omega) (by rw [upd_other hne',upd_other hne,upd_same])
    obtain ⟨e',m',σ',r1,r2⟩:=yK t _ (upV (upV σ e.b.length ((σ v+c) / 10)) (Nat.succ e.b.length) ((σ v+c) % 10)) h
     ⟨jC he3.b (by rw [Nat.zero_add,hlen,upd_same]; omega) (by rw [Nat.zero_add,hlen,upd_same]; omega),he3.f,⟨hr2,he3.r⟩,he3.w⟩
     ((hw.upd fun j hj=>upd_other (by show j≠e.b.length; omega)).upd fun j hj=>upd_other (by show j≠Nat.succ e.b.length; omega)) (by rw [upd_other (by omega),upd_other (by omega)]; exact h0) (by show _<((zEM e c v q).b++_).length; rw [List.length_append,hlen]; simp; omega) (by show ((zEM e c v q).b++_).length≤_; rw [List.length_append,hlen]; simp; omega) h2
    exact ⟨e',m',σ',r1,fun j hj=>by rw [r2 j (show j<((zEM e c v q).b++[((0:Int),(9:Int))]).length∨(1000≤j∧j<e.u) by rw [List.length_append,hlen]; simp; omega),upd_other (by omega),upd_other (by omega)]⟩
  · cases h
 | .rows j n m t0 ts tz,e,σ,ls,h,he,hw,h0,hk,h1,h2=>by
  unfold leaves at h
  split at h
  · rename_i k f hj
    split at h
    · rename_i ki hji
      obtain ⟨hg,h⟩:=xI h
      simp only [Bool.and_eq_true] at hg
      obtain ⟨⟨⟨⟨⟨g1,g2⟩,g3⟩,g4⟩,g5⟩,g6⟩:=hg
      have g3:=@zL zR _ _ g3
      have g5:=@zL zR _ _ g5
      have g6:=@zL zR _ _ g6
      have hfree:=w6 g4 (Nat.le_refl _)
      obtain ⟨x,y0,hx,hxy,rfl⟩:=kE h
      obtain ⟨y,z,hy,hz,rfl⟩:=kE hxy
      obtain ⟨wn,v,q1,q2,q4,q3,q5⟩:=hw.len j _ hj
      obtain ⟨wi,vi,r1,r2,r4,r5⟩:=hw.len _ _ hji
      have r5:zH5 w0 vi wi:=r5
      have r2:wi.key=ki:=r2
      have q2:wn.key=k:=q2
      have r4:σ (Nat.succ (Nat.add f n))=wi.len:=r4
      obtain ⟨g1a,g1b⟩:=zE4 he g1
      rw [q4] at g1b
      have hat:σ 0=(n:Int):=by
       unfold zUn at g2
       split at g2
       · rename_i q hq
         rw [Bool.and_eq_true,decide_eq_true_eq,decide_eq_true_eq] at g2
         have hb:=qn he.b hq
         rw [Nat.zero_add,g2.1,g2.2] at hb
         have b1:(n:Int)≤σ 0:=hb.1
         have b2:σ 0≤(n:Int):=hb.2
         omega
       · cases g2
      have hn:n<wn.len:=by omega
      obtain ⟨arr,elem,fz,a1,a2,a3⟩:=hw.row j k f n ki wn wi hj hji (q2 ▸ q1) (r2 ▸ r1) hn (by omega)
      have hi:i=(n:Int):=by rw [← h0]; exact hat
      have hplace:wn.x+i.toNat*wn.esz+0=wn.x+n:=by rw [hi,q3,Int.toNat_natCast]; omega
      have outer:∀ (σ':Nat→Int) (K':zc) (c:CV),(∀ ψ,zQx wins i ψ c→@zH (linSym σ' K') ψ c (.slice wi.base wi.len wi.cap))→zA8 (linSym σ' K') wins w0 i (k,[c]):=by
       intro σ' K' c hc
       refine ⟨wn,arr,elem,fz,q2 ▸ q1,a1,by show wn.x+i.toNat*wn.esz+1≤_; omega,fun jj d hd=>?_⟩
       cases jj with
       | zero=>
        simp at hd
        subst hd
        exact ⟨_,by rw [hplace]; exact a3,hc⟩
       | succ jj=>simp at hd
      have hvlt:Nat.succ (Nat.add f n)≤ks.length:=g6
      have hle:∀ g l,l≤m→∀ j,j≤ks.length→upN σ e.b.length g l j=σ j:=fun g l _ j hj=>ub (.inl (by omega))
      rcases r5.base with ⟨b2,b3⟩ | ⟨b1,hb⟩
      · -- nothing
        obtain ⟨e',mm,σ',s1,s2⟩:=yK t0 _ σ hx ⟨wD he.b (by rw [Nat.zero_add,r4,b2]; rfl),he.f,he.r,fun q hq σ' K' hA hs=>by
         rcases List.mem_cons.1 hq with rfl | hq
         · refine outer σ' K' _ fun ψ _=>(@qA (linSym σ' K') _ _ _ _ _ _).2 ⟨?_,wi.base,wi.len,wi.cap,0,rfl,?_,rfl,fun _ h=>by omega⟩
           · obtain ⟨hm1,hm2⟩:=kG r1
             have:=(hA wi hm1).1
             rw [r2] at this
             exact this
           · rw [b2]; rfl
         · exact he.w q hq σ' K' hA hs⟩ hw h0 (by show _<(vn e.b _ _).length; rw [xk]; exact hk) (by show (vn e.b _ _).length≤_; rw [xk]; exact h1) h2
        exact ⟨e',List.mem_append_left _ mm,σ',s1,fun j hj=>s2 j (by show j<(vn e.b _ _).length∨(1000≤j∧j<e.u); rw [xk]; exact hj)⟩
      · by_cases hlen:wi.len≤m
        · -- so many
          obtain ⟨x',hx',hin⟩:=wL hy wi.len hlen
          obtain ⟨g,hg1,hg2⟩:=zFV r5 r1 hb (Nat.le_refl wi.len) i
          have he':=he.updN (g:=g) (m:=wi.len) (n:=e.b.length) fun t ht=>hfree t (by omega)
          have hs0:=hle g wi.len hlen
          obtain ⟨e',mm,σ',s1,s2⟩:=yK (ts wi.len) _ (upN σ e.b.length g wi.len) hx'
           ⟨wD (wk he'.b fun t ht=>by rw [Nat.zero_add,zBi ht]; exact hg1 t ht) (by rw [Nat.zero_add,hs0 _ hvlt,r4]; rfl),he'.f,he'.r,fun q hq σ' K' hA hs=>by
            rcases List.mem_cons.1 hq with rfl | hq
            · refine outer σ' K' _ fun ψ hψ=>(@zx (linSym σ' K') _ _ _ _ _ _ _ _).2 ⟨_,wi.x,wi.cap,hψ ki wi rfl (r2 ▸ r1),?_,r5.cap,r5.cap,(fun h=>by cases h),.inl ⟨?_,fun _=>?_⟩⟩
              · rw [b1]
              · show wi.x=wi.x+i.toNat*wi.esz+0
                rw [r5.stay]; omega
              · exact r5.size.symm
            · rcases List.mem_cons.1 hq with rfl | hq
              · have:=hg2 σ' K' e.b.length fun t ht=>by rw [uG hs t ht,zBi ht]
                rw [r2] at this
                exact this
              · exact he'.w q hq σ' K' hA hs⟩ (hw.upd hs0) (by rw [hs0 0 (by omega)]; exact h0) (by show _<(vn (e.b++_) _ _).length; rw [xk]; simp; omega)
            (by show (vn (e.b++_) _ _).length≤_; rw [xk,List.length_append,zB8]; have:e.b.length+m≤1000:=g5; omega) h2
          exact ⟨e',List.mem_append_right _ (List.mem_append_left _ (hin _ mm)),σ',s1,fun j hj=>by
           rw [s2 j (by show j<(vn (e.b++_) _ _).length∨(1000≤j∧j<e.u); rw [xk,List.length_append,zB8]; omega)]
           exact ub (by have:e.b.length+m≤1000:=g5; omega)⟩
        · -- more
          split at hz
          · rename_i q hq
            obtain ⟨g,hg1,hg2⟩:=zFV r5 r1 hb (show m≤wi.len by omega) i
            have he':=he.updN (g:=g) (m:=m) (n:=e.b.length) fun t ht=>hfree t ht
            have hs0:=hle g m (Nat.le_refl _)
            have hbq:=qn he.b hq
            rw [Nat.zero_add,r4] at hbq
            obtain ⟨e',mm,σ',s1,s2⟩:=yK tz _ (upN σ e.b.length g m) hz
             ⟨kU (wk he'.b fun t ht=>by rw [Nat.zero_add,zBi ht]; exact hg1 t ht) (by rw [Nat.zero_add,hs0 _ hvlt,r4]; show ((m+1:Nat):Int)≤_; omega) (by rw [Nat.zero_add,hs0 _ hvlt,r4]; exact hbq.2),he'.f,he'.r,fun q hq σ' K' hA hs=>by
              rcases List.mem_cons.1 hq with rfl | hq
              · refine outer σ' K' _ fun ψ hψ=>(@qA (linSym σ' K') _ _ _ _ _ _).2 ⟨?_,wi.base,wi.len,wi.cap,0,rfl,?_,rfl,fun _ _=>⟨_,wi.x,hψ ki wi rfl (r2 ▸ r1),?_,?_,r5.size,r5.cap⟩⟩
                · obtain ⟨hm1,hm2⟩:=kG r1
                  have:=(hA wi hm1).1
                  rw [r2] at this
                  exact this
                · have e1:evL σ' [(Nat.succ (Nat.add f n),1)]=evL (upN σ e.b.length g m) [(Nat.succ (Nat.add f n),1)]:=hs.2.1
                  rw [w7,w7,hs0 _ hvlt,r4] at e1
                  show Value.int .i64 (evE σ' (sv (Nat.succ (Nat.add f n))))=_
                  rw [qe,e1]
                · rw [b1]
                · show wi.x+i.toNat*wi.esz=wi.x+(0:Int).toNat*1
                  rw [r5.stay]; simp
              · rcases List.mem_cons.1 hq with rfl | hq
                · have:=hg2 σ' K' e.b.length fun t ht=>by rw [uG hs t ht,zBi ht]
                  rw [r2] at this
                  exact this
                · exact he'.w q hq σ' K' hA hs⟩ (hw.upd hs0) (by rw [hs0 0 (by omega)]; exact h0) (by show _<(vn (e.b++_) _ _).length; rw [xk]; simp; omega)
              (by show (vn (e.b++_) _ _).length≤_; rw [xk,List.length_append,zB8]; exact g5) h2
            exact ⟨e',List.mem_append_right _ (List.mem_append_right _ mm),σ',s1,fun j hj=>by
             rw [s2 j (by show j<(vn (e.b++_) _ _).length∨(1000≤j∧j<e.u); rw [xk,List.length_append,zB8]; omega)]
             exact ub (by have:e.b.length+m≤1000:=g5; omega)⟩
          · cases hz
    · cases h
  · cases h
 | .wcells j n t,e,σ,ls,h,he,hw,h0,hk,h1,h2=>by
  unfold leaves at h
  split at h
  · rename_i k f hj
    split at h
    · rename_i q hq
      obtain ⟨hg,h⟩:=xI h
      simp only [Bool.and_eq_true] at hg
      obtain ⟨⟨⟨⟨⟨⟨⟨g1,g2⟩,g3⟩,g4⟩,g5⟩,g6⟩,g7⟩,g8⟩:=hg
      rw [decide_eq_true_eq] at g1
      have g4:e.b.length+n≤1000:=@zL zR _ _ g4
      have g6:f+n≤ks.length:=@zL zR _ _ g6
      have g7:=@zL zR _ _ g7
      have g8:=@zL zR _ _ g8
      have hfu:=w6 g2 (by omega)
      have hfb:=w6 g3 (Nat.le_refl _)
      obtain ⟨wn,v,q1,q2,q4,q3⟩:=hw.len j _ hj
      have q2:wn.key=k:=q2
      have q3:wn.esz=0:=q3
      have q1':findW wins k=some wn:=q2 ▸ q1
      have hl:=(zAJ he hq).1
      rw [w7,q4] at hl
      have hnl:n≤wn.len:=by
       have:(n:Int)≤q.1:=g1
       omega
      have hcell:=fun t (ht:t<n)=>hw.int j k f wn t hj q1' (by omega) (by omega)
      obtain ⟨arr,elem,fz,_,a1,_,_,_⟩:=hcell 0 (by omega)
      have hcz:∀ t,t<n→∃ z,wn.x+t+1≤arr.size∧arr[wn.x+t]? = some (.int .i64 z)∧σ (Nat.succ (Nat.add f t))=wI z:=by
       intro t ht
       obtain ⟨arr',e',f',z,c1,c2,c3,c4⟩:=hcell t ht
       rw [a1] at c1
       injection c1 with c1
       injection c1 with c1
       subst c1
       obtain ⟨kq,hkq⟩:=zNC g5 t (Nat.zero_le _) (by omega)
       obtain ⟨wq,vq,d1,d2,d4,_⟩:=hw.len _ _ hkq
       exact ⟨z,c2,c3,by rw [d4]; exact c4 kq wq hkq (by rw [← d1]; exact congrArg _ d2.symm)⟩
      obtain ⟨g,hgz⟩:∃ g:Nat→Int,∀ t,t<n→wn.x+t+1≤arr.size∧arr[wn.x+t]? = some (.int .i64 (g t))∧σ (Nat.succ (Nat.add f t))=wI (g t):=
       ⟨fun t=>if ht:t<n then (hcz t ht).choose else 0,fun t ht=>by simp only [dif_pos ht]; exact (hcz t ht).choose_spec⟩
      have he1:=he.updN (g:=g) (m:=n) (n:=e.u) fun t ht=>hfu t ht
      have he2:=he1.updN (g:=fun t=>if (g t).tmod 3<0 then -1 else 0) (m:=n) (n:=e.b.length) fun t ht=>hfb t ht
      obtain ⟨σ2,hσ2⟩:∃ σ2,σ2=upN (upN σ e.u g n) e.b.length (fun t=>if (g t).tmod 3<0 then -1 else 0) n:=⟨_,rfl⟩
      rw [← hσ2] at he2
      have s1:∀ i,(i<e.b.length∨(1000≤i∧i<e.u))→σ2 i=σ i:=fun i hi=>by
       rw [hσ2,ub (by omega),ub (by omega)]
      have s2:∀ t,t<n→σ2 (e.u+t)=g t:=fun t ht=>by
       rw [hσ2,ub (by omega),zBi ht]
      have s3:∀ t,t<n→σ2 (e.b.length+t)=if (g t).tmod 3<0 then -1 else 0:=fun t ht=>by
       rw [hσ2,zBi ht]
      obtain ⟨e',mm,σ',r1,r2⟩:=yK t (wLf e k f n) σ2 h
       ⟨zCC he2.b fun t ht=>by rw [Nat.zero_add,s3 t ht]; split <;> simp,he2.f,zRc (fun i _ hi=>by
        have hi:i<n:=by omega
        refine ⟨zY .i64 ((g i).tmod 3),.inl rfl,?_,.inr ⟨_,rfl,?_⟩⟩
        · show yQ .rem .i64 (evE σ2 (sv (e.u+i))) (.ofNat 3)=_
          rw [qe,s2 i hi]
          exact zT3 _
        · show zY .i64 ((g i).tmod 3)=zY .i64 ((0:Int)+(1*σ2 (Nat.succ (Nat.add f i))+(3*σ2 (e.b.length+i)+0)))
          rw [s1 _ (.inl (by show f+i+1<_; omega)),(hgz i hi).2.2,s3 i hi]
          congr 1
          unfold wI
          split <;> omega) he2.r,fun q hq σ' K' hA hs=>by
          rcases List.mem_cons.1 hq with rfl | hq
          · refine ⟨wn,arr,elem,fz,q1',a1,?_,fun jj d hd=>?_⟩
            · rw [q3,Nat.mul_zero,Nat.add_zero]
              show wn.x+(wVs n e.u).length≤_
              rw [zMH]
              have:=(hgz (n - 1) (by omega)).1
              omega
            · obtain ⟨ht,rfl⟩:=zNN hd
              refine ⟨.int .i64 (g jj),by rw [q3,Nat.mul_zero,Nat.add_zero]; exact (hgz jj ht).2.1,fun ψ _=>?_⟩
              refine (@zt (linSym σ' K') _ _ _).2 ?_
              show Value.int .i64 (g jj)=.int .i64 (evE σ' (sv (e.u+jj)))
              rw [qe,zKc hs jj ht,s2 jj ht]
          · exact he2.w q hq σ' K' hA hs⟩
       (hw.upd fun j hj=>s1 j (.inl (by omega))) (by rw [s1 0 (.inl (by omega))]; exact h0) (by show _<(e.b++_).length; simp; omega) (by show (e.b++_).length≤_; rw [List.length_append,zEO]; exact g4) (by show 1000≤e.u+n; omega)
      exact ⟨e',mm,σ',r1,fun j hj=>by
       rw [r2 j (by show j<(e.b++_).length∨(1000≤j∧j<e.u+n); rw [List.length_append,zEO]; omega)]
       exact s1 j hj⟩
    · cases h
  · cases h
end
def AllG (Q:Lf→Prop):List Lf→Prop
 | []=>True
 | e::l=>Q e∧AllG Q l
theorem zBZ {Q:Lf→Prop}:∀ {l:List Lf},AllG Q l→∀ e∈l,Q e
 | [],_,e,he=>by cases he
 | x::l,h,e,he=>by
  rcases List.mem_cons.1 he with rfl | he
  · exact h.1
  · exact zBZ h.2 e he
def zBD (m:Nat):List (Key × Nat)→Bool
 | []=>true
 | q::r=>Nat.ble (Nat.succ q.2) m&&zBD m r
theorem zCV {m:Nat}:∀ {l:List (Key × Nat)},zBD m l=true→∀ q∈l,q.2<m
 | [],_,q,h=>by cases h
 | x::r,h,q,hq=>by
  unfold zBD at h
  rw [Bool.and_eq_true] at h
  rcases List.mem_cons.1 hq with rfl | hq
  · exact @zL zR _ _ h.1
  · exact zCV h.2 q hq
def AllS (Q:TS→Prop):List TS→Prop
 | []=>True
 | T::l=>Q T∧AllS Q l
theorem zKG {Q:TS→Prop}:∀ {l:List TS} {t:Nat} {T:TS},AllS Q l→nth l t=some T→Q T
 | [],_,_,_,h=>by cases h
 | x::l,0,T,h,hn=>by
  injection hn with hn
  subst hn
  exact h.1
 | x::l,t+1,T,h,hn=>zKG (t:=t) h.2 hn
theorem allG_nil {Q:Lf→Prop}:AllG Q []:=trivial
theorem allG_cons {Q:Lf→Prop} {e:Lf} {l:List Lf} (h:Q e) (r:AllG Q l):AllG Q (e::l):=⟨h,r⟩
theorem zRq {Q:TS→Prop}:AllS Q []:=trivial
theorem zOM {Q:TS→Prop} {T:TS} {l:List TS} (h:Q T) (r:AllS Q l):AllS Q (T::l):=⟨h,r⟩
theorem len_of {wins:List Win} {L:List (Key × Nat)} {σ:Nat→Int} {w:Win} {k:Key} {j:Nat} (h:LensAre wins L σ) (hm:(k,j)∈L) (hw:findW wins k=some w):σ j=w.len:=by
 obtain ⟨wn,h1,h2⟩:=h _ hm
 simp only at h1
 rw [hw] at h1
 injection h1 with h1
 subst h1
 exact h2
end
end Go.Ev
