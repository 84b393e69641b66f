/- A verified evaluator for the model's code: EvWord, EvTree. -/
import Derived.Test.YtkolecenifiaaaaGreatDoorEvArg
set_option linter.unusedSectionVars false
set_option linter.unusedVariables false
set_option linter.unusedSimpArgs false
namespace Go.Ev
noncomputable section
theorem zBX(m:Nat):mkInt .i64 (.ofNat m)=.nat m:=by cases m <;> rfl
theorem zDp(m:Nat):mkInt .i64 (.negSucc m)=.int .i64 (.negSucc m):=by cases m <;> rfl
theorem zK0{a b:Int}(h:mkInt .i64 a=mkInt .i64 b):a=b:=by
 cases a with
 |ofNat a=>cases b with
  |ofNat b=>rw[zBX,zBX]at h; injection h with h; rw[h]
  |negSucc b=>rw[zBX,zDp]at h; cases h
 |negSucc a=>cases b with
  |ofNat b=>rw[zBX,zDp]at h; cases h|negSucc b=>rw[zDp,zDp]at h; injection h
theorem zGH(q:Int):(toU .i64 q:Int)=q % 18446744073709551616:=by
 cases q with
 |ofNat m=>show((m % 2 ^ 64:Nat):Int)=(m:Int) % 18446744073709551616;omega|negSucc m=>show((2 ^ 64 - 1 - m % 2 ^ 64:Nat):Int)=Int.negSucc m % 18446744073709551616;rw[Int.negSucc_eq];omega
theorem zDb(q:Int){n:Nat}(hn:n<=31):yR .and .i64 q (.ofNat (2 ^ n - 1))=some (mkInt .i64 (.ofNat (toU .i64 q % 2 ^ n))):=by
 have hp:2 ^ n<=2 ^ 31:=Nat.pow_le_pow_right (by decide) hn;have h1:toU .i64 (.ofNat (2 ^ n - 1))=2 ^ n - 1:=Nat.mod_eq_of_lt (show 2 ^ n - 1<2 ^ 64 by omega);show some (mkInt .i64 (yz .i64 (.ofNat (Nat.land (toU .i64 q) (toU .i64 (.ofNat (2 ^ n - 1)))))))=_;rw[h1];have h2:Nat.land (toU .i64 q) (2 ^ n - 1)=toU .i64 q % 2 ^ n:=Nat.and_two_pow_sub_one_eq_mod _ n;rw[h2];have h3:toU .i64 q % 2 ^ n<2 ^ n:=Nat.mod_lt _ (Nat.two_pow_pos n);have h4:yz .i64 (.ofNat (toU .i64 q % 2 ^ n))=.ofNat (toU .i64 q % 2 ^ n):=by generalize toU .i64 q % 2 ^ n=x at h3;rw[@xM noSym];simp[IntKind.wrap,IntKind.signed,IntKind.bits];omega
 rw[h4]
theorem zHD(q:Int):yR .shr .i64 q (.ofNat 4)=some (mkInt .i64 (q / 16)):=by
 cases q with
 |ofNat a=>
  show some (j6 .i64 (Nat.div a (Nat.pow 2 (min 4 64))))=some (mkInt .i64 ((a:Int) / 16));have e:((a:Int) / 16)=Int.ofNat (a / 16):=by
   show(a:Int) / 16=((a / 16:Nat):Int)
   omega
  rw[e,zBX];show some (kM (a / 16))=_;generalize a / 16=x;cases x <;> rfl
 |negSucc a=>
  show some (mkInt .i64 ((Int.negSucc a).fdiv (.ofNat (Nat.pow 2 (min 4 64)))))=_;have e:(Int.negSucc a).fdiv (.ofNat (Nat.pow 2 (min 4 64)))=Int.negSucc a / 16:=by show(Int.negSucc a).fdiv 16=_;rw[Int.fdiv_eq_ediv_of_nonneg _ (by decide)]
  rw[e]
theorem zNH{h g a b:Int}(h1:yR .and .i64 h (.ofNat 15)=some (mkInt .i64 a))(h2:yR .shr .i64 h (.ofNat 4)=some (mkInt .i64 g))(h3:yR .and .i64 g (.ofNat 15)=some (mkInt .i64 b)) :
 yR .and .i64 h (.ofNat 255)=some (mkInt .i64 (a+16*b))/\yR .and .i64 (a+16*b) (.ofNat 15)=some (mkInt .i64 a)/\yR .shr .i64 (a+16*b) (.ofNat 4)=some (mkInt .i64 b):=by
 have e15:∀q:Int,yR .and .i64 q (.ofNat 15)=some (mkInt .i64 (.ofNat (toU .i64 q % 16))):=λq=>zDb q (n:=4) (by decide);have e255:∀q:Int,yR .and .i64 q (.ofNat 255)=some (mkInt .i64 (.ofNat (toU .i64 q % 256))):=λq=>zDb q (n:=8) (by decide);rw[e15]at h1 h3;rw[zHD]at h2;have a1:=zK0 (Option.some.inj h1);have a2:=zK0 (Option.some.inj h2);have a3:=zK0 (Option.some.inj h3);have u1:=zGH h;have u2:=zGH g;have u3:=zGH (a+16*b);have a1:((toU .i64 h % 16:Nat):Int)=a:=a1;have a3:((toU .i64 g % 16:Nat):Int)=b:=a3;refine⟨?_,?_,?_⟩
 . rw[e255]
   congr 2
   show((toU .i64 h % 256:Nat):Int)=a+16*b;omega
 . rw[e15]
   congr 2
   show((toU .i64 (a+16*b) % 16:Nat):Int)=a;omega
 . rw[zHD]
   congr 2
   omega
def zK4(n:Nat)(e:SE):Bool:=match e.k,e.l with
 |.i64,[p]=>Nat.beq p.1 n&&decide (p.2=1)&&decide (e.c=0)|_,_=>false
theorem zAg{n:Nat}{e:SE}(h:zK4 n e=true):e=sv n:=by
 obtain⟨k,c,l⟩:=e;unfold zK4 at h;split at h
 . rename_i p h1 h2;simp only at h1 h2;subst h1 h2;simp only[Bool.and_eq_true,decide_eq_true_eq]at h;obtain⟨⟨h1,h2⟩,h3⟩:=h;obtain⟨i,z⟩:=p;simp only at h1 h2 h3;have h1:=Nat.eq_of_beq_eq_true h1;subst h1 h2 h3;rfl
 . cases h
def zXc:Bool->BinOp->Bool
 |true,.and=>true|false,.shr=>true|_,_=>false
def zRg:Bool->BinOp
 |true=>.and|false=>.shr
theorem zVT{b:Bool}{o:BinOp}(h:zXc b o=true):o=zRg b:=by
 unfold zXc at h;split at h
 . rfl
 . rfl
 . cases h
def zX3(b:Bool)(h c a:Nat)(q:SRule):Bool:=zXc b q.op&&zK4 h q.x&&Nat.beq q.c c&&(match q.v with
 |.sym e=>zK4 a e|_=>false)
def zR3(b:Bool)(h c a:Nat):List SRule->Bool
 | []=>false|q::r=>zX3 b h c a q || zR3 b h c a r
theorem zVb{J:Nat->Int}{b:Bool}{h c a:Nat}{q:SRule}(hq:zX3 b h c a q=true)(hr:zi J q){z:Int}(hz:yR (zRg b) .i64 (J h) (.ofNat c)=some (mkInt .i64 z)) :
 yR (zRg b) .i64 (J h) (.ofNat c)=some (mkInt .i64 (J a)):=by
 unfold zX3 at hq;simp only[Bool.and_eq_true]at hq;obtain⟨⟨⟨h1,h2⟩,h3⟩,h4⟩:=hq;split at h4
 . rename_i e he;have h1:=zVT h1;have h2:=zAg h2;have h3:=Nat.eq_of_beq_eq_true h3;have h4:=zAg h4;subst h4;obtain⟨u,_,g2,g3⟩:=(vT (by rw[h1]; cases b <;> rfl)).1 hr;rw[h1,h2,h3]at g2;have g2:yR (zRg b) .i64 (evE J (sv h)) (.ofNat c)=some u:=g2;rw[xn]at g2;rw[he]at g3;rw[g2];rcases g3 with g3 |⟨e,g3,g4⟩
   . rw[hz]at g2;have g2:=Option.some.inj g2;rw[<- g3]at g2;cases z with
     |ofNat m=>rw[zBX]at g2; cases g2|negSucc m=>rw[zDp]at g2; cases g2
   . injection g3 with g3;subst g3;rw[g4,xn];rfl
 . cases h4
theorem zFY{J:Nat->Int}{b:Bool}{h c a:Nat}{z:Int}(hz:yR (zRg b) .i64 (J h) (.ofNat c)=some (mkInt .i64 z)):∀{r:List SRule},zR3 b h c a r=true->yV J r ->
 yR (zRg b) .i64 (J h) (.ofNat c)=some (mkInt .i64 (J a))
 | [],hr,_=>by cases hr|q::r,hr,ho=>by
  unfold zR3 at hr;rw[Bool.or_eq_true]at hr;rcases hr with hr |hr
  . exact zVb hr ho.1 hz
  . exact zFY hz hr ho.2
def zE2(a b:Nat):SE:=⟨.i64,.ofNat 0,[(a,1),(b,16)]⟩
theorem zHj(J:Nat->Int)(a b:Nat):evE J (zE2 a b)=J a+16*J b:=by show(0:Int)+(1*J a+(16*J b+0))=_;omega
def zOm(r:List SRule)(h g a b:Nat):Bool:=zR3 true h 15 a r&&zR3 false h 4 g r&&zR3 true g 15 b r
def zS9(h a b:Nat)(r:List SRule):List SRule:=⟨.and,sv h,255,.sym (zE2 a b)⟩::⟨.and,zE2 a b,15,.sym (sv a)⟩::⟨.shr,zE2 a b,4,.sym (sv b)⟩::r
theorem zTf{J:Nat->Int}{r:List SRule}{h g a b:Nat}(hj:zOm r h g a b=true)(hr:yV J r):yV J (zS9 h a b r):=by
 unfold zOm at hj;simp only[Bool.and_eq_true]at hj;obtain⟨⟨h1,h2⟩,h3⟩:=hj;have g1:=zFY (J:=J) (b:=true) (h:=h) (c:=15) (zDb (J h) (n:=4) (by decide)) h1 hr;have g2:=zFY (J:=J) (b:=false) (h:=h) (c:=4) (zHD (J h)) h2 hr;have g3:=zFY (J:=J) (b:=true) (h:=g) (c:=15) (zDb (J g) (n:=4) (by decide)) h3 hr;obtain⟨w1,w2,w3⟩:=zNH g1 g2 g3;refine⟨⟨_,.inl rfl,?_,.inr ⟨zE2 a b,rfl,rfl⟩⟩,⟨_,.inl rfl,?_,.inr ⟨sv a,rfl,rfl⟩⟩,⟨_,.inl rfl,?_,.inr ⟨sv b,rfl,rfl⟩⟩,hr⟩
 . show yR .and .i64 (evE J (sv h)) (.ofNat 255)=some (mkInt .i64 (evE J (zE2 a b)));rw[xn,zHj]; exact w1
 . show yR .and .i64 (evE J (zE2 a b)) (.ofNat 15)=some (mkInt .i64 (evE J (sv a)));rw[xn,zHj]; exact w2
 . show yR .shr .i64 (evE J (zE2 a b)) (.ofNat 4)=some (mkInt .i64 (evE J (sv b)));rw[xn,zHj]; exact w3
end
end Go.Ev
namespace Go.Ev
open Go.RowKit
noncomputable section
variable{P:Program}
inductive Kd where
 |i
 |b
 |r (f:Nat)
 |y
 |w (f:Nat)
 |q
inductive LTree where
 |leaf
 |cmp (l:LL) (cut:Int) (a b:LTree)
 |and (v m:Nat) (ts:Nat->LTree)
 |rem (v m:Nat) (ts:Nat->LTree)
 |remn (v m:Nat) (ts:Nat->LTree)
 |bit (v t:Nat) (a b:LTree)
 |shr (v c:Nat) (t:LTree)
 |mask (v m:Nat) (t:LTree)
 |join (h g a b:Nat) (t:LTree)
 |cellI (j:Nat) (t:LTree)
 |cellB (j:Nat) (a b:LTree)
 |pin (v:Nat) (ts:Nat->LTree)
 |shrb (v c:Nat) (t:LTree)
 |cmpb (v:Nat) (cut:Int) (a b:LTree)
 |dec (c:Int) (v:Nat) (t:LTree)
 |ne (c:Int) (l:LL) (a b:LTree)
 |fre (v:Nat) (ss:List Nat) (c:Nat) (t:LTree)
 |innl (v n:Nat) (ss:List Nat) (l:Nat) (t:LTree)
 |isin (v l:Nat) (ss:List Nat) (a b:LTree)
 |maskz (v m:Nat) (a t:LTree)
 |remv (v m:Nat) (t:LTree)
 |w3 (v:Nat) (t:LTree)
 |nar (v:Nat) (t:LTree)
 |max1 (a b:Nat) (t:LTree)
 |eqm (a b:Nat) (t:LTree)
 |srtv (ss:List Nat) (lo hi:Int) (t:LTree)
 |subs (n:Nat) (ys ss:List Nat) (t:LTree)
 |rows (j n m:Nat) (t0:LTree) (ts:Nat->LTree) (tz:LTree)
 |wcells (j n:Nat) (t:LTree)
structure Lf where
 b:List (Int × Int)
 f:List (LL × Int × Int)
 r:List SRule
 l:List (Key × List CV)
 u:Nat
def Lf.known(e:Lf)(A:Key->Option Value):zU:=⟨e.b,e.f,e.r,A⟩
def zBs(n:Nat):LL->Bool
 | []=>true|p::r=>!(Nat.beq p.1 n)&&zBs n r
def yi(n:Nat):List CV->Bool
 | []=>true|.sym e::r=>zBs n e.l&&yi n r|.bool _::r=>yi n r|.nilsl::r=>yi n r|.sl .. :: r=>yi n r|.win _ _ e m::r=>zBs n e.l&&zBs n m.l&&yi n r|_::_=>false
def zTD(n:Nat):CV->Bool
 |.sym e=>zBs n e.l|.bool _=>true|.agg l=>yi n l|.nat _=>true|.int _ _=>true|_=>false
def zHp(n:Nat):List (LL × Int × Int)->Bool
 | []=>true|q::r=>zBs n q.1&&zHp n r
def zHS(n:Nat):List SRule->Bool
 | []=>true|q::r=>zBs n q.x.l&&zTD n q.v&&zHS n r
def zEa(n:Nat):List (Key × List CV)->Bool
 | []=>true|q::r=>yi n q.2&&zEa n r
def Lf.free(e:Lf)(n:Nat):Bool:=zHp n e.f&&zHS n e.r&&zEa n e.l&&Nat.ble e.b.length n
def upV(J:Nat->Int)(n:Nat)(z:Int):Nat->Int:=λi=>if i=n then z else J i
theorem upd_same{J:Nat->Int}{n:Nat}{z:Int}:upV J n z n=z:=by simp[upV]
theorem upd_other{J:Nat->Int}{n i:Nat}{z:Int}(h:i≠n):upV J n z i=J i:=by simp[upV,h]
theorem zBL{J:Nat->Int}{n:Nat}{z:Int}:∀{l:LL},zBs n l=true->evL (upV J n z) l=evL J l
 | [],_=>rfl|p::r,h=>by
  unfold zBs at h;rw[Bool.and_eq_true]at h;have hne:p.1≠n:=λe=>by have h1:=h.1;rw[e]at h1;simp at h1
  show p.2*upV J n z p.1+evL (upV J n z) r=p.2*J p.1+evL J r;rw[upd_other hne,zBL h.2]
theorem zFc{J:Nat->Int}{n:Nat}{z:Int}:∀{f:List (LL × Int × Int)},zHp n f=true->xI J f->xI (upV J n z) f
 | [],_,_=>trivial|q::r,h,hf=>by unfold zHp at h;rw[Bool.and_eq_true]at h;refine⟨?_,zFc h.2 hf.2⟩;rw[zBL h.1]; exact hf.1
theorem vZ{J:Nat->Int}{n:Nat}{z:Int}{e:SE}(h:zBs n e.l=true):evE (upV J n z) e=evE J e:=by unfold evE;rw[zBL h]
theorem w6{J:Nat->Int}{n:Nat}{z:Int}:∀{l:List CV},yi n l=true->yc (upV J n z) l=yc J l
 | [],_=>rfl|c::l,h=>by
  have key:yi n l=true/\x8 (upV J n z) c=x8 J c:=by
   cases c <;> first
    | (unfold yi at h
       rw[Bool.and_eq_true]at h;exact⟨h.2,vZ h.1⟩)
    | (unfold yi at h
       rw[Bool.and_eq_true]at h;exact⟨h.2,rfl⟩)
    |exact⟨h,rfl⟩
    |cases h
  show x8 _ c::yc _ l=_;rw[key.2,w6 key.1];rfl
theorem zOH{J:Nat->Int}{n:Nat}{z:Int}{q:SRule}(h1:zBs n q.x.l=true)(h2:zTD n q.v=true)(h:zi J q):zi (upV J n z) q:=by
 have old:zAk J q->zAk (upV J n z) q:=by
  intro h;obtain⟨u,g1,g2,g3⟩:=h;refine⟨u,g1,?_,?_⟩
  . rw[vZ h1]; exact g2
  . rcases g3 with g3 |⟨e,g3,g4⟩
    . exact .inl g3
    . refine .inr ⟨e,g3,?_⟩;rw[g3]at h2;rw[vZ (e:=e) h2]; exact g4
 unfold zi at h ⊢;split at h
 . unfold zCa at h ⊢;split at h
   . rename_i m l hv;rw[hv]at h2
     have:=w6 (J:=J) (z:=z) (show yi n (m::l)=true from h2)
     have e1:x8 (upV J n z) m=x8 J m:=by injection this
     have e2:yc (upV J n z) l=yc J l:=by injection this
     rw[vZ h1,e1,e2]; exact h
   . exact h.elim
 . unfold zB7 at h ⊢;split at h
   . rename_i l hv;rw[hv]at h2;rw[vZ h1,w6 (show yi n l=true from h2)]; exact h
   . exact h.elim
 . unfold zB5 at h ⊢;split at h
   . rename_i l hv;rw[hv]at h2;rw[vZ h1,w6 (show yi n l=true from h2)]; exact h
   . exact h.elim
 . unfold zAb at h ⊢;split at h
   . rename_i w hv;rw[hv]at h2;rw[w6 (show yi n w=true from h2)]; exact h
   . exact h.elim
 . unfold ua at h ⊢;split at h
   . rename_i a b hv;rw[hv]at h2
     have:=w6 (J:=J) (z:=z) (show yi n [a,b]=true from h2)
     have e1:x8 (upV J n z) a=x8 J a:=by injection this
     have e2:yc (upV J n z) [b]=yc J [b]:=by injection this
     have e3:x8 (upV J n z) b=x8 J b:=by injection e2
     rw[vZ h1,e1,e3]; exact h
   . exact h.elim
 . exact old h
theorem zE6{J:Nat->Int}{n:Nat}{z:Int}:∀{r:List SRule},zHS n r=true->yV J r->yV (upV J n z) r
 | [],_,_=>trivial|q::r,h,hr=>by unfold zHS at h;rw[Bool.and_eq_true,Bool.and_eq_true]at h;exact⟨zOH h.1.1 h.1.2 hr.1,zE6 h.2 hr.2⟩
theorem zDt{J:Nat->Int}{n:Nat}{z:Int}:∀{b:List (Int × Int)} {k:Nat},k+b.length<=n->zk J k b->zk (upV J n z) k b
 | [],_,_,_=>trivial|q::r,k,h,hb=>by simp only[List.length_cons]at h;refine⟨?_,zDt (by omega) hb.2⟩;rw[upd_other (by omega)]; exact hb.1
theorem xG{J:Nat->Int}{lo hi:Int}:∀{b:List (Int × Int)} {k:Nat},zk J k b->lo<=J (k+b.length)->J (k+b.length)<=hi->zk J k (b++[(lo,hi)])
 | [],k,_,h1,h2=>⟨⟨h1,h2⟩,trivial⟩
 |q::r,k,hb,h1,h2=>by
  simp only[List.length_cons]at h1 h2;have e:k+1+r.length=k+(r.length+1):=by omega
  exact⟨hb.1,xG hb.2 (by rw[e]; exact h1) (by rw[e]; exact h2)⟩
def uG(J J':Nat->Int):List CV->Prop
 | []=>True|.sym e::r=>evL J' e.l=evL J e.l/\uG J J' r|.win _ _ e m::r=>evL J' e.l=evL J e.l/\evL J' m.l=evL J m.l/\uG J J' r|_::r=>uG J J' r
def zOR(wins:List Win)(w0:World)(i:Int)(J:Nat->Int)(l:List (Key × List CV)):Prop:=
 ∀q∈l,∀J' K',ArgsAre K'.arg wins->uG J J' q.2->zB9 (linSym J' K') wins w0 i q
theorem wY{J:Nat->Int}:∀{l:List CV},uG J J l
 | []=>trivial|c::r=>by
  unfold uG;split
  . trivial
  . rename_i h; injection h with h1 h2; subst h1 h2; exact⟨rfl,wY⟩
  . rename_i h; injection h with h1 h2; subst h1 h2; exact⟨rfl,rfl,wY⟩
  . rename_i h; injection h with h1 h2; subst h1 h2; exact wY
theorem kh{J J':Nat->Int}{n:Nat}{z:Int}:∀{l:List CV},yi n l=true->uG (upV J n z) J' l->uG J J' l
 | [],_,_=>trivial|.sym e::r,h,hs=>by unfold yi at h;rw[Bool.and_eq_true]at h;obtain⟨h1,h2⟩:=hs;rw[zBL h.1]at h1;exact⟨h1,kh h.2 h2⟩
 |.win _ _ e m::r,h,hs=>by unfold yi at h;rw[Bool.and_eq_true,Bool.and_eq_true]at h;obtain⟨h1,h2,h3⟩:=hs;rw[zBL h.1.1]at h1;rw[zBL h.1.2]at h2;exact⟨h1,h2,kh h.2 h3⟩
 |.nilsl::r,h,hs=>kh (l:=r) (by simpa [yi]using h) hs|.sl .. :: r,h,hs=>kh (l:=r) (by simpa [yi]using h) hs|.bool b::r,h,hs=>kh (l:=r) (by simpa [yi]using h) hs|.nat _::_,h,_=>by simp[yi]at h|.int _ _::_,h,_=>by simp[yi]at h|.anyi _::_,h,_=>by simp[yi]at h|.str _::_,h,_=>by simp[yi]at h|.nilptr::_,h,_=>by simp[yi]at h|.ptr _ _::_,h,_=>by simp[yi]at h|.nilmap::_,h,_=>by simp[yi]at h|.map _::_,h,_=>by simp[yi]at h|.func .. :: _,h,_=>by simp[yi]at h|.nilfunc::_,h,_=>by simp[yi]at h|.iface .. :: _,h,_=>by simp[yi]at h|.niliface::_,h,_=>by simp[yi]at h|.agg _::_,h,_=>by simp[yi]at h|.tup _::_,h,_=>by simp[yi]at h|.sst _::_,h,_=>by simp[yi]at h|.few .. :: _,h,_=>by simp[yi]at h|.elt .. :: _,h,_=>by simp[yi]at h|.any::_,h,_=>by simp[yi]at h
theorem zN7{wins:List Win}{w0:World}{i:Int}{J:Nat->Int}{n:Nat}{z:Int}{l:List (Key × List CV)}(h:zEa n l=true)(hw:zOR wins w0 i J l):zOR wins w0 i (upV J n z) l:=by
 intro q hq J' K' hA hs
 have:∀{l:List (Key × List CV)},zEa n l=true->q∈l->yi n q.2=true:=by
  intro l;induction l with
  |nil=>intro _ hq; cases hq
  |cons x r ih=>
   intro h hq;unfold zEa at h;rw[Bool.and_eq_true]at h;rcases List.mem_cons.1 hq with rfl |hq
   . exact h.1
   . exact ih h.2 hq
 exact hw q hq J' K' hA (kh (this h hq) hs)
structure wz(wins:List Win)(w0:World)(i:Int)(J:Nat->Int)(e:Lf):Prop where
 b:zk J 0 e.b
 f:xI J e.f
 r:yV J e.r
 w:zOR wins w0 i J e.l
theorem zX2{J:Nat->Int}{c:Int}{v n:Nat}(h0:0<=J v+c)(h1:J v+c<=1000)(hn:J n=(J v+c) / 10):zi J ⟨.quo,⟨.i64,c,[(v,1)]⟩,10,.sym (sv n)⟩:=by
 refine⟨_,.inl rfl,?_,.inr ⟨sv n,rfl,rfl⟩⟩;have e1:evE J ⟨.i64,c,[(v,1)]⟩=J v+c:=by show c+(1*J v+0)=_;omega
 show yR .quo .i64 (evE J ⟨.i64,c,[(v,1)]⟩) (.ofNat 10)=some (mkInt .i64 (evE J (sv n)));rw[xn,hn,e1];show some (mkInt .i64 (yz .i64 ((J v+c).tdiv 10)))=_;rw[Int.tdiv_eq_ediv_of_nonneg h0,kD .i64 (by show(-9223372036854775808:Int)<=_; omega) (by show _<=(9223372036854775807:Int); omega)]
theorem zXZ{J:Nat->Int}{c:Int}{v n:Nat}(h0:0<=J v+c)(h1:J v+c<=1000)(hn:J n=(J v+c) % 10):zi J ⟨.rem,⟨.i64,c,[(v,1)]⟩,10,.sym (sv n)⟩:=by
 refine⟨_,.inl rfl,?_,.inr ⟨sv n,rfl,rfl⟩⟩;have e1:evE J ⟨.i64,c,[(v,1)]⟩=J v+c:=by show c+(1*J v+0)=_;omega
 show yR .rem .i64 (evE J ⟨.i64,c,[(v,1)]⟩) (.ofNat 10)=some (mkInt .i64 (evE J (sv n)));rw[xn,hn,e1];show some (mkInt .i64 ((J v+c).tmod 10))=_;rw[Int.tmod_eq_emod_of_nonneg h0]
theorem wz.known{wins:List Win}{w0:World}{i:Int}{J:Nat->Int}{e:Lf}(h:wz wins w0 i J e)(A:Key->Option Value):KnownOk J (e.known A):=zBY h.b h.f h.r
theorem wz.upd{wins:List Win}{w0:World}{i:Int}{J:Nat->Int}{e:Lf}(h:wz wins w0 i J e){n:Nat}(hn:e.free n=true)(z:Int):wz wins w0 i (Go.Ev.upV J n z) e:=by unfold Lf.free at hn;simp only[Bool.and_eq_true]at hn;obtain⟨⟨⟨h1,h2⟩,h3⟩,h4⟩:=hn;exact⟨zDt (by have:=@zH noSym _ _ h4; omega) h.b,zFc h1 h.f,zE6 h2 h.r,zN7 h3 h.w⟩
def zEi(a b:Option (List Lf)):Option (List Lf):=match a,b with
 |some x,some y=>some (x++y)|_,_=>none
def zGl(m:Nat)(g:Nat->Option (List Lf)):Option (List Lf):=Nat.rec (motive:=λ_=>Option (List Lf)) (g 0) (λj ih=>zEi ih (g (Nat.succ j))) m
def zKk(e:Lf)(l:LL):Option (Int × Int):=rng (e.known (λ_=>none)) l
def zLZ(e:Lf)(j:Nat):Bool:=match zKk e [(0,1),(Nat.succ j,-1)],zKk e [(0,1)]with
 |some p,some q=>decide (p.2<0)&&decide (0<=q.1)|_,_=>false
def zV3(e:Lf)(q:LL × Int × Int):Lf:={ e with f:=q::e.f }
def uN(e:Lf)(q:SRule):Lf:={ e with r:=q::e.r }
def zMD(e:Lf)(q:Key × List CV):Lf:={ e with l:=q::e.l }
def zEl(e:Lf)(lo hi:Int):Lf:={ e with b:=e.b++[(lo,hi)] }
def zYH(e:Lf):Lf:={ e with u:=Nat.succ e.u }
def xq(b:Bool)(o:Option (List Lf)):Option (List Lf):=match b with
 |true=>o|false=>none
def zBH(lo hi:Int)(o:Option (List Lf)):Option (List Lf):=match decide (hi<lo)with
 |true=>some []|false=>o
def wb(b:List (Int × Int))(v:Nat)(q:Int × Int):List (Int × Int):=match b with
 | []=>[]
 |x::r=>match v with
  | 0=>q::r|v+1=>x::wb r v q
def zCj(e:Lf)(v:Nat)(z:Int):Lf:={ e with b:=wb e.b v (z,z) }
def byV:Nat->Nat->List CV
 | 0,_=>[]
 |n+1,v=>.sym ⟨.u8,0,[(v,1)]⟩::byV n (Nat.succ v)
def byB:Nat->List (Int × Int)
 | 0=>[]
 |n+1=>(0,255)::byB n
def zXn(e:Lf)(n:Nat):Lf:={ e with b:=e.b++byB n }
def vI(e:Lf):Nat->Nat->Bool
 | 0,_=>true|m+1,n=>zHp n e.f&&zHS n e.r&&zEa n e.l&&vI e m (Nat.succ n)
def zYe(e:Lf)(n:Nat):Bool:=match nth e.b 0 with
 |some q=>decide (q.1=.ofNat n)&&decide (q.2=.ofNat n)|none=>false
def wVs:Nat->Nat->List CV
 | 0,_=>[]
 |n+1,u=>.sym (sv u)::wVs n (Nat.succ u)
def wRs(f B u:Nat):Nat->Nat->List SRule
 |_,0=>[]
 |t,n+1=>rv .rem (Nat.add u t) 3 (.sym ⟨.i64,0,[(Nat.succ (Nat.add f t),1),(Nat.add B t,3)]⟩)::wRs f B u (Nat.succ t) n
def zLH(q:Int × Int):Nat->List (Int × Int)
 | 0=>[]
 |n+1=>q::zLH q n
def zWc(ks:List (Key × Kd))(f:Nat):Nat->Nat->Bool
 |_,0=>true|t,n+1=>(match nth ks (Nat.add f t)with
  |some (_,.q)=>true|_=>false)&&zWc ks f (Nat.succ t) n
def wLf(e:Lf)(k:Key)(f n:Nat):Lf:=⟨e.b++zLH (-1,0) n,e.f,wRs f e.b.length e.u 0 n++e.r,(k,wVs n e.u)::e.l,Nat.add e.u n⟩
def zOk(e:Lf)(v:Nat)(lo hi:Int):Lf:={ e with b:=wb e.b v (lo,hi) }
def zGn(e:Lf)(c:Int)(v:Nat)(q:Int × Int):Lf:=uN (zEl e ((q.1+c) / 10) ((q.2+c) / 10)) ⟨.quo,⟨.i64,c,[(v,1)]⟩,10,.sym (sv e.b.length)⟩
def zYS(e:Lf)(c:Int)(v n:Nat):Lf:=uN (zEl e 0 9) ⟨.rem,⟨.i64,c,[(v,1)]⟩,10,.sym (sv n)⟩
def neR(c:Int)(l:LL):SRule:=⟨.eql,⟨.i64,c,l⟩,0,.bool false⟩
def jV(ss:List Nat):List CV:=ss.map λs=>.sym (sv s)
def zXO(v n:Nat)(ss:List Nat)(r:List SRule):List SRule:=match ss with
 | []=>r|s::ss=>neR 0 [(v,-1),(s,1),(n,-1)]::zXO v n ss r
def zWR(v:Nat)(ss:List Nat)(c:Nat)(q:SRule):Bool:=match q.op,q.v with
 |.sub,.agg l=>zK4 v q.x&&Nat.beq q.c c&&CV.beqs l (jV ss)|_,_=>false
def zKG(v:Nat)(ss:List Nat)(c:Nat):List SRule->Bool
 | []=>false|q::r=>zWR v ss c q || zKG v ss c r
def zVf(n:Nat):List Nat->Bool
 | []=>true|x::l=>!(Nat.beq x n)&&zVf n l
def zWI(e:Lf)(v:Nat)(ss:List Nat)(c:Nat)(q:Int × Int):Lf:=
 { zEl e 1 (min (Int.ofNat c+1 - q.1) (Int.ofNat (Nat.succ ss.length)))with f:=([(v,1),(e.b.length,1)],q.1+1,Int.ofNat c+1)::([(v,-1),(e.b.length,-1)],-(Int.ofNat c+1),-(q.1+1))::e.f,r:=zXO v e.b.length ss (⟨.add,⟨.i64,0,[(v,1),(e.b.length,1)]⟩,0,.agg (.sym (sv v)::jV ss)⟩::e.r) }
def zWC(v n:Nat)(ss:List Nat)(q:SRule):Bool:=match q.op,q.v with
 |.add,.agg (.sym m::l)=>zK4 v m&&kEq q.x.k .i64&&zm q.x.c 0&&j9 q.x.l [(v,1),(n,1)]&&CV.beqs l (jV ss)|_,_=>false
def zKc(v n:Nat)(ss:List Nat):List SRule->Bool
 | []=>false|q::r=>zWC v n ss q || zKc v n ss r
def zFQ(v:Nat)(ss:List Nat)(l:Nat):SRule:=⟨.mul,⟨.i64,Int.ofNat l,[(v,1)]⟩,0,.agg (jV ss)⟩
def maxR(a b m:Nat):SRule:=⟨.leq,sv m,0,.agg [.sym (sv a),.sym (sv b)]⟩
def zUj(e:Lf)(a b:Nat)(p q:Int × Int):Lf:=
 { zEl e (max p.1 q.1) (max p.2 q.2)with f:=([(a,1),(e.b.length,-1)],p.1 - max p.2 q.2,0)::([(b,1),(e.b.length,-1)],q.1 - max p.2 q.2,0)::e.f,r:=maxR a b e.b.length::e.r }
def zJf(v:Nat):List SRule->Option (Nat × Nat)
 | []=>none|r::rs=>match r.op,r.v with
  |.leq,.agg [.sym x,.sym y]=>match x.l,y.l with
   | [p],[q]=>match zK4 v r.x&&zK4 p.1 (.mk x.k x.c x.l)&&zK4 q.1 (.mk y.k y.c y.l)with
    |true=>some (p.1,q.1)|false=>zJf v rs
   |_,_=>zJf v rs
  |_,_=>zJf v rs
def zLq(rs:List SRule):Nat->Nat->List Nat
 | 0,v=>[v]
 |k+1,v=>match zJf v rs with
  |some p=>zLq rs k p.1++zLq rs k p.2|none=>[v]
def zU7(x:Nat):List Nat->Bool
 | []=>false|y::l=>Nat.beq x y || zU7 x l
def zNp:List Nat->List Nat->Bool
 | [],_=>true|x::l,m=>zU7 x m&&zNp l m
def zXG(B:Nat)(d:Int):Nat->Nat->List (LL × Int × Int)
 |_,0=>[]
 |i,k+1=>([(Nat.add B i,-1),(Nat.add B (Nat.add i (Nat.succ k)),1)],0,d)::zXG B d i k
def ascA(B:Nat)(d:Int):Nat->Nat->List (LL × Int × Int)
 |_,0=>[]
 |i,k+1=>zXG B d i k++ascA B d (Nat.succ i) k
def seqN:Nat->Nat->List Nat
 |_,0=>[]
 |v,k+1=>v::seqN (Nat.succ v) k
def srtRule(B m:Nat)(ss:List Nat):SRule:=⟨.lss,⟨.i64,0,[]⟩,m,.agg (jV (seqN B m)++jV ss)⟩
def zWQ(e:Lf)(ss:List Nat)(lo hi:Int):Lf:=⟨e.b++zLH (lo,hi) ss.length,ascA e.b.length (hi - lo) 0 ss.length++e.f,srtRule e.b.length ss.length ss::e.r,e.l,e.u⟩
def zFL(b:List (Int × Int))(lo hi:Int):List Nat->Bool
 | []=>true|s::ss=>(match nth b s with
  |some q=>decide (lo<=q.1)&&decide (q.2<=hi)|none=>false)&&zFL b lo hi ss
def zWx(ys ss:List Nat)(q:SRule):Bool:=match q.op,q.v with
 |.lss,.agg w=>Nat.beq q.c ys.length&&CV.beqs w (jV ys++jV ss)|_,_=>false
def zK3(ys ss:List Nat):List SRule->Bool
 | []=>false|q::r=>zWx ys ss q || zK3 ys ss r
def zV9(e:Lf)(n:Nat):List Nat->Option Nat
 | []=>some 0|y::ys=>match zKk e [(y,1)],zV9 e n ys with
  |some q,some k=>match decide (q.1=.ofNat n)&&decide (q.2=.ofNat n)with
   |true=>some (Nat.succ k)|false=>match decide (q.2 < .ofNat n) || decide (.ofNat n<q.1)with
    |true=>some k|false=>none
  |_,_=>none
def zIX(g:Lf->Option (List Lf))(n:Nat):List Nat->Nat->Lf->Option (List Lf)
 | [],0,e=>g e| [],_+1,_=>some []|s::ss,0,e=>zIX g n ss 0 (uN e (neR (-Int.ofNat n) [(s,1)]))|s::ss,k+1,e=>zEi (zIX g n ss k (zCj e s (.ofNat n))) (zIX g n ss (k+1) (uN e (neR (-Int.ofNat n) [(s,1)])))
def zVG(v l:Nat)(ss:List Nat)(r:List SRule):List SRule:=match ss with
 | []=>r|s::ss=>neR (-Int.ofNat l) [(s,1),(v,-1)]::zVG v l ss r
def leaves(ks:List (Key × Kd)):LTree->Lf->Option (List Lf)
 |.leaf,e=>some [e]|.cmp l cut a b,e=>match zKk e l with
  |none=>none|some q=>zEi (zBH q.1 (min q.2 (cut - 1)) (leaves ks a (zV3 e (l,q.1,min q.2 (cut - 1))))) (zBH (max q.1 cut) q.2 (leaves ks b (zV3 e (l,max q.1 cut,q.2))))
 |.and v m ts,e=>xq (Nat.ble m 127) (zGl m λj=>leaves ks (ts j) (uN e (rv .and v m (mkInt .i64 (.ofNat j)))))|.rem v m ts,e=>zGl (2*m) λj=>leaves ks (ts j) (uN e (rv .rem v (m+1) (mkInt .i64 (Int.ofNat j - Int.ofNat m))))
 |.remn v m ts,e=>match zKk e [(v,1)]with
  |none=>none|some q=>xq (decide (0<=q.1)) (zGl m λj=>leaves ks (ts j) (uN e (rv .rem v (m+1) (mkInt .i64 (.ofNat j)))))
 |.bit v t a b,e=>xq (Nat.ble t 6) (zEi (leaves ks a (uN e (rv .and v (2 ^ t) (mkInt .i64 (.ofNat 0))))) (leaves ks b (uN e (rv .and v (2 ^ t) (mkInt .i64 (.ofNat (2 ^ t)))))))|.shr v c t,e=>xq (e.free e.u && !(Nat.beq v e.u)) (leaves ks t (uN (zYH e) (rv .shr v c (.sym (sv e.u)))))|.mask v m t,e=>xq (e.free e.b.length && !(Nat.beq v e.b.length)&&Nat.ble m 4294967295&&Nat.ble (Nat.succ e.b.length) 1000) (leaves ks t (uN (zEl e 0 (.ofNat m)) (rv .and v m (.sym (sv e.b.length)))))|.join h g a b t,e=>xq (zOm e.r h g a b) (leaves ks t { e with r:=zS9 h a b e.r })|.cellI j t,e=>match nth ks j with
  |some (k,.i)=>xq (zLZ e j&&e.free e.u) (leaves ks t (zMD (zYH e) (k,[.sym (sv e.u)])))|_=>none
 |.cellB j a b,e=>match nth ks j with
  |some (k,.b)=>xq (zLZ e j) (zEi (leaves ks a (zMD e (k,[.bool false]))) (leaves ks b (zMD e (k,[.bool true]))))|_=>none
 |.pin v ts,e=>match nth e.b v with
  |some q=>zGl (q.2 - q.1).toNat λj=>leaves ks (ts j) (zCj e v (q.1+Int.ofNat j))
  |none=>none
 |.shrb v c t,e=>match nth e.b v with
  |some q=>xq (e.free e.b.length && !(Nat.beq v e.b.length)&&Nat.ble (Nat.succ e.b.length) 1000&&decide (0<=q.1)&&Nat.ble c 60) (leaves ks t (uN (zEl e (q.1 / 2 ^ c) (q.2 / 2 ^ c)) (rv .shr v c (.sym (sv e.b.length)))))|none=>none
 |.cmpb v cut a b,e=>match zKk e [(v,1)]with
  |none=>none|some q=>zEi (zBH q.1 (min q.2 (cut - 1)) (leaves ks a (zOk e v q.1 (min q.2 (cut - 1))))) (zBH (max q.1 cut) q.2 (leaves ks b (zOk e v (max q.1 cut) q.2)))
 |.dec c v t,e=>match nth e.b v with
  |some q=>xq (e.free e.b.length && !(Nat.beq v e.b.length)&&Nat.ble (Nat.add e.b.length 2) 1000&&decide (0<=q.1+c)&&decide (q.2+c<=1000))
   (xq ((zGn e c v q).free (Nat.succ e.b.length) && !(Nat.beq v (Nat.succ e.b.length))) (leaves ks t (zYS (zGn e c v q) c v (Nat.succ e.b.length))))
  |none=>none
 |.ne c l a b,e=>zEi (leaves ks a (zV3 e (l,-c,-c))) (leaves ks b (uN e (neR c l)))|.fre v ss c t,e=>match nth e.b v with
  |some q=>xq (e.free e.b.length&&zVf e.b.length (v::ss)&&Nat.ble (Nat.succ e.b.length) 1000&&zKG v ss c e.r) (leaves ks t (zWI e v ss c q))|none=>none
 |.innl v n ss l t,e=>match nth e.b n with
  |some q=>xq (zKc v n ss e.r&&Nat.ble 1 l&&decide (Int.ofNat l<q.1)) (leaves ks t (uN e (zFQ v ss l)))|none=>none
 |.isin v l ss a b,e=>zEi (leaves ks a (uN e (zFQ v ss l))) (leaves ks b { e with r:=zVG v l ss e.r })|.maskz v m a t,e=>xq (e.free e.b.length && !(Nat.beq v e.b.length)&&Nat.ble m 4294967295&&Nat.ble (Nat.succ e.b.length) 1000) (zEi (leaves ks a (uN e (rv .and v m (mkInt .i64 (.ofNat 0))))) (leaves ks t (uN (zEl e 1 (.ofNat m)) (rv .and v m (.sym (sv e.b.length))))))|.remv v m t,e=>xq (e.free e.b.length && !(Nat.beq v e.b.length)&&Nat.ble (Nat.succ e.b.length) 1000) (leaves ks t (uN (zEl e (-Int.ofNat m) (.ofNat m)) (rv .rem v (m+1) (.sym (sv e.b.length)))))|.w3 v t,e=>xq (e.free e.b.length&&e.free (Nat.succ e.b.length) && !(Nat.beq v e.b.length) && !(Nat.beq v (Nat.succ e.b.length))&&Nat.ble (Nat.add e.b.length 2) 1000)
  (leaves ks t (uN (zEl (zEl e 0 2) (-1) 0) (rv .rem v 3 (.sym ⟨.i64,0,[(e.b.length,1),(Nat.succ e.b.length,3)]⟩))))
 |.nar v t,e=>match zKk e [(v,1)]with
  |some q=>leaves ks t (zOk e v q.1 q.2)|none=>none
 |.max1 a b t,e=>match nth e.b a,nth e.b b with
  |some p,some q=>xq (e.free e.b.length && !(Nat.beq a e.b.length) && !(Nat.beq b e.b.length)&&Nat.ble (Nat.succ e.b.length) 1000) (leaves ks t (zUj e a b p q))|_,_=>none
 |.eqm a b t,e=>xq (zNp (zLq e.r 10 a) (zLq e.r 10 b)&&zNp (zLq e.r 10 b) (zLq e.r 10 a)) (leaves ks t (zV3 e ([(a,1),(b,-1)],0,0)))|.srtv ss lo hi t,e=>xq (vI e ss.length e.b.length&&Nat.ble (Nat.add e.b.length ss.length) 1000&&zFL e.b lo hi ss) (leaves ks t (zWQ e ss lo hi))|.subs n ys ss t,e=>match zV9 e n ys with
  |some k=>xq (zK3 ys ss e.r) (zIX (leaves ks t) n ss k e)|none=>none
 |.rows j n m t0 ts tz,e=>match nth ks j with
  |some (k,.r f)=>match nth ks (Nat.add f n)with
   |some (ki,.y)=>xq (zLZ e j&&zYe e n&&Nat.ble (Nat.succ n) 8&&vI e m e.b.length&&Nat.ble (Nat.add e.b.length m) 1000&&Nat.ble (Nat.succ (Nat.add f n)) ks.length)
    (zEi (leaves ks t0 (zMD (zCj e (Nat.succ (Nat.add f n)) 0) (k,[.win ki 1 ⟨.i64,0,[]⟩ ⟨.i64,0,[]⟩])))
    (zEi (zGl m λl=>leaves ks (ts l) (zMD (zMD (zCj (zXn e l) (Nat.succ (Nat.add f n)) (.ofNat l)) (ki,byV l e.b.length)) (k,[.sl ki 0 l l 1 false])))
      (match nth e.b (Nat.succ (Nat.add f n))with
        |some q=>leaves ks tz (zMD (zMD { zXn e m with b:=wb (zXn e m).b (Nat.succ (Nat.add f n)) (.ofNat (Nat.succ m),q.2) } (ki,byV m e.b.length)) (k,[.win ki 1 ⟨.i64,0,[]⟩ (sv (Nat.succ (Nat.add f n)))]))|none=>none)))
   |_=>none
  |_=>none
 |.wcells j n t,e=>match nth ks j with
  |some (k,.w f)=>match zKk e [(Nat.succ j,1)]with
   |some q=>xq (decide (Int.ofNat n<=q.1)&&vI e n e.u&&vI e n e.b.length&&Nat.ble (Nat.add e.b.length n) 1000&&zWc ks f 0 n&&Nat.ble (Nat.add f n) ks.length&&Nat.ble n 8&&Nat.ble 1 n) (leaves ks t (wLf e k f n))|none=>none
  |_=>none
structure zJ7(W:World)(v:Value)(wn:Win):Prop where
 val:v=.slice wn.base wn.len wn.cap
 base:wn.len=0/\wn.cap=0\/wn.base=some ⟨wn.B,wn.x,none⟩/\∃arr elem fz,W.heap[wn.B]? = some (.cells arr elem fz)/\wn.x<=arr.size
 cell:∀i,i<wn.len->∃arr elem fz q,W.heap[wn.B]? = some (.cells arr elem fz)/\wn.x+i+1<=arr.size/\arr[wn.x+i]? = some (.int .u8 q)/\0<=q/\q<=255
 size:wn.sz=wn.x+wn.cap*1
 stay:wn.esz=0
 cap:wn.len<=wn.cap
structure zXo(W:World)(v:Value)(wn:Win):Prop where
 val:v=.slice wn.base wn.len wn.cap
 base:0<wn.len->wn.base=some ⟨wn.B,wn.x,none⟩
 size:wn.sz=wn.x+wn.cap*1
def zVw(w0:World)(v:Value)(wn:Win):Kd->Prop
 |.i=>wn.esz=1/\IntArg w0 v wn|.b=>wn.esz=1/\zPl w0 v wn|.r _=>wn.esz=1/\zXo w0 v wn|.y=>zJ7 w0 v wn|.w _=>wn.esz=0|.q=>True
structure WinIs(wins:List Win)(w0:World)(J:Nat->Int)(ks:List (Key × Kd)):Prop where
 len:∀j k,nth ks j=some k->∃wn v,findW wins wn.key=some wn/\wn.key=k.1/\J (Nat.succ j)=wn.len/\zVw w0 v wn k.2
 row:∀j k f n ki wn wi,nth ks j=some (k,.r f)->nth ks (Nat.add f n)=some (ki,.y)->findW wins k=some wn->findW wins ki=some wi->n<wn.len->n<8 ->
  ∃arr elem fz,w0.heap[wn.B]? = some (.cells arr elem fz)/\wn.x+n+1<=arr.size/\arr[wn.x+n]? = some (.slice wi.base wi.len wi.cap)
 int:∀j k f wn t,nth ks j=some (k,.w f)->findW wins k=some wn->t<wn.len->t<8 ->
  ∃arr elem fz z,w0.heap[wn.B]? = some (.cells arr elem fz)/\wn.x+t+1<=arr.size/\arr[wn.x+t]? = some (.int .i64 z)/\∀kq wq,nth ks (Nat.add f t)=some (kq,.q)->findW wins kq=some wq->(wq.len:Int)=wI z
theorem WinIs.upd{wins:List Win}{w0:World}{J J':Nat->Int}{ks:List (Key × Kd)}(h:WinIs wins w0 J ks)(hs:∀j,j<=ks.length->J' j=J j):WinIs wins w0 J' ks:=
 ⟨λj k hj=>by
  obtain⟨wn,v,q1,q2,q4,q5⟩:=h.len j k hj;have hlt:j<ks.length:=by rw[@nth_eq noSym]at hj;exact(List.getElem?_eq_some_iff.1 hj).1
  exact⟨wn,v,q1,q2,by rw[hs _ (by omega)]; exact q4,q5⟩,h.row,h.int⟩
theorem zRr{w0:World}{J:Nat->Int}:WinIs [] w0 J []:=⟨λj k hj=>by(cases j <;> cases hj),λj k f n ki wn wi hj=>by(cases j <;> cases hj),λj k f wn t hj=>by(cases j <;> cases hj)⟩
def upN(J:Nat->Int)(n:Nat)(g:Nat->Int):Nat->Nat->Int
 | 0=>J|m+1=>upV (upN J n g m) (n+m) (g m)
theorem wE{J:Nat->Int}{n:Nat}{g:Nat->Int}:∀{m i:Nat},(i<n\/n+m<=i)->upN J n g m i=J i
 | 0,_,_=>rfl|m+1,i,h=>by show upV (upN J n g m) (n+m) (g m) i=J i;rw[upd_other (by omega),wE (by omega)]
theorem zA8{J:Nat->Int}{n:Nat}{g:Nat->Int}:∀{m t:Nat},t<m->upN J n g m (n+t)=g t
 |m+1,t,h=>by
  show upV (upN J n g m) (n+m) (g m) (n+t)=g t;by_cases e:t=m
  . subst e; exact upd_same
  . rw[upd_other (by omega),zA8 (by omega)]
theorem wM{e:Lf}:∀{m n:Nat},vI e m n=true->e.b.length<=n->∀t,t<m->e.free (n+t)=true
 |m+1,n,h,hn,t,ht=>by
  unfold vI at h;simp only[Bool.and_eq_true]at h;obtain⟨⟨⟨h1,h2⟩,h3⟩,h4⟩:=h;cases t with
  |zero=>unfold Lf.free;simp only[Bool.and_eq_true,Nat.add_zero];exact⟨⟨⟨h1,h2⟩,h3⟩,Nat.ble_eq_true_of_le hn⟩|succ t=>rw[show n+(t+1)=n+1+t from by omega];exact wM h4 (by omega) t (by omega)
theorem wz.updN{wins:List Win}{w0:World}{i:Int}{J:Nat->Int}{e:Lf}(h:wz wins w0 i J e){n:Nat}{g:Nat->Int}:∀{m:Nat},(∀t,t<m->e.free (n+t)=true)->wz wins w0 i (upN J n g m) e
 | 0,_=>h|m+1,hf=>(wz.updN h λt ht=>hf t (by omega)).upd (hf m (by omega)) (g m)
theorem vY{J:Nat->Int}:∀{m:Nat} {b:List (Int × Int)} {k:Nat},zk J k b->(∀t,t<m->0<=J (k+b.length+t)/\J (k+b.length+t)<=255)->zk J k (b++byB m)
 |m,[],k,_,h=>by
  have:∀{m k:Nat},(∀t,t<m->0<=J (k+t)/\J (k+t)<=255)->zk J k (byB m):=by
   intro m;induction m with
   |zero=>intro k _; exact trivial
   |succ m ih=>
    intro k h;exact⟨h 0 (by omega),ih λt ht=>by
     have:=h (t+1) (by omega)
     rwa [show k+(t+1)=k+1+t from by omega]at this⟩
  exact this λt ht=>by simpa using h t ht
 |m,q::r,k,hb,h=>⟨hb.1,vY (b:=r) (k:=k+1) hb.2 λt ht=>by
  have:=h t ht
  simp only[List.length_cons]at this
  rwa [show k+(r.length+1)+t=k+1+r.length+t from by omega]at this⟩
theorem zDk:∀{m:Nat},(byB m).length=m
 | 0=>rfl|m+1=>by simp[byB,zDk]
theorem zP8:∀{m v:Nat},(byV m v).length=m
 | 0,_=>rfl|m+1,v=>by simp[byV,zP8]
theorem zP7:∀{m v t:Nat} {c:CV},(byV m v)[t]? = some c->t<m/\c=.sym ⟨.u8,0,[(v+t,1)]⟩
 | 0,v,t,c,h=>by simp[byV]at h|m+1,v,0,c,h=>by simp[byV]at h;exact⟨by omega,h.symm⟩|m+1,v,t+1,c,h=>by
  have:=zP7 (m:=m) (v:=Nat.succ v) (t:=t) (c:=c) (by simpa [byV]using h)
  exact⟨by omega,by rw[this.2,show Nat.succ v+t=v+(t+1)from by omega]⟩
theorem zAl{J J':Nat->Int}:∀{m v:Nat},uG J J' (byV m v)->∀t,t<m->J' (v+t)=J (v+t)
 |m+1,v,h,0,_=>by
  have h1:evL J' [(v,1)]=evL J [(v,1)]:=h.1;have e:∀s:Nat->Int,evL s [(v,1)]=s v:=λs=>by show 1*s v+0=_; omega
  rw[e,e]at h1;exact h1
 |m+1,v,h,t+1,ht=>by
  have:=zAl (m:=m) (v:=Nat.succ v) h.2 t (by omega)
  rwa [show Nat.succ v+t=v+(t+1)from by omega]at this
theorem zHA{W:World}{v:Value}{wins:List Win}{wi:Win}(h:zJ7 W v wi)(hf:findW wins wi.key=some wi)(hb:∃arr elem fz,W.heap[wi.B]? = some (.cells arr elem fz)/\wi.x<=arr.size){m:Nat}(hm:m<=wi.len)(i:Int) :
 ∃g:Nat->Int,(∀t,t<m->0<=g t/\g t<=255)/\∀(J:Nat->Int) (K:zU) (n:Nat),(∀t,t<m->J (n+t)=g t)->zB9 (linSym J K) wins W i (wi.key,byV m n):=by
 obtain⟨arr,elem,fz,k1,k2⟩:∃arr elem fz,W.heap[wi.B]? = some (.cells arr elem fz)/\wi.x<=arr.size:=by exact hb
 have hcell:∀t,t<m->∃q,arr[wi.x+t]? = some (.int .u8 q)/\0<=q/\q<=255:=by intro t ht;obtain⟨arr',e',f',q,g1,g2,g3,g4,g5⟩:=h.cell t (by omega);rw[k1]at g1;injection g1 with g1;injection g1 with g1;subst g1;exact⟨q,g3,g4,g5⟩
 obtain⟨g,hg⟩:∃g:Nat->Int,∀t,t<m->arr[wi.x+t]? = some (.int .u8 (g t))/\0<=g t/\g t<=255:=
  ⟨λt=>if ht:t<m then(hcell t ht).choose else 0,λt ht=>by simp only[dif_pos ht]; exact(hcell t ht).choose_spec⟩
 refine⟨g,λt ht=>(hg t ht).2,λJ K n hs=>⟨wi,arr,elem,fz,hf,k1,?_,λj c hj=>?_⟩⟩
 . rw[h.stay,Nat.mul_zero,Nat.add_zero,zP8];rcases Nat.eq_zero_or_pos m with rfl |hp
   . exact k2
   . have:=(Array.getElem?_eq_some_iff.1 (hg (m - 1) (by omega)).1).1
     omega
 . obtain⟨ht,rfl⟩:=zP7 hj;refine⟨.int .u8 (g j),by rw[h.stay,Nat.mul_zero,Nat.add_zero]; exact(hg j ht).1,λY _=>?_⟩;refine(@zp (linSym J K) _ _ _).2 ?_;show Value.int .u8 (g j)=.int .u8 (evE J ⟨.u8,0,[(n+j,1)]⟩);rw[<- hs j ht];show _=Value.int .u8 (0+(1*J (n+j)+0))
   congr 1
   omega
theorem xy{a b:Option (List Lf)}{l:List Lf}(h:zEi a b=some l):∃x y,a=some x/\b=some y/\l=x++y:=by
 unfold zEi at h;split at h
 . injection h with h; exact⟨_,_,rfl,rfl,h.symm⟩
 . cases h
theorem w8{g:Nat->Option (List Lf)}:∀{m:Nat} {l:List Lf},zGl m g=some l->∀j,j<=m->∃x,g j=some x/\∀e∈x,e∈l
 | 0,l,h,j,hj=>by
  obtain rfl:j=0:=by omega
  exact⟨l,h,λe he=>he⟩
 |m+1,l,h,j,hj=>by
  obtain⟨x,y,h1,h2,rfl⟩:=xy (a:=zGl m g) (b:=g (m+1)) h;by_cases e:j=m+1
  . subst e; exact⟨y,h2,λe he=>List.mem_append_right _ he⟩
  . obtain⟨z,h3,h4⟩:=w8 h1 j (by omega);exact⟨z,h3,λe he=>List.mem_append_left _ (h4 e he)⟩
theorem yM{b:Bool}{o:Option (List Lf)}{l:List Lf}(h:xq b o=some l):b=true/\o=some l:=by
 unfold xq at h;split at h
 . exact⟨rfl,h⟩
 . cases h
theorem jH{lo hi:Int}{o:Option (List Lf)}{l:List Lf}(h:zBH lo hi o=some l)(hle:lo<=hi):o=some l:=by unfold zBH at h;rw[decide_eq_false (by omega)]at h;exact h
theorem xV:∀{b:List (Int × Int)} {v:Nat} {q:Int × Int},(wb b v q).length=b.length
 | [],_,_=>rfl|_::r,0,_=>rfl|_::r,v+1,_=>by simp[wb,xV (b:=r)]
theorem yq{J:Nat->Int}:∀{b:List (Int × Int)} {k v:Nat} {q:Int × Int},zk J k b->nth b v=some q->q.1<=J (k+v)/\J (k+v)<=q.2
 | [],_,_,_,_,h=>by cases h|x::r,k,0,q,hb,h=>by injection h with h; subst h;exact hb.1
 |x::r,k,v+1,q,hb,h=>by
  have:=yq hb.2 (v:=v) h
  rw[show k+1+v=k+(v+1)from by omega]at this;exact this
theorem qf{J:Nat->Int}{z:Int}:∀{b:List (Int × Int)} {k v:Nat},zk J k b->J (k+v)=z->zk J k (wb b v (z,z))
 | [],_,_,_,_=>trivial|x::r,k,0,hb,h=>⟨by rw[<- h]; exact⟨Int.le_refl _,Int.le_refl _⟩,hb.2⟩
 |x::r,k,v+1,hb,h=>⟨hb.1,qf (b:=r) (k:=k+1) (v:=v) hb.2 (by rw[show k+1+v=k+(v+1)from by omega]; exact h)⟩
theorem xd{J:Nat->Int}{lo hi:Int}:∀{b:List (Int × Int)} {k v:Nat},zk J k b->lo<=J (k+v)->J (k+v)<=hi->zk J k (wb b v (lo,hi))
 | [],_,_,_,_,_=>trivial|x::r,k,0,hb,h1,h2=>⟨⟨h1,h2⟩,hb.2⟩
 |x::r,k,v+1,hb,h1,h2=>⟨hb.1,xd (b:=r) (k:=k+1) (v:=v) hb.2 (by rw[show k+1+v=k+(v+1)from by omega]; exact h1) (by rw[show k+1+v=k+(v+1)from by omega]; exact h2)⟩
section
variable{wins:List Win}{w0:World}{i:Int}{ks:List (Key × Kd)}
theorem wv{J:Nat->Int}{e:Lf}(h:wz wins w0 i J e){l:LL}{q:Int × Int}(hq:zKk e l=some q):q.1<=evL J l/\evL J l<=q.2:=
 yt (h.known _) hq
theorem vo{J:Nat->Int}{v:Nat}:evL J [(v,1)]=J v:=by show 1*J v+0=_; omega
theorem zGE{J:Nat->Int}{e:Lf}(h:wz wins w0 i J e){j:Nat}(hi:zLZ e j=true):0<=J 0/\J 0<J (Nat.succ j):=by
 unfold zLZ at hi;split at hi
 . rename_i p q hp hq;rw[Bool.and_eq_true,decide_eq_true_eq,decide_eq_true_eq]at hi;have g1:=(wv h hp).2;have g2:=(wv h hq).1;rw[vo]at g2;have e:evL J [(0,1),(Nat.succ j,-1)]=1*J 0+(-1*J (Nat.succ j)+0):=rfl;rw[e]at g1;omega
 . cases hi
theorem zPy:∀{m v:Nat},(wVs m v).length=m
 | 0,_=>rfl|m+1,v=>by simp[wVs,zPy]
theorem zQE:∀{m v t:Nat} {c:CV},(wVs m v)[t]? = some c->t<m/\c=.sym (sv (v+t))
 | 0,v,t,c,h=>by simp[wVs]at h|m+1,v,0,c,h=>by simp[wVs]at h;exact⟨by omega,h.symm⟩|m+1,v,t+1,c,h=>by
  have:=zQE (m:=m) (v:=Nat.succ v) (t:=t) (c:=c) (by simpa [wVs]using h)
  exact⟨by omega,by rw[this.2,show Nat.succ v+t=v+(t+1)from by omega]⟩
theorem zML{J J':Nat->Int}:∀{m v:Nat},uG J J' (wVs m v)->∀t,t<m->J' (v+t)=J (v+t)
 |m+1,v,h,0,_=>by
  have h1:evL J' [(v,1)]=evL J [(v,1)]:=h.1;have e:∀s:Nat->Int,evL s [(v,1)]=s v:=λs=>by show 1*s v+0=_; omega
  rw[e,e]at h1;exact h1
 |m+1,v,h,t+1,ht=>by
  have:=zML (m:=m) (v:=Nat.succ v) h.2 t (by omega)
  rwa [show Nat.succ v+t=v+(t+1)from by omega]at this
theorem zC2{q:Int × Int}:∀{m:Nat},(zLH q m).length=m
 | 0=>rfl|m+1=>by simp[zLH,zC2]
theorem zAJ{J:Nat->Int}{q:Int × Int}:∀{m:Nat} {b:List (Int × Int)} {k:Nat},zk J k b->(∀t,t<m->q.1<=J (k+b.length+t)/\J (k+b.length+t)<=q.2)->zk J k (b++zLH q m)
 |m,[],k,_,h=>by
  have:∀{m k:Nat},(∀t,t<m->q.1<=J (k+t)/\J (k+t)<=q.2)->zk J k (zLH q m):=by
   intro m;induction m with
   |zero=>intro k _; exact trivial
   |succ m ih=>
    intro k h;exact⟨h 0 (by omega),ih λt ht=>by
     have:=h (t+1) (by omega)
     rwa [show k+(t+1)=k+1+t from by omega]at this⟩
  exact this λt ht=>by simpa using h t ht
 |m,x::r,k,hb,h=>⟨hb.1,zAJ (b:=r) (k:=k+1) hb.2 λt ht=>by
  have:=h t ht
  simp only[List.length_cons]at this
  rwa [show k+(r.length+1)+t=k+1+r.length+t from by omega]at this⟩
theorem zQq{ks:List (Key × Kd)}{f:Nat}:∀{n t:Nat},zWc ks f t n=true->∀i,t<=i->i<t+n->∃kq,nth ks (Nat.add f i)=some (kq,.q)
 | 0,t,_,i,h1,h2=>by omega|n+1,t,h,i,h1,h2=>by
  unfold zWc at h;rw[Bool.and_eq_true]at h;rcases Nat.eq_or_lt_of_le h1 with rfl |h1
  . have h3:=h.1;split at h3
    . rename_i kq hk;exact⟨kq,hk⟩
    . cases h3
  . exact zQq h.2 i h1 (by omega)
theorem zUi{J:Nat->Int}{f B u:Nat}:∀{n t:Nat},(∀i,t<=i->i<t+n->zi J (rv .rem (Nat.add u i) 3 (.sym ⟨.i64,0,[(Nat.succ (Nat.add f i),1),(Nat.add B i,3)]⟩)))->∀{r:List SRule},yV J r->yV J (wRs f B u t n++r)
 | 0,_,_,_,hr=>hr|n+1,t,h,_,hr=>⟨h t (by omega) (by omega),zUi (n:=n) (t:=Nat.succ t) (λi h1 h2=>h i (by omega) (by omega)) hr⟩
theorem zEQ{J:Nat->Int}{c:Int}{l:LL}(h:c+evL J l≠0):zi J (neR c l):=by refine(zAO (r:=neR c l) rfl).2 ⟨.bool false,.inl rfl,?_,.inl rfl⟩;show some (CV.bool (zm (c+evL J l) (.ofNat 0)))=_;rw[@zX noSym,decide_eq_false (by simpa using h)]
theorem zCb{J:Nat->Int}:∀{ss:List Nat},yc J (jV ss)=ss.map J
 | []=>rfl|s::ss=>by show x8 J (.sym (sv s))::yc J (jV ss)=_;rw[zCb];show evE J (sv s)::_=_;rw[xn]; rfl
theorem zJc{J:Nat->Int}{v:Nat}{ss:List Nat}{c:Nat}:∀{r:List SRule},zKG v ss c r=true->yV J r->J v+jr (J v) (ss.map J)<=c
 | [],h,_=>by cases h|q::r,h,hr=>by
  unfold zKG at h;rw[Bool.or_eq_true]at h;rcases h with h |h
  . have hq:=hr.1;unfold zWR at h;split at h
    . rename_i l ho hv;simp only[Bool.and_eq_true]at h;obtain⟨⟨h1,h2⟩,h3⟩:=h;have h1:=zAg h1;have h2:=Nat.eq_of_beq_eq_true h2;have h3:=@CV.beqs_eq noSym _ _ h3;unfold zi at hq;rw[ho]at hq;have hq:zB7 J q:=hq;unfold zB7 at hq;rw[hv]at hq;have hq:evE J q.x+jr (evE J q.x) (yc J l)<=q.c:=hq;rw[h1,h3,zCb,xn,h2]at hq;exact hq
    . cases h
  . exact zJc h hr.2
theorem zPj{n:Nat}:∀{l:List Nat},zVf n l=true->∀x∈l,x≠n
 | [],_,x,hx=>by cases hx|y::l,h,x,hx=>by
  unfold zVf at h;rw[Bool.and_eq_true]at h;rcases List.mem_cons.1 hx with rfl |hx
  . intro e; rw[e]at h; simp at h
  . exact zPj h.2 x hx
theorem zQH{J:Nat->Int}{v n:Nat}:∀{ss:List Nat} {r:List SRule},(∀s∈ss,J s≠J v+J n)->yV J r->yV J (zXO v n ss r)
 | [],_,_,hr=>hr|s::ss,r,h,hr=>by
  refine⟨zEQ ?_,zQH (λx hx=>h x (by simp[hx])) hr⟩
  have:=h s (by simp)
  simp only[evL];omega
theorem zP1{J:Nat->Int}{v l:Nat}:∀{ss:List Nat} {r:List SRule},(∀s∈ss,J s≠J v+Int.ofNat l)->yV J r->yV J (zVG v l ss r)
 | [],_,_,hr=>hr|s::ss,r,h,hr=>by
  refine⟨zEQ ?_,zP1 (λx hx=>h x (by simp[hx])) hr⟩
  have:=h s (by simp)
  simp only[evL];omega
theorem zJP{J:Nat->Int}{v n:Nat}{ss:List Nat}:∀{r:List SRule},zKc v n ss r=true->yV J r->J v+J n=frA (J v) (ss.map J)
 | [],h,_=>by cases h|q::r,h,hr=>by
  unfold zKc at h;rw[Bool.or_eq_true]at h;rcases h with h |h
  . have hq:=hr.1;unfold zWC at h;split at h
    . rename_i m l ho hv;simp only[Bool.and_eq_true]at h;obtain⟨⟨⟨⟨h1,_⟩,h2⟩,h3⟩,h4⟩:=h;have h1:=zAg h1;rw[@zX noSym,decide_eq_true_eq]at h2;have h3:=@jJ noSym _ _ h3;have h4:=@CV.beqs_eq noSym _ _ h4;unfold zi at hq;rw[ho]at hq;have hq:zCa J q:=hq;unfold zCa at hq;rw[hv]at hq;have hq:evE J q.x=frA (evE J m) (yc J l):=hq;rw[h1,h4,zCb,xn]at hq;rw[<- hq];unfold evE;rw[h2,h3];simp only[evL];omega
    . cases h
  . exact zJP h hr.2
theorem zLp{J:Nat->Int}{v:Nat}:x8 J (.sym (sv v))=J v:=xn J v
theorem zCY{J:Nat->Int}{v:Nat}{p:Nat × Nat}:∀{rs:List SRule},yV J rs->zJf v rs=some p->J v=max (J p.1) (J p.2)
 | [],_,h=>by cases h|r::rs,hr,h=>by
  unfold zJf at h;split at h
  . rename_i x y ho hv;split at h
    . rename_i p0 q0 hx hy;split at h
      . rename_i hc;injection h with h; subst h;rw[Bool.and_eq_true,Bool.and_eq_true]at hc;have e1:=zAg hc.1.1;have e2:x=sv p0.1:=zAg hc.1.2;have e3:y=sv q0.1:=zAg hc.2;have hq:=hr.1;unfold zi at hq;rw[ho]at hq;have hq:ua J r:=hq;unfold ua at hq;rw[hv]at hq;have hq:evE J r.x=max (x8 J (.sym x)) (x8 J (.sym y)):=hq;rw[e1,e2,e3,zLp,zLp,xn]at hq;exact hq
      . exact zCY hr.2 h
    . exact zCY hr.2 h
  . exact zCY hr.2 h
theorem zFX{J:Nat->Int}{rs:List SRule}(hr:yV J rs):∀{k v:Nat},(∀x∈zLq rs k v,J x<=J v)/\∃x∈zLq rs k v,J x=J v
 | 0,v=>⟨λx hx=>by rw[List.mem_singleton.1 hx]; exact Int.le_refl _,v,List.mem_singleton.2 rfl,rfl⟩
 |k+1,v=>by
  unfold zLq;split
  . rename_i p hp;have hm:=zCY hr hp;obtain⟨a1,x1,a2,a3⟩:=zFX (k:=k) (v:=p.1) hr;obtain⟨b1,x2,b2,b3⟩:=zFX (k:=k) (v:=p.2) hr;refine⟨λx hx=>?_,?_⟩
    . rcases List.mem_append.1 hx with hx |hx
      . have:=a1 x hx; omega
      . have:=b1 x hx; omega
    . by_cases h:J p.1<=J p.2
      . exact⟨x2,List.mem_append_right _ b2,by omega⟩
      . exact⟨x1,List.mem_append_left _ a2,by omega⟩
  . exact⟨λx hx=>by rw[List.mem_singleton.1 hx]; exact Int.le_refl _,v,List.mem_singleton.2 rfl,rfl⟩
theorem zQM{x:Nat}:∀{l:List Nat},zU7 x l=true->x∈l
 | [],h=>by cases h|y::l,h=>by
  unfold zU7 at h;rw[Bool.or_eq_true]at h;rcases h with h |h
  . rw[Nat.eq_of_beq_eq_true h]; exact List.mem_cons_self
  . exact List.mem_cons_of_mem _ (zQM h)
theorem zGt:∀{l m:List Nat},zNp l m=true->∀x∈l,x∈m
 | [],_,_,x,hx=>by cases hx|y::l,m,h,x,hx=>by
  unfold zNp at h;rw[Bool.and_eq_true]at h;rcases List.mem_cons.1 hx with rfl |hx
  . exact zQM h.1
  . exact zGt h.2 x hx
theorem zPq{J:Nat->Int}{B i:Nat}{d:Int}:∀{k:Nat},(∀t,i<t->t<i+k+1->J (B+i)<=J (B+t)/\J (B+t) - J (B+i)<=d)->∀{f:List (LL × Int × Int)},xI J f->xI J (zXG B d i k++f)
 | 0,_,f,hf=>hf|k+1,h,f,hf=>by
  refine⟨?_,zPq (λt h1 h2=>h t h1 (by omega)) hf⟩
  have:=h (i+(k+1)) (by omega) (by omega)
  show 0 <= -1*J (B+i)+(1*J (B+(i+(k+1)))+0) /\ -1*J (B+i)+(1*J (B+(i+(k+1)))+0)<=d;omega
theorem zQb{J:Nat->Int}{B:Nat}{d:Int}:∀{k i:Nat},(∀s t,i<=s->s<t->t<i+k->J (B+s)<=J (B+t)/\J (B+t) - J (B+s)<=d)->∀{f:List (LL × Int × Int)},xI J f->xI J (ascA B d i k++f)
 | 0,_,_,f,hf=>hf|k+1,i,h,f,hf=>by unfold ascA;rw[List.append_assoc];exact zPq (λt h1 h2=>h i t (Nat.le_refl _) h1 (by omega)) (zQb (λs t h1 h2 h3=>h s t (by omega) h2 (by omega)) hf)
theorem zMX{J:Nat->Int}{g:Nat->Int}:∀{k v i:Nat},(∀t,t<k->J (v+t)=g (i+t))->(seqN v k).map J=(List.range' i k).map g
 | 0,_,_,_=>rfl|k+1,v,i,h=>by show J v::(seqN (v+1) k).map J=g i::(List.range' (i+1) k).map g;rw[zMX (g:=g) (i:=i+1) (λt ht=>by rw[show v+1+t=v+(t+1)from by omega,show i+1+t=i+(t+1)from by omega]; exact h (t+1) (by omega)),show J v=g i from h 0 (by omega)]
theorem zHB{J:Nat->Int}{b:List (Int × Int)}{lo hi:Int}(hb:zk J 0 b):∀{ss:List Nat},zFL b lo hi ss=true->∀s∈ss,lo<=J s/\J s<=hi/\s<b.length
 | [],_,s,hs=>by cases hs|x::ss,h,s,hs=>by
  unfold zFL at h;rw[Bool.and_eq_true]at h;rcases List.mem_cons.1 hs with rfl |hs
  . have h1:=h.1;split at h1
    . rename_i q hq;rw[Bool.and_eq_true,decide_eq_true_eq,decide_eq_true_eq]at h1
      have:=yq hb hq
      rw[Nat.zero_add]at this;rw[@nth_eq noSym]at hq;exact⟨by omega,by omega,(List.getElem?_eq_some_iff.1 hq).1⟩
    . cases h1
  . exact zHB hb h.2 s hs
theorem zEw{J:Nat->Int}{ys ss:List Nat}:∀{r:List SRule},zK3 ys ss r=true->yV J r->ys.map J=(ss.map J).mergeSort λa b=>decide (a<=b)
 | [],h,_=>by cases h|q::r,h,hr=>by
  unfold zK3 at h;rw[Bool.or_eq_true]at h;rcases h with h |h
  . unfold zWx at h;split at h
    . rename_i w ho hv;rw[Bool.and_eq_true]at h;have e1:=Nat.eq_of_beq_eq_true h.1;have e2:=@CV.beqs_eq noSym _ _ h.2;have hq:=hr.1;unfold zi at hq;rw[ho]at hq;have hq:zAb J q:=hq;unfold zAb at hq;rw[hv]at hq;have hq:(yc J w).take q.c=((yc J w).drop q.c).mergeSort λa b=>decide (a<=b):=hq;have ha:yc J (jV ys++jV ss)=ys.map J++ss.map J:=by rw[<- zCb,<- zCb]; exact List.map_append
      rw[e2,e1,ha,List.take_left' (List.length_map _),List.drop_left' (List.length_map _)]at hq;exact hq
    . cases h
  . exact zEw h hr.2
theorem zKa{wins:List Win}{w0:World}{i:Int}{J:Nat->Int}{e:Lf}(he:wz wins w0 i J e){n:Nat}:∀{ys:List Nat} {k:Nat},zV9 e n ys=some k->(ys.map J).count (Int.ofNat n)=k
 | [],k,h=>by injection h|y::ys,k,h=>by
  unfold zV9 at h;split at h
  . rename_i q k0 hq hk;have hb:=wv he hq;have hv:evL J [(y,1)]=J y:=by show 1*J y+0=_; omega
    rw[hv]at hb;have ih:=zKa he hk;rw[List.map_cons,List.count_cons,ih];split at h
    . rename_i hc;rw[Bool.and_eq_true,decide_eq_true_eq,decide_eq_true_eq]at hc;injection h with h; subst h;rw[if_pos (by rw[beq_iff_eq]; omega)]
    . split at h
      . rename_i hc;rw[Bool.or_eq_true,decide_eq_true_eq,decide_eq_true_eq]at hc;injection h with h; subst h;rw[if_neg (by rw[beq_iff_eq]; omega),Nat.add_zero]
      . cases h
  . cases h
theorem zBo{wins:List Win}{w0:World}{i:Int}{J:Nat->Int}{g:Lf->Option (List Lf)}{n:Nat}{C:Lf->Prop}{b0:Nat}{u0:Nat}
 (hg:∀e ls,wz wins w0 i J e->e.b.length=b0->e.u=u0->g e=some ls->∃e'∈ls,C e'):∀{ss:List Nat} {k:Nat} {e:Lf} {ls:List Lf},wz wins w0 i J e->e.b.length=b0->e.u=u0->(ss.map J).count (Int.ofNat n)=k->zIX g n ss k e=some ls->∃e'∈ls,C e'
 | [],0,e,ls,he,hb,hu,_,h=>hg e ls he hb hu h| [],k+1,e,ls,_,_,_,hk,_=>by cases hk|s::ss,0,e,ls,he,hb,hu,hk,h=>by
  rw[List.map_cons,List.count_cons]at hk;have hne:J s≠Int.ofNat n:=by intro q;rw[if_pos (by rw[beq_iff_eq]; exact q)]at hk;omega
  rw[if_neg (by rw[beq_iff_eq]; exact hne)]at hk;exact zBo hg (e:=uN e (neR (-Int.ofNat n) [(s,1)])) ⟨he.b,he.f,⟨zEQ (by show -Int.ofNat n+(1*J s+0)≠0; omega),he.r⟩,he.w⟩ hb hu hk h
 |s::ss,k+1,e,ls,he,hb,hu,hk,h=>by
  unfold zIX at h;obtain⟨x,y,hx,hy,rfl⟩:=xy h;rw[List.map_cons,List.count_cons]at hk;by_cases q:J s=Int.ofNat n
  . rw[if_pos (by rw[beq_iff_eq]; exact q)]at hk;obtain⟨e',m,hc⟩:=zBo hg (e:=zCj e s (.ofNat n)) ⟨qf he.b (by rw[Nat.zero_add]; exact q),he.f,he.r,he.w⟩ (by show(wb e.b s _).length=b0; rw[xV]; exact hb) hu (by omega) hx;exact⟨e',List.mem_append_left _ m,hc⟩
  . rw[if_neg (by rw[beq_iff_eq]; exact q)]at hk;obtain⟨e',m,hc⟩:=zBo hg (e:=uN e (neR (-Int.ofNat n) [(s,1)])) ⟨he.b,he.f,⟨zEQ (by show -Int.ofNat n+(1*J s+0)≠0; omega),he.r⟩,he.w⟩ hb hu hk hy;exact⟨e',List.mem_append_right _ m,hc⟩
theorem zh:∀(t:LTree) (e:Lf) (J:Nat->Int) {ls:List Lf},leaves ks t e=some ls->wz wins w0 i J e->WinIs wins w0 J ks->J 0=i->ks.length<e.b.length->e.b.length<=1000->1000<=e.u ->
 ∃e'∈ls,∃J',wz wins w0 i J' e'/\∀j,(j<e.b.length\/(1000<=j/\j<e.u))->J' j=J j
 |.leaf,e,J,ls,h,he,_,_,_,_,_=>by injection h with h; subst h;exact⟨e,by simp,J,he,λ_ _=>rfl⟩
 |.cmp l cut a b,e,J,ls,h,he,hw,h0,hk,h1,h2=>by
  unfold leaves at h;split at h
  . cases h
  . rename_i q hq;obtain⟨x,y,hx,hy,rfl⟩:=xy h;obtain⟨g1,g2⟩:=wv he hq;by_cases hc:evL J l<cut
    . have hx:=jH hx (by omega);obtain⟨e',m,J',r1,r2⟩:=zh a _ J hx ⟨he.b,⟨⟨g1,by simp only; omega⟩,he.f⟩,he.r,he.w⟩ hw h0 hk h1 h2;exact⟨e',List.mem_append_left _ m,J',r1,r2⟩
    . have hy:=jH hy (by omega);obtain⟨e',m,J',r1,r2⟩:=zh b _ J hy ⟨he.b,⟨⟨by simp only; omega,g2⟩,he.f⟩,he.r,he.w⟩ hw h0 hk h1 h2;exact⟨e',List.mem_append_right _ m,J',r1,r2⟩
 |.and v m ts,e,J,ls,h,he,hw,h0,hk,h1,h2=>by unfold leaves at h;obtain⟨hm,h⟩:=yM h;obtain⟨j,hj,hr⟩:=zRp (J v) m (@zH noSym _ _ hm);obtain⟨x,hx,hin⟩:=w8 h j hj;obtain⟨e',m,J',r1,r2⟩:=zh (ts j) _ J hx ⟨he.b,he.f,⟨zE7 hr,he.r⟩,he.w⟩ hw h0 hk h1 h2;exact⟨e',hin _ m,J',r1,r2⟩
 |.rem v m ts,e,J,ls,h,he,hw,h0,hk,h1,h2=>by
  unfold leaves at h;obtain⟨z,hz,hr⟩:=uu (J v) m;obtain⟨x,hx,hin⟩:=w8 h (z+m).toNat (by omega);have e1:(Int.ofNat (z+m).toNat - Int.ofNat m)=z:=by show(((z+m).toNat:Nat):Int) - (m:Int)=z;omega
  rw[e1]at hx;obtain⟨e',m,J',r1,r2⟩:=zh (ts (z+m).toNat) _ J hx ⟨he.b,he.f,⟨zE7 hr,he.r⟩,he.w⟩ hw h0 hk h1 h2;exact⟨e',hin _ m,J',r1,r2⟩
 |.remn v m ts,e,J,ls,h,he,hw,h0,hk,h1,h2=>by
  unfold leaves at h;split at h
  . cases h
  . rename_i q hq;obtain⟨hq0,h⟩:=yM h;rw[decide_eq_true_eq]at hq0;have g:=(wv he hq).1;rw[vo]at g;obtain⟨j,hj,hr⟩:=zO0 (J v) (by omega) m;obtain⟨x,hx,hin⟩:=w8 h j hj;obtain⟨e',m,J',r1,r2⟩:=zh (ts j) _ J hx ⟨he.b,he.f,⟨zE7 hr,he.r⟩,he.w⟩ hw h0 hk h1 h2;exact⟨e',hin _ m,J',r1,r2⟩
 |.bit v t a b,e,J,ls,h,he,hw,h0,hk,h1,h2=>by
  unfold leaves at h;obtain⟨ht,h⟩:=yM h;obtain⟨x,y,hx,hy,rfl⟩:=xy h;have ht:=@zH noSym _ _ ht;rcases zRs (J v) t (by omega)with hr |hr
  . obtain⟨e',m,J',r1,r2⟩:=zh a _ J hx ⟨he.b,he.f,⟨zE7 hr,he.r⟩,he.w⟩ hw h0 hk h1 h2;exact⟨e',List.mem_append_left _ m,J',r1,r2⟩
  . obtain⟨e',m,J',r1,r2⟩:=zh b _ J hy ⟨he.b,he.f,⟨zE7 hr,he.r⟩,he.w⟩ hw h0 hk h1 h2;exact⟨e',List.mem_append_right _ m,J',r1,r2⟩
 |.shr v c t,e,J,ls,h,he,hw,h0,hk,h1,h2=>by
  unfold leaves at h;obtain⟨hg,h⟩:=yM h;rw[Bool.and_eq_true]at hg;have hne:v≠e.u:=λq=>by have:=hg.2; rw[q]at this; simp at this
  obtain⟨z,hr⟩:=zRE (J v) c;have he':=he.upd hg.1 z;have hr':zi (upV J e.u z) (rv .shr v c (.sym (sv e.u))):=zHY (by rw[upd_other hne,upd_same]; exact hr);obtain⟨e',m,J',r1,r2⟩:=zh t _ (upV J e.u z) h ⟨he'.b,he'.f,⟨hr',he'.r⟩,he'.w⟩
   (hw.upd λj hj=>upd_other (by show j≠e.u; omega)) (by rw[upd_other (by omega)]; exact h0) hk h1 (by show 1000<=e.u+1; omega)
  exact⟨e',m,J',r1,λj hj=>by rw[r2 j (show j<e.b.length\/(1000<=j/\j<e.u+1)by omega),upd_other (by omega)]⟩
 |.mask v m t,e,J,ls,h,he,hw,h0,hk,h1,h2=>by
  unfold leaves at h;obtain⟨hg,h⟩:=yM h;simp only[Bool.and_eq_true]at hg;obtain⟨⟨⟨g1,g2⟩,g3⟩,g4⟩:=hg;have hb:=@zH noSym _ _ g4;have hne:v≠e.b.length:=λq=>by rw[q]at g2; simp at g2
  obtain⟨z,hz,hr⟩:=zG8 (J v) m (@zH noSym _ _ g3);have he':=he.upd g1 (.ofNat z);have hr':zi (upV J e.b.length (.ofNat z)) (rv .and v m (.sym (sv e.b.length))):=zHY (by rw[upd_other hne,upd_same]; exact hr);obtain⟨e',m',J',r1,r2⟩:=zh t _ (upV J e.b.length (.ofNat z)) h
   ⟨xG he'.b (by rw[Nat.zero_add,upd_same]; exact Int.natCast_nonneg z) (by rw[Nat.zero_add,upd_same]; exact Int.ofNat_le.2 hz),he'.f,⟨hr',he'.r⟩,he'.w⟩
   (hw.upd λj hj=>upd_other (by show j≠e.b.length; omega)) (by rw[upd_other (by omega)]; exact h0) (by show _<(e.b++_).length; simp; omega) (by show(e.b++_).length<=_; simp; omega) h2
  exact⟨e',m',J',r1,λj hj=>by rw[r2 j (show j<(e.b++[((0:Int),Int.ofNat m)]).length\/(1000<=j/\j<e.u)by simp; omega),upd_other (by omega)]⟩
 |.join h' g a b t,e,J,ls,h,he,hw,h0,hk,h1,h2=>by unfold leaves at h;obtain⟨hg,h⟩:=yM h;exact zh t { e with r:=zS9 h' a b e.r } J h ⟨he.b,he.f,zTf hg he.r,he.w⟩ hw h0 hk h1 h2
 |.cellI j t,e,J,ls,h,he,hw,h0,hk,h1,h2=>by
  unfold leaves at h;split at h
  . rename_i k hj;obtain⟨hg,h⟩:=yM h;rw[Bool.and_eq_true]at hg;obtain⟨wn,v,q1,q2,q4,q3,q5⟩:=hw.len j _ hj;obtain⟨g1,g2⟩:=zGE he hg.1;obtain⟨q,hq⟩:=zTP (i:=J 0) q5 q3 q1 g1 (by rw[q4]at g2; exact g2);have he':=he.upd hg.2 q;have hne:e.u≠0:=by omega
    obtain⟨e',m,J',r1,r2⟩:=zh t _ (upV J e.u q) h
     ⟨he'.b,he'.f,he'.r,λx hx J' K' hA hs=>by
      rcases List.mem_cons.1 hx with rfl |hx
      . have e1:J' e.u=q:=by
         have:=hs.1
         have e2:evL J' [(e.u,1)]=evL (upV J e.u q) [(e.u,1)]:=this;rw[vo,vo,upd_same]at e2;exact e2
        have:=hq J' K' e.u e1
        rw[h0,q2]at this;exact this
      . exact he'.w x hx J' K' hA hs⟩
     (hw.upd λj hj=>upd_other (by show j≠e.u; omega)) (by rw[upd_other (λq=>hne q.symm)]; exact h0) hk h1 (by show 1000<=e.u+1; omega)
    exact⟨e',m,J',r1,λj hj=>by rw[r2 j (show j<e.b.length\/(1000<=j/\j<e.u+1)by omega),upd_other (by omega)]⟩
  . cases h
 |.cellB j a b,e,J,ls,h,he,hw,h0,hk,h1,h2=>by
  unfold leaves at h;split at h
  . rename_i k hj;obtain⟨hg,h⟩:=yM h;obtain⟨x,y,hx,hy,rfl⟩:=xy h;obtain⟨wn,v,q1,q2,q4,q3,q5⟩:=hw.len j _ hj;obtain⟨g1,g2⟩:=zGE he hg;rcases zQ0 (i:=J 0) q5 q3 q1 g1 (by rw[q4]at g2; exact g2)with hq |hq
    . obtain⟨e',m,J',r1,r2⟩:=zh a _ J hx ⟨he.b,he.f,he.r,λx hx J' K' hA hs=>by
       rcases List.mem_cons.1 hx with rfl |hx
       . have:=hq J' K'
         rw[h0,q2]at this;exact this
       . exact he.w x hx J' K' hA hs⟩ hw h0 hk h1 h2
      exact⟨e',List.mem_append_left _ m,J',r1,r2⟩
    . obtain⟨e',m,J',r1,r2⟩:=zh b _ J hy ⟨he.b,he.f,he.r,λx hx J' K' hA hs=>by
       rcases List.mem_cons.1 hx with rfl |hx
       . have:=hq J' K'
         rw[h0,q2]at this;exact this
       . exact he.w x hx J' K' hA hs⟩ hw h0 hk h1 h2
      exact⟨e',List.mem_append_right _ m,J',r1,r2⟩
  . cases h
 |.pin v ts,e,J,ls,h,he,hw,h0,hk,h1,h2=>by
  unfold leaves at h;split at h
  . rename_i q hq;have hb:=yq he.b hq;rw[Nat.zero_add]at hb;obtain⟨x,hx,hin⟩:=w8 h (J v - q.1).toNat (by omega);have ez:q.1+Int.ofNat (J v - q.1).toNat=J v:=by show q.1+(((J v - q.1).toNat:Nat):Int)=J v;omega
    rw[ez]at hx;obtain⟨e',m,J',r1,r2⟩:=zh (ts (J v - q.1).toNat) (zCj e v (J v)) J hx ⟨qf he.b (by rw[Nat.zero_add]),he.f,he.r,he.w⟩ hw h0 (by show _<(wb e.b v _).length; rw[xV]; exact hk) (by show(wb e.b v _).length<=_; rw[xV]; exact h1) h2;exact⟨e',hin _ m,J',r1,λj hj=>r2 j (by show j<(wb e.b v _).length\/_; rw[xV]; exact hj)⟩
  . cases h
 |.shrb v c t,e,J,ls,h,he,hw,h0,hk,h1,h2=>by
  unfold leaves at h;split at h
  . rename_i q hq;obtain⟨hg,h⟩:=yM h;simp only[Bool.and_eq_true]at hg;obtain⟨⟨⟨⟨g1,g2⟩,g3⟩,g4⟩,g5⟩:=hg;have hbl:=@zH noSym _ _ g3;have hc:=@zH noSym _ _ g5;rw[decide_eq_true_eq]at g4;have hne:v≠e.b.length:=λq=>by rw[q]at g2; simp at g2
    have hb:=yq he.b hq;rw[Nat.zero_add]at hb;obtain⟨a,ha⟩:∃a:Nat,J v=Int.ofNat a:=⟨(J v).toNat,by show J v=(((J v).toNat:Nat):Int); omega⟩
    have hz:yR .shr .i64 (J v) (.ofNat c)=some (mkInt .i64 (J v / 2 ^ c)):=by
     rw[ha];have e1:(Int.ofNat a / 2 ^ c:Int)=Int.ofNat (a / 2 ^ c):=by
      show((a:Int) / 2 ^ c)=((a / 2 ^ c:Nat):Int)
      rw[Int.natCast_ediv,Int.natCast_pow]; rfl
     rw[e1];show some (j6 .i64 (Nat.div a (Nat.pow 2 (min c IntKind.i64.bits))))=_;have e2:min c IntKind.i64.bits=c:=by show min c 64=c;omega
     rw[e2];show some (j6 .i64 (a / 2 ^ c))=some (mkInt .i64 (Int.ofNat (a / 2 ^ c)));cases a / 2 ^ c <;> rfl
    have he':=he.upd g1 (J v / 2 ^ c);have hr':zi (upV J e.b.length (J v / 2 ^ c)) (rv .shr v c (.sym (sv e.b.length))):=zHY (by rw[upd_other hne,upd_same]; exact hz);have hpos:(0:Int)<2 ^ c:=Int.pow_pos (by decide);have hlo:q.1 / 2 ^ c<=J v / 2 ^ c:=Int.ediv_le_ediv hpos hb.1;have hhi:J v / 2 ^ c<=q.2 / 2 ^ c:=Int.ediv_le_ediv hpos hb.2;obtain⟨e',m',J',r1,r2⟩:=zh t _ (upV J e.b.length (J v / 2 ^ c)) h
     ⟨xG he'.b (by rw[Nat.zero_add,upd_same]; exact hlo) (by rw[Nat.zero_add,upd_same]; exact hhi),he'.f,⟨hr',he'.r⟩,he'.w⟩
     (hw.upd λj hj=>upd_other (by show j≠e.b.length; omega)) (by rw[upd_other (by omega)]; exact h0) (by show _<(e.b++_).length; simp; omega) (by show(e.b++_).length<=_; simp; omega) h2
    exact⟨e',m',J',r1,λj hj=>by rw[r2 j (show j<(e.b++[((q.1 / 2 ^ c:Int),(q.2 / 2 ^ c:Int))]).length\/(1000<=j/\j<e.u)by simp; omega),upd_other (by omega)]⟩
  . cases h
 |.cmpb v cut a b,e,J,ls,h,he,hw,h0,hk,h1,h2=>by
  unfold leaves at h;split at h
  . cases h
  . rename_i q hq;obtain⟨x,y,hx,hy,rfl⟩:=xy h;obtain⟨g1,g2⟩:=wv he hq;rw[vo]at g1 g2;have hlen:∀lo hi,(zOk e v lo hi).b.length=e.b.length:=λlo hi=>xV;by_cases hc:J v<cut
    . have hx:=jH hx (by omega);obtain⟨e',m,J',r1,r2⟩:=zh a (zOk e v q.1 (min q.2 (cut - 1))) J hx ⟨xd he.b (by rw[Nat.zero_add]; exact g1) (by rw[Nat.zero_add]; omega),he.f,he.r,he.w⟩ hw h0 (by rw[hlen]; exact hk) (by rw[hlen]; exact h1) h2;exact⟨e',List.mem_append_left _ m,J',r1,λj hj=>r2 j (by rw[hlen]; exact hj)⟩
    . have hy:=jH hy (by omega);obtain⟨e',m,J',r1,r2⟩:=zh b (zOk e v (max q.1 cut) q.2) J hy ⟨xd he.b (by rw[Nat.zero_add]; omega) (by rw[Nat.zero_add]; exact g2),he.f,he.r,he.w⟩ hw h0 (by rw[hlen]; exact hk) (by rw[hlen]; exact h1) h2;exact⟨e',List.mem_append_right _ m,J',r1,λj hj=>r2 j (by rw[hlen]; exact hj)⟩
 |.dec c v t,e,J,ls,h,he,hw,h0,hk,h1,h2=>by
  unfold leaves at h;split at h
  . rename_i q hq;obtain⟨hg,h⟩:=yM h;obtain⟨hg',h⟩:=yM h;simp only[Bool.and_eq_true]at hg hg';obtain⟨⟨⟨⟨g1,g2⟩,g3⟩,g4⟩,g5⟩:=hg;obtain⟨g6,g7⟩:=hg';have hbl:e.b.length+2<=1000:=@zH noSym _ _ g3;rw[decide_eq_true_eq]at g4 g5;have hne:v≠e.b.length:=λq=>by rw[q]at g2; simp at g2
    have hne':v≠Nat.succ e.b.length:=λq=>by rw[q]at g7; simp at g7
    have hb:=yq he.b hq;rw[Nat.zero_add]at hb;have hx0:0<=J v+c:=by omega
    have hx1:J v+c<=1000:=by omega
    have he1:=he.upd g1 ((J v+c) / 10);have hr1:zi (upV J e.b.length ((J v+c) / 10)) ⟨.quo,⟨.i64,c,[(v,1)]⟩,10,.sym (sv e.b.length)⟩:=
     zX2 (by rw[upd_other hne]; omega) (by rw[upd_other hne]; omega) (by rw[upd_other hne,upd_same])
    have he2:wz wins w0 i (upV J e.b.length ((J v+c) / 10)) (zGn e c v q):=⟨xG he1.b (by rw[Nat.zero_add,upd_same]; omega) (by rw[Nat.zero_add,upd_same]; omega),he1.f,⟨hr1,he1.r⟩,he1.w⟩
    have hlen:(zGn e c v q).b.length=Nat.succ e.b.length:=by show(e.b++[_]).length=_; simp
    have he3:=he2.upd g6 ((J v+c) % 10);have hr2:zi (upV (upV J e.b.length ((J v+c) / 10)) (Nat.succ e.b.length) ((J v+c) % 10)) ⟨.rem,⟨.i64,c,[(v,1)]⟩,10,.sym (sv (Nat.succ e.b.length))⟩:=
     zXZ (by rw[upd_other hne',upd_other hne]; omega) (by rw[upd_other hne',upd_other hne]; omega) (by rw[upd_other hne',upd_other hne,upd_same])
    obtain⟨e',m',J',r1,r2⟩:=zh t _ (upV (upV J e.b.length ((J v+c) / 10)) (Nat.succ e.b.length) ((J v+c) % 10)) h
     ⟨xG he3.b (by rw[Nat.zero_add,hlen,upd_same]; omega) (by rw[Nat.zero_add,hlen,upd_same]; omega),he3.f,⟨hr2,he3.r⟩,he3.w⟩
     ((hw.upd λj hj=>upd_other (by show j≠e.b.length; omega)).upd λj hj=>upd_other (by show j≠Nat.succ e.b.length; omega)) (by rw[upd_other (by omega),upd_other (by omega)]; exact h0) (by show _<((zGn e c v q).b++_).length; rw[List.length_append,hlen]; simp; omega) (by show((zGn e c v q).b++_).length<=_; rw[List.length_append,hlen]; simp; omega) h2
    exact⟨e',m',J',r1,λj hj=>by rw[r2 j (show j<((zGn e c v q).b++[((0:Int),(9:Int))]).length\/(1000<=j/\j<e.u)by rw[List.length_append,hlen]; simp; omega),upd_other (by omega),upd_other (by omega)]⟩
  . cases h
 |.ne c l a b,e,J,ls,h,he,hw,h0,hk,h1,h2=>by
  unfold leaves at h;obtain⟨x,y,hx,hy,rfl⟩:=xy h;by_cases hc:c+evL J l=0
  . obtain⟨e',m,J',r1,r2⟩:=zh a _ J hx ⟨he.b,⟨⟨by simp only; omega,by simp only; omega⟩,he.f⟩,he.r,he.w⟩ hw h0 hk h1 h2;exact⟨e',List.mem_append_left _ m,J',r1,r2⟩
  . obtain⟨e',m,J',r1,r2⟩:=zh b _ J hy ⟨he.b,he.f,⟨zEQ hc,he.r⟩,he.w⟩ hw h0 hk h1 h2;exact⟨e',List.mem_append_right _ m,J',r1,r2⟩
 |.fre v ss c t,e,J,ls,h,he,hw,h0,hk,h1,h2=>by
  unfold leaves at h;split at h
  . rename_i q hq;obtain⟨hg,h⟩:=yM h;simp only[Bool.and_eq_true]at hg;obtain⟨⟨⟨g1,g2⟩,g3⟩,g4⟩:=hg;have hbl:=@zH noSym _ _ g3;have hno:=zPj g2;have hne:v≠e.b.length:=hno v (by simp);have hb:=yq he.b hq;rw[Nat.zero_add]at hb;have hc:=zJc g4 he.r;obtain⟨f1,f2,f3⟩:=zLF (J v) (ss.map J);obtain⟨z,hz⟩:∃z,z=frA (J v) (ss.map J) - J v:=⟨_,rfl⟩
    have he1:=he.upd g1 z;have hs:∀s∈ss,upV J e.b.length z s=J s:=λs hs=>upd_other (hno s (by simp[hs]));have hm:ss.map (upV J e.b.length z)=ss.map J:=List.map_congr_left hs;have hv:upV J e.b.length z v=J v:=upd_other hne;have hn:upV J e.b.length z e.b.length=z:=upd_same;have hfre:zi (upV J e.b.length z) ⟨.add,⟨.i64,0,[(v,1),(e.b.length,1)]⟩,0,.agg (.sym (sv v)::jV ss)⟩:=by unfold zi;show zCa (upV J e.b.length z) _;unfold zCa;show(0:Int)+(1*upV J e.b.length z v+(1*upV J e.b.length z e.b.length+0))=frA (evE (upV J e.b.length z) (sv v)) (yc (upV J e.b.length z) (jV ss));rw[zCb,hm,xn,hv,hn];omega
    have hi:(Int.ofNat c:Int)=(c:Int):=rfl;obtain⟨e',m',J',r1,r2⟩:=zh t (zWI e v ss c q) (upV J e.b.length z) h
     ⟨xG he1.b (by rw[Nat.zero_add,upd_same]; omega) (by
      rw[Nat.zero_add,upd_same];have hcl:=zK6 (n:=J v) (l:=ss.map J);rw[List.length_map]at hcl;have hsl:(Int.ofNat (Nat.succ ss.length):Int)=(ss.length:Int)+1:=rfl;rw[hsl];omega),
      ⟨⟨(by show q.1+1<=1*upV J e.b.length z v+(1*upV J e.b.length z e.b.length+0); rw[hv,hn]; omega),(by show 1*upV J e.b.length z v+(1*upV J e.b.length z e.b.length+0)<=Int.ofNat c+1; rw[hv,hn]; omega)⟩,⟨(by show -(Int.ofNat c+1) <= -1*upV J e.b.length z v+(-1*upV J e.b.length z e.b.length+0); rw[hv,hn]; omega),(by show -1*upV J e.b.length z v+(-1*upV J e.b.length z e.b.length+0) <= -(q.1+1); rw[hv,hn]; omega)⟩,he1.f⟩,
      zQH (λs hs'=>by rw[hs s hs',hv,hn]; intro e; exact f1 (by rw[show frA (J v) (ss.map J)=J s by omega]; exact List.mem_map_of_mem hs')) ⟨hfre,he1.r⟩,he1.w⟩
     (hw.upd λj hj=>upd_other (by show j≠e.b.length; omega)) (by rw[upd_other (by omega)]; exact h0) (by show _<(e.b++_).length; rw[List.length_append]; simp; omega) (by show(e.b++_).length<=_; rw[List.length_append]; simp; omega) h2
    exact⟨e',m',J',r1,λj hj=>by rw[r2 j (show j<(e.b++[((1:Int),(min (Int.ofNat c+1 - q.1) (Int.ofNat (Nat.succ ss.length))))]).length\/(1000<=j/\j<e.u)by rw[List.length_append]; simp; omega),upd_other (by omega)]⟩
  . cases h
 |.innl v n ss l t,e,J,ls,h,he,hw,h0,hk,h1,h2=>by
  unfold leaves at h;split at h
  . rename_i q hq;obtain⟨hg,h⟩:=yM h;simp only[Bool.and_eq_true]at hg;obtain⟨⟨g1,g2⟩,g3⟩:=hg;have g2:=@zH noSym _ _ g2;rw[decide_eq_true_eq]at g3;have hb:=yq he.b hq;rw[Nat.zero_add]at hb;have hf:=zJP g1 he.r;have hi:(Int.ofNat l:Int)=(l:Int):=rfl;have hm:J v+Int.ofNat l∈ss.map J:=zQt (l:=ss.map J) (k:=(ss.map J).length) (n:=J v) (by omega) (by show _<frA (J v) (ss.map J); omega);have hr:zi J (zFQ v ss l):=by unfold zi;show zB5 J _;unfold zB5;show Int.ofNat l+(1*J v+0)∈yc J (jV ss);rw[zCb,show Int.ofNat l+(1*J v+0)=J v+Int.ofNat l by omega];exact hm
    obtain⟨e',m,J',r1,r2⟩:=zh t _ J h ⟨he.b,he.f,⟨hr,he.r⟩,he.w⟩ hw h0 hk h1 h2;exact⟨e',m,J',r1,r2⟩
  . cases h
 |.isin v l ss a b,e,J,ls,h,he,hw,h0,hk,h1,h2=>by
  unfold leaves at h;obtain⟨x,y,hx,hy,rfl⟩:=xy h;by_cases hm:J v+Int.ofNat l∈ss.map J
  . have hr:zi J (zFQ v ss l):=by unfold zi;show zB5 J _;unfold zB5;show Int.ofNat l+(1*J v+0)∈yc J (jV ss);rw[zCb,show Int.ofNat l+(1*J v+0)=J v+Int.ofNat l by omega];exact hm
    obtain⟨e',m,J',r1,r2⟩:=zh a _ J hx ⟨he.b,he.f,⟨hr,he.r⟩,he.w⟩ hw h0 hk h1 h2;exact⟨e',List.mem_append_left _ m,J',r1,r2⟩
  . obtain⟨e',m,J',r1,r2⟩:=zh b { e with r:=zVG v l ss e.r } J hy ⟨he.b,he.f,zP1 (λs hs e=>hm (by rw[<- e]; exact List.mem_map_of_mem hs)) he.r,he.w⟩ hw h0 hk h1 h2;exact⟨e',List.mem_append_right _ m,J',r1,r2⟩
 |.maskz v m a t,e,J,ls,h,he,hw,h0,hk,h1,h2=>by
  unfold leaves at h;obtain⟨hg,h⟩:=yM h;obtain⟨x,y,hx,hy,rfl⟩:=xy h;simp only[Bool.and_eq_true]at hg;obtain⟨⟨⟨g1,g2⟩,g3⟩,g4⟩:=hg;have hb:=@zH noSym _ _ g4;have hne:v≠e.b.length:=λq=>by rw[q]at g2; simp at g2
  obtain⟨z,hz,hr⟩:=zG8 (J v) m (@zH noSym _ _ g3);by_cases h00:z=0
  . subst h00;obtain⟨e',m',J',r1,r2⟩:=zh a _ J hx ⟨he.b,he.f,⟨zE7 hr,he.r⟩,he.w⟩ hw h0 hk h1 h2;exact⟨e',List.mem_append_left _ m',J',r1,r2⟩
  . have he':=he.upd g1 (.ofNat z);have hr':zi (upV J e.b.length (.ofNat z)) (rv .and v m (.sym (sv e.b.length))):=zHY (by rw[upd_other hne,upd_same]; exact hr);obtain⟨e',m',J',r1,r2⟩:=zh t _ (upV J e.b.length (.ofNat z)) hy
     ⟨xG he'.b (by rw[Nat.zero_add,upd_same]; show(1:Int)<=(z:Int); omega) (by rw[Nat.zero_add,upd_same]; exact Int.ofNat_le.2 hz),he'.f,⟨hr',he'.r⟩,he'.w⟩
     (hw.upd λj hj=>upd_other (by show j≠e.b.length; omega)) (by rw[upd_other (by omega)]; exact h0) (by show _<(e.b++_).length; simp; omega) (by show(e.b++_).length<=_; simp; omega) h2
    exact⟨e',List.mem_append_right _ m',J',r1,λj hj=>by rw[r2 j (show j<(e.b++[((1:Int),Int.ofNat m)]).length\/(1000<=j/\j<e.u)by simp; omega),upd_other (by omega)]⟩
 |.remv v m t,e,J,ls,h,he,hw,h0,hk,h1,h2=>by
  unfold leaves at h;obtain⟨hg,h⟩:=yM h;simp only[Bool.and_eq_true]at hg;obtain⟨⟨g1,g2⟩,g4⟩:=hg;have hb:=@zH noSym _ _ g4;have hne:v≠e.b.length:=λq=>by rw[q]at g2; simp at g2
  obtain⟨z,hz,hr⟩:=uu (J v) m;have hi:(Int.ofNat m:Int)=(m:Int):=rfl;have he':=he.upd g1 z;have hr':zi (upV J e.b.length z) (rv .rem v (m+1) (.sym (sv e.b.length))):=zHY (by rw[upd_other hne,upd_same]; exact hr);obtain⟨e',m',J',r1,r2⟩:=zh t _ (upV J e.b.length z) h
   ⟨xG he'.b (by rw[Nat.zero_add,upd_same]; omega) (by rw[Nat.zero_add,upd_same]; omega),he'.f,⟨hr',he'.r⟩,he'.w⟩
   (hw.upd λj hj=>upd_other (by show j≠e.b.length; omega)) (by rw[upd_other (by omega)]; exact h0) (by show _<(e.b++_).length; simp; omega) (by show(e.b++_).length<=_; simp; omega) h2
  exact⟨e',m',J',r1,λj hj=>by rw[r2 j (show j<(e.b++[(-Int.ofNat m,Int.ofNat m)]).length\/(1000<=j/\j<e.u)by simp; omega),upd_other (by omega)]⟩
 |.w3 v t,e,J,ls,h,he,hw,h0,hk,h1,h2=>by
  unfold leaves at h;obtain⟨hg,h⟩:=yM h;simp only[Bool.and_eq_true]at hg;obtain⟨⟨⟨⟨g1,g2⟩,g3⟩,g4⟩,g5⟩:=hg;have hb:e.b.length+2<=1000:=@zH noSym _ _ g5;have n3:v≠e.b.length:=λq=>by rw[q]at g3; simp at g3
  have n4:v≠Nat.succ e.b.length:=λq=>by rw[q]at g4; simp at g4
  obtain⟨z,hz,hr⟩:=uu (J v) 2;obtain⟨y,s,hy1,hy2,hs1,hs2,hys⟩:∃y s:Int,0<=y/\y<=2 /\ -1<=s/\s<=0/\z=y+3*s:=by
   by_cases q:z<0
   . exact⟨z+3,-1,by omega,by omega,by omega,by omega,by omega⟩
   . exact⟨z,0,by omega,by omega,by omega,by omega,by omega⟩
  have he2:=(he.upd g1 y).upd g2 s;have ev:upV (upV J e.b.length y) (Nat.succ e.b.length) s v=J v:=by rw[upd_other n4,upd_other n3]
  have ey:upV (upV J e.b.length y) (Nat.succ e.b.length) s e.b.length=y:=by rw[upd_other (by omega),upd_same]
  have es:upV (upV J e.b.length y) (Nat.succ e.b.length) s (Nat.succ e.b.length)=s:=upd_same;have hr':zi (upV (upV J e.b.length y) (Nat.succ e.b.length) s) (rv .rem v 3 (.sym ⟨.i64,0,[(e.b.length,1),(Nat.succ e.b.length,3)]⟩)):=by refine(vT rfl).2 ⟨_,.inl rfl,?_,.inr ⟨_,rfl,rfl⟩⟩;show yR .rem .i64 (evE _ (sv v)) (.ofNat 3)=some (mkInt .i64 ((0:Int)+(1*upV (upV J e.b.length y) (Nat.succ e.b.length) s e.b.length+(3*upV (upV J e.b.length y) (Nat.succ e.b.length) s (Nat.succ e.b.length)+0))));rw[xn,ev,ey,es,show(0:Int)+(1*y+(3*s+0))=z by omega];exact hr
  have hl:(zEl e 0 2).b.length=Nat.succ e.b.length:=by show(e.b++_).length=_; simp
  obtain⟨e',m',J',r1,r2⟩:=zh t _ (upV (upV J e.b.length y) (Nat.succ e.b.length) s) h
   ⟨xG (xG he2.b (by rw[Nat.zero_add,ey]; exact hy1) (by rw[Nat.zero_add,ey]; exact hy2)) (by rw[Nat.zero_add]; show _<=upV (upV J e.b.length y) (Nat.succ e.b.length) s (zEl e 0 2).b.length; rw[hl,es]; exact hs1) (by rw[Nat.zero_add]; show upV (upV J e.b.length y) (Nat.succ e.b.length) s (zEl e 0 2).b.length<=_; rw[hl,es]; exact hs2),he2.f,⟨hr',he2.r⟩,he2.w⟩
   ((hw.upd λj hj=>upd_other (by show j≠e.b.length; omega)).upd λj hj=>upd_other (by show j≠Nat.succ e.b.length; omega)) (by rw[upd_other (by omega),upd_other (by omega)]; exact h0) (by show _<((e.b++_)++_).length; simp; omega) (by show((e.b++_)++_).length<=_; simp; omega) h2
  exact⟨e',m',J',r1,λj hj=>by rw[r2 j (show j<((e.b++[((0:Int),(2:Int))])++[((-1:Int),(0:Int))]).length\/(1000<=j/\j<e.u)by simp; omega),upd_other (by omega),upd_other (by omega)]⟩
 |.nar v t,e,J,ls,h,he,hw,h0,hk,h1,h2=>by
  unfold leaves at h;split at h
  . rename_i q hq;obtain⟨g1,g2⟩:=wv he hq;have hv:evL J [(v,1)]=J v:=by show 1*J v+0=_; omega
    rw[hv]at g1 g2;obtain⟨e',m,J',r1,r2⟩:=zh t (zOk e v q.1 q.2) J h ⟨xd he.b (by rw[Nat.zero_add]; exact g1) (by rw[Nat.zero_add]; exact g2),he.f,he.r,he.w⟩ hw h0 (by show _<(wb e.b v _).length; rw[xV]; exact hk) (by show(wb e.b v _).length<=_; rw[xV]; exact h1) h2;exact⟨e',m,J',r1,λj hj=>r2 j (by show j<(wb e.b v _).length\/_; rw[xV]; exact hj)⟩
  . cases h
 |.max1 a b t,e,J,ls,h,he,hw,h0,hk,h1,h2=>by
  unfold leaves at h;split at h
  . rename_i p q hp hq;obtain⟨hg,h⟩:=yM h;simp only[Bool.and_eq_true]at hg;obtain⟨⟨⟨g1,g2⟩,g3⟩,g4⟩:=hg;have hbl:=@zH noSym _ _ g4;have hna:a≠e.b.length:=λq=>by rw[q]at g2; simp at g2
    have hnb:b≠e.b.length:=λq=>by rw[q]at g3; simp at g3
    have ba:=yq he.b hp;have bb:=yq he.b hq;rw[Nat.zero_add]at ba bb;obtain⟨z,hz⟩:∃z,z=max (J a) (J b):=⟨_,rfl⟩
    have he1:=he.upd g1 z;have va:upV J e.b.length z a=J a:=upd_other hna;have vb:upV J e.b.length z b=J b:=upd_other hnb;have vn:upV J e.b.length z e.b.length=z:=upd_same;have hr:zi (upV J e.b.length z) (maxR a b e.b.length):=by unfold zi;show ua (upV J e.b.length z) _;unfold ua;show evE (upV J e.b.length z) (sv e.b.length)=max (x8 (upV J e.b.length z) (.sym (sv a))) (x8 (upV J e.b.length z) (.sym (sv b)));rw[zLp,zLp,xn,va,vb,vn,hz]
    obtain⟨e',m',J',r1,r2⟩:=zh t (zUj e a b p q) (upV J e.b.length z) h
     ⟨xG he1.b (by rw[Nat.zero_add,upd_same]; omega) (by rw[Nat.zero_add,upd_same]; omega),
      ⟨⟨(by show p.1 - max p.2 q.2<=1*upV J e.b.length z a+(-1*upV J e.b.length z e.b.length+0); rw[vn,va]; omega),(by show 1*upV J e.b.length z a+(-1*upV J e.b.length z e.b.length+0)<=0; rw[vn,va]; omega)⟩,
       ⟨(by show q.1 - max p.2 q.2<=1*upV J e.b.length z b+(-1*upV J e.b.length z e.b.length+0); rw[vn,vb]; omega),(by show 1*upV J e.b.length z b+(-1*upV J e.b.length z e.b.length+0)<=0; rw[vn,vb]; omega)⟩,he1.f⟩,
      ⟨hr,he1.r⟩,he1.w⟩
     (hw.upd λj hj=>upd_other (by show j≠e.b.length; omega)) (by rw[upd_other (by omega)]; exact h0) (by show _<(e.b++_).length; rw[List.length_append]; simp; omega) (by show(e.b++_).length<=_; rw[List.length_append]; simp; omega) h2
    exact⟨e',m',J',r1,λj hj=>by rw[r2 j (show j<(e.b++[(max p.1 q.1,max p.2 q.2)]).length\/(1000<=j/\j<e.u)by rw[List.length_append]; simp; omega),upd_other (by omega)]⟩
  . cases h
 |.eqm a b t,e,J,ls,h,he,hw,h0,hk,h1,h2=>by unfold leaves at h;obtain⟨hg,h⟩:=yM h;rw[Bool.and_eq_true]at hg;obtain⟨a1,xa,a2,a3⟩:=zFX (k:=10) (v:=a) he.r;obtain⟨b1,xb,b2,b3⟩:=zFX (k:=10) (v:=b) he.r;have c1:=b1 xa (zGt hg.1 _ a2);have c2:=a1 xb (zGt hg.2 _ b2);obtain⟨e',m,J',r1,r2⟩:=zh t _ J h ⟨he.b,⟨⟨(by show 0<=1*J a+(-1*J b+0); omega),(by show 1*J a+(-1*J b+0)<=0; omega)⟩,he.f⟩,he.r,he.w⟩ hw h0 hk h1 h2;exact⟨e',m,J',r1,r2⟩
 |.srtv ss lo hi t,e,J,ls,h,he,hw,h0,hk,h1,h2=>by
  unfold leaves at h;obtain⟨hg,h⟩:=yM h;simp only[Bool.and_eq_true]at hg;obtain⟨⟨g1,g2⟩,g3⟩:=hg;have hbl:=@zH noSym _ _ g2;have hbl:e.b.length+ss.length<=1000:=hbl;have hin:=zHB he.b g3;obtain⟨L,hL⟩:∃L,L=(ss.map J).mergeSort λa b=>decide (a<=b):=⟨_,rfl⟩
  have hlen:L.length=ss.length:=by rw[hL,List.length_mergeSort,List.length_map]
  have hmem:∀x∈L,lo<=x/\x<=hi:=by intro x hx;rw[hL,List.mem_mergeSort]at hx;obtain⟨s,hs,rfl⟩:=List.mem_map.1 hx;exact⟨(hin s hs).1,(hin s hs).2.1⟩
  have hsorted:L.Pairwise λa b=>a<=b:=by
   rw[hL];refine(List.pairwise_mergeSort (λx y z h1 h2=>?_) (λx y=>?_) _).imp λh=>by simpa using h
   . simp only[decide_eq_true_eq]at *; omega
   . simp only[Bool.or_eq_true,decide_eq_true_eq]; omega
  let g:Nat->Int:=λt=>if ht:t<L.length then L[t]else 0
  have hgv:∀t (ht:t<L.length),g t=L[t]:=λt ht=>dif_pos ht;have he1:wz wins w0 i (upN J e.b.length g ss.length) e:=he.updN λt ht=>wM g1 (Nat.le_refl _) t ht;have hv:∀t,t<ss.length->upN J e.b.length g ss.length (e.b.length+t)=g t:=λt ht=>zA8 ht;have ho:∀j,j<e.b.length->upN J e.b.length g ss.length j=J j:=λj hj=>wE (.inl hj);have hys:(seqN e.b.length ss.length).map (upN J e.b.length g ss.length)=L:=by rw[zMX (g:=g) (i:=0) λt ht=>by rw[Nat.zero_add]; exact hv t ht];refine List.ext_getElem (by simp[hlen]) λt q1 q2=>?_;simp only[List.getElem_map,List.getElem_range'];rw[show 0+1*t=t from by omega];exact hgv t q2
  have hss:ss.map (upN J e.b.length g ss.length)=ss.map J:=List.map_congr_left λs hs=>ho s (hin s hs).2.2;have hr:zi (upN J e.b.length g ss.length) (srtRule e.b.length ss.length ss):=by
   unfold zi;show zAb _ _;unfold zAb;show(yc _ (jV (seqN e.b.length ss.length)++jV ss)).take ss.length=((yc _ (jV (seqN e.b.length ss.length)++jV ss)).drop ss.length).mergeSort _;have ha:yc (upN J e.b.length g ss.length) (jV (seqN e.b.length ss.length)++jV ss)=L++ss.map J:=by rw[<- hys,<- hss,<- zCb,<- zCb]; exact List.map_append
   rw[ha,List.take_left' hlen,List.drop_left' hlen,hL]
  have hB:∀t,t<ss.length->lo<=upN J e.b.length g ss.length (e.b.length+t)/\upN J e.b.length g ss.length (e.b.length+t)<=hi:=by intro t ht;rw[hv t ht,hgv t (by omega)];exact hmem _ (List.getElem_mem _)
  obtain⟨e',m',J',r1,r2⟩:=zh t (zWQ e ss lo hi) (upN J e.b.length g ss.length) h
   ⟨zAJ (q:=(lo,hi)) he1.b λt ht=>by rw[Nat.zero_add]; exact hB t ht,
    zQb (λs t q1 q2 q3=>by
     have ht:t<ss.length:=by omega
     have b1:=hB s (by omega);have b2:=hB t ht;have hle:upN J e.b.length g ss.length (e.b.length+s)<=upN J e.b.length g ss.length (e.b.length+t):=by rw[hv s (by omega),hv t ht,hgv s (by omega),hgv t (by omega)];exact List.pairwise_iff_getElem.1 hsorted s t _ _ q2
     omega) he1.f,⟨hr,he1.r⟩,he1.w⟩
   (hw.upd λj hj=>wE (.inl (by omega))) (by rw[ho 0 (by omega)]; exact h0) (by show _<(e.b++_).length; rw[List.length_append]; omega) (by show(e.b++_).length<=_; rw[List.length_append,zC2]; omega) h2
  exact⟨e',m',J',r1,λj hj=>by rw[r2 j (show j<(e.b++zLH (lo,hi) ss.length).length\/(1000<=j/\j<e.u)by rw[List.length_append]; omega)];exact wE (by omega)⟩
 |.subs n ys ss t,e,J,ls,h,he,hw,h0,hk,h1,h2=>by
  unfold leaves at h;split at h
  . rename_i k hc;obtain⟨hg,h⟩:=yM h;have hs:=zEw hg he.r;have hcnt:=zKa he hc;have hcs:(ss.map J).count (Int.ofNat n)=k:=by rw[<- hcnt,hs];exact((List.mergeSort_perm (ss.map J) λa b=>decide (a<=b)).count_eq _).symm
    refine zBo (wins:=wins) (w0:=w0) (i:=i) (J:=J) (b0:=e.b.length) (u0:=e.u) (C:=λe'=>∃J',wz wins w0 i J' e'/\∀j,(j<e.b.length\/(1000<=j/\j<e.u))->J' j=J j)
     (λe1 ls1 q1 q2 q3 q4=>?_) he rfl rfl hcs h
    obtain⟨e',m,J',r1,r2⟩:=zh t e1 J q4 q1 hw h0 (by rw[q2]; exact hk) (by rw[q2]; exact h1) (by rw[q3]; exact h2);exact⟨e',m,J',r1,λj hj=>r2 j (by rw[q2,q3]; exact hj)⟩
  . cases h
 |.rows j n m t0 ts tz,e,J,ls,h,he,hw,h0,hk,h1,h2=>by
  unfold leaves at h;split at h
  . rename_i k f hj;split at h
    . rename_i ki hji;obtain⟨hg,h⟩:=yM h;simp only[Bool.and_eq_true]at hg;obtain⟨⟨⟨⟨⟨g1,g2⟩,g3⟩,g4⟩,g5⟩,g6⟩:=hg;have g3:=@zH noSym _ _ g3;have g5:=@zH noSym _ _ g5;have g6:=@zH noSym _ _ g6;have hfree:=wM g4 (Nat.le_refl _);obtain⟨x,y0,hx,hxy,rfl⟩:=xy h;obtain⟨y,z,hy,hz,rfl⟩:=xy hxy;obtain⟨wn,v,q1,q2,q4,q3,q5⟩:=hw.len j _ hj;obtain⟨wi,vi,r1,r2,r4,r5⟩:=hw.len _ _ hji;have r5:zJ7 w0 vi wi:=r5;have r2:wi.key=ki:=r2;have q2:wn.key=k:=q2;have r4:J (Nat.succ (Nat.add f n))=wi.len:=r4;obtain⟨g1a,g1b⟩:=zGE he g1;rw[q4]at g1b;have hat:J 0=(n:Int):=by
       unfold zYe at g2;split at g2
       . rename_i q hq;rw[Bool.and_eq_true,decide_eq_true_eq,decide_eq_true_eq]at g2;have hb:=yq he.b hq;rw[Nat.zero_add,g2.1,g2.2]at hb;have b1:(n:Int)<=J 0:=hb.1;have b2:J 0<=(n:Int):=hb.2;omega
       . cases g2
      have hn:n<wn.len:=by omega
      obtain⟨arr,elem,fz,a1,a2,a3⟩:=hw.row j k f n ki wn wi hj hji (q2 ▸ q1) (r2 ▸ r1) hn (by omega);have hi:i=(n:Int):=by rw[<- h0]; exact hat
      have hplace:wn.x+i.toNat*wn.esz+0=wn.x+n:=by rw[hi,q3,Int.toNat_natCast]; omega
      have outer:∀(J':Nat->Int) (K':zU) (c:CV),(∀Y,zTB wins i Y c->@zG (linSym J' K') Y c (.slice wi.base wi.len wi.cap))->zB9 (linSym J' K') wins w0 i (k,[c]):=by
       intro J' K' c hc;refine⟨wn,arr,elem,fz,q2 ▸ q1,a1,by show wn.x+i.toNat*wn.esz+1<=_; omega,λjj d hd=>?_⟩;cases jj with
       |zero=>simp at hd;subst hd;exact⟨_,by rw[hplace]; exact a3,hc⟩|succ jj=>simp at hd
      have hvlt:Nat.succ (Nat.add f n)<=ks.length:=g6;have hle:∀g l,l<=m->∀j,j<=ks.length->upN J e.b.length g l j=J j:=λg l _ j hj=>wE (.inl (by omega));rcases r5.base with⟨b2,b3⟩ |⟨b1,hb⟩
      . -- nothing
        obtain⟨e',mm,J',s1,s2⟩:=zh t0 _ J hx ⟨qf he.b (by rw[Nat.zero_add,r4,b2]; rfl),he.f,he.r,λq hq J' K' hA hs=>by
         rcases List.mem_cons.1 hq with rfl |hq
         . refine outer J' K' _ λY _=>(@qW (linSym J' K') _ _ _ _ _ _).2 ⟨?_,wi.base,wi.len,wi.cap,0,rfl,?_,rfl,λ_ h=>by omega⟩
           . obtain⟨hm1,hm2⟩:=ku r1
             have:=(hA wi hm1).1
             rw[r2]at this;exact this
           . rw[b2]; rfl
         . exact he.w q hq J' K' hA hs⟩ hw h0 (by show _<(wb e.b _ _).length; rw[xV]; exact hk) (by show(wb e.b _ _).length<=_; rw[xV]; exact h1) h2
        exact⟨e',List.mem_append_left _ mm,J',s1,λj hj=>s2 j (by show j<(wb e.b _ _).length\/(1000<=j/\j<e.u); rw[xV]; exact hj)⟩
      . by_cases hlen:wi.len<=m
        . -- so many
          obtain⟨x',hx',hin⟩:=w8 hy wi.len hlen;obtain⟨g,hg1,hg2⟩:=zHA r5 r1 hb (Nat.le_refl wi.len) i;have he':=he.updN (g:=g) (m:=wi.len) (n:=e.b.length) λt ht=>hfree t (by omega);have hs0:=hle g wi.len hlen;obtain⟨e',mm,J',s1,s2⟩:=zh (ts wi.len) _ (upN J e.b.length g wi.len) hx'
           ⟨qf (vY he'.b λt ht=>by rw[Nat.zero_add,zA8 ht]; exact hg1 t ht) (by rw[Nat.zero_add,hs0 _ hvlt,r4]; rfl),he'.f,he'.r,λq hq J' K' hA hs=>by
            rcases List.mem_cons.1 hq with rfl |hq
            . refine outer J' K' _ λY hY=>(@yJ (linSym J' K') _ _ _ _ _ _ _ _).2 ⟨_,wi.x,wi.cap,hY ki wi rfl (r2 ▸ r1),?_,r5.cap,r5.cap,(λh=>by cases h),.inl ⟨?_,λ_=>?_⟩⟩
              . rw[b1]
              . show wi.x=wi.x+i.toNat*wi.esz+0;rw[r5.stay]; omega
              . exact r5.size.symm
            . rcases List.mem_cons.1 hq with rfl |hq
              . have:=hg2 J' K' e.b.length λt ht=>by rw[zAl hs t ht,zA8 ht]
                rw[r2]at this;exact this
              . exact he'.w q hq J' K' hA hs⟩ (hw.upd hs0) (by rw[hs0 0 (by omega)]; exact h0) (by show _<(wb (e.b++_) _ _).length; rw[xV]; simp; omega)
            (by show(wb (e.b++_) _ _).length<=_; rw[xV,List.length_append,zDk]; have:e.b.length+m<=1000:=g5; omega) h2
          exact⟨e',List.mem_append_right _ (List.mem_append_left _ (hin _ mm)),J',s1,λj hj=>by rw[s2 j (by show j<(wb (e.b++_) _ _).length\/(1000<=j/\j<e.u); rw[xV,List.length_append,zDk]; omega)];exact wE (by have:e.b.length+m<=1000:=g5; omega)⟩
        . -- more
          split at hz
          . rename_i q hq;obtain⟨g,hg1,hg2⟩:=zHA r5 r1 hb (show m<=wi.len by omega) i;have he':=he.updN (g:=g) (m:=m) (n:=e.b.length) λt ht=>hfree t ht;have hs0:=hle g m (Nat.le_refl _);have hbq:=yq he.b hq;rw[Nat.zero_add,r4]at hbq;obtain⟨e',mm,J',s1,s2⟩:=zh tz _ (upN J e.b.length g m) hz
             ⟨xd (vY he'.b λt ht=>by rw[Nat.zero_add,zA8 ht]; exact hg1 t ht) (by rw[Nat.zero_add,hs0 _ hvlt,r4]; show((m+1:Nat):Int)<=_; omega) (by rw[Nat.zero_add,hs0 _ hvlt,r4]; exact hbq.2),he'.f,he'.r,λq hq J' K' hA hs=>by
              rcases List.mem_cons.1 hq with rfl |hq
              . refine outer J' K' _ λY hY=>(@qW (linSym J' K') _ _ _ _ _ _).2 ⟨?_,wi.base,wi.len,wi.cap,0,rfl,?_,rfl,λ_ _=>⟨_,wi.x,hY ki wi rfl (r2 ▸ r1),?_,?_,r5.size,r5.cap⟩⟩
                . obtain⟨hm1,hm2⟩:=ku r1
                  have:=(hA wi hm1).1
                  rw[r2]at this;exact this
                . have e1:evL J' [(Nat.succ (Nat.add f n),1)]=evL (upN J e.b.length g m) [(Nat.succ (Nat.add f n),1)]:=hs.2.1;rw[vo,vo,hs0 _ hvlt,r4]at e1;show Value.int .i64 (evE J' (sv (Nat.succ (Nat.add f n))))=_;rw[xn,e1]
                . rw[b1]
                . show wi.x+i.toNat*wi.esz=wi.x+(0:Int).toNat*1;rw[r5.stay]; simp
              . rcases List.mem_cons.1 hq with rfl |hq
                . have:=hg2 J' K' e.b.length λt ht=>by rw[zAl hs t ht,zA8 ht]
                  rw[r2]at this;exact this
                . exact he'.w q hq J' K' hA hs⟩ (hw.upd hs0) (by rw[hs0 0 (by omega)]; exact h0) (by show _<(wb (e.b++_) _ _).length; rw[xV]; simp; omega)
              (by show(wb (e.b++_) _ _).length<=_; rw[xV,List.length_append,zDk]; exact g5) h2
            exact⟨e',List.mem_append_right _ (List.mem_append_right _ mm),J',s1,λj hj=>by rw[s2 j (by show j<(wb (e.b++_) _ _).length\/(1000<=j/\j<e.u); rw[xV,List.length_append,zDk]; omega)];exact wE (by have:e.b.length+m<=1000:=g5; omega)⟩
          . cases hz
    . cases h
  . cases h
 |.wcells j n t,e,J,ls,h,he,hw,h0,hk,h1,h2=>by
  unfold leaves at h;split at h
  . rename_i k f hj;split at h
    . rename_i q hq;obtain⟨hg,h⟩:=yM h;simp only[Bool.and_eq_true]at hg;obtain⟨⟨⟨⟨⟨⟨⟨g1,g2⟩,g3⟩,g4⟩,g5⟩,g6⟩,g7⟩,g8⟩:=hg;rw[decide_eq_true_eq]at g1;have g4:e.b.length+n<=1000:=@zH noSym _ _ g4;have g6:f+n<=ks.length:=@zH noSym _ _ g6;have g7:=@zH noSym _ _ g7;have g8:=@zH noSym _ _ g8;have hfu:=wM g2 (by omega);have hfb:=wM g3 (Nat.le_refl _);obtain⟨wn,v,q1,q2,q4,q3⟩:=hw.len j _ hj;have q2:wn.key=k:=q2;have q3:wn.esz=0:=q3;have q1':findW wins k=some wn:=q2 ▸ q1;have hl:=(wv he hq).1;rw[vo,q4]at hl;have hnl:n<=wn.len:=by
       have:(n:Int)<=q.1:=g1
       omega
      have hcell:=λt (ht:t<n)=>hw.int j k f wn t hj q1' (by omega) (by omega);obtain⟨arr,elem,fz,_,a1,_,_,_⟩:=hcell 0 (by omega);have hcz:∀t,t<n->∃z,wn.x+t+1<=arr.size/\arr[wn.x+t]? = some (.int .i64 z)/\J (Nat.succ (Nat.add f t))=wI z:=by intro t ht;obtain⟨arr',e',f',z,c1,c2,c3,c4⟩:=hcell t ht;rw[a1]at c1;injection c1 with c1;injection c1 with c1;subst c1;obtain⟨kq,hkq⟩:=zQq g5 t (Nat.zero_le _) (by omega);obtain⟨wq,vq,d1,d2,d4,_⟩:=hw.len _ _ hkq;exact⟨z,c2,c3,by rw[d4]; exact c4 kq wq hkq (by rw[<- d1]; exact congrArg _ d2.symm)⟩
      obtain⟨g,hgz⟩:∃g:Nat->Int,∀t,t<n->wn.x+t+1<=arr.size/\arr[wn.x+t]? = some (.int .i64 (g t))/\J (Nat.succ (Nat.add f t))=wI (g t):=
       ⟨λt=>if ht:t<n then(hcz t ht).choose else 0,λt ht=>by simp only[dif_pos ht]; exact(hcz t ht).choose_spec⟩
      have he1:=he.updN (g:=g) (m:=n) (n:=e.u) λt ht=>hfu t ht;have he2:=he1.updN (g:=λt=>if(g t).tmod 3<0 then -1 else 0) (m:=n) (n:=e.b.length) λt ht=>hfb t ht;obtain⟨J2,hJ2⟩:∃J2,J2=upN (upN J e.u g n) e.b.length (λt=>if(g t).tmod 3<0 then -1 else 0) n:=⟨_,rfl⟩
      rw[<- hJ2]at he2;have s1:∀i,(i<e.b.length\/(1000<=i/\i<e.u))->J2 i=J i:=λi hi=>by rw[hJ2,wE (by omega),wE (by omega)]
      have s2:∀t,t<n->J2 (e.u+t)=g t:=λt ht=>by rw[hJ2,wE (by omega),zA8 ht]
      have s3:∀t,t<n->J2 (e.b.length+t)=if(g t).tmod 3<0 then -1 else 0:=λt ht=>by rw[hJ2,zA8 ht]
      obtain⟨e',mm,J',r1,r2⟩:=zh t (wLf e k f n) J2 h
       ⟨zAJ he2.b λt ht=>by rw[Nat.zero_add,s3 t ht]; split <;> simp,he2.f,zUi (λi _ hi=>by
        have hi:i<n:=by omega
        refine⟨mkInt .i64 ((g i).tmod 3),.inl rfl,?_,.inr ⟨_,rfl,?_⟩⟩
        . show yR .rem .i64 (evE J2 (sv (e.u+i))) (.ofNat 3)=_;rw[xn,s2 i hi];exact zT7 _
        . show mkInt .i64 ((g i).tmod 3)=mkInt .i64 ((0:Int)+(1*J2 (Nat.succ (Nat.add f i))+(3*J2 (e.b.length+i)+0)));rw[s1 _ (.inl (by show f+i+1<_; omega)),(hgz i hi).2.2,s3 i hi]
          congr 1
          unfold wI;split <;> omega) he2.r,λq hq J' K' hA hs=>by
          rcases List.mem_cons.1 hq with rfl |hq
          . refine⟨wn,arr,elem,fz,q1',a1,?_,λjj d hd=>?_⟩
            . rw[q3,Nat.mul_zero,Nat.add_zero];show wn.x+(wVs n e.u).length<=_;rw[zPy]
              have:=(hgz (n - 1) (by omega)).1
              omega
            . obtain⟨ht,rfl⟩:=zQE hd;refine⟨.int .i64 (g jj),by rw[q3,Nat.mul_zero,Nat.add_zero]; exact(hgz jj ht).2.1,λY _=>?_⟩;refine(@zp (linSym J' K') _ _ _).2 ?_;show Value.int .i64 (g jj)=.int .i64 (evE J' (sv (e.u+jj)));rw[xn,zML hs jj ht,s2 jj ht]
          . exact he2.w q hq J' K' hA hs⟩
       (hw.upd λj hj=>s1 j (.inl (by omega))) (by rw[s1 0 (.inl (by omega))]; exact h0) (by show _<(e.b++_).length; simp; omega) (by show(e.b++_).length<=_; rw[List.length_append,zC2]; exact g4) (by show 1000<=e.u+n; omega)
      exact⟨e',mm,J',r1,λj hj=>by rw[r2 j (by show j<(e.b++_).length\/(1000<=j/\j<e.u+n); rw[List.length_append,zC2]; omega)];exact s1 j hj⟩
    . cases h
  . cases h
end
def AllG(Q:Lf->Prop):List Lf->Prop
 | []=>True|e::l=>Q e/\AllG Q l
theorem zBd{Q:Lf->Prop}:∀{l:List Lf},AllG Q l->∀e∈l,Q e
 | [],_,e,he=>by cases he|x::l,h,e,he=>by
  rcases List.mem_cons.1 he with rfl |he
  . exact h.1
  . exact zBd h.2 e he
def zAL(m:Nat):List (Key × Nat)->Bool
 | []=>true|q::r=>Nat.ble (Nat.succ q.2) m&&zAL m r
theorem zBD{m:Nat}:∀{l:List (Key × Nat)},zAL m l=true->∀q∈l,q.2<m
 | [],_,q,h=>by cases h|x::r,h,q,hq=>by
  unfold zAL at h;rw[Bool.and_eq_true]at h;rcases List.mem_cons.1 hq with rfl |hq
  . exact @zH noSym _ _ h.1
  . exact zBD h.2 q hq
def AllS(Q:TS->Prop):List TS->Prop
 | []=>True|T::l=>Q T/\AllS Q l
theorem zDY{Q:TS->Prop}:∀{l:List TS} {t:Nat} {T:TS},AllS Q l->nth l t=some T->Q T
 | [],_,_,_,h=>by cases h|x::l,0,T,h,hn=>by injection hn with hn;subst hn;exact h.1
 |x::l,t+1,T,h,hn=>zDY (t:=t) h.2 hn
theorem allG_nil{Q:Lf->Prop}:AllG Q []:=trivial
theorem allG_cons{Q:Lf->Prop}{e:Lf}{l:List Lf}(h:Q e)(r:AllG Q l):AllG Q (e::l):=⟨h,r⟩
theorem zUA{Q:TS->Prop}:AllS Q []:=trivial
theorem zRI{Q:TS->Prop}{T:TS}{l:List TS}(h:Q T)(r:AllS Q l):AllS Q (T::l):=⟨h,r⟩
theorem len_of{wins:List Win}{L:List (Key × Nat)}{J:Nat->Int}{w:Win}{k:Key}{j:Nat}(h:LensAre wins L J)(hm:(k,j)∈L)(hw:findW wins k=some w):J j=w.len:=by obtain⟨wn,h1,h2⟩:=h _ hm;simp only at h1;rw[hw]at h1;injection h1 with h1;subst h1;exact h2
end
end Go.Ev
