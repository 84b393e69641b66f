/- A verified evaluator for the model's code: EvFrame, EvLits. -/
import Derived.Test.YtkolecenifiaaaaGreatDoorEvSum
set_option linter.unusedSectionVars false
set_option linter.unusedVariables false
set_option linter.unusedSimpArgs false
namespace Go.Ev
open Go.RowKit
noncomputable section
variable {P:Program}
structure Fs where
 args:List CV
 objs:List (Key × CObj)
 ext:List Key
 mid:Nat
 n:Key
 b:List (Int × Int)
 posts:List Po
 ros:List (Key × CObj):=[]
 pn:Nat:=0
 walk:List Nat:=[]
def zJd:Nat→List (Int × Int)
 | 0=>[]
 | n+1=>(0,255)::zJd n
def Fs.bA (s:Fs):List (Int × Int):=s.b++zJd s.pn
def jy (q:Nat):Nat→TH
 | 0=>[]
 | n+1=>(0,[(q,1)])::jy (Nat.succ q) n
theorem zKS:∀ {n:Nat},(zJd n).length=n
 | 0=>rfl
 | n+1=>by show (zJd n).length+1=_; rw [zKS]
theorem zJ6:∀ {n q:Nat},(jy q n).length=n
 | 0,_=>rfl
 | n+1,q=>by show (jy (q+1) n).length+1=_; rw [zJ6]
theorem zGj:∀ {n q i:Nat},i<n→nth (jy q n) i=some (0,[(q+i,1)])
 | 0,_,_,h=>by omega
 | n+1,q,0,_=>rfl
 | n+1,q,i+1,h=>by
  show nth (jy (q+1) n) i=_
  rw [zGj (by omega),show q+1+i=q+(i+1) from by omega]
theorem zE6 {α:Type}:∀ {l m:List α} {i:Nat},i<l.length→nth (l++m) i=nth l i
 | [],_,_,h=>by simp at h
 | _::_,_,0,_=>rfl
 | _::l,m,i+1,h=>zE6 (l:=l) (m:=m) (i:=i) (by simpa using h)
theorem zF5 {α:Type}:∀ {l m:List α} {i:Nat},nth (l++m) (l.length+i)=nth m i
 | [],_,i=>by rw [show ([]:List α).length+i=i from by simp]; rfl
 | x::l,m,i=>by
  rw [show (x::l).length+i=(l.length+i)+1 from by simp; omega]
  exact zF5 (l:=l) (m:=m) (i:=i)
theorem zCE {σ:Nat→Int} {n:Nat}:∀ {b:List (Int × Int)} {j:Nat},yL σ j b→(∀ i,i<n→0≤σ (j+b.length+i)∧σ (j+b.length+i)≤255)→yL σ j (b++zJd n)
 | [],j,_,h=>by
  have key:∀ {n j:Nat},(∀ i,i<n→0≤σ (j+i)∧σ (j+i)≤255)→yL σ j (zJd n):=by
   intro n
   induction n with
   | zero=>intro j _; trivial
   | succ n ih=>
    intro j h
    refine ⟨h 0 (by omega),ih fun i hi=>?_⟩
    have:=h (i+1) (by omega)
    rwa [show j+(i+1)=j+1+i from by omega] at this
  exact key fun i hi=>h i hi
 | q::r,j,hb,h=>⟨hb.1,zCE (b:=r) (j:=j+1) hb.2 fun i hi=>by
  have:=h i hi
  rwa [show j+(q::r).length+i=j+1+r.length+i from by simp; omega] at this⟩
def zQD {α:Type} (m mn:Nat) (l:LL) (y:Nat→α) (z:α):α:=
 List.rec (motive:=fun _=>α) z (fun p r _=>List.rec (motive:=fun _=>α) (Prod.rec (motive:=fun _=>α) (fun j a=>Bool.rec (motive:=fun _=>α) z (Bool.rec (motive:=fun _=>α) z (Bool.rec (motive:=fun _=>α) z (y j) (zj a 1)) (Nat.ble (Nat.succ j) mn)) (Nat.ble m j)) p) (fun _ _ _=>z) r) l
theorem zNV {α:Type} {m mn:Nat} {y:Nat→α} {z:α}:∀ {l:LL},zQD m mn l y z=z∨∃ j,l=[(j,1)]∧m≤j∧j<mn∧zQD m mn l y z=y j
 | []=>.inl rfl
 | _::_::_=>.inl rfl
 | [(j,a)]=>by
  show (Bool.rec (motive:=fun _=>α) z (Bool.rec (motive:=fun _=>α) z (Bool.rec (motive:=fun _=>α) z (y j) (zj a 1)) (Nat.ble (Nat.succ j) mn)) (Nat.ble m j))=z∨∃ j',[(j,a)]=[(j',1)]∧m≤j'∧j'<mn∧(Bool.rec (motive:=fun _=>α) z (Bool.rec (motive:=fun _=>α) z (Bool.rec (motive:=fun _=>α) z (y j) (zj a 1)) (Nat.ble (Nat.succ j) mn)) (Nat.ble m j))=y j'
  cases h1:Nat.ble m j with
  | false=>exact .inl rfl
  | true=>cases h2:Nat.ble (Nat.succ j) mn with
   | false=>exact .inl rfl
   | true=>cases h3:zj a 1 with
    | false=>exact .inl rfl
    | true=>
     rw [@za zP,decide_eq_true_eq] at h3
     subst h3
     exact .inr ⟨j,rfl,@zL zP _ _ h1,@zL zP _ _ h2,rfl⟩
theorem zLd {θ:TH} {n q j:Nat} (h1:θ.length≤j) (h2:j<θ.length+n):vz (θ++jy q n) [(j,1)]=some (0,[(q+(j - θ.length),1)]):=by
 have h:nth (θ++jy q n) j=some (0,[(q+(j - θ.length),1)]):=by
  rw [show j=θ.length+(j - θ.length) from by omega,zF5,zGj (by omega)]
  congr 4
  omega
 unfold vz vz
 show (match nth (θ++jy q n) j,some ((0:Int),([]:LL)) with
  | some q,some s=>some (1*q.1+s.1,wy (kg 1 q.2) s.2)
  | _,_=>none)=_
 rw [h]
 rfl
theorem zLa {θ t:TH}:∀ {l:LL} {s:Int × LL},vz θ l=some s→vz (θ++t) l=some s
 | [],s,h=>h
 | p::r,s,h=>by
  unfold vz at h ⊢
  split at h
  · rename_i x y hx hy
    have hlt:p.1<θ.length:=by
     rw [@yg zP] at hx
     exact (List.getElem?_eq_some_iff.1 hx).1
    rw [zE6 hlt,hx,zLa hy]
    exact h
  · cases h
def zMI (θ:TH) (q n:Nat) (l:LL):Option (Int × LL):=match zLx θ l with
 | some s=>some s
 | none=>zLx (θ++jy q n) l
theorem zOO {θ:TH} {q n:Nat} {l:LL}:zMI θ q n l=vz (θ++jy q n) l:=by
 unfold zMI
 rw [zAv,zAv]
 split
 · rename_i s hs
   exact (zLa hs).symm
 · rfl
def zWo (v:CV) (k:SE→Bool):Bool:=CV.rec (motive_1:=fun _=>Bool) (motive_2:=fun _=>Unit) (fun _=>false) (fun _=>false) (fun _ _=>false) (fun _=>false) (fun _=>false) false (fun _ _=>false) false (fun _ _ _ _ _ _=>false) false (fun _=>false) (fun _ _ _ _ _=>false) false (fun _ _ _=>false) false (fun _ _=>false) (fun _ _=>false) k (fun _ _ _ _=>false) (fun _ _=>false) (fun _=>false) (fun _ _=>false) (fun _ _ _ _=>false) false () (fun _ _ _ _=>()) v
def zVn (l:LL) (k:Nat→Bool):Bool:=List.rec (motive:=fun _=>Bool) false (fun p r _=>List.rec (motive:=fun _=>Bool) (Prod.rec (motive:=fun _=>Bool) (fun j a=>jT (zj a 1) (k j)) p) (fun _ _ _=>false) r) l
def zNa (o:Option (Int × LL)) (e:SE) (v:CV):Bool:=match zBn v with
 | some (k,c,l)=>match o with
  | some s=>kEq e.k k&&zj (e.c+s.1) c&&j6 s.2 l
  | none=>false
 | none=>false
def zQv (m q:Nat) (e:SE) (v:CV) (j:Nat):Bool:=zWo v fun e'=>jT (kEq e.k e'.k) (jT (zj e.c e'.c) (zVn e'.l fun i=>Nat.beq (Nat.add i m) (Nat.add q j)))
theorem zTG {m q j:Nat} (h:m≤j):∀ {l:LL},(zVn l fun i=>Nat.beq (Nat.add i m) (Nat.add q j))=j6 [(q+(j - m),1)] l
 | []=>rfl
 | [(i,a)]=>by
  show jT (zj a 1) (Nat.beq (Nat.add i m) (Nat.add q j))=(Nat.beq (q+(j - m)) i&&zj 1 a&&true)
  rw [qv,Bool.and_true,Bool.and_comm,Bool.eq_iff_iff,Bool.and_eq_true,Bool.and_eq_true,@za zP,@za zP,decide_eq_true_eq,decide_eq_true_eq]
  constructor
  · intro ⟨h1,h2⟩
    have h1:i+m=q+j:=Nat.eq_of_beq_eq_true h1
    refine ⟨?_,h2.symm⟩
    rw [show q+(j - m)=i from by omega]
    exact Nat.beq_refl _
  · intro ⟨h1,h2⟩
    have h1:=Nat.eq_of_beq_eq_true h1
    refine ⟨?_,h2.symm⟩
    rw [show Nat.add i m=Nat.add q j from by show i+m=q+j; omega]
    exact Nat.beq_refl _
 | p::r::t=>by
  show false=(Nat.beq (q+(j - m)) p.1&&zj 1 p.2&&false)
  rw [Bool.and_false]
theorem zQH {m q:Nat} {e:SE} {v:CV} {j:Nat} (h:m≤j):zQv m q e v j=zNa (some (0,[(q+(j - m),1)])) e v:=by
 have hc:∀ c:Int,c+(0:Int)=c:=fun c=>Int.add_zero c
 have key:∀ e':SE,jT (kEq e.k e'.k) (jT (zj e.c e'.c) (zVn e'.l fun i=>Nat.beq (Nat.add i m) (Nat.add q j)))=(kEq e.k e'.k&&zj (e.c+0) e'.c&&j6 [(q+(j - m),1)] e'.l):=by
  intro e'
  rw [qv,qv,zTG h,hc,Bool.and_assoc]
 cases v with
 | sym e'=>exact key e'
 | nat n=>
  show false=(kEq e.k .i64&&zj (e.c+0) (.ofNat n)&&false)
  rw [Bool.and_false]
 | int k c=>
  show false=(kEq e.k k&&zj (e.c+0) c&&false)
  rw [Bool.and_false]
 | _=>rfl
def zBS (θ:TH) (m mn q n:Nat) (e:SE) (v:CV):Bool:=zQD m mn e.l (zQv m q e v) (zNa (zMI θ q n e.l) e v)
theorem zKu {θ:TH} {m mn q n:Nat} (hm:m=θ.length) (hn:mn=m+n) (e:SE) (v:CV):zBS θ m mn q n e v=zAr (θ++jy q n) e v:=by
 have hs:∀ o,o=vz (θ++jy q n) e.l→zNa o e v=zAr (θ++jy q n) e v:=fun o ho=>by
  subst ho
  rfl
 unfold zBS
 rcases zNV (m:=m) (mn:=mn) (y:=zQv m q e v) (z:=zNa (zMI θ q n e.l) e v) (l:=e.l) with h | ⟨j,h1,h2,h3,h⟩
 · rw [h]
   exact hs _ zOO
 · rw [h,zQH h2]
   refine hs _ ?_
   rw [h1,hm]
   exact (zLd (by omega) (by omega)).symm
def fN (n:Nat) (k:Nat→CV):CV:=Nat.rec (motive:=fun _=>(Nat→CV)→CV) (fun k=>k 0) (fun m _ k=>k (Nat.succ m)) n k
theorem zWh {n:Nat} {k:Nat→CV}:fN n k=k n:=by cases n <;> rfl
def sbB (o:Option (Int × LL)) (e:SE):CV:=match o with
 | some s=>mkS e.k (e.c+s.1) s.2
 | none=>.any
def sbP (θ:TH) (m mn q n:Nat) (e:SE):CV:=SE.rec (motive:=fun _=>CV) (fun k c l=>zQD m mn l (fun j=>fN (Nat.add q (Nat.sub j m)) fun i=>.sym ⟨k,c,[(i,.ofNat 1)]⟩) (sbB (zMI θ q n l) ⟨k,c,l⟩)) e
theorem zVt {ρ:zC} {θ:TH} {m mn q n:Nat} (hm:m=θ.length) (hn:mn=m+n) (e:SE):sbP θ m mn q n e=yI ρ (θ++jy q n) (.sym e):=by
 have hs:∀ o,o=vz (θ++jy q n) e.l→sbB o e=yI ρ (θ++jy q n) (.sym e):=fun o ho=>by
  subst ho
  unfold yI
  rfl
 show zQD m mn e.l (fun j=>fN (Nat.add q (Nat.sub j m)) fun i=>CV.sym ⟨e.k,e.c,[(i,1)]⟩) (sbB (zMI θ q n e.l) e)=_
 rcases zNV (m:=m) (mn:=mn) (y:=fun j=>fN (Nat.add q (Nat.sub j m)) fun i=>CV.sym ⟨e.k,e.c,[(i,1)]⟩) (z:=sbB (zMI θ q n e.l) e) (l:=e.l) with h | ⟨j,h1,h2,h3,h⟩
 · rw [h]
   exact hs _ zOO
 · rw [h,← hs (some (0,[(q+(j - m),1)])) (by rw [h1,hm]; exact (zLd (by omega) (by omega)).symm)]
   show fN (Nat.add q (Nat.sub j m)) (fun i=>CV.sym ⟨e.k,e.c,[(i,1)]⟩)=CV.sym ⟨e.k,e.c+0,[(q+(j - m),1)]⟩
   rw [zWh,Int.add_zero]
   rfl
def zU7 (n:Nat) (kb:List (Int × Int)):Bool:=Nat.rec (motive:=fun _=>List (Int × Int)→Bool) (fun _=>true) (fun _ ih l=>List.rec (motive:=fun _=>Bool) false (fun x r _=>Prod.rec (motive:=fun _=>Bool) (fun a b=>jT (zj a 0) (jT (zj b 255) (ih r))) x) l) n kb
def zUE {α:Type} (q:Nat) (l:List α):List α:=Nat.rec (motive:=fun _=>List α→List α) (fun l=>l) (fun _ ih l=>List.rec (motive:=fun _=>List α) [] (fun _ r _=>ih r) l) q l
theorem zHV {α:Type}:∀ {q:Nat} {l:List α} {i:Nat},nth (zUE q l) i=nth l (q+i)
 | 0,l,i=>by rw [Nat.zero_add]; rfl
 | q+1,[],i=>by
  have h:∀ k,nth ([]:List α) k=none:=fun k=>by cases k <;> rfl
  show nth [] i=nth [] (q+1+i)
  rw [h,h]
 | q+1,x::l,i=>by
  rw [show q+1+i=(q+i)+1 from by omega]
  exact zHV (q:=q) (l:=l) (i:=i)
theorem zN1:∀ {n:Nat} {l:List (Int × Int)},zU7 n l=true→∀ i,i<n→nth l i=some (0,255)
 | 0,_,_,i,hi=>by omega
 | n+1,[],h,i,hi=>by cases h
 | n+1,(a,b)::l,h,i,hi=>by
  have h:jT (zj a 0) (jT (zj b 255) (zU7 n l))=true:=h
  simp only [qv,Bool.and_eq_true,@za zP,decide_eq_true_eq] at h
  obtain ⟨rfl,rfl,h⟩:=h
  cases i with
  | zero=>rfl
  | succ i=>
   show nth l i=some (0,255)
   exact zN1 (l:=l) h i (by omega)
def uT (ρ:zC) (si:SE→CV→Bool) (fw:Nat→List (List Nat)→CV→Bool) (l:List CV):List CV→Bool:=
 List.rec (motive:=fun _=>List CV→Bool) (fun _=>true) (fun a _ g m=>List.rec (motive:=fun _=>Bool) false (fun b r _=>jT (zRr ρ si fw a b) (g r)) m) l
def zUG (ρ:zC) (θ:TH) (si:SE→CV→Bool) (fw:Nat→List (List Nat)→CV→Bool) (o o':CObj):Bool:=match o,o' with
 | .cells a,.cells b=>uT ρ si fw a b
 | o,o'=>zBv ρ θ o o'
def zB5 (ρ inv:zC) (θ:TH) (si:SE→CV→Bool) (fw:Nat→List (List Nat)→CV→Bool) (h:zC) (lo hi:Nat):List (Key × CObj)→List Key→Bool
 | [],[]=>true
 | p::r,j::js=>jT (wD ρ p.1 j) <| jT (wD inv j p.1) <| jT (Nat.ble lo p.1.ix) <| jT (Nat.ble (Nat.succ p.1.ix) hi) <| jT (match zn j h with
  | some o=>zUG ρ θ si fw p.2 o
  | none=>false) (zB5 ρ inv θ si fw h lo hi r js)
 | _,_=>false
section
variable {ρ inv:zC} {θ:TH} {si:SE→CV→Bool} {fw:Nat→List (List Nat)→CV→Bool} (hs:∀ e d,si e d=zAr θ e d) (hf:∀ i t d,fw i t d=yK ρ θ (.few i t) d)
include hs hf
theorem uw:∀ {l m:List CV},uT ρ si fw l m=qY ρ θ l m
 | [],m=>by unfold qY; rfl
 | c::l,[]=>by unfold qY; rfl
 | c::l,d::m=>by
  unfold qY
  rw [← zBU hs hf c d,← uw (l:=l) (m:=m),← qv]
  rfl
theorem zQO {o o':CObj}:zUG ρ θ si fw o o'=zBv ρ θ o o':=by
 cases o <;> cases o' <;> first | rfl | exact uw hs hf
theorem zDP {h:zC} {lo hi:Nat}:∀ {l:List (Key × CObj)} {ks:List Key},zB5 ρ inv θ si fw h lo hi l ks=qU ρ inv θ h lo hi l ks
 | [],[]=>rfl
 | [],_::_=>rfl
 | _::_,[]=>rfl
 | p::r,j::js=>by
  unfold zB5 qU
  rw [zDP (l:=r) (ks:=js)]
  cases zn j h <;> simp only [qv,zQO hs hf,Bool.and_assoc]
end
def zDV:List (Key × CObj)→Bool
 | []=>true
 | p::r=>p.2.isRo&&zDV r
theorem zHX:∀ {l:List (Key × CObj)},zDV l=true→∀ q∈l,q.2.isRo=true
 | [],_,q,h=>by simp at h
 | p::r,h,q,hq=>by
  unfold zDV at h
  rw [Bool.and_eq_true] at h
  rcases List.mem_cons.1 hq with rfl | hq
  · exact h.1
  · exact zHX h.2 q hq
theorem vf {b:List (Key × CObj)} {k:Key} {o:CObj}:∀ {a:List (Key × CObj)},wG (a++b) k=some o→wG a k=some o∨(k,o)∈b
 | [],h=>by
  rcases jH (show zn k (mkH .nil ([]++b))=some o from h) with ⟨j,hj⟩ | hn
  · exact .inr (List.mem_of_getElem? (by simpa using hj))
  · rw [jZ] at hn; cases hn
 | p::a,h=>by
  have h:zn k (yu (some p.2) p.1 (mkH .nil (a++b)))=some o:=h
  show zn k (yu (some p.2) p.1 (mkH .nil a))=some o∨_
  rw [@zC3 zP] at h ⊢
  by_cases e:k=p.1
  · rw [if_pos e] at h ⊢
    exact .inl h
  · rw [if_neg e] at h ⊢
    exact vf (a:=a) h
def zPX:List Key→List (Key × CObj)
 | []=>[]
 | k::r=>(k,.cells [])::zPX r
def xP (objs:List (Key × CObj)) (ext ks es:List Key):zC:=j3 (objs++zPX ext) (ks++es)
theorem zKr:∀ {l:List Key} {i:Nat} {k:Key} {o:CObj},(zPX l)[i]? = some (k,o)→l[i]? = some k
 | [],i,k,o,h=>by simp [zPX] at h
 | x::r,0,k,o,h=>by simp [zPX] at h; simp [h.1]
 | x::r,i+1,k,o,h=>by
  have:=zKr (l:=r) (i:=i) (k:=k) (o:=o) (by simpa [zPX] using h)
  simpa using this
theorem zNw {objs:List (Key × CObj)} {ext ks es:List Key} {k b:Key} (hl:objs.length=ks.length) (h:zm (xP objs ext ks es) k=some b) :
 (∃ (i:Nat) (o:CObj),objs[i]? = some (k,o)∧ks[i]? = some b)∨∃ i:Nat,ext[i]? = some k∧es[i]? = some b:=by
 obtain ⟨j,o,h1,h2⟩:=zGk h
 rcases Nat.lt_or_ge j objs.length with g | g
 · rw [List.getElem?_append_left g] at h1
   rw [List.getElem?_append_left (by omega)] at h2
   exact .inl ⟨j,o,h1,h2⟩
 · rw [List.getElem?_append_right g] at h1
   rw [List.getElem?_append_right (by omega),← hl] at h2
   exact .inr ⟨_,zKr h1,h2⟩
def zPD (ρ:zC) (ψ:Psi):Psi:=fun k=>match zm ρ k with
 | some j=>ψ j
 | none=>none
theorem zCJ {ρ:zC} {ψ:Psi} {k j:Key} (h:zm ρ k=some j):zPD ρ ψ k=ψ j:=by
 unfold zPD
 rw [h]
theorem zEn {ρ:zC} {ψ:Psi}:zA7 ρ ψ (zPD ρ ψ):=fun k j p hk hp=>⟨p,by rw [zCJ (jE hk)]; exact hp,rfl,rfl,rfl⟩
def zOc (ρ:zC) (θ:TH):List CE→List CE→Bool
 | [],[]=>true
 | a::as,b::bs=>yK ρ θ a.key b.key&&yK ρ θ a.val b.val&&Nat.beq a.born b.born&&zOc ρ θ as bs
 | _,_=>false
def zE5 (ρ:zC) (θ:TH):CObj→CObj→Bool
 | .cells a,.cells b=>uf ρ θ a b
 | .cells a,.full _ b=>uf ρ θ a b
 | .map es c,.map es' c'=>Nat.beq c c'&&zOc ρ θ es es'
 | _,_=>false
section
variable {σs σT:Nat→Int} {Ks KT:zY} {θ:TH} {ρ:zC} {ψs ψT:Psi}
theorem zJ9 (hθ:qX σs σT θ) (hψ:zA7 ρ ψs ψT) {ck:Nat→Nat}:∀ {as bs:List CE} {l:List MapEntry},zOc ρ θ as bs=true→@yM (linSym σs Ks) ψs ck bs l→@yM (linSym σT KT) ψT ck as l
 | [],[],l,_,hl=>hl
 | [],_::_,_,h,_=>by cases h
 | _::_,[],_,h,_=>by cases h
 | a::as,b::bs,l,h,hl=>by
  unfold zOc at h
  simp only [Bool.and_eq_true] at h
  obtain ⟨⟨⟨c1,c2⟩,c3⟩,c4⟩:=h
  have c3:=@yD zP _ _ c3
  obtain ⟨e,r,rfl,⟨h1,h2,h3⟩,h4⟩:=hl
  exact ⟨e,r,rfl,⟨qT hθ hψ _ _ c1 h1,qT hθ hψ _ _ c2 h2,by rw [h3,c3]⟩,zJ9 hθ hψ c4 h4⟩
theorem zFN (hθ:qX σs σT θ) (hψ:zA7 ρ ψs ψT) {o o':CObj} (h:zE5 ρ θ o o'=true) {w:World} {p:Pl} (ho:@xM (linSym σs Ks) ψs w p o'):@xM (linSym σT KT) ψT w p o∧o.isRo=false∧o'.isRo=false:=by
 unfold zE5 at h
 split at h
 · rw [jX] at h
   exact ⟨wP hθ hψ h rfl rfl rfl ho,rfl,rfl⟩
 · rw [jX] at h
   exact ⟨wP hθ hψ h rfl rfl rfl (@jW.toCells (linSym σs Ks) _ _ _ _ _ ho),rfl,rfl⟩
 · rename_i es c es' c'
   rw [Bool.and_eq_true] at h
   have hc:=@yD zP _ _ h.1
   subst hc
   obtain ⟨arr,g1,⟨l0,gp,g2⟩,g3⟩:=ho
   exact ⟨⟨arr,g1,⟨l0,gp,zJ9 hθ hψ h.2 g2⟩,g3⟩,rfl,rfl⟩
 · cases h
end
def wk (ρ inv:zC) (θ:TH) (h:zC) (lo hi:Nat):List (Key × CObj)→List Key→Bool
 | [],[]=>true
 | p::r,j::js=>wD ρ p.1 j&&wD inv j p.1&&Nat.ble lo p.1.ix&&Nat.ble (Nat.succ p.1.ix) hi&&(match zn j h with
  | some o=>zE5 ρ θ p.2 o
  | none=>false)&&wk ρ inv θ h lo hi r js
 | _,_=>false
def zRQ (ρ:zC) (θ:TH) (si:SE→CV→Bool) (fw:Nat→List (List Nat)→CV→Bool):CObj→CObj→Bool
 | .cells a,.cells b=>uT ρ si fw a b
 | .cells a,.full _ b=>uT ρ si fw a b
 | o,o'=>zE5 ρ θ o o'
def zA0 (ρ inv:zC) (θ:TH) (si:SE→CV→Bool) (fw:Nat→List (List Nat)→CV→Bool) (h:zC) (lo hi:Nat):List (Key × CObj)→List Key→Bool
 | [],[]=>true
 | p::r,j::js=>wD ρ p.1 j&&wD inv j p.1&&Nat.ble lo p.1.ix&&Nat.ble (Nat.succ p.1.ix) hi&&(match zn j h with
  | some o=>zRQ ρ θ si fw p.2 o
  | none=>false)&&zA0 ρ inv θ si fw h lo hi r js
 | _,_=>false
theorem zPN {ρ:zC} {θ:TH} {si:SE→CV→Bool} {fw:Nat→List (List Nat)→CV→Bool} (hs:∀ e d,si e d=zAr θ e d) (hf:∀ i t d,fw i t d=yK ρ θ (.few i t) d) {o o':CObj}:zRQ ρ θ si fw o o'=zE5 ρ θ o o':=by
 have h:∀ a b,uT ρ si fw a b=uf ρ θ a b:=fun a b=>by rw [uw hs hf,jX]
 cases o <;> cases o' <;> first | rfl | exact h _ _
theorem zCx {ρ inv:zC} {θ:TH} {si:SE→CV→Bool} {fw:Nat→List (List Nat)→CV→Bool} (hs:∀ e d,si e d=zAr θ e d) (hf:∀ i t d,fw i t d=yK ρ θ (.few i t) d) {h:zC} {lo hi:Nat}:∀ {l:List (Key × CObj)} {ks:List Key},zA0 ρ inv θ si fw h lo hi l ks=wk ρ inv θ h lo hi l ks
 | [],[]=>rfl
 | [],_::_=>rfl
 | _::_,[]=>rfl
 | p::r,j::js=>by
  unfold zA0 wk
  rw [zCx hs hf (l:=r) (ks:=js)]
  cases zn j h <;> simp only [zPN hs hf]
theorem zAu {ρ inv:zC} {θ:TH} {h:zC} {lo hi:Nat}:∀ {objs:List (Key × CObj)} {ks:List Key},wk ρ inv θ h lo hi objs ks=true→objs.length=ks.length∧∀ (j:Nat) (k:Key) (o:CObj),objs[j]? = some (k,o) →
 ∃ i o',ks[j]? = some i∧zm ρ k=some i∧zm inv i=some k∧lo≤k.ix∧k.ix<hi∧zn i h=some o'∧zE5 ρ θ o o'=true
 | [],[],_=>⟨rfl,fun j k o hj=>by simp at hj⟩
 | [],_::_,hc=>by cases hc
 | _::_,[],hc=>by cases hc
 | p::r,i::is,hc=>by
  unfold wk at hc
  simp only [Bool.and_eq_true] at hc
  obtain ⟨⟨⟨⟨⟨c1,c2⟩,c3⟩,c4⟩,c5⟩,c6⟩:=hc
  obtain ⟨hl,hr⟩:=zAu c6
  refine ⟨by simp [hl],fun j k o hj=>?_⟩
  cases j with
  | zero=>
   simp at hj
   subst hj
   split at c5
   · rename_i o' ho
     exact ⟨i,o',rfl,jE c1,jE c2,@zL zP _ _ c3,@zL zP _ _ c4,ho,c5⟩
   · cases c5
  | succ j=>
   obtain ⟨i',o',h1,h2⟩:=hr j k o (by simpa using hj)
   exact ⟨i',o',by simpa using h1,h2⟩
theorem zM2 {σs σT:Nat→Int} {Ks KT:zY} {θ:TH} {ρ inv:zC} {objs:List (Key × CObj)} {ks:List Key} {h:zC} {lo hi:Nat} {ψ:Psi} {w:World} (hθ:qX σs σT θ) (hR:@Rel (linSym σs Ks) ψ (zC.fam h) w)
 (hc:wk ρ inv θ h lo hi objs ks=true) :
 @Rel (linSym σT KT) (zPD ρ ψ) (wG objs) w ∧
 (∀ k o p,wG objs k=some o→zPD ρ ψ k=some p→o.isRo=false∧∃ k0 o0,zC.fam h k0=some o0∧o0.isRo=false∧ψ k0=some p):=by
 have hTot:∀ k o,zC.fam h k=some o→∃ p,ψ k=some p:=@Rel.tot (linSym σs Ks) _ _ _ hR
 have hOn:∀ k o p,zC.fam h k=some o→ψ k=some p→@xM (linSym σs Ks) ψ w p o:=@Rel.on (linSym σs Ks) _ _ _ hR
 have hInj:=@Rel.inj (linSym σs Ks) _ _ _ hR
 have hobj:=(zAu hc).2
 have hfam:∀ k o p,wG objs k=some o→zPD ρ ψ k=some p→∃ b o',zm ρ k=some b∧zm inv b=some k∧zC.fam h b=some o'∧ψ b=some p∧zE5 ρ θ o o'=true:=by
  intro k o p hk hp
  rcases jH hk with ⟨j,hj⟩ | hn
  · obtain ⟨b,o',g1,g2,g3,g4,g5,g6,g7⟩:=hobj j k o hj
    rw [zCJ g2] at hp
    exact ⟨b,o',g2,g3,g6,hp,g7⟩
  · rw [jZ] at hn; cases hn
 refine ⟨?_,?_⟩
 · refine @Rel.mk (linSym σT KT) _ _ _ ?_ ?_ ?_
   · intro k o p hk hp
     obtain ⟨b,o',g1,g2,g3,g4,g5⟩:=hfam k o p hk hp
     exact (zFN hθ zEn g5 (hOn b o' p g3 g4)).1
   · intro k o hk
     rcases jH hk with ⟨j,hj⟩ | hn
     · obtain ⟨b,o',g1,g2,g3,g4,g5,g6,g7⟩:=hobj j k o hj
       obtain ⟨p0,hp0⟩:=hTot b o' g6
       exact ⟨p0,by rw [zCJ g2]; exact hp0⟩
     · rw [jZ] at hn; cases hn
   · intro k₁ k₂ o₁ o₂ p₁ p₂ h1 h2 h3 h4 hr e
     obtain ⟨b1,o1',g1,g2,g3,g4,g5⟩:=hfam _ _ _ h1 h3
     obtain ⟨b2,o2',f1,f2,f3,f4,f5⟩:=hfam _ _ _ h2 h4
     have:=hInj b1 b2 _ _ _ _ g3 f3 g4 f4 (.inl (zFN (KT:=KT) (σT:=σT) hθ zEn g5 (hOn b1 o1' _ g3 g4)).2.2) e
     subst this
     rw [g2] at f2
     injection f2
 · intro k o p hk hp
   obtain ⟨b,o',g1,g2,g3,g4,g5⟩:=hfam k o p hk hp
   have hro:=(zFN (KT:=KT) (σT:=σT) hθ zEn g5 (hOn b o' p g3 g4)).2
   exact ⟨hro.1,b,o',g3,hro.2,g4⟩
structure zTC (S:Sym) (ψ:Psi) (s:Fs) (w:World) (po:Po) (v:Value) (ψ':Psi) (w':World):Prop where
 ext:∀ k∈s.ext,k.ix<s.n.ix→ψ' k=ψ k
 pin:∀ (i:Nat) k o,po.objs[i]? = some (k,o)→k.ix<s.mid→∀ p,ψ k=some p→ψ' k=some p
 rel:@Rel S ψ' (wG po.objs) w'
 val:@zH S ψ' po.v v
 own:∀ k o p,wG po.objs k=some o→ψ' k=some p→o.isRo=false∧zGP ψ s.objs w p.blk
 lft:Lft (zGP ψ s.objs w) w w'
def FsOk (P:Program) (f:FuncId) (s:Fs):Prop:=∀ (σ:Nat→Int),yL σ 0 s.bA→∀ (ψ:Psi) (w:World) (args':Array Value),
 (∀ σ' K',(∀ j,j<s.bA.length→σ' j=σ j)→K'.arg=noA→@zS (linSym σ' K') ψ s.args args'.toList∧@Rel (linSym σ' K') ψ (wG (s.objs++s.ros)) w)→kR P ψ→xc ψ s.n →
 yR P f args' w fun v w'=>∃ po∈s.posts,∃ ψ',zTC (linSym σ kno) ψ s w po v ψ' w'
def zTr (k j:Key) (a:HA):HA:=match Nat.ble 32768 k.ix with
 | true=>⟨a.f,a.b,a.c,(k.ix,.ofNat j.ix,[])::a.th⟩
 | false=>match Nat.beq k.ix a.c with
  | true=>⟨a.f,j::a.b,Nat.succ a.c,a.th⟩
  | false=>a
def zV7 (pm:Nat) (e:SE) (v:CV) (a:HA):HA:=List.rec (motive:=fun _=>HA) a (fun p r _=>List.rec (motive:=fun _=>HA) (Prod.rec (motive:=fun _=>HA) (fun j _=>Bool.rec (motive:=fun _=>HA) (zVX e v a) a (Nat.ble (Nat.succ pm) j)) p) (fun _ _ _=>a) r) e.l
def gV (pm:Nat) (c:CV):CV→HA→HA:=CV.rec (motive_1:=fun _=>CV→HA→HA) (motive_2:=fun _=>List CV→HA→HA)
 (fun x0 d a=>a)
 (fun x0 d a=>a)
 (fun x0 x1 d a=>a)
 (fun x0 d a=>a)
 (fun x0 d a=>a)
 (fun d a=>a)
 (fun x0 x1 d a=>(CV.rec (motive_1:=fun _=>HA→HA) (motive_2:=fun _=>Unit) (fun _=>(fun a=>a)) (fun _=>(fun a=>a)) (fun _ _=>(fun a=>a)) (fun _=>(fun a=>a)) (fun _=>(fun a=>a)) (fun a=>a) (fun y0 y1=>(fun a=>zTr x0 y0 a)) (fun a=>a) (fun _ _ _ _ _ _=>(fun a=>a)) (fun a=>a) (fun _=>(fun a=>a)) (fun _ _ _ _ _=>(fun a=>a)) (fun a=>a) (fun _ _ _=>(fun a=>a)) (fun a=>a) (fun _ _=>(fun a=>a)) (fun _ _=>(fun a=>a)) (fun _=>(fun a=>a)) (fun _ _ _ _=>(fun a=>a)) (fun _ _=>(fun a=>a)) (fun _=>(fun a=>a)) (fun _ _=>(fun a=>a)) (fun _ _ _ _=>(fun a=>a)) (fun a=>a) () (fun _ _ _ _=>()) d) a)
 (fun d a=>a)
 (fun x0 x1 x2 x3 x4 x5 d a=>(CV.rec (motive_1:=fun _=>HA→HA) (motive_2:=fun _=>Unit) (fun _=>(fun a=>a)) (fun _=>(fun a=>a)) (fun _ _=>(fun a=>a)) (fun _=>(fun a=>a)) (fun _=>(fun a=>a)) (fun a=>a) (fun _ _=>(fun a=>a)) (fun a=>a) (fun y0 y1 y2 y3 y4 y5=>(fun a=>zTr x0 y0 a)) (fun a=>a) (fun _=>(fun a=>a)) (fun _ _ _ _ _=>(fun a=>a)) (fun a=>a) (fun _ _ _=>(fun a=>a)) (fun a=>a) (fun _ _=>(fun a=>a)) (fun _ _=>(fun a=>a)) (fun _=>(fun a=>a)) (fun _ _ _ _=>(fun a=>a)) (fun _ _=>(fun a=>a)) (fun _=>(fun a=>a)) (fun _ _=>(fun a=>a)) (fun _ _ _ _=>(fun a=>a)) (fun a=>a) () (fun _ _ _ _=>()) d) a)
 (fun d a=>a)
 (fun x0 d a=>(CV.rec (motive_1:=fun _=>HA→HA) (motive_2:=fun _=>Unit) (fun _=>(fun a=>a)) (fun _=>(fun a=>a)) (fun _ _=>(fun a=>a)) (fun _=>(fun a=>a)) (fun _=>(fun a=>a)) (fun a=>a) (fun _ _=>(fun a=>a)) (fun a=>a) (fun _ _ _ _ _ _=>(fun a=>a)) (fun a=>a) (fun y0=>(fun a=>zTr x0 y0 a)) (fun _ _ _ _ _=>(fun a=>a)) (fun a=>a) (fun _ _ _=>(fun a=>a)) (fun a=>a) (fun _ _=>(fun a=>a)) (fun _ _=>(fun a=>a)) (fun _=>(fun a=>a)) (fun _ _ _ _=>(fun a=>a)) (fun _ _=>(fun a=>a)) (fun _=>(fun a=>a)) (fun _ _=>(fun a=>a)) (fun _ _ _ _=>(fun a=>a)) (fun a=>a) () (fun _ _ _ _=>()) d) a)
 (fun x0 x1 x2 ha hc d a=>(CV.rec (motive_1:=fun _=>HA→HA) (motive_2:=fun _=>Unit) (fun _=>(fun a=>a)) (fun _=>(fun a=>a)) (fun _ _=>(fun a=>a)) (fun _=>(fun a=>a)) (fun _=>(fun a=>a)) (fun a=>a) (fun _ _=>(fun a=>a)) (fun a=>a) (fun _ _ _ _ _ _=>(fun a=>a)) (fun a=>a) (fun _=>(fun a=>a)) (fun y0 y1 y2 _ _=>(fun a=>hc y2 (ha y1 a))) (fun a=>a) (fun _ _ _=>(fun a=>a)) (fun a=>a) (fun _ _=>(fun a=>a)) (fun _ _=>(fun a=>a)) (fun _=>(fun a=>a)) (fun _ _ _ _=>(fun a=>a)) (fun _ _=>(fun a=>a)) (fun _=>(fun a=>a)) (fun _ _=>(fun a=>a)) (fun _ _ _ _=>(fun a=>a)) (fun a=>a) () (fun _ _ _ _=>()) d) a)
 (fun d a=>a)
 (fun x0 x1 hv d a=>(CV.rec (motive_1:=fun _=>HA→HA) (motive_2:=fun _=>Unit) (fun _=>(fun a=>a)) (fun _=>(fun a=>a)) (fun _ _=>(fun a=>a)) (fun _=>(fun a=>a)) (fun _=>(fun a=>a)) (fun a=>a) (fun _ _=>(fun a=>a)) (fun a=>a) (fun _ _ _ _ _ _=>(fun a=>a)) (fun a=>a) (fun _=>(fun a=>a)) (fun _ _ _ _ _=>(fun a=>a)) (fun a=>a) (fun y0 y1 _=>(fun a=>hv y1 a)) (fun a=>a) (fun _ _=>(fun a=>a)) (fun _ _=>(fun a=>a)) (fun _=>(fun a=>a)) (fun _ _ _ _=>(fun a=>a)) (fun _ _=>(fun a=>a)) (fun _=>(fun a=>a)) (fun _ _=>(fun a=>a)) (fun _ _ _ _=>(fun a=>a)) (fun a=>a) () (fun _ _ _ _=>()) d) a)
 (fun d a=>a)
 (fun x0 hl d a=>(CV.rec (motive_1:=fun _=>HA→HA) (motive_2:=fun _=>Unit) (fun _=>(fun a=>a)) (fun _=>(fun a=>a)) (fun _ _=>(fun a=>a)) (fun _=>(fun a=>a)) (fun _=>(fun a=>a)) (fun a=>a) (fun _ _=>(fun a=>a)) (fun a=>a) (fun _ _ _ _ _ _=>(fun a=>a)) (fun a=>a) (fun _=>(fun a=>a)) (fun _ _ _ _ _=>(fun a=>a)) (fun a=>a) (fun _ _ _=>(fun a=>a)) (fun a=>a) (fun y0 _=>(fun a=>hl y0 a)) (fun _ _=>(fun a=>a)) (fun _=>(fun a=>a)) (fun _ _ _ _=>(fun a=>a)) (fun _ _=>(fun a=>a)) (fun _=>(fun a=>a)) (fun _ _=>(fun a=>a)) (fun _ _ _ _=>(fun a=>a)) (fun a=>a) () (fun _ _ _ _=>()) d) a)
 (fun x0 hl d a=>(CV.rec (motive_1:=fun _=>HA→HA) (motive_2:=fun _=>Unit) (fun _=>(fun a=>a)) (fun _=>(fun a=>a)) (fun _ _=>(fun a=>a)) (fun _=>(fun a=>a)) (fun _=>(fun a=>a)) (fun a=>a) (fun _ _=>(fun a=>a)) (fun a=>a) (fun _ _ _ _ _ _=>(fun a=>a)) (fun a=>a) (fun _=>(fun a=>a)) (fun _ _ _ _ _=>(fun a=>a)) (fun a=>a) (fun _ _ _=>(fun a=>a)) (fun a=>a) (fun _ _=>(fun a=>a)) (fun y0 _=>(fun a=>hl y0 a)) (fun _=>(fun a=>a)) (fun _ _ _ _=>(fun a=>a)) (fun _ _=>(fun a=>a)) (fun _=>(fun a=>a)) (fun _ _=>(fun a=>a)) (fun _ _ _ _=>(fun a=>a)) (fun a=>a) () (fun _ _ _ _=>()) d) a)
 (fun x0 d a=>zV7 pm x0 d a)
 (fun x0 x1 x2 x3 d a=>a)
 (fun x0 hl d a=>(CV.rec (motive_1:=fun _=>HA→HA) (motive_2:=fun _=>Unit) (fun _=>(fun a=>a)) (fun _=>(fun a=>a)) (fun _ _=>(fun a=>a)) (fun _=>(fun a=>a)) (fun y0=>(fun a=>hl (x8 y0) a)) (fun a=>a) (fun _ _=>(fun a=>a)) (fun a=>a) (fun _ _ _ _ _ _=>(fun a=>a)) (fun a=>a) (fun _=>(fun a=>a)) (fun _ _ _ _ _=>(fun a=>a)) (fun a=>a) (fun _ _ _=>(fun a=>a)) (fun a=>a) (fun _ _=>(fun a=>a)) (fun _ _=>(fun a=>a)) (fun _=>(fun a=>a)) (fun _ _ _ _=>(fun a=>a)) (fun y0 _=>(fun a=>hl y0 a)) (fun _=>(fun a=>a)) (fun _ _=>(fun a=>a)) (fun _ _ _ _=>(fun a=>a)) (fun a=>a) () (fun _ _ _ _=>()) d) a)
 (fun x0 d a=>a)
 (fun x0 x1 d a=>zVJ x0 x1 d a)
 (fun x0 x1 x2 x3 d a=>a)
 (fun d a=>a)
 (fun _ a=>a)
 (fun _ _ h g m a=>List.rec (motive:=fun _=>HA) a (fun b r _=>g r (h b a)) m) c
def gVs (pm:Nat) (l m:List CV) (a:HA):HA:=gV pm (.agg l) (.agg m) a
def gEs (pm:Nat):List CE→List CE→HA→HA
 | x::xs,y::ys,a=>gEs pm xs ys (gV pm x.val y.val (gV pm x.key y.key a))
 | _,_,a=>a
def gZ (pm:Nat):List (CV × CV)→List (CV × CV)→HA→HA
 | x::xs,y::ys,a=>gZ pm xs ys (gV pm x.2 y.2 a)
 | x::xs,[],a=>gZ pm xs [] (gV pm x.2 (.str []) a)
 | _,_,a=>a
def gO (pm:Nat):CObj→CObj→HA→HA
 | .cells x,.cells y,a=>gVs pm x y a
 | .cells x,.full _ y,a=>gVs pm x y a
 | .map x _,.map y _,a=>gEs pm x (vT y) a
 | .mapz x,.mapz y,a=>gZ pm x y a
 | .mapz x,.map _ _,a=>gZ pm x [] a
 | .seen x,.seen y,a=>zTr x y a
 | _,_,a=>a
def gOR (pm:Nat) (o o':CObj) (a:HA):HA:=match o,o' with
 | .map x _,.map y _=>gEs pm x y a
 | o,o'=>gO pm o o' a
def zUv (pm:Nat) (h:zC):List (Key × CObj)→HA→List Key→List Key × HA
 | [],a,ks=>(ks.reverse,a)
 | p::r,a,ks=>match zTz a with
  | none=>(ks.reverse,a)
  | some (j,a)=>match zn j h with
   | some o=>zUv pm h r (gOR pm p.2 o a) (j::ks)
   | none=>(ks.reverse,a)
def zVN (th:List (Nat × Int × LL)):List Key→List Key
 | []=>[]
 | k::r=>(match (zJG k.ix th).1 with
  | .ofNat m=>Key.ofNat m
  | .negSucc _=>k)::zVN th r
def zWq (v:Int × LL):Key:=match v.1 with
 | .ofNat m=>Key.ofNat m
 | .negSucc _=>Key.ofNat 0
def zWJ (th:List (Nat × Int × LL)) (n:Nat) (acc:List Key):Option (List Key):=List.rec (motive:=fun _=>Nat→List Key→Option (List Key)) (fun n acc=>Bool.rec (motive:=fun _=>Option (List Key)) none (some acc) (Nat.beq n 0))
 (fun q _ ih n acc=>Prod.rec (motive:=fun _=>Option (List Key)) (fun i v=>Bool.rec (motive:=fun _=>Option (List Key)) (ih n acc) (ih (Nat.sub n 1) (zWq v::acc)) (Nat.beq i (Nat.add 32767 n))) q) th n acc
def zV5 (th:List (Nat × Int × LL)) (ext:List Key):List Key:=match zWJ th ext.length [] with
 | some l=>l
 | none=>zVN th ext
def zU2 (mid:Nat):List (Key × CObj)→List Key
 | []=>[]
 | p::r=>match Nat.ble mid p.1.ix with
  | true=>zU2 mid r
  | false=>p.1::zU2 mid r
def zSJ (mid:Nat):List (Key × CObj)→List Key→Bool
 | [],[]=>true
 | p::r,j::js=>(match Nat.ble mid p.1.ix with
  | true=>true
  | false=>Nat.beq p.1.ix j.ix)&&zSJ mid r js
 | _,_=>false
theorem zOk {mid:Nat}:∀ {l:List (Key × CObj)} {ks:List Key},zSJ mid l ks=true→∀ (i:Nat) k o j,l[i]? = some (k,o)→ks[i]? = some j→k.ix<mid→j=k
 | [],_,_,i,k,o,j,h1,_,_=>by simp at h1
 | _::_,[],h,_,_,_,_,_,_,_=>by cases h
 | p::r,x::js,h,i,k,o,j,h1,h2,hk=>by
  unfold zSJ at h
  rw [Bool.and_eq_true] at h
  cases i with
  | zero=>
   simp at h1 h2
   subst h1 h2
   have h3:=h.1
   split at h3
   · rename_i hb
     have:=@zL zP _ _ hb
     simp only at this hk
     omega
   · exact (@Key.ix_inj zP _ _ (Nat.eq_of_beq_eq_true h3)).symm
  | succ i=>exact zOk h.2 i k o j (by simpa using h1) (by simpa using h2) hk
theorem zNl {t:List (Int × Int)}:∀ {r:List (Int × Int)} {j:Nat},thK (r++t) j=thK r j++thK t (j+r.length)
 | [],j=>rfl
 | x::r,j=>by
  show (0,[(j,1)])::thK (r++t) (j+1)=(0,[(j,1)])::(thK r (j+1)++thK t (j+(r.length+1)))
  rw [zNl,show j+1+r.length=j+(r.length+1) from by omega]
theorem zSu:∀ {n j:Nat},thK (zJd n) j=jy j n
 | 0,_=>rfl
 | n+1,j=>by
  show (0,[(j,1)])::thK (zJd n) (j+1)=(0,[(j,1)])::jy (j+1) n
  rw [zSu]
theorem zS4:∀ {b:List (Int × Int)},(thS b).length=b.length:=by
 have key:∀ {r:List (Int × Int)} {j:Nat},(thK r j).length=r.length:=by
  intro r
  induction r with
  | nil=>intro j; rfl
  | cons x r ih=>intro j; show (thK r (j+1)).length+1=_; rw [ih]; rfl
 intro b
 cases b with
 | nil=>rfl
 | cons x r=>show (thK r 1).length+1=_; rw [key]; rfl
def zRs (s:Fs):Bool:=match s.b with
 | []=>Nat.beq s.pn 0
 | _=>true
theorem zVj {s:Fs} (h:zRs s=true):thS s.bA=thS s.b++jy s.b.length s.pn:=by
 unfold Fs.bA
 cases hb:s.b with
 | nil=>
  unfold zRs at h
  rw [hb] at h
  have e:s.pn=0:=Nat.eq_of_beq_eq_true h
  rw [e]
  rfl
 | cons x r=>
  show (0,[])::thK (r++zJd s.pn) 1=(0,[])::(thK r 1++jy (r.length+1) s.pn)
  rw [zNl,zSu,Nat.add_comm 1]
def fNB (n:Nat) (k:Nat→Bool):Bool:=Nat.rec (motive:=fun _=>(Nat→Bool)→Bool) (fun k=>k 0) (fun m _ k=>k (Nat.succ m)) n k
theorem zQ9 {n:Nat} {k:Nat→Bool}:fNB n k=k n:=by cases n <;> rfl
def zMh (G:Nat) (s:Fs) (m mn:Nat) (po:Po) (v:CV) (h:zC) (n:Key) (ks:List Key):Bool:=
 zRs s&&zA0 (xP po.objs s.ext ks s.ext) (jo po.objs ks) (thS s.bA) (zBS (thS s.b) m mn m s.pn) (fun i t d=>yK (xP po.objs s.ext ks s.ext) (thS s.bA) (.few i t) d) h G 65535 po.objs ks&&zRr (xP po.objs s.ext ks s.ext) (zBS (thS s.b) m mn m s.pn) (fun i t d=>yK (xP po.objs s.ext ks s.ext) (thS s.bA) (.few i t) d) po.v v&&zSJ s.mid po.objs ks&&zFl (xP po.objs s.ext ks s.ext) s.ext&&Nat.ble (Nat.succ n.ix) 65535
def zFa (G:Nat) (s:Fs) (po:Po) (v:CV) (h:zC) (n:Key) (ks:List Key):Bool:=
 wk (xP po.objs s.ext ks s.ext) (jo po.objs ks) (thS s.bA) h G 65535 po.objs ks&&yK (xP po.objs s.ext ks s.ext) (thS s.bA) po.v v&&zSJ s.mid po.objs ks&&zFl (xP po.objs s.ext ks s.ext) s.ext&&Nat.ble (Nat.succ n.ix) 65535
theorem zPw {G:Nat} {s:Fs} {m mn:Nat} {po:Po} {v:CV} {h:zC} {n:Key} {ks:List Key} (hm:m=s.b.length) (hn:mn=m+s.pn) (hc:zMh G s m mn po v h n ks=true):zFa G s po v h n ks=true:=by
 unfold zMh at hc
 simp only [Bool.and_eq_true] at hc
 obtain ⟨⟨⟨⟨⟨c0,c1⟩,c2⟩,c3⟩,c4⟩,c5⟩:=hc
 have hs:∀ e d,zBS (thS s.b) m mn m s.pn e d=zAr (thS s.bA) e d:=fun e d=>by
  rw [zKu (by rw [zS4]; exact hm) hn,zVj c0,hm]
 rw [zCx hs (fun _ _ _=>rfl)] at c1
 rw [zBU hs (fun _ _ _=>rfl)] at c2
 unfold zFa
 simp only [Bool.and_eq_true]
 exact ⟨⟨⟨⟨c1,c2⟩,c3⟩,c4⟩,c5⟩
def zLQ (s:Fs) (po:Po) (v:CV) (h:zC) (k:List Key→Bool):Bool:=fNB (List.length s.b) fun m=>match zUv m h po.objs (gV m po.v v ⟨zU2 s.mid po.objs,[],s.mid,[]⟩) [] with
 | (ks,_)=>zC6 ks k
theorem zJB {s:Fs} {po:Po} {v:CV} {h:zC} {k:List Key→Bool} (hh:zLQ s po v h k=true):∃ x,k x=true:=by
 unfold zLQ at hh
 rw [zQ9] at hh
 split at hh
 rw [uA] at hh
 exact ⟨_,hh⟩
def zKh (G:Nat) (s:Fs) (v:CV) (h:zC) (n:Key):List Po→Bool
 | []=>false
 | po::r=>match zLQ s po v h (fun ks=>fNB (List.length s.b) fun m=>fNB (Nat.add m s.pn) fun mn=>zMh G s m mn po v h n ks) with
  | true=>true
  | false=>zKh G s v h n r
theorem zFh {G:Nat} {s:Fs} {v:CV} {h:zC} {n:Key}:∀ {l:List Po},zKh G s v h n l=true→∃ po∈l,∃ ks,zFa G s po v h n ks=true
 | [],hh=>by cases hh
 | po::r,hh=>by
  unfold zKh at hh
  split at hh
  · rename_i h1
    obtain ⟨ks,hk⟩:=zJB h1
    simp only [zQ9] at hk
    exact ⟨po,by simp,ks,zPw rfl rfl hk⟩
  · obtain ⟨po',h1,h2⟩:=zFh hh
    exact ⟨po',by simp [h1],h2⟩
def qM (G:Nat) (s:Fs):R→Bool
 | .ret v h n=>zKh G s v h n s.posts
 | .fork a b=>qM G s a&&qM G s b
 | _=>false
theorem wY {G:Nat} {s:Fs}:∀ {r:R},qM G s r=true→zf r
 | .ok ..,h=>by cases h
 | .ret v hh n,h=>by
  obtain ⟨po,_,ks,hk⟩:=zFh (show zKh G s v hh n s.posts=true from h)
  unfold zFa at hk
  rw [Bool.and_eq_true] at hk
  exact @zL zP _ _ hk.2
 | .err _,h=>by cases h
 | .fork a b,h=>by
  have h:(qM G s a&&qM G s b)=true:=h
  rw [Bool.and_eq_true] at h
  exact ⟨wY h.1,wY h.2⟩
theorem uG {S:Sym} {G:Nat} {s:Fs} {ψ₀:Psi} {g₀:Fam} {n₀:Key} {w₀:World} {v:Value} {w:World}:∀ {r:R},qM G s r=true→@zl S ψ₀ g₀ n₀ w₀ r v w →
 ∃ (cv:CV) (h:zC) (n:Key) (ψ:Psi),@yH S ψ₀ g₀ n₀ w₀ ψ (zC.fam h) n w∧@zH S ψ cv v∧∃ po∈s.posts,∃ ks,zFa G s po cv h n ks=true
 | .ok ..,h,_=>by cases h
 | .ret cv hh n,h,⟨ψ,h1,h2⟩=>⟨cv,hh,n,ψ,h1,h2,zFh h⟩
 | .err _,h,_=>by cases h
 | .fork a b,h,ho=>by
  have h:(qM G s a&&qM G s b)=true:=h
  rw [Bool.and_eq_true] at h
  rcases ho with ho | ho
  · exact uG h.1 ho
  · exact uG h.2 ho
theorem zWc {σ σ0:Nat→Int} {K K0:zY} {G:Nat} {s:Fs} {po:Po} {ψ ψ':Psi} {n':Key} {w w':World} {v:Value} {cv:CV} {h:zC} {ks:List Key}
 (h0:∀ x r,s.bA=x::r→σ0 0=0) (hk:∀ j,1≤j→j<s.bA.length→σ j=σ0 j)
 (hro:zDV s.ros=true) (hp:@yH (linSym σ K) ψ (wG (s.objs++s.ros)) s.n w ψ' (zC.fam h) n' w') (hv:@zH (linSym σ K) ψ' cv v) (hc:zFa G s po cv h n' ks=true):∃ ψT,zTC (linSym σ0 K0) ψ s w po v ψT w':=by
 unfold zFa at hc
 simp only [Bool.and_eq_true] at hc
 obtain ⟨⟨⟨⟨c1,c2⟩,c3⟩,c4⟩,_⟩:=hc
 have hθ:=zUQ h0 hk
 obtain ⟨hlen,hobj⟩:=zAu c1
 obtain ⟨r1,r2⟩:=zM2 (KT:=K0) hθ (@yH.rel (linSym σ K) _ _ _ _ _ _ _ _ hp) c1
 have hm:∀ k o p,wG (s.objs++s.ros) k=some o→o.isRo=false→ψ k=some p→zGP ψ s.objs w p.blk:=fun k o p g1 g2 g3=>by
  rcases vf g1 with g1 | g1
  · exact .inl ⟨k,o,p,g1,g3,rfl⟩
  · have:=zHX hro _ g1
    simp only at this
    rw [this] at g2; cases g2
 refine ⟨_,⟨fun k hk hlt=>?_,fun i k o hi hmid p hp0=>?_,r1,qT hθ zEn po.v cv c2 hv,fun k o p q1 q2=>?_,zRW (Lft.refl _ _) hp zKo hm⟩⟩
 · rw [zCJ (jE (zGX c4 k hk))]
   exact @yH.out (linSym σ K) _ _ _ _ _ _ _ _ hp k (.inl hlt)
 · obtain ⟨j,o',g1,g2,_⟩:=hobj i k o hi
   obtain rfl:=zOk c3 i k o j hi g1 hmid
   rw [zCJ g2]
   exact @yH.ext (linSym σ K) _ _ _ _ _ _ _ _ hp _ p hp0
 · obtain ⟨f1,k0,o0,f2,f3,f4⟩:=r2 k o p q1 q2
   exact ⟨f1,zSC (Lft.refl _ _) hp zKo hm k0 o0 p f2 f3 f4⟩
section
variable {code:FuncId→CFn} {nat:Nats} {fuel:Nat} {f:FuncId} {G:Nat} {s:Fs}
theorem zLe {tree:LTree} {ls:List Lf} (hm:P.follows .mixedOrders=true) (hcode:CodeOk P code) (hnat:∀ σ K,KnownOk σ K→@NatsOk (linSym σ K) P nat)
 (hls:leaves [] tree ⟨s.bA,[],[],[],1000⟩=some ls) (hok:okB s.bA=true) (hro:zDV s.ros=true)
 (hrun:AllG (fun e=>∀ (σ:Nat→Int),qM G s (@ev (linSym σ (e.known noA)) P code nat fuel false f s.args (mkH .nil (s.objs++s.ros)) s.n)=true) ls):FsOk P f s:=by
 intro σ hb ψ w args' hrel hglob hfr
 unfold okB at hok
 rw [Bool.and_eq_true] at hok
 obtain ⟨hlen,hz⟩:=zR0 hok.1 hb
 obtain ⟨e,he,σ',r1,r2⟩:=zx (wins:=[]) (w0:=w) (i:=σ 0) tree _ σ hls ⟨hb,trivial,trivial,fun q hq=>by cases hq⟩ zPs rfl (by show 0<s.bA.length; omega) (@zL zP _ _ hok.2) (Nat.le_refl _)
 have hag:∀ j,j<s.bA.length→σ' j=σ j:=fun j hj=>r2 j (.inl hj)
 have hrun:=zCc hrun e he σ'
 have hK:KnownOk σ' (e.known noA):=r1.known noA
 obtain ⟨q1,q2⟩:=hrel σ' (e.known noA) hag rfl
 have hcall:@yP (linSym σ' (e.known noA)) P (@ev (linSym σ' (e.known noA)) P code nat fuel):=by
  letI S:Sym:=linSym σ' (e.known noA)
  haveI hS:SymFact P:=yx hK
  exact vu (fun call hcall F N=>xS hm hcall) hcode (hnat _ _ hK) fuel
 refine uZ (@yP.calls (linSym σ' (e.known noA)) _ _ hcall f s.args _ s.n ψ w args' q1 hglob q2 hfr (wY hrun)) fun v w' ho=>?_
 obtain ⟨cv,h,n,ψ',p1,p2,po,hpo,ks,hc⟩:=uG hrun ho
 obtain ⟨ψT,hT⟩:=zWc (σ0:=σ) (K0:=kno) (fun _ _ _=>hz) (fun j _ hj=>hag j hj) hro p1 p2 hc
 exact ⟨po,hpo,ψT,hT⟩
end
def fsChk (P:Program) (code:FuncId→CFn) (nat:Nats) (fuel:Nat) (f:FuncId) (G:Nat) (σ:Nat→Int):List Fs→Bool
 | []=>true
 | s::r=>(zB s.bA fun b=>okB b&&zDV s.ros&&qM G s (@ev (linSym σ ((⟨b,[],[],[],1000⟩:Lf).known noA)) P code nat fuel false f s.args (mkH .nil (s.objs++s.ros)) s.n))&&fsChk P code nat fuel f G σ r
theorem fsChk_ok {code:FuncId→CFn} {nat:Nats} {fuel:Nat} {f:FuncId} {G:Nat} (hm:P.follows .mixedOrders=true) (hcode:CodeOk P code) (hnat:∀ σ K,KnownOk σ K→@NatsOk (linSym σ K) P nat) :
 ∀ {l:List Fs},(∀ σ,fsChk P code nat fuel f G σ l=true)→∀ s∈l,FsOk P f s
 | [],_,s,hs=>by cases hs
 | x::r,h,s,hs=>by
  have h':∀ σ,((okB x.bA=true∧zDV x.ros=true)∧qM G x (@ev (linSym σ ((⟨x.bA,[],[],[],1000⟩:Lf).known noA)) P code nat fuel false f x.args (mkH .nil (x.objs++x.ros)) x.n)=true)∧fsChk P code nat fuel f G σ r=true:=by
   intro σ
   have:=h σ
   unfold fsChk at this
   rwa [zNi,Bool.and_eq_true,Bool.and_eq_true,Bool.and_eq_true] at this
  rcases List.mem_cons.1 hs with rfl | hs
  · exact zLe (tree:=.leaf) (ls:=[⟨s.bA,[],[],[],1000⟩]) hm hcode hnat rfl (h' fun _=>0).1.1.1 (h' fun _=>0).1.1.2 ⟨fun σ=>(h' σ).1.2,trivial⟩
  · exact fsChk_ok hm hcode hnat (fun σ=>(h' σ).2) s hs
def zOH (q:Lf→Bool):List Lf→Bool
 | []=>true
 | e::r=>q e&&zOH q r
theorem zHs {q:Lf→Bool}:∀ {l:List Lf},zOH q l=true→∀ e∈l,q e=true
 | [],_,e,he=>by cases he
 | x::r,h,e,he=>by
  unfold zOH at h
  rw [Bool.and_eq_true] at h
  rcases List.mem_cons.1 he with rfl | he
  · exact h.1
  · exact zHs h.2 e he
def fsTree (P:Program) (code:FuncId→CFn) (nat:Nats) (fuel:Nat) (f:FuncId) (G:Nat) (σ:Nat→Int) (t:LTree) (s:Fs):Bool:=match leaves [] t ⟨s.bA,[],[],[],1000⟩ with
 | some ls=>okB s.bA&&zDV s.ros&&zOH (fun e=>zEG e fun e=>qM G s (@ev (linSym σ (e.known noA)) P code nat fuel false f s.args (mkH .nil (s.objs++s.ros)) s.n)) ls
 | none=>false
theorem fsTree_ok {code:FuncId→CFn} {nat:Nats} {fuel:Nat} {f:FuncId} {G:Nat} (hm:P.follows .mixedOrders=true) (hcode:CodeOk P code) (hnat:∀ σ K,KnownOk σ K→@NatsOk (linSym σ K) P nat)
 {t:LTree} {s:Fs} (h:∀ σ,fsTree P code nat fuel f G σ t s=true):FsOk P f s:=by
 have h0:=h fun _=>0
 unfold fsTree at h0
 cases hls:leaves [] t ⟨s.bA,[],[],[],1000⟩ with
 | none=>rw [hls] at h0; cases h0
 | some ls=>
  rw [hls,Bool.and_eq_true,Bool.and_eq_true] at h0
  refine zLe (fuel:=fuel) (G:=G) (tree:=t) hm hcode hnat hls h0.1.1 h0.1.2 (zI9 fun e he σ=>?_)
  have h1:=h σ
  unfold fsTree at h1
  rw [hls,Bool.and_eq_true] at h1
  have h2:=zHs h1.2 e he
  rwa [uv] at h2
theorem zFC {σs σT:Nat→Int} {Ks KT:zY} {θ:TH} {ρ inv:zC} {objs:List (Key × CObj)} {ks:List Key} {h:zC} {lo hi G:Nat} {ψ:Psi} {w:World} (hθ:qX σs σT θ) (hR:@Rel (linSym σs Ks) ψ (zC.fam h) w)
 (hc:qU ρ inv θ h lo hi objs ks=true) :
 @Rel (linSym σT KT) (qW ρ h [] ψ G 0) (wG objs) w∧zA7 ρ ψ (qW ρ h [] ψ G 0) ∧
 (∀ k o p,wG objs k=some o→qW ρ h [] ψ G 0 k=some p→o.isRo=false∧∃ k0 o0 p0,zC.fam h k0=some o0∧o0.isRo=false∧ψ k0=some p0∧p0.blk=p.blk∧zm ρ k=some k0∧k0∈ks):=by
 have hTot:∀ k o,zC.fam h k=some o→∃ p,ψ k=some p:=@Rel.tot (linSym σs Ks) _ _ _ hR
 have hOn:∀ k o p,zC.fam h k=some o→ψ k=some p→@xM (linSym σs Ks) ψ w p o:=@Rel.on (linSym σs Ks) _ _ _ hR
 have hInj:=@Rel.inj (linSym σs Ks) _ _ _ hR
 have hobj:=kP hc
 have hps:∀ k j p,zm ρ k=some j→ψ j=some p→qW ρ h [] ψ G 0 k=some ⟨p.blk,p.off,p.sz,zCU (zn j h) p.ck⟩:=by
  intro k j p hk hp
  unfold qW
  rw [hk]
  simp only
  rw [hp]; rfl
 have hPs:zA7 ρ ψ (qW ρ h [] ψ G 0):=fun k j p hk hp=>⟨_,hps k j p (jE hk) hp,rfl,rfl,rfl⟩
 have hfam:∀ k o p,wG objs k=some o→qW ρ h [] ψ G 0 k=some p→∃ b o' p0,zm ρ k=some b∧zm inv b=some k∧zC.fam h b=some o'∧ψ b=some p0∧zBv ρ θ o o'=true ∧
  p=⟨p0.blk,p0.off,p0.sz,zCU (some o') p0.ck⟩∧b∈ks:=by
  intro k o p hk hp
  rcases jH hk with ⟨j,hj⟩ | hn
  · obtain ⟨b,o',g1,g2,g3,g4,g5,g6,g7⟩:=hobj j k o hj
    obtain ⟨p0,hp0⟩:=hTot b o' g6
    rw [hps k b p0 g2 hp0,g6] at hp
    injection hp with hp
    exact ⟨b,o',p0,g2,g3,g6,hp0,g7,hp.symm,List.mem_of_getElem? g1⟩
  · rw [jZ] at hn; cases hn
 refine ⟨?_,hPs,?_⟩
 · refine @Rel.mk (linSym σT KT) _ _ _ ?_ ?_ ?_
   · intro k o p hk hp
     obtain ⟨b,o',p0,g1,g2,g3,g4,g5,rfl,_⟩:=hfam k o p hk hp
     exact (zNT (p:=p0) (p':=⟨p0.blk,p0.off,p0.sz,zCU (some o') p0.ck⟩) hθ hPs g5 rfl rfl rfl rfl (hOn b o' p0 g3 g4)).1
   · intro k o hk
     rcases jH hk with ⟨j,hj⟩ | hn
     · obtain ⟨b,o',g1,g2,g3,g4,g5,g6,g7⟩:=hobj j k o hj
       obtain ⟨p0,hp0⟩:=hTot b o' g6
       exact ⟨_,hps k b p0 g2 hp0⟩
     · rw [jZ] at hn; cases hn
   · intro k₁ k₂ o₁ o₂ p₁ p₂ h1 h2 h3 h4 hr e
     obtain ⟨b1,o1',q1,g1,g2,g3,g4,g5,rfl,_⟩:=hfam _ _ _ h1 h3
     obtain ⟨b2,o2',q2,f1,f2,f3,f4,f5,rfl,_⟩:=hfam _ _ _ h2 h4
     have:=hInj b1 b2 _ _ _ _ g3 f3 g4 f4 (.inl (zKq g5)) e
     subst this
     rw [g2] at f2
     injection f2
 · intro k o p hk hp
   obtain ⟨b,o',p0,g1,g2,g3,g4,g5,rfl,g6⟩:=hfam k o p hk hp
   have hro:o.isRo=false∧o'.isRo=false:=by
    unfold zBv at g5
    split at g5
    · exact ⟨rfl,rfl⟩
    · exact ⟨rfl,rfl⟩
    · exact ⟨rfl,rfl⟩
    · exact ⟨rfl,rfl⟩
    · exact ⟨rfl,rfl⟩
    · exact ⟨rfl,rfl⟩
    · exact ⟨rfl,rfl⟩
    · cases g5
   exact ⟨hro.1,b,o',p0,g3,hro.2,g4,rfl,g1,g6⟩
def roB:CObj→Option (List CV)
 | .ro b=>some b
 | .cells b=>some b
 | .full _ b=>some b
 | _=>none
def zDn (ρ inv:zC) (θ:TH) (h:zC):List (Key × CObj)→Bool
 | []=>true
 | p::r=>(match p.2,zm ρ p.1 with
  | .ro a,some j=>(match zn j h with
   | some o=>(match roB o with
    | some b=>zCC inv j&&uf ρ θ a b
    | none=>false)
   | none=>false)
  | _,_=>false)&&zDn ρ inv θ h r
def zEk (ρ inv:zC) (si:SE→CV→Bool) (fw:Nat→List (List Nat)→CV→Bool) (h:zC):List (Key × CObj)→Bool
 | []=>true
 | p::r=>(match p.2,zm ρ p.1 with
  | .ro a,some j=>(match zn j h with
   | some o=>(match roB o with
    | some b=>zCC inv j&&uT ρ si fw a b
    | none=>false)
   | none=>false)
  | _,_=>false)&&zEk ρ inv si fw h r
theorem zFW {ρ inv:zC} {θ:TH} {si:SE→CV→Bool} {fw:Nat→List (List Nat)→CV→Bool} (hs:∀ e d,si e d=zAr θ e d) (hf:∀ i t d,fw i t d=yK ρ θ (.few i t) d) {h:zC}:∀ {l:List (Key × CObj)},zEk ρ inv si fw h l=zDn ρ inv θ h l
 | []=>rfl
 | p::r=>by
  have e:∀ a b,uT ρ si fw a b=uf ρ θ a b:=fun a b=>by rw [uw hs hf,jX]
  unfold zEk zDn
  rw [zFW hs hf (l:=r)]
  simp only [e]
theorem zHg {ρ inv:zC} {θ:TH} {h:zC}:∀ {l:List (Key × CObj)},zDn ρ inv θ h l=true→∀ k o,(k,o)∈l→∃ a b j o',o=.ro a∧zm ρ k=some j∧zn j h=some o'∧roB o'=some b∧zm inv j=none∧qY ρ θ a b=true
 | [],_,k,o,hk=>by simp at hk
 | p::r,hc,k,o,hk=>by
  unfold zDn at hc
  rw [Bool.and_eq_true] at hc
  rcases List.mem_cons.1 hk with e | hk
  · subst e
    have h1:=hc.1
    split at h1
    · rename_i a j e1 e2
      split at h1
      · rename_i o' hb
        split at h1
        · rename_i b hb'
          rw [Bool.and_eq_true,jX] at h1
          refine ⟨a,b,j,o',e1,e2,hb,hb',?_,h1.2⟩
          have h2:=h1.1
          unfold zCC at h2
          split at h2
          · assumption
          · cases h2
        · cases h1
      · cases h1
    · cases h1
  · exact zHg hc.2 k o hk
theorem zUT {S:Sym} {ψ:Psi} {w:World} {p:Pl} {o:CObj} {b:List CV} (hb:roB o=some b) (h:@xM S ψ w p o):@zAq S ψ w p b:=by
 cases o with
 | ro c=>injection hb with hb; subst hb; exact h
 | cells c=>injection hb with hb; subst hb; exact @yc.toRo S _ _ _ _ h
 | full u c=>injection hb with hb; subst hb; exact @yc.toRo S _ _ _ _ (@jW.toCells S _ _ _ _ _ h)
 | map _ _=>cases hb
 | striter _ _=>cases hb
 | mapiter _ _ _ _=>cases hb
 | mapz _=>cases hb
 | seen _=>cases hb
 | hid=>cases hb
 | bag _=>cases hb
theorem zPc {σs σT:Nat→Int} {Ks KT:zY} {θ:TH} {ρ:zC} {ψs ψT:Psi} (hθ:qX σs σT θ) (hψ:zA7 ρ ψs ψT) {as bs:List CV} (h:qY ρ θ as bs=true) {w:World} {p p':Pl} (h1:p'.blk=p.blk) (h2:p'.off=p.off)
 (hc:@zAq (linSym σs Ks) ψs w p bs):@zAq (linSym σT KT) ψT w p' as:=by
 obtain ⟨arr,elem,fz,g1,g3,g5⟩:=hc
 obtain ⟨q1,q2⟩:=zDz h
 refine ⟨arr,elem,fz,by rw [h1]; exact g1,by rw [h2]; omega,fun i c hi=>?_⟩
 obtain ⟨d,hd,hcd⟩:=q2 i c hi
 obtain ⟨x,hx,hr⟩:=g5 i d hd
 exact ⟨x,by rw [h2]; exact hx,qT hθ hψ c d hcd hr⟩
theorem zMl {σs σT:Nat→Int} {Ks KT:zY} {θ:TH} {ρ inv:zC} {objs ros:List (Key × CObj)} {ks:List Key} {h:zC} {lo hi G:Nat} {ψ:Psi} {w:World} (hθ:qX σs σT θ) (hR:@Rel (linSym σs Ks) ψ (zC.fam h) w)
 (hc:qU ρ inv θ h lo hi objs ks=true) (hr:zDn ρ inv θ h ros=true) :
 @Rel (linSym σT KT) (qW ρ h [] ψ G 0) (wG (objs++ros)) w∧zA7 ρ ψ (qW ρ h [] ψ G 0):=by
 have hTot:∀ k o,zC.fam h k=some o→∃ p,ψ k=some p:=@Rel.tot (linSym σs Ks) _ _ _ hR
 have hOn:∀ k o p,zC.fam h k=some o→ψ k=some p→@xM (linSym σs Ks) ψ w p o:=@Rel.on (linSym σs Ks) _ _ _ hR
 have hInj:=@Rel.inj (linSym σs Ks) _ _ _ hR
 obtain ⟨c1,c2,c3⟩:=zFC (G:=G) (KT:=KT) hθ hR hc
 have c1on:∀ k o p,wG objs k=some o→qW ρ h [] ψ G 0 k=some p→@xM (linSym σT KT) (qW ρ h [] ψ G 0) w p o:=@Rel.on (linSym σT KT) _ _ _ c1
 have c1tot:=@Rel.tot (linSym σT KT) _ _ _ c1
 have c1inj:=@Rel.inj (linSym σT KT) _ _ _ c1
 have hps:∀ k j p,zm ρ k=some j→ψ j=some p→qW ρ h [] ψ G 0 k=some ⟨p.blk,p.off,p.sz,zCU (zn j h) p.ck⟩:=by
  intro k j p hk hp
  unfold qW
  rw [hk]
  simp only
  rw [hp]; rfl
 have hro:∀ k o,(k,o)∈ros→∃ a b j p o',o=.ro a∧zC.fam h j=some o'∧ψ j=some p∧qW ρ h [] ψ G 0 k=some ⟨p.blk,p.off,p.sz,zCU (zn j h) p.ck⟩∧qY ρ θ a b=true∧roB o'=some b∧zm inv j=none:=by
  intro k o hk
  obtain ⟨a,b,j,o',e,g1,g2,gb,gn,g3⟩:=zHg hr k o hk
  obtain ⟨p,hp⟩:=hTot j _ g2
  exact ⟨a,b,j,p,o',e,g2,hp,hps k j p g1 hp,g3,gb,gn⟩
 have hinv:∀ k o k0,wG objs k=some o→zm ρ k=some k0→zm inv k0=some k:=by
  intro k o k0 hk hk0
  rcases jH hk with ⟨j,hj⟩ | hn
  · obtain ⟨b,o',g1,g2,g3,_⟩:=kP hc j k o hj
    rw [g2] at hk0
    injection hk0 with hk0
    rw [← hk0]; exact g3
  · rw [jZ] at hn; cases hn
 have mix:∀ k₁ k₂ o₁ o₂ p₁ p₂,wG objs k₁=some o₁→(k₂,o₂)∈ros→qW ρ h [] ψ G 0 k₁=some p₁→qW ρ h [] ψ G 0 k₂=some p₂→p₁.blk=p₂.blk→False:=by
  intro k₁ k₂ o₁ o₂ p₁ p₂ h1 h2 h3 h4 e
  obtain ⟨_,k0,o0,p0,q1,q2,q3,q4,q5,_⟩:=c3 _ _ _ h1 h3
  obtain ⟨a,b,j,p,o',e0,r1,r2,r3,r4,r5,r6⟩:=hro _ _ h2
  rw [r3] at h4
  injection h4 with h4
  have e':p0.blk=p.blk:=by rw [q4,e,← h4]
  have:=hInj k0 j _ _ _ _ q1 r1 q3 r2 (.inl q2) e'
  subst this
  rw [hinv _ _ _ h1 q5] at r6
  cases r6
 refine ⟨@Rel.mk (linSym σT KT) _ _ _ ?_ ?_ ?_,c2⟩
 · intro k o p hk hp
   rcases vf hk with hk | hk
   · exact c1on k o p hk hp
   · obtain ⟨a,b,j,p0,o',rfl,r1,r2,r3,r4,r5,r6⟩:=hro _ _ hk
     rw [r3] at hp
     injection hp with hp
     subst hp
     exact zPc (p:=p0) hθ c2 r4 rfl rfl (zUT r5 (hOn _ _ _ r1 r2))
 · intro k o hk
   rcases vf hk with hk | hk
   · exact c1tot k o hk
   · obtain ⟨a,b,j,p0,o',rfl,r1,r2,r3,r4,r5,r6⟩:=hro _ _ hk
     exact ⟨_,r3⟩
 · intro k₁ k₂ o₁ o₂ p₁ p₂ h1 h2 h3 h4 hor e
   rcases vf h1 with g1 | g1 <;> rcases vf h2 with g2 | g2
   · exact c1inj k₁ k₂ o₁ o₂ p₁ p₂ g1 g2 h3 h4 hor e
   · exact (mix _ _ _ _ _ _ g1 g2 h3 h4 e).elim
   · exact (mix _ _ _ _ _ _ g2 g1 h4 h3 e.symm).elim
   · obtain ⟨a,_,_,_,_,rfl,_⟩:=hro _ _ g1
     obtain ⟨b,_,_,_,_,rfl,_⟩:=hro _ _ g2
     rcases hor with hor | hor <;> cases hor
def zDb (ρ:zC) (G hi:Nat) (h:zC):List Key→List Key→Bool
 | [],[]=>true
 | k::r,j::js=>wD ρ k j&&Nat.ble G k.ix&&Nat.ble (Nat.succ k.ix) hi&&zDb ρ G hi h r js
 | _,_=>false
theorem zDv {ρ:zC} {G hi:Nat} {h:zC}:∀ {l es:List Key},zDb ρ G hi h l es=true→∀ (i:Nat) k j,l[i]? = some k→es[i]? = some j→zm ρ k=some j∧G≤k.ix∧k.ix<hi
 | [],_,_,i,k,j,h1,_=>by simp at h1
 | _::_,[],hc,_,_,_,_,_=>by cases hc
 | x::r,y::js,hc,i,k,j,h1,h2=>by
  unfold zDb at hc
  simp only [Bool.and_eq_true] at hc
  obtain ⟨⟨⟨c0,c1⟩,c2⟩,c4⟩:=hc
  cases i with
  | zero=>
   simp at h1 h2
   subst h1 h2
   exact ⟨jE c0,@zL zP _ _ c1,@zL zP _ _ c2⟩
  | succ i=>exact zDv c4 i k j (by simpa using h1) (by simpa using h2)
def va (mid:Nat) (ρ:zC):List (Key × CObj)→Key→Option (List Key × Key)
 | [],n=>some ([],n)
 | p::r,n=>match Nat.ble mid p.1.ix with
  | false=>match zm ρ p.1 with
   | some j=>match va mid ρ r n with
    | some q=>some (j::q.1,q.2)
    | none=>none
   | none=>none
  | true=>match n.succ with
   | .mk a b c d=>match va mid ρ r (.mk a b c d) with
    | some q=>some (n::q.1,q.2)
    | none=>none
theorem zDB {mid:Nat} {ρ:zC}:∀ {l:List (Key × CObj)} {n:Key} {q:List Key × Key},va mid ρ l n=some q→n.ix≤q.2.ix
 | [],n,q,h=>by
  injection h with h; subst h
  exact Nat.le_refl _
 | p::r,n,q,h=>by
  unfold va at h
  split at h
  · split at h
    · split at h
      · rename_i q' hq'
        injection h with h; subst h
        have:=zDB hq'
        exact this
      · cases h
    · cases h
  · split at h
    rename_i a b c d hs
    split at h
    · rename_i q' hq'
      injection h with h; subst h
      have h1:=zDB hq'
      rw [← hs] at h1
      have hle:=@Key.ix_le_succ zP n
      simp only; omega
    · cases h
theorem zDi {mid:Nat} {ρ:zC}:∀ {l:List (Key × CObj)} {n:Key} {q:List Key × Key},va mid ρ l n=some q→q.2.room→n.ix≤q.2.ix ∧
 ∀ (i:Nat) (k:Key) (o:CObj) (j:Key),l[i]? = some (k,o)→q.1[i]? = some j→(k.ix<mid∧zm ρ k=some j)∨(mid≤k.ix∧n.ix≤j.ix∧j.ix<q.2.ix)
 | [],n,q,h,hr=>by
  injection h with h; subst h
  exact ⟨Nat.le_refl _,fun i k o j h1 _=>by simp at h1⟩
 | p::r,n,q,h,hr=>by
  unfold va at h
  split at h
  · rename_i hm
    have hlt:p.1.ix<mid:=by
     rcases Nat.lt_or_ge p.1.ix mid with g | g
     · exact g
     · rw [Nat.ble_eq_true_of_le g] at hm; cases hm
    split at h
    · rename_i j hj
      split at h
      · rename_i q' hq'
        injection h with h; subst h
        obtain ⟨h1,h2⟩:=zDi hq' hr
        refine ⟨h1,fun i k o j' g1 g2=>?_⟩
        cases i with
        | zero=>
         simp at g1 g2
         subst g1 g2
         exact .inl ⟨hlt,hj⟩
        | succ i=>exact h2 i k o j' (by simpa using g1) (by simpa using g2)
      · cases h
    · cases h
  · rename_i hm
    have hm:=@zL zP _ _ hm
    split at h
    rename_i a b c d hs
    split at h
    · rename_i q' hq'
      injection h with h; subst h
      obtain ⟨h1,h2⟩:=zDi hq' hr
      rw [← hs] at h1 h2
      have hle:=@Key.ix_le_succ zP n
      have hroom:n.ix<65535:=by
       have:q'.2.ix<65535:=hr
       omega
      have hix:=@Key.ix_succ zP n hroom
      refine ⟨by simp only; omega,fun i k o j' g1 g2=>?_⟩
      cases i with
      | zero=>
       simp at g1 g2
       subst g1 g2
       exact .inr ⟨hm,Nat.le_refl _,by simp only; omega⟩
      | succ i=>
       rcases h2 i k o j' (by simpa using g1) (by simpa using g2) with g | ⟨g3,g4,g5⟩
       · exact .inl g
       · exact .inr ⟨g3,by omega,g5⟩
    · cases h
def ckQ (bs:List CE) (clock:Nat) (j:Nat):Nat:=match nth bs j with
 | some e=>e.born
 | none=>Nat.add clock (Nat.sub j (zMi bs))
theorem zLC {bs:List CE} {clock j:Nat}:ckQ bs clock j=qD bs clock j:=by
 unfold ckQ qD
 rw [@yg zP,@zAU zP]
 rfl
def zMB (ρ:zC) (θ:TH) (bs:List CE) (clock:Nat):List CE→List CE
 | []=>[]
 | e::l=>⟨zHt ρ θ e.key,zHt ρ θ e.val,ckQ bs clock e.born⟩::zMB ρ θ bs clock l
def wF (ρ:zC) (θ:TH) (mid:Nat) (h:zC) (k j:Key) (o:CObj):CObj:=match o with
 | .cells l=>.cells (zMj ρ θ l)
 | .map es c=>match Nat.ble mid k.ix with
  | true=>.map (zJr ρ θ es) c
  | false=>match zn j h with
   | some (.map es0 c0)=>.map (zMB ρ θ (vT es0) c0 es) (ckQ (vT es0) c0 c)
   | _=>.map [] 0
 | o=>o
def zNX (ρ:zC) (sb:SE→CV) (θ:TH) (mid:Nat) (h:zC) (k j:Key) (o:CObj):CObj:=match o with
 | .cells l=>.cells (zLz ρ sb l)
 | o=>wF ρ θ mid h k j o
theorem zL6 {ρ:zC} {sb:SE→CV} {θ:TH} (hs:∀ e,sb e=yI ρ θ (.sym e)) {mid:Nat} {h:zC} {k j:Key} {o:CObj}:zNX ρ sb θ mid h k j o=wF ρ θ mid h k j o:=by
 cases o <;> first | rfl | exact congrArg CObj.cells ((jf hs _).trans (zGY _).symm)
def zOP (mid:Nat) (h:zC) (k j:Key) (o:CObj):Bool:=match o with
 | .cells _=>true
 | .map _ c=>match Nat.ble mid k.ix with
  | true=>true
  | false=>match zn j h with
   | some (.map es0 _)=>Nat.ble (zMi (vT es0)) c
   | _=>false
 | _=>false
def zIM (ρ inv:zC) (mid:Nat) (h:zC):List (Key × CObj)→List Key→Bool
 | [],[]=>true
 | p::r,j::js=>wD ρ p.1 j&&wD inv j p.1&&zOP mid h p.1 j p.2&&zIM ρ inv mid h r js
 | _,_=>false
theorem zNK {ρ inv:zC} {mid:Nat} {h:zC}:∀ {l:List (Key × CObj)} {ks:List Key},zIM ρ inv mid h l ks=true→l.length=ks.length∧∀ (i:Nat) (k:Key) (o:CObj),l[i]? = some (k,o)→∃ j,ks[i]? = some j∧zm ρ k=some j∧zm inv j=some k∧zOP mid h k j o=true
 | [],[],_=>⟨rfl,fun i k o h=>by simp at h⟩
 | [],_::_,h=>by cases h
 | _::_,[],h=>by cases h
 | p::r,j::js,h=>by
  unfold zIM at h
  simp only [Bool.and_eq_true] at h
  obtain ⟨⟨⟨h1,h2⟩,h3⟩,h4⟩:=h
  obtain ⟨g1,g2⟩:=zNK h4
  refine ⟨by simp [g1],fun i k o hi=>?_⟩
  cases i with
  | zero=>
   simp at hi
   subst hi
   exact ⟨j,rfl,jE h1,jE h2,h3⟩
  | succ i=>
   obtain ⟨j',q1,q2⟩:=g2 i k o (by simpa using hi)
   exact ⟨j',by simpa using q1,q2⟩
def zCy (ρ:zC) (θ:TH) (mid:Nat) (h:zC):List (Key × CObj)→List Key→List (Key × CObj)
 | p::r,j::js=>(j,wF ρ θ mid h p.1 j p.2)::zCy ρ θ mid h r js
 | _,_=>[]
def zCY (ρ:zC) (sb:SE→CV) (θ:TH) (mid:Nat) (h:zC):List (Key × CObj)→List Key→List (Key × CObj)
 | p::r,j::js=>(j,zNX ρ sb θ mid h p.1 j p.2)::zCY ρ sb θ mid h r js
 | _,_=>[]
theorem zHQ {ρ:zC} {sb:SE→CV} {θ:TH} (hs:∀ e,sb e=yI ρ θ (.sym e)) {mid:Nat} {h:zC}:∀ {l:List (Key × CObj)} {ks:List Key},zCY ρ sb θ mid h l ks=zCy ρ θ mid h l ks
 | [],_=>by simp [zCY,zCy]
 | _::_,[]=>by simp [zCY,zCy]
 | p::r,j::js=>by unfold zCY zCy; rw [zL6 hs,zHQ hs]
theorem zEN {ρ inv ρ':zC} {θ:TH} {mid:Nat} {h h0:zC} {k:Key} {o:CObj}:∀ {l:List (Key × CObj)} {ks:List Key},zIM ρ inv mid h l ks=true→zn k (mkH h0 (zCy ρ' θ mid h l ks))=some o →
 (∃ (kp:Key) (o':CObj) (i:Nat),zn kp (mkH .nil l)=some o'∧o=wF ρ' θ mid h kp k o'∧zOP mid h kp k o'=true∧zm ρ kp=some k∧l[i]? = some (kp,o')∧ks[i]? = some k)∨zn k h0=some o
 | [],[],_,hh=>.inr hh
 | [],_::_,hb,_=>by cases hb
 | _::_,[],hb,_=>by cases hb
 | p::r,j::js,hb,hh=>by
  unfold zIM at hb
  simp only [Bool.and_eq_true] at hb
  obtain ⟨⟨⟨h1,h2⟩,h3⟩,h4⟩:=hb
  have hh:zn k (yu (some (wF ρ' θ mid h p.1 j p.2)) j (mkH h0 (zCy ρ' θ mid h r js)))=some o:=hh
  rw [vU] at hh
  split at hh
  · rename_i e
    subst e
    injection hh with hh
    refine .inl ⟨p.1,p.2,0,?_,hh.symm,h3,jE h1,rfl,rfl⟩
    show zn p.1 (yu (some p.2) p.1 (mkH .nil r))=_
    rw [vU,if_pos rfl]
  · rename_i e
    rcases zEN h4 hh with ⟨kp,o',i,g1,g2,g3,g4,g5,g6⟩ | g
    · refine .inl ⟨kp,o',i+1,?_,g2,g3,g4,by simpa using g5,by simpa using g6⟩
      show zn kp (yu (some p.2) p.1 (mkH .nil r))=_
      rw [vU,if_neg (fun e'=>by
       rw [e',jE h1] at g4
       injection g4 with g4
       exact e g4.symm)]
      exact g1
    · exact .inr g
theorem zKj {ck:Nat→Nat} {clock:Nat} (h:wL ck clock):∀ d,wL ck (clock+d)
 | 0=>h
 | d+1=>@wL.succ zP _ _ (zKj h d)
theorem zIe {σ σT:Nat→Int} {K KT:zY} {θ:TH} {ρ:zC} {ψs ψT:Psi} (hθ:qX σ σT θ) (hψ:zIg ρ ψs ψT) {bs:List CE} {clock:Nat} {ck:Nat→Nat}:∀ {es:List CE} {l:List MapEntry},
 @yM (linSym σT KT) ψs (fun j=>ck (qD bs clock j)) es l→@yM (linSym σ K) ψT ck (zMB ρ θ bs clock es) l
 | [],l,h=>h
 | c::es,l,h=>by
  obtain ⟨e,r,rfl,⟨h1,h2,h3⟩,h4⟩:=h
  refine ⟨e,r,rfl,⟨?_,?_,?_⟩,zIe hθ hψ h4⟩
  · show @zH (linSym σ K) ψT (zHt ρ θ c.key) e.key
    rw [zCR]; exact km hθ hψ _ h1
  · show @zH (linSym σ K) ψT (zHt ρ θ c.val) e.val
    rw [zCR]; exact km hθ hψ _ h2
  · show e.born=ck (ckQ bs clock c.born)
    rw [zLC]; exact h3
def fEF:List CE→(List CE→R)→R
 | [],k=>k []
 | ⟨a,b,n⟩::l,k=>fQ a fun a=>fQ b fun b=>Nat.rec (motive:=fun _=>(Nat→R)→R) (fun k=>k 0) (fun m _ k=>k (Nat.succ m)) n fun n=>fEF l fun l=>k (⟨a,b,n⟩::l)
theorem zUA {n:Nat} {k:Nat→R}:Nat.rec (motive:=fun _=>(Nat→R)→R) (fun k=>k 0) (fun m _ k=>k (Nat.succ m)) n k=k n:=by cases n <;> rfl
theorem zRb:∀ {l:List CE} {k:List CE→R},fEF l k=k l
 | [],_=>rfl
 | ⟨a,b,n⟩::l,k=>by unfold fEF; rw [zG8,zG8,zUA,zRb]
def fOF (o:CObj) (k:CObj→R):R:=match o with
 | .cells l=>fQs l fun l=>k (.cells l)
 | .map es c=>fEF es fun es=>Nat.rec (motive:=fun _=>(Nat→R)→R) (fun k=>k 0) (fun m _ k=>k (Nat.succ m)) c fun c=>k (.map es c)
 | o=>k o
theorem zUP {o:CObj} {k:CObj→R}:fOF o k=k o:=by
 cases o with
 | cells l=>exact zBm l _
 | map es c=>
  show (fEF es fun es=>Nat.rec (motive:=fun _=>(Nat→R)→R) (fun k=>k 0) (fun m _ k=>k (Nat.succ m)) c fun c=>k (.map es c))=_
  rw [zRb]
  exact zUA
 | ro _=>rfl
 | striter _ _=>rfl
 | mapiter _ _ _ _=>rfl
 | full _ _=>rfl
 | mapz _=>rfl
 | seen _=>rfl
 | hid=>rfl
 | bag _=>rfl
def zQt:List (Key × CObj)→(List (Key × CObj)→R)→R
 | [],k=>k []
 | (j,o)::l,k=>fOF o fun o=>zQt l fun l=>k ((j,o)::l)
theorem zI2:∀ {l:List (Key × CObj)} {k:List (Key × CObj)→R},zQt l k=k l
 | [],_=>rfl
 | (j,o)::l,k=>by unfold zQt; rw [zUP,zI2]
def zQq [Sym] (G:Nat) (s:Fs) (m mn q:Nat) (ks es:List Key) (θ:TH) (args:List CV) (h:zC):Bool:=
 zTf s.b θ&&zU7 s.pn (zUE q Sym.kb)&&zUa (xP s.objs s.ext ks es) (zBS θ m mn q s.pn) (fun i t d=>yK (xP s.objs s.ext ks es) (θ++jy q s.pn) (.few i t) d) s.args args &&
 zB5 (xP s.objs s.ext ks es) (jo s.objs ks) (θ++jy q s.pn) (zBS θ m mn q s.pn) (fun i t d=>yK (xP s.objs s.ext ks es) (θ++jy q s.pn) (.few i t) d) h G s.n.ix s.objs ks &&
 zDb (xP s.objs s.ext ks es) G s.n.ix h s.ext es&&Nat.ble G s.n.ix&&zEk (xP s.objs s.ext ks es) (jo s.objs ks) (zBS θ m mn q s.pn) (fun i t d=>yK (xP s.objs s.ext ks es) (θ++jy q s.pn) (.few i t) d) h s.ros
def ub (s:Fs) (ks es:List Key) (θ:TH) (h:zC) (n:Key) (po:Po):R:=match va s.mid (j3 s.objs ks) po.objs n with
 | none=>.err 435
 | some q=>match zIM (xP po.objs s.ext q.1 es) (jo po.objs q.1) s.mid h po.objs q.1 with
  | false=>.err 436
  | true=>fQ (zHt (xP po.objs s.ext q.1 es) θ po.v) fun v=>zQt (zCy (xP po.objs s.ext q.1 es) θ s.mid h po.objs q.1) fun os=>.ret v (mkH (zGU ks h) os) q.2
def zA6 (s:Fs) (ks es:List Key) (θ:TH) (h:zC) (n:Key):List Po→R
 | []=>.err 437
 | [po]=>ub s ks es θ h n po
 | po::r=>.fork (ub s ks es θ h n po) (zA6 s ks es θ h n r)
def uc (s:Fs) (ks es:List Key) (sb:SE→CV) (θ:TH) (h:zC) (n:Key) (po:Po):R:=match va s.mid (j3 s.objs ks) po.objs n with
 | none=>.err 435
 | some q=>match zIM (xP po.objs s.ext q.1 es) (jo po.objs q.1) s.mid h po.objs q.1 with
  | false=>.err 436
  | true=>fQ (zRc (xP po.objs s.ext q.1 es) sb po.v) fun v=>zQt (zCY (xP po.objs s.ext q.1 es) sb θ s.mid h po.objs q.1) fun os=>.ret v (mkH (zGU ks h) os) q.2
def wa (s:Fs) (ks es:List Key) (sb:SE→CV) (θ:TH) (h:zC) (n:Key):List Po→R
 | []=>.err 437
 | [po]=>uc s ks es sb θ h n po
 | po::r=>.fork (uc s ks es sb θ h n po) (wa s ks es sb θ h n r)
theorem zFs {s:Fs} {ks es:List Key} {sb:SE→CV} {θ:TH} (hs:∀ ρ e,sb e=yI ρ θ (.sym e)) {h:zC} {n:Key} {po:Po}:uc s ks es sb θ h n po=ub s ks es θ h n po:=by
 unfold uc ub
 simp only [zCi (hs _),zHQ (hs _),zCR]
theorem zDH {s:Fs} {ks es:List Key} {sb:SE→CV} {θ:TH} (hs:∀ ρ e,sb e=yI ρ θ (.sym e)) {h:zC} {n:Key}:∀ {l:List Po},wa s ks es sb θ h n l=zA6 s ks es θ h n l
 | []=>rfl
 | [po]=>zFs hs
 | po::po2::r=>by
  show R.fork (uc s ks es sb θ h n po) (wa s ks es sb θ h n (po2::r))=R.fork (ub s ks es θ h n po) (zA6 s ks es θ h n (po2::r))
  rw [zFs hs,zDH hs]
def fNR (n:Nat) (k:Nat→R):R:=Nat.rec (motive:=fun _=>(Nat→R)→R) (fun k=>k 0) (fun m _ k=>k (Nat.succ m)) n k
theorem zRY {n:Nat} {k:Nat→R}:fNR n k=k n:=by cases n <;> rfl
def qOf (m:Nat) (th:List (Nat × Int × LL)):Nat:=match zJG m th with
 | (_,(q,_)::_)=>q
 | _=>0
def zWi (pm:Nat) (h:zC) (th:List (Nat × Int × LL)):List (Key × CObj)→HA→HA
 | [],a=>a
 | p::r,a=>zWi pm h th r (match p.2,(zJG p.1.ix th).1 with
  | .ro x,.ofNat m=>(match zn (Key.ofNat m) h with
   | some o=>(match roB o with
    | some y=>gVs pm x y a
    | none=>a)
   | none=>a)
  | _,_=>a)
def thQ (th:List (Nat × Int × LL)) (j:Nat) (acc:TH):Option TH:=List.rec (motive:=fun _=>Nat→TH→Option TH) (fun j acc=>Nat.rec (motive:=fun _=>Option TH) (some acc) (fun _ _=>none) j)
 (fun q _ ih j acc=>Prod.rec (motive:=fun _=>Option TH) (fun i v=>Bool.rec (motive:=fun _=>Option TH) (ih j acc) (ih (Nat.pred j) (v::acc)) (Nat.beq i j)) q) th j acc
def zWG (n m:Nat) (th:List (Nat × Int × LL)):Nat:=Nat.rec (motive:=fun _=>Nat) 0 (fun _ _=>qOf m th) n
def zV3 (th:List (Nat × Int × LL)) (b:List (Int × Int)):TH:=match b with
 | []=>[]
 | _::r=>match thQ th (List.length r) [] with
  | some θ=>(0,[])::θ
  | none=>zWO th b
def zV0 (th:List (Nat × Int × LL)) (k:List (Nat × Int × LL)→R):R:=List.rec (motive:=fun _=>(List (Nat × Int × LL)→R)→R) (fun k=>k []) (fun x _ g k=>g fun l=>k (x::l)) th k
theorem zIu:∀ {th:List (Nat × Int × LL)} {k:List (Nat × Int × LL)→R},zV0 th k=k th
 | [],_=>rfl
 | x::th,k=>zIu (th:=th) (k:=fun l=>k (x::l))
def qkO:CObj→CObj→Bool
 | .cells x,.cells y=>zQe x y
 | .cells x,.full _ y=>zQe x y
 | _,_=>true
def zMW (pm:Nat) (h:zC):List (Key × CObj)→HA→List Key→Option (List Key × HA)
 | [],a,ks=>some (ks.reverse,a)
 | p::r,a,ks=>match zTz a with
  | none=>none
  | some (j,a)=>match zn j h with
   | some o=>match qkO p.2 o with
    | true=>zMW pm h r (gO pm p.2 o a) (j::ks)
    | false=>none
   | none=>none
def zRR (pm:Nat) (h:zC) (ros:List (Key × CObj)):List Nat→List (Key × CObj)→HA→List Key→Option (List Key × HA)
 | [],l,a,ks=>zMW pm h l a ks
 | 0::w,p::r,a,ks=>(match zTz a with
  | none=>none
  | some (j,a)=>match zn j h with
   | some o=>match qkO p.2 o with
    | true=>zRR pm h ros w r (gO pm p.2 o a) (j::ks)
    | false=>none
   | none=>none)
 | 0::_,[],_,_=>none
 | Nat.succ q::w,l,a,ks=>(match nth ros q with
  | some (k,.ro x)=>(match (zJG k.ix a.th).1 with
   | .ofNat m=>(match zn (Key.ofNat m) h with
    | some o=>(match roB o with
     | some y=>(match zQe x y with
      | true=>zRR pm h ros w l (gVs pm x y a) ks
      | false=>none)
     | none=>none)
    | none=>none)
   | .negSucc _=>none)
  | _=>none)
def zWA (pm:Nat) (h:zC) (s:Fs) (a:HA):Option (List Key × HA):=match s.walk with
 | []=>(match zMW pm h s.objs a [] with
  | some (ks,a)=>some (ks,zWi pm h a.th s.ros a)
  | none=>none)
 | w=>zRR pm h s.ros w s.objs a []
def zQG [Sym] (G:Nat) (args:List CV) (h:zC) (n:Key) (s:Fs) (z:R):R:=fNR (List.length s.b) fun m=>fNR (Nat.add m s.pn) fun mn=>match zWA m h s (gVs m s.args args ⟨[],[],zUq s.objs,[]⟩) with
 | none=>z
 | some (ks,a)=>fKs ks fun ks=>fKs (zV5 a.th s.ext) fun es=>zV0 a.th fun th=>fTH (zV3 th s.b) fun θ=>fNR (zWG s.pn m th) fun q=>match zQq G s m mn q ks es θ args h with
  | true=>wa s ks es (sbP θ m mn q s.pn) (θ++jy q s.pn) h n s.posts
  | false=>z
def qkK (h:zC) (objs:List (Key × CObj)) (b:Nat) (k j:Key):Bool:=match Nat.ble 32768 k.ix with
 | true=>true
 | false=>match nth objs (Nat.sub k.ix b),zn j h with
  | some p,some (.cells y)=>(match p.2 with
   | .cells x=>zQe x y
   | _=>true)
  | _,_=>true
def qkA (h:zC) (objs:List (Key × CObj)) (b:Nat):List CV→List CV→Bool
 | x::l,y::m=>(match x,y with
  | .ptr k _,.ptr j _=>qkK h objs b k j
  | .sl k _ _ _ _ _,.sl j _ _ _ _ _=>qkK h objs b k j
  | .agg (.sl k _ _ _ _ _::_),.agg (.sl j _ _ _ _ _::_)=>qkK h objs b k j
  | _,_=>true)&&qkA h objs b l m
 | _,_=>true
def zDX [Sym] (G:Nat) (args:List CV) (h:zC) (n:Key) (z:R):List Fs→R
 | []=>z
 | s::r=>match zQe s.args args&&qkA h s.objs (zUq s.objs) s.args args with
  | true=>zQG G args h n s (zDX G args h n z r)
  | false=>zDX G args h n z r
theorem zAn {ρ inv:zC} {θ:TH} {h:zC} {lo hi:Nat}:∀ {objs:List (Key × CObj)} {ks:List Key},qU ρ inv θ h lo hi objs ks=true→objs.length=ks.length
 | [],[],_=>rfl
 | [],_::_,h=>by cases h
 | _::_,[],h=>by cases h
 | p::r,j::js,h=>by
  unfold qU at h
  rw [Bool.and_eq_true] at h
  simp [zAn h.2]
theorem zBi {s:Fs} {ks es:List Key} {sb:SE→CV} {θ:TH} {h:zC} {n:Key} {po:Po}:zk n (uc s ks es sb θ h n po):=by
 unfold uc
 cases hq:va s.mid (j3 s.objs ks) po.objs n with
 | none=>trivial
 | some q=>
  simp only
  cases hb:zIM (xP po.objs s.ext q.1 es) (jo po.objs q.1) s.mid h po.objs q.1 with
  | false=>trivial
  | true=>
   simp only [zG8,zI2]
   exact zDB hq
theorem zAm {s:Fs} {ks es:List Key} {sb:SE→CV} {θ:TH} {h:zC} {n:Key}:∀ {l:List Po},zk n (wa s ks es sb θ h n l)
 | []=>trivial
 | [po]=>zBi
 | po::po'::r=>⟨zBi,zAm (l:=po'::r)⟩
theorem vA [Sym] {G:Nat} {args:List CV} {h:zC} {n:Key} {z:R} (hz:zk n z):∀ {l:List Fs},zk n (zDX G args h n z l)
 | []=>hz
 | s::r=>by
  unfold zDX
  split
  · unfold zQG
    simp only [zRY]
    split
    · exact vA hz
    rw [zJb,zJb,zIu,zMz]
    split
    · exact zAm
    · exact vA hz
  · exact vA hz
theorem zEI {σ σT:Nat→Int} {K:zY} {G:Nat} {s:Fs} {ks es:List Key} {θ:TH} {h:zC} {n:Key} {po:Po} {ψ ψ':Psi} {w w':World} {v:Value} (hθ:qX σ σT θ) (hR:@Rel (linSym σ K) ψ (zC.fam h) w) (hfr:xc ψ n)
 (hc:qU (xP s.objs s.ext ks es) (jo s.objs ks) θ h G s.n.ix s.objs ks=true) (he:zDb (xP s.objs s.ext ks es) G s.n.ix h s.ext es=true)
 (hpo:zTC (linSym σT kno) (qW (xP s.objs s.ext ks es) h [] ψ G 0) s w po v ψ' w') (hcl:zf (ub s ks es θ h n po)) :
 @zl (linSym σ K) ψ (zC.fam h) n w (ub s ks es θ h n po) v w':=by
 unfold ub at hcl ⊢
 cases hq:va s.mid (j3 s.objs ks) po.objs n with
 | none=>rw [hq] at hcl; exact hcl.elim
 | some q=>
  rw [hq] at hcl
  simp only at hcl ⊢
  cases hb:zIM (xP po.objs s.ext q.1 es) (jo po.objs q.1) s.mid h po.objs q.1 with
  | false=>rw [hb] at hcl; exact hcl.elim
  | true=>
   rw [hb] at hcl
   simp only [zG8,zI2,zCR] at hcl ⊢
   have hroom:q.2.room:=hcl
   obtain ⟨hmono,hkeys⟩:=zDi hq hroom
   obtain ⟨hlen,hbij⟩:=zNK hb
   obtain ⟨c1,c2,c3⟩:=zFC (G:=G) (KT:=kno) hθ hR hc
   have hobj:=kP hc
   have hlen0:=zAn hc
   have hTot:∀ k o,zC.fam h k=some o→∃ p,ψ k=some p:=@Rel.tot (linSym σ K) _ _ _ hR
   have hOn:∀ k o p,zC.fam h k=some o→ψ k=some p→@xM (linSym σ K) ψ w p o:=@Rel.on (linSym σ K) _ _ _ hR
   have hInj:=@Rel.inj (linSym σ K) _ _ _ hR
   have pTot:=@Rel.tot (linSym σT kno) _ _ _ hpo.rel
   have pOn:=@Rel.on (linSym σT kno) _ _ _ hpo.rel
   have pInj:=@Rel.inj (linSym σT kno) _ _ _ hpo.rel
   have hold:∀ k p,ψ k=some p→k.ix<n.ix:=fun k p hp=>by
    rcases Nat.lt_or_ge k.ix n.ix with g | g
    · exact g
    · rw [hfr k g] at hp; cases hp
   obtain ⟨ψ2,hψ2⟩:∃ ψ2:Psi,∀ k,ψ2 k=if n.ix≤k.ix then (match zm (jo po.objs q.1) k with | some kp=>ψ' kp | none=>ψ k) else ψ k:=⟨_,fun _=>rfl⟩
   have h2old:∀ k,k.ix<n.ix→ψ2 k=ψ k:=fun k hk=>by rw [hψ2,if_neg (by omega)]
   have hle:ψ.le ψ2:=fun k p hp=>by rw [h2old k (hold k p hp)]; exact hp
   have hpsT:∀ k j p,zm (xP s.objs s.ext ks es) k=some j→ψ j=some p→qW (xP s.objs s.ext ks es) h [] ψ G 0 k=some ⟨p.blk,p.off,p.sz,zCU (zn j h) p.ck⟩:=by
    intro k j p hk hp
    unfold qW
    rw [hk]
    simp only
    rw [hp]; rfl
   have hrho0:∀ k j,zm (j3 s.objs ks) k=some j→zm (xP s.objs s.ext ks es) k=some j∧j∈ks∧∃ o p,zn j h=some o∧ψ j=some p:=by
    intro k j hk
    obtain ⟨i,o,g1,g2⟩:=zGk hk
    obtain ⟨j',o',f1,f2,f3,f4,f5,f6,f7⟩:=hobj i k o g1
    rw [g2] at f1
    injection f1 with f1
    subst f1
    obtain ⟨p,hp⟩:=hTot j o' f6
    exact ⟨f2,List.mem_of_getElem? g2,o',p,f6,hp⟩
   have hend:∀ (i:Nat) (k:Key) (o:CObj) (j:Key),po.objs[i]? = some (k,o)→q.1[i]? = some j→∀ p,ψ' k=some p→∃ p',ψ2 j=some p'∧zFy p p' ∧
    ((s.mid≤k.ix∧p'=p)∨(k.ix<s.mid∧p=⟨p'.blk,p'.off,p'.sz,zCU (zn j h) p'.ck⟩∧ψ j=some p')):=by
    intro i k o j g1 g2 p hp
    rcases hkeys i k o j g1 g2 with ⟨f1,f2⟩ | ⟨f1,f2,f3⟩
    · obtain ⟨e0,_,o0,pj,e1,e2⟩:=hrho0 k j f2
      have e3:=hpo.pin i k o g1 f1 _ (hpsT k j pj e0 e2)
      rw [hp] at e3
      injection e3 with e3
      subst e3
      exact ⟨pj,by rw [h2old j (hold j pj e2)]; exact e2,⟨rfl,rfl,rfl⟩,.inr ⟨f1,rfl,e2⟩⟩
    · obtain ⟨j',b1,b2,b3,_⟩:=hbij i k o g1
      rw [g2] at b1
      injection b1 with b1
      subst b1
      exact ⟨p,by rw [hψ2,if_pos f2,b3]; exact hp,⟨rfl,rfl,rfl⟩,.inl ⟨f1,rfl⟩⟩
   have hM:zIg (xP po.objs s.ext q.1 es) ψ' ψ2:=by
    intro k j p hk hp
    rcases zNw hlen hk with ⟨i,o,g1,g2⟩ | ⟨i,g1,g2⟩
    · obtain ⟨p',h1,h2,_⟩:=hend i k o j g1 g2 p hp
      exact ⟨p',h1,h2⟩
    · obtain ⟨a0,a1,a2⟩:=zDv he i k j g1 g2
      have e3:=hpo.ext k (List.mem_of_getElem? g1) a2
      cases e2:ψ j with
      | none=>
       have e4:qW (xP s.objs s.ext ks es) h [] ψ G 0 k=none:=by
        unfold qW
        rw [a0]
        simp only
        rw [e2]; rfl
       rw [e3,e4] at hp
       cases hp
      | some pj=>
       rw [e3,hpsT k j pj a0 e2] at hp
       injection hp with hp
       subst hp
       exact ⟨pj,by rw [h2old j (hold j pj e2)]; exact e2,⟨rfl,rfl,rfl⟩⟩
   have hOwn:∀ B,zGP (qW (xP s.objs s.ext ks es) h [] ψ G 0) s.objs w B→(∃ k0 o0 p0,zn k0 h=some o0∧o0.isRo=false∧ψ k0=some p0∧p0.blk=B∧k0∈ks)∨w.heap.size≤B:=by
    intro B hB
    rcases hB with ⟨k,o,p,g1,g2,g3⟩ | g
    · obtain ⟨_,k0,o0,p0,f1,f2,f3,f4,f5,f6⟩:=c3 k o p g1 g2
      exact .inl ⟨k0,o0,p0,f1,f2,f3,f4.trans g3,f6⟩
    · exact .inr g
   have hnew:∀ k o,zn k (mkH (zGU ks h) (zCy (xP po.objs s.ext q.1 es) θ s.mid h po.objs q.1))=some o →
    (∃ (kp:Key) (o':CObj) (p p':Pl),wG po.objs kp=some o'∧o=wF (xP po.objs s.ext q.1 es) θ s.mid h kp k o'∧zOP s.mid h kp k o'=true∧ψ' kp=some p∧ψ2 k=some p'∧zFy p p' ∧
      ((s.mid≤kp.ix∧p'=p)∨(kp.ix<s.mid∧p=⟨p'.blk,p'.off,p'.sz,zCU (zn k h) p'.ck⟩∧ψ k=some p'))∧zm (xP po.objs s.ext q.1 es) kp=some k)∨(k ∉ ks∧zn k h=some o):=by
    intro k o hk
    rcases zEN hb hk with ⟨kp,o',i,g1,g2,g3,g4,g5,g6⟩ | hk
    · obtain ⟨p,hp⟩:=pTot kp o' g1
      obtain ⟨p',e1,e2,e3⟩:=hend i kp o' k g5 g6 p hp
      exact .inl ⟨kp,o',p,p',g1,g2,g3,hp,e1,e2,e3,g4⟩
    · exact .inr (zHi hk)
   have hin:∀ k o p,zn k h=some o→ψ k=some p→p.blk<w.heap.size:=fun k o p h1 h2=>@xM.lt (linSym σ K) _ _ _ _ (hOn k o p h1 h2)
   have hlow:∀ k o p,k ∉ ks→zn k h=some o→ψ k=some p→¬ zGP (qW (xP s.objs s.ext ks es) h [] ψ G 0) s.objs w p.blk:=by
    intro k o p g1 g2 g3 hB
    rcases hOwn _ hB with ⟨k0,o0,p0,f1,f2,f3,f4,f5⟩ | g
    · have:=hInj k0 k o0 o p0 p f1 g2 f3 g3 (.inl f2) f4
      subst this
      exact g1 f5
    · have:=hin k o p g2 g3
      omega
   have hone:∀ (kp k:Key) (o':CObj) (p p':Pl),wG po.objs kp=some o'→zOP s.mid h kp k o'=true→ψ' kp=some p→zFy p p' →
    ((s.mid≤kp.ix∧p'=p)∨(kp.ix<s.mid∧p=⟨p'.blk,p'.off,p'.sz,zCU (zn k h) p'.ck⟩∧ψ k=some p')) →
    @xM (linSym σ K) ψ2 w' p' (wF (xP po.objs s.ext q.1 es) θ s.mid h kp k o')∧(wF (xP po.objs s.ext q.1 es) θ s.mid h kp k o').isRo=false:=by
    intro kp k o' p p' g1 g3 g4 g6 g7
    have hpon:=pOn kp o' p g1 g4
    cases o' with
    | cells l=>
     have e:wF (xP po.objs s.ext q.1 es) θ s.mid h kp k (.cells l)=zRX (xP po.objs s.ext q.1 es) θ (.cells l):=by
      show CObj.cells (zMj _ θ l)=CObj.cells (xu _ θ l)
      rw [zGY]
     rw [e]
     exact ⟨zLl hθ hM rfl g6 (fun _ _ e=>by cases e) hpon,rfl⟩
    | map es1 c1=>
     rcases g7 with ⟨m1,m2⟩ | ⟨m1,m2,m3⟩
     · have hb1:Nat.ble s.mid kp.ix=true:=Nat.ble_eq_true_of_le m1
       have e:wF (xP po.objs s.ext q.1 es) θ s.mid h kp k (.map es1 c1)=zRX (xP po.objs s.ext q.1 es) θ (.map es1 c1):=by
        unfold wF
        simp only [hb1]
        rfl
       rw [e]
       exact ⟨zLl hθ hM rfl g6 (fun _ _ _=>m2) hpon,rfl⟩
     · have hb1:Nat.ble s.mid kp.ix=false:=by
        cases hx:Nat.ble s.mid kp.ix with
        | false=>rfl
        | true=>have:=@zL zP _ _ hx; omega
       unfold zOP at g3
       simp only [hb1] at g3
       unfold wF
       simp only [hb1]
       split at g3
       · rename_i es0 c0 h0
         rw [h0] at m2
         have hle0:=@zL zP _ _ g3
         rw [@zAU zP] at hle0
         obtain ⟨arr0,a1,_,a3⟩:=hOn k _ p' h0 m3
         have m2:p=⟨p'.blk,p'.off,p'.sz,fun j=>p'.ck (qD (vT es0) c0 j)⟩:=m2
         subst m2
         obtain ⟨arr,b1,⟨l0,bp,b2⟩,b3⟩:=hpon
         obtain ⟨d,hd⟩:∃ d,c1=(vT es0).length+d:=⟨c1 - (vT es0).length,by omega⟩
         have hck:qD (vT es0) c0 c1=c0+d:=by rw [hd]; exact v1 d
         refine ⟨⟨arr,?_,⟨l0,bp,zIe hθ hM b2⟩,?_⟩,rfl⟩
         · rw [zLC]; exact b1
         · rw [zLC,hck]; exact zKj a3 d
       · cases g3
    | ro _=>cases g3
    | striter _ _=>cases g3
    | mapiter _ _ _ _=>cases g3
    | full _ _=>cases g3
    | mapz _=>cases g3
    | seen _=>cases g3
    | hid=>cases g3
    | bag _=>cases g3
   refine ⟨ψ2,@yH.mk (linSym σ K) _ _ _ _ _ _ _ _ hle ?_ (@Rel.mk (linSym σ K) _ _ _ ?_ ?_ ?_) ?_ ?_ hpo.lft.size hpo.lft.tape hpo.lft.os hpo.lft.output hmono ?_,km hθ hM _ hpo.val⟩
   · intro k hk
     rcases hk with hk | hk
     · exact h2old k hk
     · rw [hψ2,if_pos (by omega)]
       split
       · rename_i kp hkp
         exfalso
         obtain ⟨i,⟨o,g1⟩,g2⟩:=zQA hkp
         rcases hkeys i kp o k g1 g2 with ⟨f1,f2⟩ | ⟨f1,f2,f3⟩
         · obtain ⟨_,_,o0,pj,e1,e2⟩:=hrho0 kp k f2
           have:=hold k pj e2
           omega
         · omega
       · rfl
   · intro k o p hk hp
     rcases hnew k o hk with ⟨kp,o',p0,p',g1,rfl,g3,g4,g5,g6,g7,_⟩ | ⟨g1,g2⟩
     · rw [g5] at hp
       injection hp with hp
       subst hp
       exact (hone kp k o' p0 p' g1 g3 g4 g6 g7).1
     · obtain ⟨p1,hp1⟩:=hTot k o g2
       rw [hle k p1 hp1] at hp
       injection hp with hp
       subst hp
       exact @xM.mono (linSym σ K) _ _ hle _ _ _ (@xM.congr (linSym σ K) _ _ _ _ _ (hpo.lft.block _ (hlow k o p1 g1 g2 hp1)) (hOn k o p1 g2 hp1))
   · intro k o hk
     rcases hnew k o hk with ⟨kp,o',p0,p',g1,_,g3,g4,g5,_⟩ | ⟨g1,g2⟩
     · exact ⟨p',g5⟩
     · obtain ⟨p1,hp1⟩:=hTot k o g2
       exact ⟨p1,hle k p1 hp1⟩
   · intro k₁ k₂ o₁ o₂ p₁ p₂ h1 h2 h3 h4 hr e
     rcases hnew k₁ o₁ h1 with ⟨kp1,o1',p01,p1',a1,_,a3,a4,a5,a6,_,a8⟩ | ⟨a1,a2⟩ <;> rcases hnew k₂ o₂ h2 with ⟨kp2,o2',p02,p2',b1,_,b3,b4,b5,b6,_,b8⟩ | ⟨b1,b2⟩
     · rw [a5] at h3; rw [b5] at h4
       injection h3 with h3; injection h4 with h4
       subst h3; subst h4
       have:=pInj kp1 kp2 o1' o2' p01 p02 a1 b1 a4 b4 (.inl (hpo.own kp1 o1' p01 a1 a4).1) (by rw [← a6.1,← b6.1]; exact e)
       subst this
       rw [a8] at b8
       injection b8
     · exfalso
       rw [a5] at h3
       injection h3 with h3; subst h3
       obtain ⟨p1,hp1⟩:=hTot k₂ o₂ b2
       rw [hle k₂ p1 hp1] at h4
       injection h4 with h4; subst h4
       refine hlow k₂ o₂ p1 b1 b2 hp1 ?_
       rw [← e,a6.1]
       exact (hpo.own kp1 o1' p01 a1 a4).2
     · exfalso
       rw [b5] at h4
       injection h4 with h4; subst h4
       obtain ⟨p1,hp1⟩:=hTot k₁ o₁ a2
       rw [hle k₁ p1 hp1] at h3
       injection h3 with h3; subst h3
       refine hlow k₁ o₁ p1 a1 a2 hp1 ?_
       rw [e,b6.1]
       exact (hpo.own kp2 o2' p02 b1 b4).2
     · obtain ⟨p1,hp1⟩:=hTot k₁ o₁ a2
       obtain ⟨p2,hp2⟩:=hTot k₂ o₂ b2
       rw [hle k₁ p1 hp1] at h3
       rw [hle k₂ p2 hp2] at h4
       injection h3 with h3; injection h4 with h4
       subst h3; subst h4
       exact hInj k₁ k₂ o₁ o₂ p1 p2 a2 b2 hp1 hp2 hr e
   · intro B hB hfree
     refine hpo.lft.block B fun hO=>?_
     rcases hOwn B hO with ⟨k0,o0,p0,f1,f2,f3,f4,_⟩ | g
     · exact hfree k0 o0 p0 f1 f2 f3 f4
     · omega
   · intro k o p hk hro hp
     rcases hnew k o hk with ⟨kp,o',p0,p',g1,_,g3,g4,g5,g6,_⟩ | ⟨g1,g2⟩
     · rw [g5] at hp
       injection hp with hp
       subst hp
       have:=(hpo.own kp o' p0 g1 g4).2
       rw [← g6.1] at this
       rcases hOwn _ this with ⟨k0,o0,p00,f1,f2,f3,f4,_⟩ | g
       · exact .inl ⟨k0,o0,p00,f1,f2,f3,f4⟩
       · exact .inr g
     · obtain ⟨p1,hp1⟩:=hTot k o g2
       rw [hle k p1 hp1] at hp
       injection hp with hp
       subst hp
       exact .inl ⟨k,o,p1,g2,hro,hp1,rfl⟩
   · intro k o p hk hp
     rcases hnew k o hk with ⟨kp,o',p0,p',g1,_,g3,g4,g5,g6,_⟩ | ⟨g1,g2⟩
     · rw [g5] at hp
       injection hp with hp
       subst hp
       have:=(hpo.own kp o' p0 g1 g4).2
       rw [← g6.1] at this
       rcases hOwn _ this with ⟨k0,o0,p00,f1,f2,f3,f4,_⟩ | g
       · exact .inl ⟨k0,o0,p00,f1,f3,f4⟩
       · exact .inr g
     · obtain ⟨p1,hp1⟩:=hTot k o g2
       rw [hle k p1 hp1] at hp
       injection hp with hp
       subst hp
       exact .inl ⟨k,o,p1,g2,hp1,rfl⟩
theorem zEd {σ σT:Nat→Int} {K:zY} {G:Nat} {s:Fs} {ks es:List Key} {θ:TH} {h:zC} {n:Key} {ψ ψ':Psi} {w w':World} {v:Value} (hθ:qX σ σT θ) (hR:@Rel (linSym σ K) ψ (zC.fam h) w) (hfr:xc ψ n)
 (hc:qU (xP s.objs s.ext ks es) (jo s.objs ks) θ h G s.n.ix s.objs ks=true) (he:zDb (xP s.objs s.ext ks es) G s.n.ix h s.ext es=true):∀ {l:List Po} {po:Po},po∈l→zTC (linSym σT kno) (qW (xP s.objs s.ext ks es) h [] ψ G 0) s w po v ψ' w'→zf (zA6 s ks es θ h n l) →
 @zl (linSym σ K) ψ (zC.fam h) n w (zA6 s ks es θ h n l) v w'
 | [],_,hm,_,_=>by cases hm
 | [po'],po,hm,hpo,hcl=>by
  rw [List.mem_singleton.1 hm] at hpo
  exact zEI hθ hR hfr hc he hpo hcl
 | po'::po2::r,po,hm,hpo,hcl=>by
  have hcl:zf (ub s ks es θ h n po')∧zf (zA6 s ks es θ h n (po2::r)):=hcl
  rcases List.mem_cons.1 hm with e | hm
  · subst e
    exact .inl (zEI hθ hR hfr hc he hpo hcl.1)
  · exact .inr (zEd hθ hR hfr hc he (l:=po2::r) hm hpo hcl.2)
theorem zPk {σ:Nat→Int} {K:zY} (hK:KnownOk σ K) {f:FuncId} {G:Nat} (hG:P.globals.size≤G) {s:Fs} (hs:FsOk P f s) {args:List CV} {h:zC} {n:Key} {ψ:Psi} {w:World} {args':Array Value} {m mn q:Nat} {ks es:List Key} {θl:TH}
 (hm:m=s.b.length) (hn:mn=m+s.pn) (ha:@zS (linSym σ K) ψ args args'.toList) (hg:kR P ψ) (hR:@Rel (linSym σ K) ψ (zC.fam h) w) (hfr:xc ψ n) (hfit:@zQq (linSym σ K) G s m mn q ks es θl args h=true) (hcl:zf (wa s ks es (sbP θl m mn q s.pn) (θl++jy q s.pn) h n s.posts)) :
 yR P f args' w (@zl (linSym σ K) ψ (zC.fam h) n w (wa s ks es (sbP θl m mn q s.pn) (θl++jy q s.pn) h n s.posts)):=by
 unfold zQq at hfit
 simp only [Bool.and_eq_true] at hfit
 obtain ⟨⟨⟨⟨⟨⟨f4,fp⟩,f1⟩,f2⟩,fe⟩,f3⟩,f5⟩:=hfit
 have hlow:s.b.length=θl.length:=(zI8 hK P (σT:=fun i=>match nth θl i with | some q=>evQ σ q | none=>0) (j:=0) f4 (fun i q hi=>by simp only [Nat.zero_add,hi])).1
 have hm':m=θl.length:=by omega
 have hsi:∀ e d,zBS θl m mn q s.pn e d=zAr (θl++jy q s.pn) e d:=zKu hm' hn
 rw [zDH (fun ρ e=>zVt hm' hn e)] at hcl ⊢
 rw [kr hsi (fun _ _ _=>rfl)] at f1
 rw [zDP hsi (fun _ _ _=>rfl)] at f2
 rw [zFW hsi (fun _ _ _=>rfl)] at f5
 obtain ⟨θ,hθe⟩:∃ θ,θ=θl++jy q s.pn:=⟨_,rfl⟩
 rw [← hθe] at f1 f2 f5 hcl ⊢
 obtain ⟨σT,hσ⟩:∃ σT:Nat→Int,∀ j,σT j=match nth θ j with | some q=>evQ σ q | none=>0:=⟨_,fun _=>rfl⟩
 have hth:∀ j q,nth θ j=some q→σT j=evQ σ q:=fun j q hj=>by rw [hσ,hj]
 have hlen:s.bA.length=θ.length:=by
  rw [hθe]
  unfold Fs.bA
  rw [List.length_append,List.length_append,zKS,zJ6,hlow]
 have hb:yL σT 0 s.bA:=by
  refine zCE (zI8 hK P (σT:=σT) (j:=0) f4 (fun i x hi=>?_)).2 fun i hi=>?_
  · rw [Nat.zero_add]
    refine hth i x ?_
    have hlt:i<θl.length:=by
     rw [@yg zP] at hi
     exact (List.getElem?_eq_some_iff.1 hi).1
    rw [hθe,zE6 hlt,hi]
  · have h1:nth θ (0+s.b.length+i)=some (0,[(q+i,1)]):=by
     rw [Nat.zero_add,hlow,hθe,zF5,zGj hi]
    rw [hth _ _ h1]
    have h2:=zN1 fp i hi
    rw [zHV] at h2
    have h3:=hK.b _ _ h2
    show (0:Int)≤0+(1*σ (q+i)+0)∧(0:Int)+(1*σ (q+i)+0)≤255
    simp only at h3
    omega
 have hobj:=kP f2
 have hlen0:=zAn f2
 have f3:=@zL zP _ _ f3
 have hrho:∀ k b,zm (xP s.objs s.ext ks es) k=some b→G≤k.ix∧k.ix<s.n.ix:=by
  intro k b hk
  rcases zNw hlen0 hk with ⟨j,o,h1,h2⟩ | ⟨j,h1,h2⟩
  · obtain ⟨i',o',g1,g2,g3,g4,g5,g6,g7⟩:=hobj j k o h1
    exact ⟨g4,g5⟩
  · obtain ⟨_,a1,a2⟩:=zDv fe j k b h1 h2
    exact ⟨a1,a2⟩
 refine uZ (hs σT hb (qW (xP s.objs s.ext ks es) h [] ψ G 0) w args' (fun σ' K' hag hK'=>?_) ?_ ?_) fun v w' ⟨po,hpo,ψ',hok⟩=>?_
 · have hθ':qX σ σ' θ:=fun j q hj=>by
    have hlt:j<θ.length:=by
     rw [@yg zP] at hj
     exact (List.getElem?_eq_some_iff.1 hj).1
    rw [hag j (by omega)]
    exact hth j q hj
   obtain ⟨c1,c2⟩:=zMl (G:=G) (KT:=K') hθ' hR f2 f5
   exact ⟨kv hθ' c2 _ _ f1 ha,c1⟩
 · intro g hg' h4
   obtain ⟨sz,e⟩:=hg g hg' h4
   have hix:(Key.ofNat g).ix=g:=@Key.ix_ofNat zP _ (by omega)
   refine ⟨sz,?_⟩
   have hno:zm (xP s.objs s.ext ks es) (Key.ofNat g)=none:=by
    cases hr:zm (xP s.objs s.ext ks es) (Key.ofNat g) with
    | none=>rfl
    | some b=>have:=(hrho _ _ hr).1; omega
   unfold qW
   rw [hno]
   simp only [findW]
   rw [if_pos (by omega)]
   exact e
 · intro k hk
   have hno:zm (xP s.objs s.ext ks es) k=none:=by
    cases hr:zm (xP s.objs s.ext ks es) k with
    | none=>rfl
    | some b=>have:=(hrho _ _ hr).2; omega
   unfold qW
   rw [hno]
   simp only [findW]
   rw [if_neg (by omega)]
 · exact zEd (fun j q hj=>hth j q hj) hR hfr f2 fe hpo hok hcl
theorem zAG {σ:Nat→Int} {K:zY} (hK:KnownOk σ K) {f:FuncId} {G:Nat} (hG:P.globals.size≤G) {args:List CV} {h:zC} {n:Key} {ψ:Psi} {w:World} {args':Array Value}
 (ha:@zS (linSym σ K) ψ args args'.toList) (hg:kR P ψ) (hR:@Rel (linSym σ K) ψ (zC.fam h) w) (hfr:xc ψ n) {z:R} (hz:zf z→yR P f args' w (@zl (linSym σ K) ψ (zC.fam h) n w z)):∀ {l:List Fs},(∀ s∈l,FsOk P f s) →
 zf (@zDX (linSym σ K) G args h n z l)→yR P f args' w (@zl (linSym σ K) ψ (zC.fam h) n w (@zDX (linSym σ K) G args h n z l))
 | [],_,hcl=>hz hcl
 | s::r,hl,hcl=>by
  unfold zDX at hcl ⊢
  split at hcl
  · unfold zQG at hcl ⊢
    simp only [zRY] at hcl ⊢
    split at hcl
    · exact zAG hK hG ha hg hR hfr hz (fun s' h'=>hl s' (by simp [h'])) hcl
    rename_i ks a hh
    simp only [zJb,zMz,zIu] at hcl ⊢
    split at hcl
    · rename_i hfit
      exact zPk hK hG (hl s (by simp)) rfl rfl ha hg hR hfr hfit hcl
    · rename_i hfit
      exact zAG hK hG ha hg hR hfr hz (fun s' h'=>hl s' (by simp [h'])) hcl
  · exact zAG hK hG ha hg hR hfr hz (fun s' h'=>hl s' (by simp [h'])) hcl
def fsF [Sym] (P:Program) (code:FuncId→CFn) (nat:Nats) (fuel G:Nat) (f:FuncId) (l:List Fs) (d:Bool) (args:List CV) (h:zC) (n:Key):R:=match d with
 | true=>ev P code nat fuel true f args h n
 | false=>zDX G args h n (ev P code nat fuel false f args h n) l
def zV6 (P:Program) (code:FuncId→CFn) (nat:Nats) (fuel G:Nat) (f:FuncId) (l:List Fs):NatF:=fun S=>@fsF S P code nat fuel G f l
def natF (P:Program) (code:FuncId→CFn) (fuel:Nat) (f:FuncId) (G:Nat) (l:List Fs) (nat:Nats):Nats:=fun g=>Bool.rec (motive:=fun _=>Option NatF) (nat g) (some (zV6 P code nat fuel G f l)) (Nat.beq g f)
theorem natF_ok {code:FuncId→CFn} {fuel:Nat} {f:FuncId} {G:Nat} {l:List Fs} {nat:Nats} (hm:P.follows .mixedOrders=true) (hcode:CodeOk P code) (hG:P.globals.size≤G) (hl:∀ s∈l,FsOk P f s) (hn:∀ σ K,KnownOk σ K→@NatsOk (linSym σ K) P nat) :
 ∀ σ K,KnownOk σ K→@NatsOk (linSym σ K) P (natF P code fuel f G l nat):=by
 intro σ K hK
 have hc:@yP (linSym σ K) P (@ev (linSym σ K) P code nat fuel):=by
  letI S:Sym:=linSym σ K
  haveI hS:SymFact P:=yx hK
  exact vu (fun call hcall F N=>xS hm hcall) hcode (hn _ _ hK) fuel
 have hn:=hn σ K hK
 have key:∀ g q,natF P code fuel f G l nat g=some q→(g=f∧q=zV6 P code nat fuel G f l)∨nat g=some q:=by
  intro g q h
  unfold natF at h
  cases e:Nat.beq g f with
  | true=>
   rw [e] at h
   injection h with h
   exact .inl ⟨Nat.eq_of_beq_eq_true e,h.symm⟩
  | false=>rw [e] at h; exact .inr h
 refine @NatsOk.mk (linSym σ K) P _ (fun g q hg d args h n=>?_) (fun g q hg args h n ψ w args' h1 h2 h3 h4 hcl=>?_) (fun g q hg args h n ψ w args' h1 h2 h3 h4 hcl=>?_)
 · rcases key g q hg with ⟨rfl,rfl⟩ | hg
   · cases d with
     | true=>exact @yP.above (linSym σ K) _ _ hc true g args h n
     | false=>exact @vA (linSym σ K) G args h n _ (@yP.above (linSym σ K) _ _ hc false g args h n) l
   · exact @NatsOk.above (linSym σ K) _ _ hn g q hg d args h n
 · rcases key g q hg with ⟨rfl,rfl⟩ | hg
   · exact zAG hK hG h1 h2 h3 h4 (fun hz=>@yP.calls (linSym σ K) _ _ hc g args h n ψ w args' h1 h2 h3 h4 hz) hl hcl
   · exact @NatsOk.calls (linSym σ K) _ _ hn g q hg args h n ψ w args' h1 h2 h3 h4 hcl
 · rcases key g q hg with ⟨rfl,rfl⟩ | hg
   · exact @yP.defers (linSym σ K) _ _ hc g args h n ψ w args' h1 h2 h3 h4 hcl
   · exact @NatsOk.defers (linSym σ K) _ _ hn g q hg args h n ψ w args' h1 h2 h3 h4 hcl
end
end Go.Ev
namespace Go.Ev
open Go.RowKit
noncomputable section
variable {P:Program}
def zTH (k:IntKind) (mid:Nat) (n:Key) (v:Int) (r:List Nat):Fs:=⟨[.int k v],[],[],mid,n,[(0,0)],[⟨.str r,[]⟩],[],0,[]⟩
theorem zRh {S:Sym} {ψ:Psi} {w:World}:@Rel S ψ (wG ([]++[])) w:=by
 have hn:∀ k,wG ([]++[]) k=none:=fun k=>by
  show zn k .nil=none
  rw [jZ]
 refine @Rel.mk S _ _ _ ?_ ?_ ?_
 · intro k o p hk _; rw [hn] at hk; cases hk
 · intro k o hk; rw [hn] at hk; cases hk
 · intro k₁ k₂ o₁ o₂ p₁ p₂ h1; rw [hn] at h1; cases h1
end
end Go.Ev
