/- A verified evaluator for the model's code: EvFrame, EvLits. -/
import Derived.Test.YteejciioplkoeaaGreatDoorEvSum
set_option linter.unusedSectionVars false
set_option linter.unusedVariables false
set_option linter.unusedSimpArgs false
namespace Go.Ev
open Go.RowKit
noncomputable section
variable {P:Program}
structure Fs where
 args:List CV
 objs:List (Key × CObj)
 ext:List Key
 mid:Nat
 n:Key
 b:List (Int × Int)
 posts:List Po
 ros:List (Key × CObj):=[]
 pn:Nat:=0
 walk:List Nat:=[]
def zIK:Nat→List (Int × Int)
 | 0=>[]
 | n+1=>(0,255)::zIK n
def Fs.bA (s:Fs):List (Int × Int):=s.b++zIK s.pn
def jq (q:Nat):Nat→TH
 | 0=>[]
 | n+1=>(0,[(q,1)])::jq (Nat.succ q) n
theorem zKk:∀ {n:Nat},(zIK n).length=n
 | 0=>rfl
 | n+1=>by show (zIK n).length+1=_; rw [zKk]
theorem zJB:∀ {n q:Nat},(jq q n).length=n
 | 0,_=>rfl
 | n+1,q=>by show (jq (q+1) n).length+1=_; rw [zJB]
theorem zF2:∀ {n q i:Nat},i<n→nth (jq q n) i=some (0,[(q+i,1)])
 | 0,_,_,h=>by omega
 | n+1,q,0,_=>rfl
 | n+1,q,i+1,h=>by
  show nth (jq (q+1) n) i=_
  rw [zF2 (by omega),show q+1+i=q+(i+1) from by omega]
theorem zEQ {α:Type}:∀ {l m:List α} {i:Nat},i<l.length→nth (l++m) i=nth l i
 | [],_,_,h=>by simp at h
 | _::_,_,0,_=>rfl
 | _::l,m,i+1,h=>zEQ (l:=l) (m:=m) (i:=i) (by simpa using h)
theorem zFO {α:Type}:∀ {l m:List α} {i:Nat},nth (l++m) (l.length+i)=nth m i
 | [],_,i=>by rw [show ([]:List α).length+i=i from by simp]; rfl
 | x::l,m,i=>by
  rw [show (x::l).length+i=(l.length+i)+1 from by simp; omega]
  exact zFO (l:=l) (m:=m) (i:=i)
theorem zCu {σ:Nat→Int} {n:Nat}:∀ {b:List (Int × Int)} {j:Nat},yH σ j b→(∀ i,i<n→0≤σ (j+b.length+i)∧σ (j+b.length+i)≤255)→yH σ j (b++zIK n)
 | [],j,_,h=>by
  have key:∀ {n j:Nat},(∀ i,i<n→0≤σ (j+i)∧σ (j+i)≤255)→yH σ j (zIK n):=by
   intro n
   induction n with
   | zero=>intro j _; trivial
   | succ n ih=>
    intro j h
    refine ⟨h 0 (by omega),ih fun i hi=>?_⟩
    have:=h (i+1) (by omega)
    rwa [show j+(i+1)=j+1+i from by omega] at this
  exact key fun i hi=>h i hi
 | q::r,j,hb,h=>⟨hb.1,zCu (b:=r) (j:=j+1) hb.2 fun i hi=>by
  have:=h i hi
  rwa [show j+(q::r).length+i=j+1+r.length+i from by simp; omega] at this⟩
def zPE {α:Type} (m mn:Nat) (l:LL) (y:Nat→α) (z:α):α:=
 List.rec (motive:=fun _=>α) z (fun p r _=>List.rec (motive:=fun _=>α) (Prod.rec (motive:=fun _=>α) (fun j a=>Bool.rec (motive:=fun _=>α) z (Bool.rec (motive:=fun _=>α) z (Bool.rec (motive:=fun _=>α) z (y j) (z7 a 1)) (Nat.ble (Nat.succ j) mn)) (Nat.ble m j)) p) (fun _ _ _=>z) r) l
theorem zM5 {α:Type} {m mn:Nat} {y:Nat→α} {z:α}:∀ {l:LL},zPE m mn l y z=z∨∃ j,l=[(j,1)]∧m≤j∧j<mn∧zPE m mn l y z=y j
 | []=>.inl rfl
 | _::_::_=>.inl rfl
 | [(j,a)]=>by
  show (Bool.rec (motive:=fun _=>α) z (Bool.rec (motive:=fun _=>α) z (Bool.rec (motive:=fun _=>α) z (y j) (z7 a 1)) (Nat.ble (Nat.succ j) mn)) (Nat.ble m j))=z∨∃ j',[(j,a)]=[(j',1)]∧m≤j'∧j'<mn∧(Bool.rec (motive:=fun _=>α) z (Bool.rec (motive:=fun _=>α) z (Bool.rec (motive:=fun _=>α) z (y j) (z7 a 1)) (Nat.ble (Nat.succ j) mn)) (Nat.ble m j))=y j'
  cases h1:Nat.ble m j with
  | false=>exact .inl rfl
  | true=>cases h2:Nat.ble (Nat.succ j) mn with
   | false=>exact .inl rfl
   | true=>cases h3:z7 a 1 with
    | false=>exact .inl rfl
    | true=>
     rw [@ze zR,decide_eq_true_eq] at h3
     subst h3
     exact .inr ⟨j,rfl,@zL zR _ _ h1,@zL zR _ _ h2,rfl⟩
theorem zKB {θ:TH} {n q j:Nat} (h1:θ.length≤j) (h2:j<θ.length+n):uw (θ++jq q n) [(j,1)]=some (0,[(q+(j - θ.length),1)]):=by
 have h:nth (θ++jq q n) j=some (0,[(q+(j - θ.length),1)]):=by
  rw [show j=θ.length+(j - θ.length) from by omega,zFO,zF2 (by omega)]
  congr 4
  omega
 unfold uw uw
 show (match nth (θ++jq q n) j,some ((0:Int),([]:LL)) with
  | some q,some s=>some (1*q.1+s.1,zB5 (uy 1 q.2) s.2)
  | _,_=>none)=_
 rw [h]
 rfl
theorem zKy {θ t:TH}:∀ {l:LL} {s:Int × LL},uw θ l=some s→uw (θ++t) l=some s
 | [],s,h=>h
 | p::r,s,h=>by
  unfold uw at h ⊢
  split at h
  · rename_i x y hx hy
    have hlt:p.1<θ.length:=by
     rw [@ye zR] at hx
     exact (List.getElem?_eq_some_iff.1 hx).1
    rw [zEQ hlt,hx,zKy hy]
    exact h
  · cases h
def zLX (θ:TH) (q n:Nat) (l:LL):Option (Int × LL):=match zKS θ l with
 | some s=>some s
 | none=>zKS (θ++jq q n) l
theorem zNS {θ:TH} {q n:Nat} {l:LL}:zLX θ q n l=uw (θ++jq q n) l:=by
 unfold zLX
 rw [zAk,zAk]
 split
 · rename_i s hs
   exact (zKy hs).symm
 · rfl
def zU0 (v:CV) (k:SE→Bool):Bool:=CV.rec (motive_1:=fun _=>Bool) (motive_2:=fun _=>Unit) (fun _=>false) (fun _=>false) (fun _ _=>false) (fun _=>false) (fun _=>false) false (fun _ _=>false) false (fun _ _ _ _ _ _=>false) false (fun _=>false) (fun _ _ _ _ _=>false) false (fun _ _ _=>false) false (fun _ _=>false) (fun _ _=>false) k (fun _ _ _ _=>false) (fun _ _=>false) (fun _=>false) (fun _ _=>false) (fun _ _ _ _=>false) false () (fun _ _ _ _=>()) v
def zT0 (l:LL) (k:Nat→Bool):Bool:=List.rec (motive:=fun _=>Bool) false (fun p r _=>List.rec (motive:=fun _=>Bool) (Prod.rec (motive:=fun _=>Bool) (fun j a=>jM (z7 a 1) (k j)) p) (fun _ _ _=>false) r) l
def zMn (o:Option (Int × LL)) (e:SE) (v:CV):Bool:=match zBM v with
 | some (k,c,l)=>match o with
  | some s=>kEq e.k k&&z7 (e.c+s.1) c&&vY s.2 l
  | none=>false
 | none=>false
def zPw (m q:Nat) (e:SE) (v:CV) (j:Nat):Bool:=zU0 v fun e'=>jM (kEq e.k e'.k) (jM (z7 e.c e'.c) (zT0 e'.l fun i=>Nat.beq (Nat.add i m) (Nat.add q j)))
theorem zSv {m q j:Nat} (h:m≤j):∀ {l:LL},(zT0 l fun i=>Nat.beq (Nat.add i m) (Nat.add q j))=vY [(q+(j - m),1)] l
 | []=>rfl
 | [(i,a)]=>by
  show jM (z7 a 1) (Nat.beq (Nat.add i m) (Nat.add q j))=(Nat.beq (q+(j - m)) i&&z7 1 a&&true)
  rw [qm,Bool.and_true,Bool.and_comm,Bool.eq_iff_iff,Bool.and_eq_true,Bool.and_eq_true,@ze zR,@ze zR,decide_eq_true_eq,decide_eq_true_eq]
  constructor
  · intro ⟨h1,h2⟩
    have h1:i+m=q+j:=Nat.eq_of_beq_eq_true h1
    refine ⟨?_,h2.symm⟩
    rw [show q+(j - m)=i from by omega]
    exact Nat.beq_refl _
  · intro ⟨h1,h2⟩
    have h1:=Nat.eq_of_beq_eq_true h1
    refine ⟨?_,h2.symm⟩
    rw [show Nat.add i m=Nat.add q j from by show i+m=q+j; omega]
    exact Nat.beq_refl _
 | p::r::t=>by
  show false=(Nat.beq (q+(j - m)) p.1&&z7 1 p.2&&false)
  rw [Bool.and_false]
theorem zPI {m q:Nat} {e:SE} {v:CV} {j:Nat} (h:m≤j):zPw m q e v j=zMn (some (0,[(q+(j - m),1)])) e v:=by
 have hc:∀ c:Int,c+(0:Int)=c:=fun c=>Int.add_zero c
 have key:∀ e':SE,jM (kEq e.k e'.k) (jM (z7 e.c e'.c) (zT0 e'.l fun i=>Nat.beq (Nat.add i m) (Nat.add q j)))=(kEq e.k e'.k&&z7 (e.c+0) e'.c&&vY [(q+(j - m),1)] e'.l):=by
  intro e'
  rw [qm,qm,zSv h,hc,Bool.and_assoc]
 cases v with
 | sym e'=>exact key e'
 | nat n=>
  show false=(kEq e.k .i64&&z7 (e.c+0) (.ofNat n)&&false)
  rw [Bool.and_false]
 | int k c=>
  show false=(kEq e.k k&&z7 (e.c+0) c&&false)
  rw [Bool.and_false]
 | _=>rfl
def zBG (θ:TH) (m mn q n:Nat) (e:SE) (v:CV):Bool:=zPE m mn e.l (zPw m q e v) (zMn (zLX θ q n e.l) e v)
theorem zJZ {θ:TH} {m mn q n:Nat} (hm:m=θ.length) (hn:mn=m+n) (e:SE) (v:CV):zBG θ m mn q n e v=zAh (θ++jq q n) e v:=by
 have hs:∀ o,o=uw (θ++jq q n) e.l→zMn o e v=zAh (θ++jq q n) e v:=fun o ho=>by
  subst ho
  rfl
 unfold zBG
 rcases zM5 (m:=m) (mn:=mn) (y:=zPw m q e v) (z:=zMn (zLX θ q n e.l) e v) (l:=e.l) with h | ⟨j,h1,h2,h3,h⟩
 · rw [h]
   exact hs _ zNS
 · rw [h,zPI h2]
   refine hs _ ?_
   rw [h1,hm]
   exact (zKB (by omega) (by omega)).symm
def fN (n:Nat) (k:Nat→CV):CV:=Nat.rec (motive:=fun _=>(Nat→CV)→CV) (fun k=>k 0) (fun m _ k=>k (Nat.succ m)) n k
theorem zUS {n:Nat} {k:Nat→CV}:fN n k=k n:=by cases n <;> rfl
def sbB (o:Option (Int × LL)) (e:SE):CV:=match o with
 | some s=>mkS e.k (e.c+s.1) s.2
 | none=>.any
def sbP (θ:TH) (m mn q n:Nat) (e:SE):CV:=SE.rec (motive:=fun _=>CV) (fun k c l=>zPE m mn l (fun j=>fN (Nat.add q (Nat.sub j m)) fun i=>.sym ⟨k,c,[(i,.ofNat 1)]⟩) (sbB (zLX θ q n l) ⟨k,c,l⟩)) e
theorem zT4 {ρ:zC} {θ:TH} {m mn q n:Nat} (hm:m=θ.length) (hn:mn=m+n) (e:SE):sbP θ m mn q n e=yD ρ (θ++jq q n) (.sym e):=by
 have hs:∀ o,o=uw (θ++jq q n) e.l→sbB o e=yD ρ (θ++jq q n) (.sym e):=fun o ho=>by
  subst ho
  unfold yD
  rfl
 show zPE m mn e.l (fun j=>fN (Nat.add q (Nat.sub j m)) fun i=>CV.sym ⟨e.k,e.c,[(i,1)]⟩) (sbB (zLX θ q n e.l) e)=_
 rcases zM5 (m:=m) (mn:=mn) (y:=fun j=>fN (Nat.add q (Nat.sub j m)) fun i=>CV.sym ⟨e.k,e.c,[(i,1)]⟩) (z:=sbB (zLX θ q n e.l) e) (l:=e.l) with h | ⟨j,h1,h2,h3,h⟩
 · rw [h]
   exact hs _ zNS
 · rw [h,← hs (some (0,[(q+(j - m),1)])) (by rw [h1,hm]; exact (zKB (by omega) (by omega)).symm)]
   show fN (Nat.add q (Nat.sub j m)) (fun i=>CV.sym ⟨e.k,e.c,[(i,1)]⟩)=CV.sym ⟨e.k,e.c+0,[(q+(j - m),1)]⟩
   rw [zUS,Int.add_zero]
   rfl
def zTO (n:Nat) (kb:List (Int × Int)):Bool:=Nat.rec (motive:=fun _=>List (Int × Int)→Bool) (fun _=>true) (fun _ ih l=>List.rec (motive:=fun _=>Bool) false (fun x r _=>Prod.rec (motive:=fun _=>Bool) (fun a b=>jM (z7 a 0) (jM (z7 b 255) (ih r))) x) l) n kb
def zTp {α:Type} (q:Nat) (l:List α):List α:=Nat.rec (motive:=fun _=>List α→List α) (fun l=>l) (fun _ ih l=>List.rec (motive:=fun _=>List α) [] (fun _ r _=>ih r) l) q l
theorem zHB {α:Type}:∀ {q:Nat} {l:List α} {i:Nat},nth (zTp q l) i=nth l (q+i)
 | 0,l,i=>by rw [Nat.zero_add]; rfl
 | q+1,[],i=>by
  have h:∀ k,nth ([]:List α) k=none:=fun k=>by cases k <;> rfl
  show nth [] i=nth [] (q+1+i)
  rw [h,h]
 | q+1,x::l,i=>by
  rw [show q+1+i=(q+i)+1 from by omega]
  exact zHB (q:=q) (l:=l) (i:=i)
theorem zNa:∀ {n:Nat} {l:List (Int × Int)},zTO n l=true→∀ i,i<n→nth l i=some (0,255)
 | 0,_,_,i,hi=>by omega
 | n+1,[],h,i,hi=>by cases h
 | n+1,(a,b)::l,h,i,hi=>by
  have h:jM (z7 a 0) (jM (z7 b 255) (zTO n l))=true:=h
  simp only [qm,Bool.and_eq_true,@ze zR,decide_eq_true_eq] at h
  obtain ⟨rfl,rfl,h⟩:=h
  cases i with
  | zero=>rfl
  | succ i=>
   show nth l i=some (0,255)
   exact zNa (l:=l) h i (by omega)
def uL (ρ:zC) (si:SE→CV→Bool) (fw:Nat→List (List Nat)→CV→Bool) (l:List CV):List CV→Bool:=
 List.rec (motive:=fun _=>List CV→Bool) (fun _=>true) (fun a _ g m=>List.rec (motive:=fun _=>Bool) false (fun b r _=>jM (zQr ρ si fw a b) (g r)) m) l
def zTr (ρ:zC) (θ:TH) (si:SE→CV→Bool) (fw:Nat→List (List Nat)→CV→Bool) (o o':CObj):Bool:=match o,o' with
 | .cells a,.cells b=>uL ρ si fw a b
 | o,o'=>zBl ρ θ o o'
def zBS (ρ inv:zC) (θ:TH) (si:SE→CV→Bool) (fw:Nat→List (List Nat)→CV→Bool) (h:zC) (lo hi:Nat):List (Key × CObj)→List Key→Bool
 | [],[]=>true
 | p::r,j::js=>jM (k7 ρ p.1 j) <| jM (k7 inv j p.1) <| jM (Nat.ble lo p.1.ix) <| jM (Nat.ble (Nat.succ p.1.ix) hi) <| jM (match zj j h with
  | some o=>zTr ρ θ si fw p.2 o
  | none=>false) (zBS ρ inv θ si fw h lo hi r js)
 | _,_=>false
section
variable {ρ inv:zC} {θ:TH} {si:SE→CV→Bool} {fw:Nat→List (List Nat)→CV→Bool} (hs:∀ e d,si e d=zAh θ e d) (hf:∀ i t d,fw i t d=yG ρ θ (.few i t) d)
include hs hf
theorem uj:∀ {l m:List CV},uL ρ si fw l m=qS ρ θ l m
 | [],m=>by unfold qS; rfl
 | c::l,[]=>by unfold qS; rfl
 | c::l,d::m=>by
  unfold qS
  rw [← zBI hs hf c d,← uj (l:=l) (m:=m),← qm]
  rfl
theorem zPP {o o':CObj}:zTr ρ θ si fw o o'=zBl ρ θ o o':=by
 cases o <;> cases o' <;> first | rfl | exact uj hs hf
theorem zDI {h:zC} {lo hi:Nat}:∀ {l:List (Key × CObj)} {ks:List Key},zBS ρ inv θ si fw h lo hi l ks=qP ρ inv θ h lo hi l ks
 | [],[]=>rfl
 | [],_::_=>rfl
 | _::_,[]=>rfl
 | p::r,j::js=>by
  unfold zBS qP
  rw [zDI (l:=r) (ks:=js)]
  cases zj j h <;> simp only [qm,zPP hs hf,Bool.and_assoc]
end
def zFa:List (Key × CObj)→Bool
 | []=>true
 | p::r=>p.2.isRo&&zFa r
theorem zHD:∀ {l:List (Key × CObj)},zFa l=true→∀ q∈l,q.2.isRo=true
 | [],_,q,h=>by simp at h
 | p::r,h,q,hq=>by
  unfold zFa at h
  rw [Bool.and_eq_true] at h
  rcases List.mem_cons.1 hq with rfl | hq
  · exact h.1
  · exact zHD h.2 q hq
theorem vZ {b:List (Key × CObj)} {k:Key} {o:CObj}:∀ {a:List (Key × CObj)},jp (a++b) k=some o→jp a k=some o∨(k,o)∈b
 | [],h=>by
  rcases qz (show zj k (mkH .nil ([]++b))=some o from h) with ⟨j,hj⟩ | hn
  · exact .inr (List.mem_of_getElem? (by simpa using hj))
  · rw [qh] at hn; cases hn
 | p::a,h=>by
  have h:zj k (ya (some p.2) p.1 (mkH .nil (a++b)))=some o:=h
  show zj k (ya (some p.2) p.1 (mkH .nil a))=some o∨_
  rw [@zCW zR] at h ⊢
  by_cases e:k=p.1
  · rw [if_pos e] at h ⊢
    exact .inl h
  · rw [if_neg e] at h ⊢
    exact vZ (a:=a) h
def zO2:List Key→List (Key × CObj)
 | []=>[]
 | k::r=>(k,.cells [])::zO2 r
def xP (objs:List (Key × CObj)) (ext ks es:List Key):zC:=ju (objs++zO2 ext) (ks++es)
theorem zJW:∀ {l:List Key} {i:Nat} {k:Key} {o:CObj},(zO2 l)[i]? = some (k,o)→l[i]? = some k
 | [],i,k,o,h=>by simp [zO2] at h
 | x::r,0,k,o,h=>by simp [zO2] at h; simp [h.1]
 | x::r,i+1,k,o,h=>by
  have:=zJW (l:=r) (i:=i) (k:=k) (o:=o) (by simpa [zO2] using h)
  simpa using this
theorem zMI {objs:List (Key × CObj)} {ext ks es:List Key} {k b:Key} (hl:objs.length=ks.length) (h:zk (xP objs ext ks es) k=some b) :
 (∃ (i:Nat) (o:CObj),objs[i]? = some (k,o)∧ks[i]? = some b)∨∃ i:Nat,ext[i]? = some k∧es[i]? = some b:=by
 obtain ⟨j,o,h1,h2⟩:=zF3 h
 rcases Nat.lt_or_ge j objs.length with g | g
 · rw [List.getElem?_append_left g] at h1
   rw [List.getElem?_append_left (by omega)] at h2
   exact .inl ⟨j,o,h1,h2⟩
 · rw [List.getElem?_append_right g] at h1
   rw [List.getElem?_append_right (by omega),← hl] at h2
   exact .inr ⟨_,zJW h1,h2⟩
def zOH (ρ:zC) (ψ:Psi):Psi:=fun k=>match zk ρ k with
 | some j=>ψ j
 | none=>none
theorem zCz {ρ:zC} {ψ:Psi} {k j:Key} (h:zk ρ k=some j):zOH ρ ψ k=ψ j:=by
 unfold zOH
 rw [h]
theorem zEf {ρ:zC} {ψ:Psi}:zA0 ρ ψ (zOH ρ ψ):=fun k j p hk hp=>⟨p,by rw [zCz (qv hk)]; exact hp,rfl,rfl,rfl⟩
def zNl (ρ:zC) (θ:TH):List CE→List CE→Bool
 | [],[]=>true
 | a::as,b::bs=>yG ρ θ a.key b.key&&yG ρ θ a.val b.val&&Nat.beq a.born b.born&&zNl ρ θ as bs
 | _,_=>false
def zEP (ρ:zC) (θ:TH):CObj→CObj→Bool
 | .cells a,.cells b=>uW ρ θ a b
 | .cells a,.full _ b=>uW ρ θ a b
 | .map es c,.map es' c'=>Nat.beq c c'&&zNl ρ θ es es'
 | _,_=>false
section
variable {σs σT:Nat→Int} {Ks KT:zc} {θ:TH} {ρ:zC} {ψs ψT:Psi}
theorem zJE (hθ:jy σs σT θ) (hψ:zA0 ρ ψs ψT) {ck:Nat→Nat}:∀ {as bs:List CE} {l:List MapEntry},zNl ρ θ as bs=true→@yL (linSym σs Ks) ψs ck bs l→@yL (linSym σT KT) ψT ck as l
 | [],[],l,_,hl=>hl
 | [],_::_,_,h,_=>by cases h
 | _::_,[],_,h,_=>by cases h
 | a::as,b::bs,l,h,hl=>by
  unfold zNl at h
  simp only [Bool.and_eq_true] at h
  obtain ⟨⟨⟨c1,c2⟩,c3⟩,c4⟩:=h
  have c3:=@z8 zR _ _ c3
  obtain ⟨e,r,rfl,⟨h1,h2,h3⟩,h4⟩:=hl
  exact ⟨e,r,rfl,⟨qO hθ hψ _ _ c1 h1,qO hθ hψ _ _ c2 h2,by rw [h3,c3]⟩,zJE hθ hψ c4 h4⟩
theorem zFv (hθ:jy σs σT θ) (hψ:zA0 ρ ψs ψT) {o o':CObj} (h:zEP ρ θ o o'=true) {w:World} {p:Pl} (ho:@xH (linSym σs Ks) ψs w p o'):@xH (linSym σT KT) ψT w p o∧o.isRo=false∧o'.isRo=false:=by
 unfold zEP at h
 split at h
 · rw [jQ] at h
   exact ⟨wF hθ hψ h rfl rfl rfl ho,rfl,rfl⟩
 · rw [jQ] at h
   exact ⟨wF hθ hψ h rfl rfl rfl (@jP.toCells (linSym σs Ks) _ _ _ _ _ ho),rfl,rfl⟩
 · rename_i es c es' c'
   rw [Bool.and_eq_true] at h
   have hc:=@z8 zR _ _ h.1
   subst hc
   obtain ⟨arr,g1,⟨l0,gp,g2⟩,g3⟩:=ho
   exact ⟨⟨arr,g1,⟨l0,gp,zJE hθ hψ h.2 g2⟩,g3⟩,rfl,rfl⟩
 · cases h
end
def wc (ρ inv:zC) (θ:TH) (h:zC) (lo hi:Nat):List (Key × CObj)→List Key→Bool
 | [],[]=>true
 | p::r,j::js=>k7 ρ p.1 j&&k7 inv j p.1&&Nat.ble lo p.1.ix&&Nat.ble (Nat.succ p.1.ix) hi&&(match zj j h with
  | some o=>zEP ρ θ p.2 o
  | none=>false)&&wc ρ inv θ h lo hi r js
 | _,_=>false
def zQQ (ρ:zC) (θ:TH) (si:SE→CV→Bool) (fw:Nat→List (List Nat)→CV→Bool):CObj→CObj→Bool
 | .cells a,.cells b=>uL ρ si fw a b
 | .cells a,.full _ b=>uL ρ si fw a b
 | o,o'=>zEP ρ θ o o'
def zAS (ρ inv:zC) (θ:TH) (si:SE→CV→Bool) (fw:Nat→List (List Nat)→CV→Bool) (h:zC) (lo hi:Nat):List (Key × CObj)→List Key→Bool
 | [],[]=>true
 | p::r,j::js=>k7 ρ p.1 j&&k7 inv j p.1&&Nat.ble lo p.1.ix&&Nat.ble (Nat.succ p.1.ix) hi&&(match zj j h with
  | some o=>zQQ ρ θ si fw p.2 o
  | none=>false)&&zAS ρ inv θ si fw h lo hi r js
 | _,_=>false
theorem zOT {ρ:zC} {θ:TH} {si:SE→CV→Bool} {fw:Nat→List (List Nat)→CV→Bool} (hs:∀ e d,si e d=zAh θ e d) (hf:∀ i t d,fw i t d=yG ρ θ (.few i t) d) {o o':CObj}:zQQ ρ θ si fw o o'=zEP ρ θ o o':=by
 have h:∀ a b,uL ρ si fw a b=uW ρ θ a b:=fun a b=>by rw [uj hs hf,jQ]
 cases o <;> cases o' <;> first | rfl | exact h _ _
theorem zCn {ρ inv:zC} {θ:TH} {si:SE→CV→Bool} {fw:Nat→List (List Nat)→CV→Bool} (hs:∀ e d,si e d=zAh θ e d) (hf:∀ i t d,fw i t d=yG ρ θ (.few i t) d) {h:zC} {lo hi:Nat}:∀ {l:List (Key × CObj)} {ks:List Key},zAS ρ inv θ si fw h lo hi l ks=wc ρ inv θ h lo hi l ks
 | [],[]=>rfl
 | [],_::_=>rfl
 | _::_,[]=>rfl
 | p::r,j::js=>by
  unfold zAS wc
  rw [zCn hs hf (l:=r) (ks:=js)]
  cases zj j h <;> simp only [zOT hs hf]
theorem zAj {ρ inv:zC} {θ:TH} {h:zC} {lo hi:Nat}:∀ {objs:List (Key × CObj)} {ks:List Key},wc ρ inv θ h lo hi objs ks=true→objs.length=ks.length∧∀ (j:Nat) (k:Key) (o:CObj),objs[j]? = some (k,o) →
 ∃ i o',ks[j]? = some i∧zk ρ k=some i∧zk inv i=some k∧lo≤k.ix∧k.ix<hi∧zj i h=some o'∧zEP ρ θ o o'=true
 | [],[],_=>⟨rfl,fun j k o hj=>by simp at hj⟩
 | [],_::_,hc=>by cases hc
 | _::_,[],hc=>by cases hc
 | p::r,i::is,hc=>by
  unfold wc at hc
  simp only [Bool.and_eq_true] at hc
  obtain ⟨⟨⟨⟨⟨c1,c2⟩,c3⟩,c4⟩,c5⟩,c6⟩:=hc
  obtain ⟨hl,hr⟩:=zAj c6
  refine ⟨by simp [hl],fun j k o hj=>?_⟩
  cases j with
  | zero=>
   simp at hj
   subst hj
   split at c5
   · rename_i o' ho
     exact ⟨i,o',rfl,qv c1,qv c2,@zL zR _ _ c3,@zL zR _ _ c4,ho,c5⟩
   · cases c5
  | succ j=>
   obtain ⟨i',o',h1,h2⟩:=hr j k o (by simpa using hj)
   exact ⟨i',o',by simpa using h1,h2⟩
theorem zMf {σs σT:Nat→Int} {Ks KT:zc} {θ:TH} {ρ inv:zC} {objs:List (Key × CObj)} {ks:List Key} {h:zC} {lo hi:Nat} {ψ:Psi} {w:World} (hθ:jy σs σT θ) (hR:@Rel (linSym σs Ks) ψ (zC.fam h) w)
 (hc:wc ρ inv θ h lo hi objs ks=true) :
 @Rel (linSym σT KT) (zOH ρ ψ) (jp objs) w ∧
 (∀ k o p,jp objs k=some o→zOH ρ ψ k=some p→o.isRo=false∧∃ k0 o0,zC.fam h k0=some o0∧o0.isRo=false∧ψ k0=some p):=by
 have hTot:∀ k o,zC.fam h k=some o→∃ p,ψ k=some p:=@Rel.tot (linSym σs Ks) _ _ _ hR
 have hOn:∀ k o p,zC.fam h k=some o→ψ k=some p→@xH (linSym σs Ks) ψ w p o:=@Rel.on (linSym σs Ks) _ _ _ hR
 have hInj:=@Rel.inj (linSym σs Ks) _ _ _ hR
 have hobj:=(zAj hc).2
 have hfam:∀ k o p,jp objs k=some o→zOH ρ ψ k=some p→∃ b o',zk ρ k=some b∧zk inv b=some k∧zC.fam h b=some o'∧ψ b=some p∧zEP ρ θ o o'=true:=by
  intro k o p hk hp
  rcases qz hk with ⟨j,hj⟩ | hn
  · obtain ⟨b,o',g1,g2,g3,g4,g5,g6,g7⟩:=hobj j k o hj
    rw [zCz g2] at hp
    exact ⟨b,o',g2,g3,g6,hp,g7⟩
  · rw [qh] at hn; cases hn
 refine ⟨?_,?_⟩
 · refine @Rel.mk (linSym σT KT) _ _ _ ?_ ?_ ?_
   · intro k o p hk hp
     obtain ⟨b,o',g1,g2,g3,g4,g5⟩:=hfam k o p hk hp
     exact (zFv hθ zEf g5 (hOn b o' p g3 g4)).1
   · intro k o hk
     rcases qz hk with ⟨j,hj⟩ | hn
     · obtain ⟨b,o',g1,g2,g3,g4,g5,g6,g7⟩:=hobj j k o hj
       obtain ⟨p0,hp0⟩:=hTot b o' g6
       exact ⟨p0,by rw [zCz g2]; exact hp0⟩
     · rw [qh] at hn; cases hn
   · intro k₁ k₂ o₁ o₂ p₁ p₂ h1 h2 h3 h4 hr e
     obtain ⟨b1,o1',g1,g2,g3,g4,g5⟩:=hfam _ _ _ h1 h3
     obtain ⟨b2,o2',f1,f2,f3,f4,f5⟩:=hfam _ _ _ h2 h4
     have:=hInj b1 b2 _ _ _ _ g3 f3 g4 f4 (.inl (zFv (KT:=KT) (σT:=σT) hθ zEf g5 (hOn b1 o1' _ g3 g4)).2.2) e
     subst this
     rw [g2] at f2
     injection f2
 · intro k o p hk hp
   obtain ⟨b,o',g1,g2,g3,g4,g5⟩:=hfam k o p hk hp
   have hro:=(zFv (KT:=KT) (σT:=σT) hθ zEf g5 (hOn b o' p g3 g4)).2
   exact ⟨hro.1,b,o',g3,hro.2,g4⟩
structure zOy (S:Sym) (ψ:Psi) (s:Fs) (w:World) (po:Po) (v:Value) (ψ':Psi) (w':World):Prop where
 ext:∀ k∈s.ext,k.ix<s.n.ix→ψ' k=ψ k
 pin:∀ (i:Nat) k o,po.objs[i]? = some (k,o)→k.ix<s.mid→∀ p,ψ k=some p→ψ' k=some p
 rel:@Rel S ψ' (jp po.objs) w'
 val:@zH S ψ' po.v v
 own:∀ k o p,jp po.objs k=some o→ψ' k=some p→o.isRo=false∧zEc ψ s.objs w p.blk
 lft:Lft (zEc ψ s.objs w) w w'
def zGr (P:Program) (f:FuncId) (s:Fs):Prop:=∀ (σ:Nat→Int),yH σ 0 s.bA→∀ (ψ:Psi) (w:World) (args':Array Value),
 (∀ σ' K',(∀ j,j<s.bA.length→σ' j=σ j)→K'.arg=noA→@zX (linSym σ' K') ψ s.args args'.toList∧@Rel (linSym σ' K') ψ (jp (s.objs++s.ros)) w)→kK P ψ→xe ψ s.n →
 yf P f args' w fun v w'=>∃ po∈s.posts,∃ ψ',zOy (linSym σ kno) ψ s w po v ψ' w'
def zSg (k j:Key) (a:HA):HA:=match Nat.ble 32768 k.ix with
 | true=>⟨a.f,a.b,a.c,(k.ix,.ofNat j.ix,[])::a.th⟩
 | false=>match Nat.beq k.ix a.c with
  | true=>⟨a.f,j::a.b,Nat.succ a.c,a.th⟩
  | false=>a
def zUH (pm:Nat) (e:SE) (v:CV) (a:HA):HA:=List.rec (motive:=fun _=>HA) a (fun p r _=>List.rec (motive:=fun _=>HA) (Prod.rec (motive:=fun _=>HA) (fun j _=>Bool.rec (motive:=fun _=>HA) (zUx e v a) a (Nat.ble (Nat.succ pm) j)) p) (fun _ _ _=>a) r) e.l
def gV (pm:Nat) (c:CV):CV→HA→HA:=CV.rec (motive_1:=fun _=>CV→HA→HA) (motive_2:=fun _=>List CV→HA→HA)
 (fun x0 d a=>a)
 (fun x0 d a=>a)
 (fun x0 x1 d a=>a)
 (fun x0 d a=>a)
 (fun x0 d a=>a)
 (fun d a=>a)
 (fun x0 x1 d a=>(CV.rec (motive_1:=fun _=>HA→HA) (motive_2:=fun _=>Unit) (fun _=>(fun a=>a)) (fun _=>(fun a=>a)) (fun _ _=>(fun a=>a)) (fun _=>(fun a=>a)) (fun _=>(fun a=>a)) (fun a=>a) (fun y0 y1=>(fun a=>zSg x0 y0 a)) (fun a=>a) (fun _ _ _ _ _ _=>(fun a=>a)) (fun a=>a) (fun _=>(fun a=>a)) (fun _ _ _ _ _=>(fun a=>a)) (fun a=>a) (fun _ _ _=>(fun a=>a)) (fun a=>a) (fun _ _=>(fun a=>a)) (fun _ _=>(fun a=>a)) (fun _=>(fun a=>a)) (fun _ _ _ _=>(fun a=>a)) (fun _ _=>(fun a=>a)) (fun _=>(fun a=>a)) (fun _ _=>(fun a=>a)) (fun _ _ _ _=>(fun a=>a)) (fun a=>a) () (fun _ _ _ _=>()) d) a)
 (fun d a=>a)
 (fun x0 x1 x2 x3 x4 x5 d a=>(CV.rec (motive_1:=fun _=>HA→HA) (motive_2:=fun _=>Unit) (fun _=>(fun a=>a)) (fun _=>(fun a=>a)) (fun _ _=>(fun a=>a)) (fun _=>(fun a=>a)) (fun _=>(fun a=>a)) (fun a=>a) (fun _ _=>(fun a=>a)) (fun a=>a) (fun y0 y1 y2 y3 y4 y5=>(fun a=>zSg x0 y0 a)) (fun a=>a) (fun _=>(fun a=>a)) (fun _ _ _ _ _=>(fun a=>a)) (fun a=>a) (fun _ _ _=>(fun a=>a)) (fun a=>a) (fun _ _=>(fun a=>a)) (fun _ _=>(fun a=>a)) (fun _=>(fun a=>a)) (fun _ _ _ _=>(fun a=>a)) (fun _ _=>(fun a=>a)) (fun _=>(fun a=>a)) (fun _ _=>(fun a=>a)) (fun _ _ _ _=>(fun a=>a)) (fun a=>a) () (fun _ _ _ _=>()) d) a)
 (fun d a=>a)
 (fun x0 d a=>(CV.rec (motive_1:=fun _=>HA→HA) (motive_2:=fun _=>Unit) (fun _=>(fun a=>a)) (fun _=>(fun a=>a)) (fun _ _=>(fun a=>a)) (fun _=>(fun a=>a)) (fun _=>(fun a=>a)) (fun a=>a) (fun _ _=>(fun a=>a)) (fun a=>a) (fun _ _ _ _ _ _=>(fun a=>a)) (fun a=>a) (fun y0=>(fun a=>zSg x0 y0 a)) (fun _ _ _ _ _=>(fun a=>a)) (fun a=>a) (fun _ _ _=>(fun a=>a)) (fun a=>a) (fun _ _=>(fun a=>a)) (fun _ _=>(fun a=>a)) (fun _=>(fun a=>a)) (fun _ _ _ _=>(fun a=>a)) (fun _ _=>(fun a=>a)) (fun _=>(fun a=>a)) (fun _ _=>(fun a=>a)) (fun _ _ _ _=>(fun a=>a)) (fun a=>a) () (fun _ _ _ _=>()) d) a)
 (fun x0 x1 x2 ha hc d a=>(CV.rec (motive_1:=fun _=>HA→HA) (motive_2:=fun _=>Unit) (fun _=>(fun a=>a)) (fun _=>(fun a=>a)) (fun _ _=>(fun a=>a)) (fun _=>(fun a=>a)) (fun _=>(fun a=>a)) (fun a=>a) (fun _ _=>(fun a=>a)) (fun a=>a) (fun _ _ _ _ _ _=>(fun a=>a)) (fun a=>a) (fun _=>(fun a=>a)) (fun y0 y1 y2 _ _=>(fun a=>hc y2 (ha y1 a))) (fun a=>a) (fun _ _ _=>(fun a=>a)) (fun a=>a) (fun _ _=>(fun a=>a)) (fun _ _=>(fun a=>a)) (fun _=>(fun a=>a)) (fun _ _ _ _=>(fun a=>a)) (fun _ _=>(fun a=>a)) (fun _=>(fun a=>a)) (fun _ _=>(fun a=>a)) (fun _ _ _ _=>(fun a=>a)) (fun a=>a) () (fun _ _ _ _=>()) d) a)
 (fun d a=>a)
 (fun x0 x1 hv d a=>(CV.rec (motive_1:=fun _=>HA→HA) (motive_2:=fun _=>Unit) (fun _=>(fun a=>a)) (fun _=>(fun a=>a)) (fun _ _=>(fun a=>a)) (fun _=>(fun a=>a)) (fun _=>(fun a=>a)) (fun a=>a) (fun _ _=>(fun a=>a)) (fun a=>a) (fun _ _ _ _ _ _=>(fun a=>a)) (fun a=>a) (fun _=>(fun a=>a)) (fun _ _ _ _ _=>(fun a=>a)) (fun a=>a) (fun y0 y1 _=>(fun a=>hv y1 a)) (fun a=>a) (fun _ _=>(fun a=>a)) (fun _ _=>(fun a=>a)) (fun _=>(fun a=>a)) (fun _ _ _ _=>(fun a=>a)) (fun _ _=>(fun a=>a)) (fun _=>(fun a=>a)) (fun _ _=>(fun a=>a)) (fun _ _ _ _=>(fun a=>a)) (fun a=>a) () (fun _ _ _ _=>()) d) a)
 (fun d a=>a)
 (fun x0 hl d a=>(CV.rec (motive_1:=fun _=>HA→HA) (motive_2:=fun _=>Unit) (fun _=>(fun a=>a)) (fun _=>(fun a=>a)) (fun _ _=>(fun a=>a)) (fun _=>(fun a=>a)) (fun _=>(fun a=>a)) (fun a=>a) (fun _ _=>(fun a=>a)) (fun a=>a) (fun _ _ _ _ _ _=>(fun a=>a)) (fun a=>a) (fun _=>(fun a=>a)) (fun _ _ _ _ _=>(fun a=>a)) (fun a=>a) (fun _ _ _=>(fun a=>a)) (fun a=>a) (fun y0 _=>(fun a=>hl y0 a)) (fun _ _=>(fun a=>a)) (fun _=>(fun a=>a)) (fun _ _ _ _=>(fun a=>a)) (fun _ _=>(fun a=>a)) (fun _=>(fun a=>a)) (fun _ _=>(fun a=>a)) (fun _ _ _ _=>(fun a=>a)) (fun a=>a) () (fun _ _ _ _=>()) d) a)
 (fun x0 hl d a=>(CV.rec (motive_1:=fun _=>HA→HA) (motive_2:=fun _=>Unit) (fun _=>(fun a=>a)) (fun _=>(fun a=>a)) (fun _ _=>(fun a=>a)) (fun _=>(fun a=>a)) (fun _=>(fun a=>a)) (fun a=>a) (fun _ _=>(fun a=>a)) (fun a=>a) (fun _ _ _ _ _ _=>(fun a=>a)) (fun a=>a) (fun _=>(fun a=>a)) (fun _ _ _ _ _=>(fun a=>a)) (fun a=>a) (fun _ _ _=>(fun a=>a)) (fun a=>a) (fun _ _=>(fun a=>a)) (fun y0 _=>(fun a=>hl y0 a)) (fun _=>(fun a=>a)) (fun _ _ _ _=>(fun a=>a)) (fun _ _=>(fun a=>a)) (fun _=>(fun a=>a)) (fun _ _=>(fun a=>a)) (fun _ _ _ _=>(fun a=>a)) (fun a=>a) () (fun _ _ _ _=>()) d) a)
 (fun x0 d a=>zUH pm x0 d a)
 (fun x0 x1 x2 x3 d a=>a)
 (fun x0 hl d a=>(CV.rec (motive_1:=fun _=>HA→HA) (motive_2:=fun _=>Unit) (fun _=>(fun a=>a)) (fun _=>(fun a=>a)) (fun _ _=>(fun a=>a)) (fun _=>(fun a=>a)) (fun y0=>(fun a=>hl (x8 y0) a)) (fun a=>a) (fun _ _=>(fun a=>a)) (fun a=>a) (fun _ _ _ _ _ _=>(fun a=>a)) (fun a=>a) (fun _=>(fun a=>a)) (fun _ _ _ _ _=>(fun a=>a)) (fun a=>a) (fun _ _ _=>(fun a=>a)) (fun a=>a) (fun _ _=>(fun a=>a)) (fun _ _=>(fun a=>a)) (fun _=>(fun a=>a)) (fun _ _ _ _=>(fun a=>a)) (fun y0 _=>(fun a=>hl y0 a)) (fun _=>(fun a=>a)) (fun _ _=>(fun a=>a)) (fun _ _ _ _=>(fun a=>a)) (fun a=>a) () (fun _ _ _ _=>()) d) a)
 (fun x0 d a=>a)
 (fun x0 x1 d a=>zUk x0 x1 d a)
 (fun x0 x1 x2 x3 d a=>a)
 (fun d a=>a)
 (fun _ a=>a)
 (fun _ _ h g m a=>List.rec (motive:=fun _=>HA) a (fun b r _=>g r (h b a)) m) c
def gVs (pm:Nat) (l m:List CV) (a:HA):HA:=gV pm (.agg l) (.agg m) a
def gEs (pm:Nat):List CE→List CE→HA→HA
 | x::xs,y::ys,a=>gEs pm xs ys (gV pm x.val y.val (gV pm x.key y.key a))
 | _,_,a=>a
def gZ (pm:Nat):List (CV × CV)→List (CV × CV)→HA→HA
 | x::xs,y::ys,a=>gZ pm xs ys (gV pm x.2 y.2 a)
 | x::xs,[],a=>gZ pm xs [] (gV pm x.2 (.str []) a)
 | _,_,a=>a
def gO (pm:Nat):CObj→CObj→HA→HA
 | .cells x,.cells y,a=>gVs pm x y a
 | .cells x,.full _ y,a=>gVs pm x y a
 | .map x _,.map y _,a=>gEs pm x (vL y) a
 | .mapz x,.mapz y,a=>gZ pm x y a
 | .mapz x,.map _ _,a=>gZ pm x [] a
 | .seen x,.seen y,a=>zSg x y a
 | _,_,a=>a
def gOR (pm:Nat) (o o':CObj) (a:HA):HA:=match o,o' with
 | .map x _,.map y _=>gEs pm x y a
 | o,o'=>gO pm o o' a
def zTh (pm:Nat) (h:zC):List (Key × CObj)→HA→List Key→List Key × HA
 | [],a,ks=>(ks.reverse,a)
 | p::r,a,ks=>match zSo a with
  | none=>(ks.reverse,a)
  | some (j,a)=>match zj j h with
   | some o=>zTh pm h r (gOR pm p.2 o a) (j::ks)
   | none=>(ks.reverse,a)
def zUo (th:List (Nat × Int × LL)):List Key→List Key
 | []=>[]
 | k::r=>(match (zJd k.ix th).1 with
  | .ofNat m=>Key.ofNat m
  | .negSucc _=>k)::zUo th r
def zU2 (v:Int × LL):Key:=match v.1 with
 | .ofNat m=>Key.ofNat m
 | .negSucc _=>Key.ofNat 0
def zVm (th:List (Nat × Int × LL)) (n:Nat) (acc:List Key):Option (List Key):=List.rec (motive:=fun _=>Nat→List Key→Option (List Key)) (fun n acc=>Bool.rec (motive:=fun _=>Option (List Key)) none (some acc) (Nat.beq n 0))
 (fun q _ ih n acc=>Prod.rec (motive:=fun _=>Option (List Key)) (fun i v=>Bool.rec (motive:=fun _=>Option (List Key)) (ih n acc) (ih (Nat.sub n 1) (zU2 v::acc)) (Nat.beq i (Nat.add 32767 n))) q) th n acc
def zUF (th:List (Nat × Int × LL)) (ext:List Key):List Key:=match zVm th ext.length [] with
 | some l=>l
 | none=>zUo th ext
def zTJ (mid:Nat):List (Key × CObj)→List Key
 | []=>[]
 | p::r=>match Nat.ble mid p.1.ix with
  | true=>zTJ mid r
  | false=>p.1::zTJ mid r
def zRK (mid:Nat):List (Key × CObj)→List Key→Bool
 | [],[]=>true
 | p::r,j::js=>(match Nat.ble mid p.1.ix with
  | true=>true
  | false=>Nat.beq p.1.ix j.ix)&&zRK mid r js
 | _,_=>false
theorem zNu {mid:Nat}:∀ {l:List (Key × CObj)} {ks:List Key},zRK mid l ks=true→∀ (i:Nat) k o j,l[i]? = some (k,o)→ks[i]? = some j→k.ix<mid→j=k
 | [],_,_,i,k,o,j,h1,_,_=>by simp at h1
 | _::_,[],h,_,_,_,_,_,_,_=>by cases h
 | p::r,x::js,h,i,k,o,j,h1,h2,hk=>by
  unfold zRK at h
  rw [Bool.and_eq_true] at h
  cases i with
  | zero=>
   simp at h1 h2
   subst h1 h2
   have h3:=h.1
   split at h3
   · rename_i hb
     have:=@zL zR _ _ hb
     simp only at this hk
     omega
   · exact (@Key.ix_inj zR _ _ (Nat.eq_of_beq_eq_true h3)).symm
  | succ i=>exact zNu h.2 i k o j (by simpa using h1) (by simpa using h2) hk
theorem zMy {t:List (Int × Int)}:∀ {r:List (Int × Int)} {j:Nat},thK (r++t) j=thK r j++thK t (j+r.length)
 | [],j=>rfl
 | x::r,j=>by
  show (0,[(j,1)])::thK (r++t) (j+1)=(0,[(j,1)])::(thK r (j+1)++thK t (j+(r.length+1)))
  rw [zMy,show j+1+r.length=j+(r.length+1) from by omega]
theorem zRw:∀ {n j:Nat},thK (zIK n) j=jq j n
 | 0,_=>rfl
 | n+1,j=>by
  show (0,[(j,1)])::thK (zIK n) (j+1)=(0,[(j,1)])::jq (j+1) n
  rw [zRw]
theorem zRZ:∀ {b:List (Int × Int)},(thS b).length=b.length:=by
 have key:∀ {r:List (Int × Int)} {j:Nat},(thK r j).length=r.length:=by
  intro r
  induction r with
  | nil=>intro j; rfl
  | cons x r ih=>intro j; show (thK r (j+1)).length+1=_; rw [ih]; rfl
 intro b
 cases b with
 | nil=>rfl
 | cons x r=>show (thK r 1).length+1=_; rw [key]; rfl
def zQt (s:Fs):Bool:=match s.b with
 | []=>Nat.beq s.pn 0
 | _=>true
theorem zTX {s:Fs} (h:zQt s=true):thS s.bA=thS s.b++jq s.b.length s.pn:=by
 unfold Fs.bA
 cases hb:s.b with
 | nil=>
  unfold zQt at h
  rw [hb] at h
  have e:s.pn=0:=Nat.eq_of_beq_eq_true h
  rw [e]
  rfl
 | cons x r=>
  show (0,[])::thK (r++zIK s.pn) 1=(0,[])::(thK r 1++jq (r.length+1) s.pn)
  rw [zMy,zRw,Nat.add_comm 1]
def fNB (n:Nat) (k:Nat→Bool):Bool:=Nat.rec (motive:=fun _=>(Nat→Bool)→Bool) (fun k=>k 0) (fun m _ k=>k (Nat.succ m)) n k
theorem zQa {n:Nat} {k:Nat→Bool}:fNB n k=k n:=by cases n <;> rfl
def zLw (G:Nat) (s:Fs) (m mn:Nat) (po:Po) (v:CV) (h:zC) (n:Key) (ks:List Key):Bool:=
 zQt s&&zAS (xP po.objs s.ext ks s.ext) (jc po.objs ks) (thS s.bA) (zBG (thS s.b) m mn m s.pn) (fun i t d=>yG (xP po.objs s.ext ks s.ext) (thS s.bA) (.few i t) d) h G 65535 po.objs ks&&zQr (xP po.objs s.ext ks s.ext) (zBG (thS s.b) m mn m s.pn) (fun i t d=>yG (xP po.objs s.ext ks s.ext) (thS s.bA) (.few i t) d) po.v v&&zRK s.mid po.objs ks&&zE3 (xP po.objs s.ext ks s.ext) s.ext&&Nat.ble (Nat.succ n.ix) 65535
def zET (G:Nat) (s:Fs) (po:Po) (v:CV) (h:zC) (n:Key) (ks:List Key):Bool:=
 wc (xP po.objs s.ext ks s.ext) (jc po.objs ks) (thS s.bA) h G 65535 po.objs ks&&yG (xP po.objs s.ext ks s.ext) (thS s.bA) po.v v&&zRK s.mid po.objs ks&&zE3 (xP po.objs s.ext ks s.ext) s.ext&&Nat.ble (Nat.succ n.ix) 65535
theorem zOB {G:Nat} {s:Fs} {m mn:Nat} {po:Po} {v:CV} {h:zC} {n:Key} {ks:List Key} (hm:m=s.b.length) (hn:mn=m+s.pn) (hc:zLw G s m mn po v h n ks=true):zET G s po v h n ks=true:=by
 unfold zLw at hc
 simp only [Bool.and_eq_true] at hc
 obtain ⟨⟨⟨⟨⟨c0,c1⟩,c2⟩,c3⟩,c4⟩,c5⟩:=hc
 have hs:∀ e d,zBG (thS s.b) m mn m s.pn e d=zAh (thS s.bA) e d:=fun e d=>by
  rw [zJZ (by rw [zRZ]; exact hm) hn,zTX c0,hm]
 rw [zCn hs (fun _ _ _=>rfl)] at c1
 rw [zBI hs (fun _ _ _=>rfl)] at c2
 unfold zET
 simp only [Bool.and_eq_true]
 exact ⟨⟨⟨⟨c1,c2⟩,c3⟩,c4⟩,c5⟩
def zK7 (s:Fs) (po:Po) (v:CV) (h:zC) (k:List Key→Bool):Bool:=fNB (List.length s.b) fun m=>match zTh m h po.objs (gV m po.v v ⟨zTJ s.mid po.objs,[],s.mid,[]⟩) [] with
 | (ks,_)=>zC0 ks k
theorem zI8 {s:Fs} {po:Po} {v:CV} {h:zC} {k:List Key→Bool} (hh:zK7 s po v h k=true):∃ x,k x=true:=by
 unfold zK7 at hh
 rw [zQa] at hh
 split at hh
 rw [vx] at hh
 exact ⟨_,hh⟩
def zJM (G:Nat) (s:Fs) (v:CV) (h:zC) (n:Key):List Po→Bool
 | []=>false
 | po::r=>match zK7 s po v h (fun ks=>fNB (List.length s.b) fun m=>fNB (Nat.add m s.pn) fun mn=>zLw G s m mn po v h n ks) with
  | true=>true
  | false=>zJM G s v h n r
theorem zEZ {G:Nat} {s:Fs} {v:CV} {h:zC} {n:Key}:∀ {l:List Po},zJM G s v h n l=true→∃ po∈l,∃ ks,zET G s po v h n ks=true
 | [],hh=>by cases hh
 | po::r,hh=>by
  unfold zJM at hh
  split at hh
  · rename_i h1
    obtain ⟨ks,hk⟩:=zI8 h1
    simp only [zQa] at hk
    exact ⟨po,by simp,ks,zOB rfl rfl hk⟩
  · obtain ⟨po',h1,h2⟩:=zEZ hh
    exact ⟨po',by simp [h1],h2⟩
def qf (G:Nat) (s:Fs):R→Bool
 | .ret v h n=>zJM G s v h n s.posts
 | .fork a b=>qf G s a&&qf G s b
 | _=>false
theorem wQ {G:Nat} {s:Fs}:∀ {r:R},qf G s r=true→zb r
 | .ok ..,h=>by cases h
 | .ret v hh n,h=>by
  obtain ⟨po,_,ks,hk⟩:=zEZ (show zJM G s v hh n s.posts=true from h)
  unfold zET at hk
  rw [Bool.and_eq_true] at hk
  exact @zL zR _ _ hk.2
 | .err _,h=>by cases h
 | .fork a b,h=>by
  have h:(qf G s a&&qf G s b)=true:=h
  rw [Bool.and_eq_true] at h
  exact ⟨wQ h.1,wQ h.2⟩
theorem v7 {S:Sym} {G:Nat} {s:Fs} {ψ₀:Psi} {g₀:Fam} {n₀:Key} {w₀:World} {v:Value} {w:World}:∀ {r:R},qf G s r=true→@zl S ψ₀ g₀ n₀ w₀ r v w →
 ∃ (cv:CV) (h:zC) (n:Key) (ψ:Psi),@zy S ψ₀ g₀ n₀ w₀ ψ (zC.fam h) n w∧@zH S ψ cv v∧∃ po∈s.posts,∃ ks,zET G s po cv h n ks=true
 | .ok ..,h,_=>by cases h
 | .ret cv hh n,h,⟨ψ,h1,h2⟩=>⟨cv,hh,n,ψ,h1,h2,zEZ h⟩
 | .err _,h,_=>by cases h
 | .fork a b,h,ho=>by
  have h:(qf G s a&&qf G s b)=true:=h
  rw [Bool.and_eq_true] at h
  rcases ho with ho | ho
  · exact v7 h.1 ho
  · exact v7 h.2 ho
theorem zUN {σ σ0:Nat→Int} {K K0:zc} {G:Nat} {s:Fs} {po:Po} {ψ ψ':Psi} {n':Key} {w w':World} {v:Value} {cv:CV} {h:zC} {ks:List Key}
 (h0:∀ x r,s.bA=x::r→σ0 0=0) (hk:∀ j,1≤j→j<s.bA.length→σ j=σ0 j)
 (hro:zFa s.ros=true) (hp:@zy (linSym σ K) ψ (jp (s.objs++s.ros)) s.n w ψ' (zC.fam h) n' w') (hv:@zH (linSym σ K) ψ' cv v) (hc:zET G s po cv h n' ks=true):∃ ψT,zOy (linSym σ0 K0) ψ s w po v ψT w':=by
 unfold zET at hc
 simp only [Bool.and_eq_true] at hc
 obtain ⟨⟨⟨⟨c1,c2⟩,c3⟩,c4⟩,_⟩:=hc
 have hθ:=zTA h0 hk
 obtain ⟨hlen,hobj⟩:=zAj c1
 obtain ⟨r1,r2⟩:=zMf (KT:=K0) hθ (@zy.rel (linSym σ K) _ _ _ _ _ _ _ _ hp) c1
 have hm:∀ k o p,jp (s.objs++s.ros) k=some o→o.isRo=false→ψ k=some p→zEc ψ s.objs w p.blk:=fun k o p g1 g2 g3=>by
  rcases vZ g1 with g1 | g1
  · exact .inl ⟨k,o,p,g1,g3,rfl⟩
  · have:=zHD hro _ g1
    simp only at this
    rw [this] at g2; cases g2
 refine ⟨_,⟨fun k hk hlt=>?_,fun i k o hi hmid p hp0=>?_,r1,qO hθ zEf po.v cv c2 hv,fun k o p q1 q2=>?_,zQX (Lft.refl _ _) hp zJT hm⟩⟩
 · rw [zCz (qv (zGG c4 k hk))]
   exact @zy.out (linSym σ K) _ _ _ _ _ _ _ _ hp k (.inl hlt)
 · obtain ⟨j,o',g1,g2,_⟩:=hobj i k o hi
   obtain rfl:=zNu c3 i k o j hi g1 hmid
   rw [zCz g2]
   exact @zy.ext (linSym σ K) _ _ _ _ _ _ _ _ hp _ p hp0
 · obtain ⟨f1,k0,o0,f2,f3,f4⟩:=r2 k o p q1 q2
   exact ⟨f1,zRF (Lft.refl _ _) hp zJT hm k0 o0 p f2 f3 f4⟩
section
variable {code:FuncId→CFn} {nat:Nats} {fuel:Nat} {f:FuncId} {G:Nat} {s:Fs}
theorem zRm {tree:LTree} {ls:List Lf} (hm:P.follows .mixedOrders=true) (hcode:CodeOk P code) (hnat:∀ σ K,KnownOk σ K→@NatsOk (linSym σ K) P nat)
 (hls:leaves [] tree ⟨s.bA,[],[],[],1000⟩=some ls) (hok:okB s.bA=true) (hro:zFa s.ros=true)
 (hrun:AllG (fun e=>∀ (σ:Nat→Int),qf G s (@ev (linSym σ (e.known noA)) P code nat fuel false f s.args (mkH .nil (s.objs++s.ros)) s.n)=true) ls):zGr P f s:=by
 intro σ hb ψ w args' hrel hglob hfr
 unfold okB at hok
 rw [Bool.and_eq_true] at hok
 obtain ⟨hlen,hz⟩:=zQ0 hok.1 hb
 obtain ⟨e,he,σ',r1,r2⟩:=yK (wins:=[]) (w0:=w) (i:=σ 0) tree _ σ hls ⟨hb,trivial,trivial,fun q hq=>by cases hq⟩ zOx rfl (by show 0<s.bA.length; omega) (@zL zR _ _ hok.2) (Nat.le_refl _)
 have hag:∀ j,j<s.bA.length→σ' j=σ j:=fun j hj=>r2 j (.inl hj)
 have hrun:=zBZ hrun e he σ'
 have hK:KnownOk σ' (e.known noA):=r1.known noA
 obtain ⟨q1,q2⟩:=hrel σ' (e.known noA) hag rfl
 have hcall:@ym (linSym σ' (e.known noA)) P (@ev (linSym σ' (e.known noA)) P code nat fuel):=by
  letI S:Sym:=linSym σ' (e.known noA)
  haveI hS:SymFact P:=xX hK
  exact zA5 (fun call hcall F N=>x6 hm hcall) hcode (hnat _ _ hK) fuel
 refine jf (@ym.calls (linSym σ' (e.known noA)) _ _ hcall f s.args _ s.n ψ w args' q1 hglob q2 hfr (wQ hrun)) fun v w' ho=>?_
 obtain ⟨cv,h,n,ψ',p1,p2,po,hpo,ks,hc⟩:=v7 hrun ho
 obtain ⟨ψT,hT⟩:=zUN (σ0:=σ) (K0:=kno) (fun _ _ _=>hz) (fun j _ hj=>hag j hj) hro p1 p2 hc
 exact ⟨po,hpo,ψT,hT⟩
end
def fsChk (P:Program) (code:FuncId→CFn) (nat:Nats) (fuel:Nat) (f:FuncId) (G:Nat) (σ:Nat→Int):List Fs→Bool
 | []=>true
 | s::r=>(zB s.bA fun b=>okB b&&zFa s.ros&&qf G s (@ev (linSym σ ((⟨b,[],[],[],1000⟩:Lf).known noA)) P code nat fuel false f s.args (mkH .nil (s.objs++s.ros)) s.n))&&fsChk P code nat fuel f G σ r
theorem fsChk_ok {code:FuncId→CFn} {nat:Nats} {fuel:Nat} {f:FuncId} {G:Nat} (hm:P.follows .mixedOrders=true) (hcode:CodeOk P code) (hnat:∀ σ K,KnownOk σ K→@NatsOk (linSym σ K) P nat) :
 ∀ {l:List Fs},(∀ σ,fsChk P code nat fuel f G σ l=true)→∀ s∈l,zGr P f s
 | [],_,s,hs=>by cases hs
 | x::r,h,s,hs=>by
  have h':∀ σ,((okB x.bA=true∧zFa x.ros=true)∧qf G x (@ev (linSym σ ((⟨x.bA,[],[],[],1000⟩:Lf).known noA)) P code nat fuel false f x.args (mkH .nil (x.objs++x.ros)) x.n)=true)∧fsChk P code nat fuel f G σ r=true:=by
   intro σ
   have:=h σ
   unfold fsChk at this
   rwa [zMv,Bool.and_eq_true,Bool.and_eq_true,Bool.and_eq_true] at this
  rcases List.mem_cons.1 hs with rfl | hs
  · exact zRm (tree:=.leaf) (ls:=[⟨s.bA,[],[],[],1000⟩]) hm hcode hnat rfl (h' fun _=>0).1.1.1 (h' fun _=>0).1.1.2 ⟨fun σ=>(h' σ).1.2,trivial⟩
  · exact fsChk_ok hm hcode hnat (fun σ=>(h' σ).2) s hs
theorem zFm {σs σT:Nat→Int} {Ks KT:zc} {θ:TH} {ρ inv:zC} {objs:List (Key × CObj)} {ks:List Key} {h:zC} {lo hi G:Nat} {ψ:Psi} {w:World} (hθ:jy σs σT θ) (hR:@Rel (linSym σs Ks) ψ (zC.fam h) w)
 (hc:qP ρ inv θ h lo hi objs ks=true) :
 @Rel (linSym σT KT) (qQ ρ h [] ψ G 0) (jp objs) w∧zA0 ρ ψ (qQ ρ h [] ψ G 0) ∧
 (∀ k o p,jp objs k=some o→qQ ρ h [] ψ G 0 k=some p→o.isRo=false∧∃ k0 o0 p0,zC.fam h k0=some o0∧o0.isRo=false∧ψ k0=some p0∧p0.blk=p.blk∧zk ρ k=some k0∧k0∈ks):=by
 have hTot:∀ k o,zC.fam h k=some o→∃ p,ψ k=some p:=@Rel.tot (linSym σs Ks) _ _ _ hR
 have hOn:∀ k o p,zC.fam h k=some o→ψ k=some p→@xH (linSym σs Ks) ψ w p o:=@Rel.on (linSym σs Ks) _ _ _ hR
 have hInj:=@Rel.inj (linSym σs Ks) _ _ _ hR
 have hobj:=kI hc
 have hps:∀ k j p,zk ρ k=some j→ψ j=some p→qQ ρ h [] ψ G 0 k=some ⟨p.blk,p.off,p.sz,zCK (zj j h) p.ck⟩:=by
  intro k j p hk hp
  unfold qQ
  rw [hk]
  simp only
  rw [hp]; rfl
 have hPs:zA0 ρ ψ (qQ ρ h [] ψ G 0):=fun k j p hk hp=>⟨_,hps k j p (qv hk) hp,rfl,rfl,rfl⟩
 have hfam:∀ k o p,jp objs k=some o→qQ ρ h [] ψ G 0 k=some p→∃ b o' p0,zk ρ k=some b∧zk inv b=some k∧zC.fam h b=some o'∧ψ b=some p0∧zBl ρ θ o o'=true ∧
  p=⟨p0.blk,p0.off,p0.sz,zCK (some o') p0.ck⟩∧b∈ks:=by
  intro k o p hk hp
  rcases qz hk with ⟨j,hj⟩ | hn
  · obtain ⟨b,o',g1,g2,g3,g4,g5,g6,g7⟩:=hobj j k o hj
    obtain ⟨p0,hp0⟩:=hTot b o' g6
    rw [hps k b p0 g2 hp0,g6] at hp
    injection hp with hp
    exact ⟨b,o',p0,g2,g3,g6,hp0,g7,hp.symm,List.mem_of_getElem? g1⟩
  · rw [qh] at hn; cases hn
 refine ⟨?_,hPs,?_⟩
 · refine @Rel.mk (linSym σT KT) _ _ _ ?_ ?_ ?_
   · intro k o p hk hp
     obtain ⟨b,o',p0,g1,g2,g3,g4,g5,rfl,_⟩:=hfam k o p hk hp
     exact (zM3 (p:=p0) (p':=⟨p0.blk,p0.off,p0.sz,zCK (some o') p0.ck⟩) hθ hPs g5 rfl rfl rfl rfl (hOn b o' p0 g3 g4)).1
   · intro k o hk
     rcases qz hk with ⟨j,hj⟩ | hn
     · obtain ⟨b,o',g1,g2,g3,g4,g5,g6,g7⟩:=hobj j k o hj
       obtain ⟨p0,hp0⟩:=hTot b o' g6
       exact ⟨_,hps k b p0 g2 hp0⟩
     · rw [qh] at hn; cases hn
   · intro k₁ k₂ o₁ o₂ p₁ p₂ h1 h2 h3 h4 hr e
     obtain ⟨b1,o1',q1,g1,g2,g3,g4,g5,rfl,_⟩:=hfam _ _ _ h1 h3
     obtain ⟨b2,o2',q2,f1,f2,f3,f4,f5,rfl,_⟩:=hfam _ _ _ h2 h4
     have:=hInj b1 b2 _ _ _ _ g3 f3 g4 f4 (.inl (zJV g5)) e
     subst this
     rw [g2] at f2
     injection f2
 · intro k o p hk hp
   obtain ⟨b,o',p0,g1,g2,g3,g4,g5,rfl,g6⟩:=hfam k o p hk hp
   have hro:o.isRo=false∧o'.isRo=false:=by
    unfold zBl at g5
    split at g5
    · exact ⟨rfl,rfl⟩
    · exact ⟨rfl,rfl⟩
    · exact ⟨rfl,rfl⟩
    · exact ⟨rfl,rfl⟩
    · exact ⟨rfl,rfl⟩
    · exact ⟨rfl,rfl⟩
    · exact ⟨rfl,rfl⟩
    · cases g5
   exact ⟨hro.1,b,o',p0,g3,hro.2,g4,rfl,g1,g6⟩
def roB:CObj→Option (List CV)
 | .ro b=>some b
 | .cells b=>some b
 | .full _ b=>some b
 | _=>none
def zDi (ρ inv:zC) (θ:TH) (h:zC):List (Key × CObj)→Bool
 | []=>true
 | p::r=>(match p.2,zk ρ p.1 with
  | .ro a,some j=>(match zj j h with
   | some o=>(match roB o with
    | some b=>zCt inv j&&uW ρ θ a b
    | none=>false)
   | none=>false)
  | _,_=>false)&&zDi ρ inv θ h r
def zEd (ρ inv:zC) (si:SE→CV→Bool) (fw:Nat→List (List Nat)→CV→Bool) (h:zC):List (Key × CObj)→Bool
 | []=>true
 | p::r=>(match p.2,zk ρ p.1 with
  | .ro a,some j=>(match zj j h with
   | some o=>(match roB o with
    | some b=>zCt inv j&&uL ρ si fw a b
    | none=>false)
   | none=>false)
  | _,_=>false)&&zEd ρ inv si fw h r
theorem zFE {ρ inv:zC} {θ:TH} {si:SE→CV→Bool} {fw:Nat→List (List Nat)→CV→Bool} (hs:∀ e d,si e d=zAh θ e d) (hf:∀ i t d,fw i t d=yG ρ θ (.few i t) d) {h:zC}:∀ {l:List (Key × CObj)},zEd ρ inv si fw h l=zDi ρ inv θ h l
 | []=>rfl
 | p::r=>by
  have e:∀ a b,uL ρ si fw a b=uW ρ θ a b:=fun a b=>by rw [uj hs hf,jQ]
  unfold zEd zDi
  rw [zFE hs hf (l:=r)]
  simp only [e]
theorem zGY {ρ inv:zC} {θ:TH} {h:zC}:∀ {l:List (Key × CObj)},zDi ρ inv θ h l=true→∀ k o,(k,o)∈l→∃ a b j o',o=.ro a∧zk ρ k=some j∧zj j h=some o'∧roB o'=some b∧zk inv j=none∧qS ρ θ a b=true
 | [],_,k,o,hk=>by simp at hk
 | p::r,hc,k,o,hk=>by
  unfold zDi at hc
  rw [Bool.and_eq_true] at hc
  rcases List.mem_cons.1 hk with e | hk
  · subst e
    have h1:=hc.1
    split at h1
    · rename_i a j e1 e2
      split at h1
      · rename_i o' hb
        split at h1
        · rename_i b hb'
          rw [Bool.and_eq_true,jQ] at h1
          refine ⟨a,b,j,o',e1,e2,hb,hb',?_,h1.2⟩
          have h2:=h1.1
          unfold zCt at h2
          split at h2
          · assumption
          · cases h2
        · cases h1
      · cases h1
    · cases h1
  · exact zGY hc.2 k o hk
theorem zTC {S:Sym} {ψ:Psi} {w:World} {p:Pl} {o:CObj} {b:List CV} (hb:roB o=some b) (h:@xH S ψ w p o):@zAg S ψ w p b:=by
 cases o with
 | ro c=>injection hb with hb; subst hb; exact h
 | cells c=>injection hb with hb; subst hb; exact @yZ.toRo S _ _ _ _ h
 | full u c=>injection hb with hb; subst hb; exact @yZ.toRo S _ _ _ _ (@jP.toCells S _ _ _ _ _ h)
 | map _ _=>cases hb
 | striter _ _=>cases hb
 | mapiter _ _ _ _=>cases hb
 | mapz _=>cases hb
 | seen _=>cases hb
 | hid=>cases hb
theorem zOg {σs σT:Nat→Int} {Ks KT:zc} {θ:TH} {ρ:zC} {ψs ψT:Psi} (hθ:jy σs σT θ) (hψ:zA0 ρ ψs ψT) {as bs:List CV} (h:qS ρ θ as bs=true) {w:World} {p p':Pl} (h1:p'.blk=p.blk) (h2:p'.off=p.off)
 (hc:@zAg (linSym σs Ks) ψs w p bs):@zAg (linSym σT KT) ψT w p' as:=by
 obtain ⟨arr,elem,fz,g1,g3,g5⟩:=hc
 obtain ⟨q1,q2⟩:=zDq h
 refine ⟨arr,elem,fz,by rw [h1]; exact g1,by rw [h2]; omega,fun i c hi=>?_⟩
 obtain ⟨d,hd,hcd⟩:=q2 i c hi
 obtain ⟨x,hx,hr⟩:=g5 i d hd
 exact ⟨x,by rw [h2]; exact hx,qO hθ hψ c d hcd hr⟩
theorem zLz {σs σT:Nat→Int} {Ks KT:zc} {θ:TH} {ρ inv:zC} {objs ros:List (Key × CObj)} {ks:List Key} {h:zC} {lo hi G:Nat} {ψ:Psi} {w:World} (hθ:jy σs σT θ) (hR:@Rel (linSym σs Ks) ψ (zC.fam h) w)
 (hc:qP ρ inv θ h lo hi objs ks=true) (hr:zDi ρ inv θ h ros=true) :
 @Rel (linSym σT KT) (qQ ρ h [] ψ G 0) (jp (objs++ros)) w∧zA0 ρ ψ (qQ ρ h [] ψ G 0):=by
 have hTot:∀ k o,zC.fam h k=some o→∃ p,ψ k=some p:=@Rel.tot (linSym σs Ks) _ _ _ hR
 have hOn:∀ k o p,zC.fam h k=some o→ψ k=some p→@xH (linSym σs Ks) ψ w p o:=@Rel.on (linSym σs Ks) _ _ _ hR
 have hInj:=@Rel.inj (linSym σs Ks) _ _ _ hR
 obtain ⟨c1,c2,c3⟩:=zFm (G:=G) (KT:=KT) hθ hR hc
 have c1on:∀ k o p,jp objs k=some o→qQ ρ h [] ψ G 0 k=some p→@xH (linSym σT KT) (qQ ρ h [] ψ G 0) w p o:=@Rel.on (linSym σT KT) _ _ _ c1
 have c1tot:=@Rel.tot (linSym σT KT) _ _ _ c1
 have c1inj:=@Rel.inj (linSym σT KT) _ _ _ c1
 have hps:∀ k j p,zk ρ k=some j→ψ j=some p→qQ ρ h [] ψ G 0 k=some ⟨p.blk,p.off,p.sz,zCK (zj j h) p.ck⟩:=by
  intro k j p hk hp
  unfold qQ
  rw [hk]
  simp only
  rw [hp]; rfl
 have hro:∀ k o,(k,o)∈ros→∃ a b j p o',o=.ro a∧zC.fam h j=some o'∧ψ j=some p∧qQ ρ h [] ψ G 0 k=some ⟨p.blk,p.off,p.sz,zCK (zj j h) p.ck⟩∧qS ρ θ a b=true∧roB o'=some b∧zk inv j=none:=by
  intro k o hk
  obtain ⟨a,b,j,o',e,g1,g2,gb,gn,g3⟩:=zGY hr k o hk
  obtain ⟨p,hp⟩:=hTot j _ g2
  exact ⟨a,b,j,p,o',e,g2,hp,hps k j p g1 hp,g3,gb,gn⟩
 have hinv:∀ k o k0,jp objs k=some o→zk ρ k=some k0→zk inv k0=some k:=by
  intro k o k0 hk hk0
  rcases qz hk with ⟨j,hj⟩ | hn
  · obtain ⟨b,o',g1,g2,g3,_⟩:=kI hc j k o hj
    rw [g2] at hk0
    injection hk0 with hk0
    rw [← hk0]; exact g3
  · rw [qh] at hn; cases hn
 have mix:∀ k₁ k₂ o₁ o₂ p₁ p₂,jp objs k₁=some o₁→(k₂,o₂)∈ros→qQ ρ h [] ψ G 0 k₁=some p₁→qQ ρ h [] ψ G 0 k₂=some p₂→p₁.blk=p₂.blk→False:=by
  intro k₁ k₂ o₁ o₂ p₁ p₂ h1 h2 h3 h4 e
  obtain ⟨_,k0,o0,p0,q1,q2,q3,q4,q5,_⟩:=c3 _ _ _ h1 h3
  obtain ⟨a,b,j,p,o',e0,r1,r2,r3,r4,r5,r6⟩:=hro _ _ h2
  rw [r3] at h4
  injection h4 with h4
  have e':p0.blk=p.blk:=by rw [q4,e,← h4]
  have:=hInj k0 j _ _ _ _ q1 r1 q3 r2 (.inl q2) e'
  subst this
  rw [hinv _ _ _ h1 q5] at r6
  cases r6
 refine ⟨@Rel.mk (linSym σT KT) _ _ _ ?_ ?_ ?_,c2⟩
 · intro k o p hk hp
   rcases vZ hk with hk | hk
   · exact c1on k o p hk hp
   · obtain ⟨a,b,j,p0,o',rfl,r1,r2,r3,r4,r5,r6⟩:=hro _ _ hk
     rw [r3] at hp
     injection hp with hp
     subst hp
     exact zOg (p:=p0) hθ c2 r4 rfl rfl (zTC r5 (hOn _ _ _ r1 r2))
 · intro k o hk
   rcases vZ hk with hk | hk
   · exact c1tot k o hk
   · obtain ⟨a,b,j,p0,o',rfl,r1,r2,r3,r4,r5,r6⟩:=hro _ _ hk
     exact ⟨_,r3⟩
 · intro k₁ k₂ o₁ o₂ p₁ p₂ h1 h2 h3 h4 hor e
   rcases vZ h1 with g1 | g1 <;> rcases vZ h2 with g2 | g2
   · exact c1inj k₁ k₂ o₁ o₂ p₁ p₂ g1 g2 h3 h4 hor e
   · exact (mix _ _ _ _ _ _ g1 g2 h3 h4 e).elim
   · exact (mix _ _ _ _ _ _ g2 g1 h4 h3 e.symm).elim
   · obtain ⟨a,_,_,_,_,rfl,_⟩:=hro _ _ g1
     obtain ⟨b,_,_,_,_,rfl,_⟩:=hro _ _ g2
     rcases hor with hor | hor <;> cases hor
def zC5 (ρ:zC) (G hi:Nat) (h:zC):List Key→List Key→Bool
 | [],[]=>true
 | k::r,j::js=>k7 ρ k j&&Nat.ble G k.ix&&Nat.ble (Nat.succ k.ix) hi&&zC5 ρ G hi h r js
 | _,_=>false
theorem zDn {ρ:zC} {G hi:Nat} {h:zC}:∀ {l es:List Key},zC5 ρ G hi h l es=true→∀ (i:Nat) k j,l[i]? = some k→es[i]? = some j→zk ρ k=some j∧G≤k.ix∧k.ix<hi
 | [],_,_,i,k,j,h1,_=>by simp at h1
 | _::_,[],hc,_,_,_,_,_=>by cases hc
 | x::r,y::js,hc,i,k,j,h1,h2=>by
  unfold zC5 at hc
  simp only [Bool.and_eq_true] at hc
  obtain ⟨⟨⟨c0,c1⟩,c2⟩,c4⟩:=hc
  cases i with
  | zero=>
   simp at h1 h2
   subst h1 h2
   exact ⟨qv c0,@zL zR _ _ c1,@zL zR _ _ c2⟩
  | succ i=>exact zDn c4 i k j (by simpa using h1) (by simpa using h2)
def vT (mid:Nat) (ρ:zC):List (Key × CObj)→Key→Option (List Key × Key)
 | [],n=>some ([],n)
 | p::r,n=>match Nat.ble mid p.1.ix with
  | false=>match zk ρ p.1 with
   | some j=>match vT mid ρ r n with
    | some q=>some (j::q.1,q.2)
    | none=>none
   | none=>none
  | true=>match n.succ with
   | .mk a b c d=>match vT mid ρ r (.mk a b c d) with
    | some q=>some (n::q.1,q.2)
    | none=>none
theorem zDt {mid:Nat} {ρ:zC}:∀ {l:List (Key × CObj)} {n:Key} {q:List Key × Key},vT mid ρ l n=some q→n.ix≤q.2.ix
 | [],n,q,h=>by
  injection h with h; subst h
  exact Nat.le_refl _
 | p::r,n,q,h=>by
  unfold vT at h
  split at h
  · split at h
    · split at h
      · rename_i q' hq'
        injection h with h; subst h
        have:=zDt hq'
        exact this
      · cases h
    · cases h
  · split at h
    rename_i a b c d hs
    split at h
    · rename_i q' hq'
      injection h with h; subst h
      have h1:=zDt hq'
      rw [← hs] at h1
      have hle:=@Key.ix_le_succ zR n
      simp only; omega
    · cases h
theorem zDc {mid:Nat} {ρ:zC}:∀ {l:List (Key × CObj)} {n:Key} {q:List Key × Key},vT mid ρ l n=some q→q.2.room→n.ix≤q.2.ix ∧
 ∀ (i:Nat) (k:Key) (o:CObj) (j:Key),l[i]? = some (k,o)→q.1[i]? = some j→(k.ix<mid∧zk ρ k=some j)∨(mid≤k.ix∧n.ix≤j.ix∧j.ix<q.2.ix)
 | [],n,q,h,hr=>by
  injection h with h; subst h
  exact ⟨Nat.le_refl _,fun i k o j h1 _=>by simp at h1⟩
 | p::r,n,q,h,hr=>by
  unfold vT at h
  split at h
  · rename_i hm
    have hlt:p.1.ix<mid:=by
     rcases Nat.lt_or_ge p.1.ix mid with g | g
     · exact g
     · rw [Nat.ble_eq_true_of_le g] at hm; cases hm
    split at h
    · rename_i j hj
      split at h
      · rename_i q' hq'
        injection h with h; subst h
        obtain ⟨h1,h2⟩:=zDc hq' hr
        refine ⟨h1,fun i k o j' g1 g2=>?_⟩
        cases i with
        | zero=>
         simp at g1 g2
         subst g1 g2
         exact .inl ⟨hlt,hj⟩
        | succ i=>exact h2 i k o j' (by simpa using g1) (by simpa using g2)
      · cases h
    · cases h
  · rename_i hm
    have hm:=@zL zR _ _ hm
    split at h
    rename_i a b c d hs
    split at h
    · rename_i q' hq'
      injection h with h; subst h
      obtain ⟨h1,h2⟩:=zDc hq' hr
      rw [← hs] at h1 h2
      have hle:=@Key.ix_le_succ zR n
      have hroom:n.ix<65535:=by
       have:q'.2.ix<65535:=hr
       omega
      have hix:=@Key.ix_succ zR n hroom
      refine ⟨by simp only; omega,fun i k o j' g1 g2=>?_⟩
      cases i with
      | zero=>
       simp at g1 g2
       subst g1 g2
       exact .inr ⟨hm,Nat.le_refl _,by simp only; omega⟩
      | succ i=>
       rcases h2 i k o j' (by simpa using g1) (by simpa using g2) with g | ⟨g3,g4,g5⟩
       · exact .inl g
       · exact .inr ⟨g3,by omega,g5⟩
    · cases h
def ckQ (bs:List CE) (clock:Nat) (j:Nat):Nat:=match nth bs j with
 | some e=>e.born
 | none=>Nat.add clock (Nat.sub j (zOv bs))
theorem zKX {bs:List CE} {clock j:Nat}:ckQ bs clock j=qC bs clock j:=by
 unfold ckQ qC
 rw [@ye zR,@zCl zR]
 rfl
def zLQ (ρ:zC) (θ:TH) (bs:List CE) (clock:Nat):List CE→List CE
 | []=>[]
 | e::l=>⟨zHa ρ θ e.key,zHa ρ θ e.val,ckQ bs clock e.born⟩::zLQ ρ θ bs clock l
def k9 (ρ:zC) (θ:TH) (mid:Nat) (h:zC) (k j:Key) (o:CObj):CObj:=match o with
 | .cells l=>.cells (zLx ρ θ l)
 | .map es c=>match Nat.ble mid k.ix with
  | true=>.map (zIY ρ θ es) c
  | false=>match zj j h with
   | some (.map es0 c0)=>.map (zLQ ρ θ (vL es0) c0 es) (ckQ (vL es0) c0 c)
   | _=>.map [] 0
 | o=>o
def zM7 (ρ:zC) (sb:SE→CV) (θ:TH) (mid:Nat) (h:zC) (k j:Key) (o:CObj):CObj:=match o with
 | .cells l=>.cells (zKU ρ sb l)
 | o=>k9 ρ θ mid h k j o
theorem zLn {ρ:zC} {sb:SE→CV} {θ:TH} (hs:∀ e,sb e=yD ρ θ (.sym e)) {mid:Nat} {h:zC} {k j:Key} {o:CObj}:zM7 ρ sb θ mid h k j o=k9 ρ θ mid h k j o:=by
 cases o <;> first | rfl | exact congrArg CObj.cells ((jX hs _).trans (zGH _).symm)
def zNU (mid:Nat) (h:zC) (k j:Key) (o:CObj):Bool:=match o with
 | .cells _=>true
 | .map _ c=>match Nat.ble mid k.ix with
  | true=>true
  | false=>match zj j h with
   | some (.map es0 _)=>Nat.ble (zOv (vL es0)) c
   | _=>false
 | _=>false
def zIm (ρ inv:zC) (mid:Nat) (h:zC):List (Key × CObj)→List Key→Bool
 | [],[]=>true
 | p::r,j::js=>k7 ρ p.1 j&&k7 inv j p.1&&zNU mid h p.1 j p.2&&zIm ρ inv mid h r js
 | _,_=>false
theorem zMW {ρ inv:zC} {mid:Nat} {h:zC}:∀ {l:List (Key × CObj)} {ks:List Key},zIm ρ inv mid h l ks=true→l.length=ks.length∧∀ (i:Nat) (k:Key) (o:CObj),l[i]? = some (k,o)→∃ j,ks[i]? = some j∧zk ρ k=some j∧zk inv j=some k∧zNU mid h k j o=true
 | [],[],_=>⟨rfl,fun i k o h=>by simp at h⟩
 | [],_::_,h=>by cases h
 | _::_,[],h=>by cases h
 | p::r,j::js,h=>by
  unfold zIm at h
  simp only [Bool.and_eq_true] at h
  obtain ⟨⟨⟨h1,h2⟩,h3⟩,h4⟩:=h
  obtain ⟨g1,g2⟩:=zMW h4
  refine ⟨by simp [g1],fun i k o hi=>?_⟩
  cases i with
  | zero=>
   simp at hi
   subst hi
   exact ⟨j,rfl,qv h1,qv h2,h3⟩
  | succ i=>
   obtain ⟨j',q1,q2⟩:=g2 i k o (by simpa using hi)
   exact ⟨j',by simpa using q1,q2⟩
def zCo (ρ:zC) (θ:TH) (mid:Nat) (h:zC):List (Key × CObj)→List Key→List (Key × CObj)
 | p::r,j::js=>(j,k9 ρ θ mid h p.1 j p.2)::zCo ρ θ mid h r js
 | _,_=>[]
def zCQ (ρ:zC) (sb:SE→CV) (θ:TH) (mid:Nat) (h:zC):List (Key × CObj)→List Key→List (Key × CObj)
 | p::r,j::js=>(j,zM7 ρ sb θ mid h p.1 j p.2)::zCQ ρ sb θ mid h r js
 | _,_=>[]
theorem zHw {ρ:zC} {sb:SE→CV} {θ:TH} (hs:∀ e,sb e=yD ρ θ (.sym e)) {mid:Nat} {h:zC}:∀ {l:List (Key × CObj)} {ks:List Key},zCQ ρ sb θ mid h l ks=zCo ρ θ mid h l ks
 | [],_=>by simp [zCQ,zCo]
 | _::_,[]=>by simp [zCQ,zCo]
 | p::r,j::js=>by unfold zCQ zCo; rw [zLn hs,zHw hs]
theorem zEA {ρ inv ρ':zC} {θ:TH} {mid:Nat} {h h0:zC} {k:Key} {o:CObj}:∀ {l:List (Key × CObj)} {ks:List Key},zIm ρ inv mid h l ks=true→zj k (mkH h0 (zCo ρ' θ mid h l ks))=some o →
 (∃ (kp:Key) (o':CObj) (i:Nat),zj kp (mkH .nil l)=some o'∧o=k9 ρ' θ mid h kp k o'∧zNU mid h kp k o'=true∧zk ρ kp=some k∧l[i]? = some (kp,o')∧ks[i]? = some k)∨zj k h0=some o
 | [],[],_,hh=>.inr hh
 | [],_::_,hb,_=>by cases hb
 | _::_,[],hb,_=>by cases hb
 | p::r,j::js,hb,hh=>by
  unfold zIm at hb
  simp only [Bool.and_eq_true] at hb
  obtain ⟨⟨⟨h1,h2⟩,h3⟩,h4⟩:=hb
  have hh:zj k (ya (some (k9 ρ' θ mid h p.1 j p.2)) j (mkH h0 (zCo ρ' θ mid h r js)))=some o:=hh
  rw [qw] at hh
  split at hh
  · rename_i e
    subst e
    injection hh with hh
    refine .inl ⟨p.1,p.2,0,?_,hh.symm,h3,qv h1,rfl,rfl⟩
    show zj p.1 (ya (some p.2) p.1 (mkH .nil r))=_
    rw [qw,if_pos rfl]
  · rename_i e
    rcases zEA h4 hh with ⟨kp,o',i,g1,g2,g3,g4,g5,g6⟩ | g
    · refine .inl ⟨kp,o',i+1,?_,g2,g3,g4,by simpa using g5,by simpa using g6⟩
      show zj kp (ya (some p.2) p.1 (mkH .nil r))=_
      rw [qw,if_neg (fun e'=>by
       rw [e',qv h1] at g4
       injection g4 with g4
       exact e g4.symm)]
      exact g1
    · exact .inr g
theorem zJO {ck:Nat→Nat} {clock:Nat} (h:wo ck clock):∀ d,wo ck (clock+d)
 | 0=>h
 | d+1=>@wo.succ zR _ _ (zJO h d)
theorem zHU {σ σT:Nat→Int} {K KT:zc} {θ:TH} {ρ:zC} {ψs ψT:Psi} (hθ:jy σ σT θ) (hψ:zHW ρ ψs ψT) {bs:List CE} {clock:Nat} {ck:Nat→Nat}:∀ {es:List CE} {l:List MapEntry},
 @yL (linSym σT KT) ψs (fun j=>ck (qC bs clock j)) es l→@yL (linSym σ K) ψT ck (zLQ ρ θ bs clock es) l
 | [],l,h=>h
 | c::es,l,h=>by
  obtain ⟨e,r,rfl,⟨h1,h2,h3⟩,h4⟩:=h
  refine ⟨e,r,rfl,⟨?_,?_,?_⟩,zHU hθ hψ h4⟩
  · show @zH (linSym σ K) ψT (zHa ρ θ c.key) e.key
    rw [zCH]; exact ke hθ hψ _ h1
  · show @zH (linSym σ K) ψT (zHa ρ θ c.val) e.val
    rw [zCH]; exact ke hθ hψ _ h2
  · show e.born=ck (ckQ bs clock c.born)
    rw [zKX]; exact h3
def fEF:List CE→(List CE→R)→R
 | [],k=>k []
 | ⟨a,b,n⟩::l,k=>fQ a fun a=>fQ b fun b=>Nat.rec (motive:=fun _=>(Nat→R)→R) (fun k=>k 0) (fun m _ k=>k (Nat.succ m)) n fun n=>fEF l fun l=>k (⟨a,b,n⟩::l)
theorem zTm {n:Nat} {k:Nat→R}:Nat.rec (motive:=fun _=>(Nat→R)→R) (fun k=>k 0) (fun m _ k=>k (Nat.succ m)) n k=k n:=by cases n <;> rfl
theorem zQc:∀ {l:List CE} {k:List CE→R},fEF l k=k l
 | [],_=>rfl
 | ⟨a,b,n⟩::l,k=>by unfold fEF; rw [zGR,zGR,zTm,zQc]
def fOF (o:CObj) (k:CObj→R):R:=match o with
 | .cells l=>fQs l fun l=>k (.cells l)
 | .map es c=>fEF es fun es=>Nat.rec (motive:=fun _=>(Nat→R)→R) (fun k=>k 0) (fun m _ k=>k (Nat.succ m)) c fun c=>k (.map es c)
 | o=>k o
theorem zTz {o:CObj} {k:CObj→R}:fOF o k=k o:=by
 cases o with
 | cells l=>exact zBd l _
 | map es c=>
  show (fEF es fun es=>Nat.rec (motive:=fun _=>(Nat→R)→R) (fun k=>k 0) (fun m _ k=>k (Nat.succ m)) c fun c=>k (.map es c))=_
  rw [zQc]
  exact zTm
 | ro _=>rfl
 | striter _ _=>rfl
 | mapiter _ _ _ _=>rfl
 | full _ _=>rfl
 | mapz _=>rfl
 | seen _=>rfl
 | hid=>rfl
def zPu:List (Key × CObj)→(List (Key × CObj)→R)→R
 | [],k=>k []
 | (j,o)::l,k=>fOF o fun o=>zPu l fun l=>k ((j,o)::l)
theorem zIA:∀ {l:List (Key × CObj)} {k:List (Key × CObj)→R},zPu l k=k l
 | [],_=>rfl
 | (j,o)::l,k=>by unfold zPu; rw [zTz,zIA]
def zPs [Sym] (G:Nat) (s:Fs) (m mn q:Nat) (ks es:List Key) (θ:TH) (args:List CV) (h:zC):Bool:=
 zR9 s.b θ&&zTO s.pn (zTp q Sym.kb)&&zS0 (xP s.objs s.ext ks es) (zBG θ m mn q s.pn) (fun i t d=>yG (xP s.objs s.ext ks es) (θ++jq q s.pn) (.few i t) d) s.args args &&
 zBS (xP s.objs s.ext ks es) (jc s.objs ks) (θ++jq q s.pn) (zBG θ m mn q s.pn) (fun i t d=>yG (xP s.objs s.ext ks es) (θ++jq q s.pn) (.few i t) d) h G s.n.ix s.objs ks &&
 zC5 (xP s.objs s.ext ks es) G s.n.ix h s.ext es&&Nat.ble G s.n.ix&&zEd (xP s.objs s.ext ks es) (jc s.objs ks) (zBG θ m mn q s.pn) (fun i t d=>yG (xP s.objs s.ext ks es) (θ++jq q s.pn) (.few i t) d) h s.ros
def uS (s:Fs) (ks es:List Key) (θ:TH) (h:zC) (n:Key) (po:Po):R:=match vT s.mid (ju s.objs ks) po.objs n with
 | none=>.err 435
 | some q=>match zIm (xP po.objs s.ext q.1 es) (jc po.objs q.1) s.mid h po.objs q.1 with
  | false=>.err 436
  | true=>fQ (zHa (xP po.objs s.ext q.1 es) θ po.v) fun v=>zPu (zCo (xP po.objs s.ext q.1 es) θ s.mid h po.objs q.1) fun os=>.ret v (mkH (zGD ks h) os) q.2
def zAZ (s:Fs) (ks es:List Key) (θ:TH) (h:zC) (n:Key):List Po→R
 | []=>.err 437
 | [po]=>uS s ks es θ h n po
 | po::r=>.fork (uS s ks es θ h n po) (zAZ s ks es θ h n r)
def uT (s:Fs) (ks es:List Key) (sb:SE→CV) (θ:TH) (h:zC) (n:Key) (po:Po):R:=match vT s.mid (ju s.objs ks) po.objs n with
 | none=>.err 435
 | some q=>match zIm (xP po.objs s.ext q.1 es) (jc po.objs q.1) s.mid h po.objs q.1 with
  | false=>.err 436
  | true=>fQ (zQd (xP po.objs s.ext q.1 es) sb po.v) fun v=>zPu (zCQ (xP po.objs s.ext q.1 es) sb θ s.mid h po.objs q.1) fun os=>.ret v (mkH (zGD ks h) os) q.2
def wS (s:Fs) (ks es:List Key) (sb:SE→CV) (θ:TH) (h:zC) (n:Key):List Po→R
 | []=>.err 437
 | [po]=>uT s ks es sb θ h n po
 | po::r=>.fork (uT s ks es sb θ h n po) (wS s ks es sb θ h n r)
theorem zE9 {s:Fs} {ks es:List Key} {sb:SE→CV} {θ:TH} (hs:∀ ρ e,sb e=yD ρ θ (.sym e)) {h:zC} {n:Key} {po:Po}:uT s ks es sb θ h n po=uS s ks es θ h n po:=by
 unfold uT uS
 simp only [zB6 (hs _),zHw (hs _),zCH]
theorem zDA {s:Fs} {ks es:List Key} {sb:SE→CV} {θ:TH} (hs:∀ ρ e,sb e=yD ρ θ (.sym e)) {h:zC} {n:Key}:∀ {l:List Po},wS s ks es sb θ h n l=zAZ s ks es θ h n l
 | []=>rfl
 | [po]=>zE9 hs
 | po::po2::r=>by
  show R.fork (uT s ks es sb θ h n po) (wS s ks es sb θ h n (po2::r))=R.fork (uS s ks es θ h n po) (zAZ s ks es θ h n (po2::r))
  rw [zE9 hs,zDA hs]
def fNR (n:Nat) (k:Nat→R):R:=Nat.rec (motive:=fun _=>(Nat→R)→R) (fun k=>k 0) (fun m _ k=>k (Nat.succ m)) n k
theorem zQZ {n:Nat} {k:Nat→R}:fNR n k=k n:=by cases n <;> rfl
def qOf (m:Nat) (th:List (Nat × Int × LL)):Nat:=match zJd m th with
 | (_,(q,_)::_)=>q
 | _=>0
def zUT (pm:Nat) (h:zC) (th:List (Nat × Int × LL)):List (Key × CObj)→HA→HA
 | [],a=>a
 | p::r,a=>zUT pm h th r (match p.2,(zJd p.1.ix th).1 with
  | .ro x,.ofNat m=>(match zj (Key.ofNat m) h with
   | some o=>(match roB o with
    | some y=>gVs pm x y a
    | none=>a)
   | none=>a)
  | _,_=>a)
def thQ (th:List (Nat × Int × LL)) (j:Nat) (acc:TH):Option TH:=List.rec (motive:=fun _=>Nat→TH→Option TH) (fun j acc=>Nat.rec (motive:=fun _=>Option TH) (some acc) (fun _ _=>none) j)
 (fun q _ ih j acc=>Prod.rec (motive:=fun _=>Option TH) (fun i v=>Bool.rec (motive:=fun _=>Option TH) (ih j acc) (ih (Nat.pred j) (v::acc)) (Nat.beq i j)) q) th j acc
def zVj (n m:Nat) (th:List (Nat × Int × LL)):Nat:=Nat.rec (motive:=fun _=>Nat) 0 (fun _ _=>qOf m th) n
def zUE (th:List (Nat × Int × LL)) (b:List (Int × Int)):TH:=match b with
 | []=>[]
 | _::r=>match thQ th (List.length r) [] with
  | some θ=>(0,[])::θ
  | none=>zVq th b
def zUB (th:List (Nat × Int × LL)) (k:List (Nat × Int × LL)→R):R:=List.rec (motive:=fun _=>(List (Nat × Int × LL)→R)→R) (fun k=>k []) (fun x _ g k=>g fun l=>k (x::l)) th k
theorem zH6:∀ {th:List (Nat × Int × LL)} {k:List (Nat × Int × LL)→R},zUB th k=k th
 | [],_=>rfl
 | x::th,k=>zH6 (th:=th) (k:=fun l=>k (x::l))
def qkO:CObj→CObj→Bool
 | .cells x,.cells y=>zPh x y
 | .cells x,.full _ y=>zPh x y
 | _,_=>true
def zL9 (pm:Nat) (h:zC):List (Key × CObj)→HA→List Key→Option (List Key × HA)
 | [],a,ks=>some (ks.reverse,a)
 | p::r,a,ks=>match zSo a with
  | none=>none
  | some (j,a)=>match zj j h with
   | some o=>match qkO p.2 o with
    | true=>zL9 pm h r (gO pm p.2 o a) (j::ks)
    | false=>none
   | none=>none
def zQR (pm:Nat) (h:zC) (ros:List (Key × CObj)):List Nat→List (Key × CObj)→HA→List Key→Option (List Key × HA)
 | [],l,a,ks=>zL9 pm h l a ks
 | 0::w,p::r,a,ks=>(match zSo a with
  | none=>none
  | some (j,a)=>match zj j h with
   | some o=>match qkO p.2 o with
    | true=>zQR pm h ros w r (gO pm p.2 o a) (j::ks)
    | false=>none
   | none=>none)
 | 0::_,[],_,_=>none
 | Nat.succ q::w,l,a,ks=>(match nth ros q with
  | some (k,.ro x)=>(match (zJd k.ix a.th).1 with
   | .ofNat m=>(match zj (Key.ofNat m) h with
    | some o=>(match roB o with
     | some y=>(match zPh x y with
      | true=>zQR pm h ros w l (gVs pm x y a) ks
      | false=>none)
     | none=>none)
    | none=>none)
   | .negSucc _=>none)
  | _=>none)
def zVc (pm:Nat) (h:zC) (s:Fs) (a:HA):Option (List Key × HA):=match s.walk with
 | []=>(match zL9 pm h s.objs a [] with
  | some (ks,a)=>some (ks,zUT pm h a.th s.ros a)
  | none=>none)
 | w=>zQR pm h s.ros w s.objs a []
def zPH [Sym] (G:Nat) (args:List CV) (h:zC) (n:Key) (s:Fs) (z:R):R:=fNR (List.length s.b) fun m=>fNR (Nat.add m s.pn) fun mn=>match zVc m h s (gVs m s.args args ⟨[],[],zTd s.objs,[]⟩) with
 | none=>z
 | some (ks,a)=>fKs ks fun ks=>fKs (zUF a.th s.ext) fun es=>zUB a.th fun th=>fTH (zUE th s.b) fun θ=>fNR (zVj s.pn m th) fun q=>match zPs G s m mn q ks es θ args h with
  | true=>wS s ks es (sbP θ m mn q s.pn) (θ++jq q s.pn) h n s.posts
  | false=>z
def qkK (h:zC) (objs:List (Key × CObj)) (b:Nat) (k j:Key):Bool:=match Nat.ble 32768 k.ix with
 | true=>true
 | false=>match nth objs (Nat.sub k.ix b),zj j h with
  | some p,some (.cells y)=>(match p.2 with
   | .cells x=>zPh x y
   | _=>true)
  | _,_=>true
def qkA (h:zC) (objs:List (Key × CObj)) (b:Nat):List CV→List CV→Bool
 | x::l,y::m=>(match x,y with
  | .ptr k _,.ptr j _=>qkK h objs b k j
  | .sl k _ _ _ _ _,.sl j _ _ _ _ _=>qkK h objs b k j
  | .agg (.sl k _ _ _ _ _::_),.agg (.sl j _ _ _ _ _::_)=>qkK h objs b k j
  | _,_=>true)&&qkA h objs b l m
 | _,_=>true
def zDP [Sym] (G:Nat) (args:List CV) (h:zC) (n:Key) (z:R):List Fs→R
 | []=>z
 | s::r=>match zPh s.args args&&qkA h s.objs (zTd s.objs) s.args args with
  | true=>zPH G args h n s (zDP G args h n z r)
  | false=>zDP G args h n z r
theorem zAd {ρ inv:zC} {θ:TH} {h:zC} {lo hi:Nat}:∀ {objs:List (Key × CObj)} {ks:List Key},qP ρ inv θ h lo hi objs ks=true→objs.length=ks.length
 | [],[],_=>rfl
 | [],_::_,h=>by cases h
 | _::_,[],h=>by cases h
 | p::r,j::js,h=>by
  unfold qP at h
  rw [Bool.and_eq_true] at h
  simp [zAd h.2]
theorem zBa {s:Fs} {ks es:List Key} {sb:SE→CV} {θ:TH} {h:zC} {n:Key} {po:Po}:zi n (uT s ks es sb θ h n po):=by
 unfold uT
 cases hq:vT s.mid (ju s.objs ks) po.objs n with
 | none=>trivial
 | some q=>
  simp only
  cases hb:zIm (xP po.objs s.ext q.1 es) (jc po.objs q.1) s.mid h po.objs q.1 with
  | false=>trivial
  | true=>
   simp only [zGR,zIA]
   exact zDt hq
theorem zAc {s:Fs} {ks es:List Key} {sb:SE→CV} {θ:TH} {h:zC} {n:Key}:∀ {l:List Po},zi n (wS s ks es sb θ h n l)
 | []=>trivial
 | [po]=>zBa
 | po::po'::r=>⟨zBa,zAc (l:=po'::r)⟩
theorem w4 [Sym] {G:Nat} {args:List CV} {h:zC} {n:Key} {z:R} (hz:zi n z):∀ {l:List Fs},zi n (zDP G args h n z l)
 | []=>hz
 | s::r=>by
  unfold zDP
  split
  · unfold zPH
    simp only [zQZ]
    split
    · exact w4 hz
    rw [zII,zII,zH6,zLO]
    split
    · exact zAc
    · exact w4 hz
  · exact w4 hz
theorem zEv {σ σT:Nat→Int} {K:zc} {G:Nat} {s:Fs} {ks es:List Key} {θ:TH} {h:zC} {n:Key} {po:Po} {ψ ψ':Psi} {w w':World} {v:Value} (hθ:jy σ σT θ) (hR:@Rel (linSym σ K) ψ (zC.fam h) w) (hfr:xe ψ n)
 (hc:qP (xP s.objs s.ext ks es) (jc s.objs ks) θ h G s.n.ix s.objs ks=true) (he:zC5 (xP s.objs s.ext ks es) G s.n.ix h s.ext es=true)
 (hpo:zOy (linSym σT kno) (qQ (xP s.objs s.ext ks es) h [] ψ G 0) s w po v ψ' w') (hcl:zb (uS s ks es θ h n po)) :
 @zl (linSym σ K) ψ (zC.fam h) n w (uS s ks es θ h n po) v w':=by
 unfold uS at hcl ⊢
 cases hq:vT s.mid (ju s.objs ks) po.objs n with
 | none=>rw [hq] at hcl; exact hcl.elim
 | some q=>
  rw [hq] at hcl
  simp only at hcl ⊢
  cases hb:zIm (xP po.objs s.ext q.1 es) (jc po.objs q.1) s.mid h po.objs q.1 with
  | false=>rw [hb] at hcl; exact hcl.elim
  | true=>
   rw [hb] at hcl
   simp only [zGR,zIA,zCH] at hcl ⊢
   have hroom:q.2.room:=hcl
   obtain ⟨hmono,hkeys⟩:=zDc hq hroom
   obtain ⟨hlen,hbij⟩:=zMW hb
   obtain ⟨c1,c2,c3⟩:=zFm (G:=G) (KT:=kno) hθ hR hc
   have hobj:=kI hc
   have hlen0:=zAd hc
   have hTot:∀ k o,zC.fam h k=some o→∃ p,ψ k=some p:=@Rel.tot (linSym σ K) _ _ _ hR
   have hOn:∀ k o p,zC.fam h k=some o→ψ k=some p→@xH (linSym σ K) ψ w p o:=@Rel.on (linSym σ K) _ _ _ hR
   have hInj:=@Rel.inj (linSym σ K) _ _ _ hR
   have pTot:=@Rel.tot (linSym σT kno) _ _ _ hpo.rel
   have pOn:=@Rel.on (linSym σT kno) _ _ _ hpo.rel
   have pInj:=@Rel.inj (linSym σT kno) _ _ _ hpo.rel
   have hold:∀ k p,ψ k=some p→k.ix<n.ix:=fun k p hp=>by
    rcases Nat.lt_or_ge k.ix n.ix with g | g
    · exact g
    · rw [hfr k g] at hp; cases hp
   obtain ⟨ψ2,hψ2⟩:∃ ψ2:Psi,∀ k,ψ2 k=if n.ix≤k.ix then (match zk (jc po.objs q.1) k with | some kp=>ψ' kp | none=>ψ k) else ψ k:=⟨_,fun _=>rfl⟩
   have h2old:∀ k,k.ix<n.ix→ψ2 k=ψ k:=fun k hk=>by rw [hψ2,if_neg (by omega)]
   have hle:ψ.le ψ2:=fun k p hp=>by rw [h2old k (hold k p hp)]; exact hp
   have hpsT:∀ k j p,zk (xP s.objs s.ext ks es) k=some j→ψ j=some p→qQ (xP s.objs s.ext ks es) h [] ψ G 0 k=some ⟨p.blk,p.off,p.sz,zCK (zj j h) p.ck⟩:=by
    intro k j p hk hp
    unfold qQ
    rw [hk]
    simp only
    rw [hp]; rfl
   have hrho0:∀ k j,zk (ju s.objs ks) k=some j→zk (xP s.objs s.ext ks es) k=some j∧j∈ks∧∃ o p,zj j h=some o∧ψ j=some p:=by
    intro k j hk
    obtain ⟨i,o,g1,g2⟩:=zF3 hk
    obtain ⟨j',o',f1,f2,f3,f4,f5,f6,f7⟩:=hobj i k o g1
    rw [g2] at f1
    injection f1 with f1
    subst f1
    obtain ⟨p,hp⟩:=hTot j o' f6
    exact ⟨f2,List.mem_of_getElem? g2,o',p,f6,hp⟩
   have hend:∀ (i:Nat) (k:Key) (o:CObj) (j:Key),po.objs[i]? = some (k,o)→q.1[i]? = some j→∀ p,ψ' k=some p→∃ p',ψ2 j=some p'∧zFg p p' ∧
    ((s.mid≤k.ix∧p'=p)∨(k.ix<s.mid∧p=⟨p'.blk,p'.off,p'.sz,zCK (zj j h) p'.ck⟩∧ψ j=some p')):=by
    intro i k o j g1 g2 p hp
    rcases hkeys i k o j g1 g2 with ⟨f1,f2⟩ | ⟨f1,f2,f3⟩
    · obtain ⟨e0,_,o0,pj,e1,e2⟩:=hrho0 k j f2
      have e3:=hpo.pin i k o g1 f1 _ (hpsT k j pj e0 e2)
      rw [hp] at e3
      injection e3 with e3
      subst e3
      exact ⟨pj,by rw [h2old j (hold j pj e2)]; exact e2,⟨rfl,rfl,rfl⟩,.inr ⟨f1,rfl,e2⟩⟩
    · obtain ⟨j',b1,b2,b3,_⟩:=hbij i k o g1
      rw [g2] at b1
      injection b1 with b1
      subst b1
      exact ⟨p,by rw [hψ2,if_pos f2,b3]; exact hp,⟨rfl,rfl,rfl⟩,.inl ⟨f1,rfl⟩⟩
   have hM:zHW (xP po.objs s.ext q.1 es) ψ' ψ2:=by
    intro k j p hk hp
    rcases zMI hlen hk with ⟨i,o,g1,g2⟩ | ⟨i,g1,g2⟩
    · obtain ⟨p',h1,h2,_⟩:=hend i k o j g1 g2 p hp
      exact ⟨p',h1,h2⟩
    · obtain ⟨a0,a1,a2⟩:=zDn he i k j g1 g2
      have e3:=hpo.ext k (List.mem_of_getElem? g1) a2
      cases e2:ψ j with
      | none=>
       have e4:qQ (xP s.objs s.ext ks es) h [] ψ G 0 k=none:=by
        unfold qQ
        rw [a0]
        simp only
        rw [e2]; rfl
       rw [e3,e4] at hp
       cases hp
      | some pj=>
       rw [e3,hpsT k j pj a0 e2] at hp
       injection hp with hp
       subst hp
       exact ⟨pj,by rw [h2old j (hold j pj e2)]; exact e2,⟨rfl,rfl,rfl⟩⟩
   have hOwn:∀ B,zEc (qQ (xP s.objs s.ext ks es) h [] ψ G 0) s.objs w B→(∃ k0 o0 p0,zj k0 h=some o0∧o0.isRo=false∧ψ k0=some p0∧p0.blk=B∧k0∈ks)∨w.heap.size≤B:=by
    intro B hB
    rcases hB with ⟨k,o,p,g1,g2,g3⟩ | g
    · obtain ⟨_,k0,o0,p0,f1,f2,f3,f4,f5,f6⟩:=c3 k o p g1 g2
      exact .inl ⟨k0,o0,p0,f1,f2,f3,f4.trans g3,f6⟩
    · exact .inr g
   have hnew:∀ k o,zj k (mkH (zGD ks h) (zCo (xP po.objs s.ext q.1 es) θ s.mid h po.objs q.1))=some o →
    (∃ (kp:Key) (o':CObj) (p p':Pl),jp po.objs kp=some o'∧o=k9 (xP po.objs s.ext q.1 es) θ s.mid h kp k o'∧zNU s.mid h kp k o'=true∧ψ' kp=some p∧ψ2 k=some p'∧zFg p p' ∧
      ((s.mid≤kp.ix∧p'=p)∨(kp.ix<s.mid∧p=⟨p'.blk,p'.off,p'.sz,zCK (zj k h) p'.ck⟩∧ψ k=some p'))∧zk (xP po.objs s.ext q.1 es) kp=some k)∨(k ∉ ks∧zj k h=some o):=by
    intro k o hk
    rcases zEA hb hk with ⟨kp,o',i,g1,g2,g3,g4,g5,g6⟩ | hk
    · obtain ⟨p,hp⟩:=pTot kp o' g1
      obtain ⟨p',e1,e2,e3⟩:=hend i kp o' k g5 g6 p hp
      exact .inl ⟨kp,o',p,p',g1,g2,g3,hp,e1,e2,e3,g4⟩
    · exact .inr (zG0 hk)
   have hin:∀ k o p,zj k h=some o→ψ k=some p→p.blk<w.heap.size:=fun k o p h1 h2=>@xH.lt (linSym σ K) _ _ _ _ (hOn k o p h1 h2)
   have hlow:∀ k o p,k ∉ ks→zj k h=some o→ψ k=some p→¬ zEc (qQ (xP s.objs s.ext ks es) h [] ψ G 0) s.objs w p.blk:=by
    intro k o p g1 g2 g3 hB
    rcases hOwn _ hB with ⟨k0,o0,p0,f1,f2,f3,f4,f5⟩ | g
    · have:=hInj k0 k o0 o p0 p f1 g2 f3 g3 (.inl f2) f4
      subst this
      exact g1 f5
    · have:=hin k o p g2 g3
      omega
   have hone:∀ (kp k:Key) (o':CObj) (p p':Pl),jp po.objs kp=some o'→zNU s.mid h kp k o'=true→ψ' kp=some p→zFg p p' →
    ((s.mid≤kp.ix∧p'=p)∨(kp.ix<s.mid∧p=⟨p'.blk,p'.off,p'.sz,zCK (zj k h) p'.ck⟩∧ψ k=some p')) →
    @xH (linSym σ K) ψ2 w' p' (k9 (xP po.objs s.ext q.1 es) θ s.mid h kp k o')∧(k9 (xP po.objs s.ext q.1 es) θ s.mid h kp k o').isRo=false:=by
    intro kp k o' p p' g1 g3 g4 g6 g7
    have hpon:=pOn kp o' p g1 g4
    cases o' with
    | cells l=>
     have e:k9 (xP po.objs s.ext q.1 es) θ s.mid h kp k (.cells l)=zQY (xP po.objs s.ext q.1 es) θ (.cells l):=by
      show CObj.cells (zLx _ θ l)=CObj.cells (xv _ θ l)
      rw [zGH]
     rw [e]
     exact ⟨zKI hθ hM rfl g6 (fun _ _ e=>by cases e) hpon,rfl⟩
    | map es1 c1=>
     rcases g7 with ⟨m1,m2⟩ | ⟨m1,m2,m3⟩
     · have hb1:Nat.ble s.mid kp.ix=true:=Nat.ble_eq_true_of_le m1
       have e:k9 (xP po.objs s.ext q.1 es) θ s.mid h kp k (.map es1 c1)=zQY (xP po.objs s.ext q.1 es) θ (.map es1 c1):=by
        unfold k9
        simp only [hb1]
        rfl
       rw [e]
       exact ⟨zKI hθ hM rfl g6 (fun _ _ _=>m2) hpon,rfl⟩
     · have hb1:Nat.ble s.mid kp.ix=false:=by
        cases hx:Nat.ble s.mid kp.ix with
        | false=>rfl
        | true=>have:=@zL zR _ _ hx; omega
       unfold zNU at g3
       simp only [hb1] at g3
       unfold k9
       simp only [hb1]
       split at g3
       · rename_i es0 c0 h0
         rw [h0] at m2
         have hle0:=@zL zR _ _ g3
         rw [@zCl zR] at hle0
         obtain ⟨arr0,a1,_,a3⟩:=hOn k _ p' h0 m3
         have m2:p=⟨p'.blk,p'.off,p'.sz,fun j=>p'.ck (qC (vL es0) c0 j)⟩:=m2
         subst m2
         obtain ⟨arr,b1,⟨l0,bp,b2⟩,b3⟩:=hpon
         obtain ⟨d,hd⟩:∃ d,c1=(vL es0).length+d:=⟨c1 - (vL es0).length,by omega⟩
         have hck:qC (vL es0) c0 c1=c0+d:=by rw [hd]; exact vp d
         refine ⟨⟨arr,?_,⟨l0,bp,zHU hθ hM b2⟩,?_⟩,rfl⟩
         · rw [zKX]; exact b1
         · rw [zKX,hck]; exact zJO a3 d
       · cases g3
    | ro _=>cases g3
    | striter _ _=>cases g3
    | mapiter _ _ _ _=>cases g3
    | full _ _=>cases g3
    | mapz _=>cases g3
    | seen _=>cases g3
    | hid=>cases g3
   refine ⟨ψ2,@zy.mk (linSym σ K) _ _ _ _ _ _ _ _ hle ?_ (@Rel.mk (linSym σ K) _ _ _ ?_ ?_ ?_) ?_ ?_ hpo.lft.size hpo.lft.tape hpo.lft.os hpo.lft.output hmono ?_,ke hθ hM _ hpo.val⟩
   · intro k hk
     rcases hk with hk | hk
     · exact h2old k hk
     · rw [hψ2,if_pos (by omega)]
       split
       · rename_i kp hkp
         exfalso
         obtain ⟨i,⟨o,g1⟩,g2⟩:=zPB hkp
         rcases hkeys i kp o k g1 g2 with ⟨f1,f2⟩ | ⟨f1,f2,f3⟩
         · obtain ⟨_,_,o0,pj,e1,e2⟩:=hrho0 kp k f2
           have:=hold k pj e2
           omega
         · omega
       · rfl
   · intro k o p hk hp
     rcases hnew k o hk with ⟨kp,o',p0,p',g1,rfl,g3,g4,g5,g6,g7,_⟩ | ⟨g1,g2⟩
     · rw [g5] at hp
       injection hp with hp
       subst hp
       exact (hone kp k o' p0 p' g1 g3 g4 g6 g7).1
     · obtain ⟨p1,hp1⟩:=hTot k o g2
       rw [hle k p1 hp1] at hp
       injection hp with hp
       subst hp
       exact @xH.mono (linSym σ K) _ _ hle _ _ _ (@xH.congr (linSym σ K) _ _ _ _ _ (hpo.lft.block _ (hlow k o p1 g1 g2 hp1)) (hOn k o p1 g2 hp1))
   · intro k o hk
     rcases hnew k o hk with ⟨kp,o',p0,p',g1,_,g3,g4,g5,_⟩ | ⟨g1,g2⟩
     · exact ⟨p',g5⟩
     · obtain ⟨p1,hp1⟩:=hTot k o g2
       exact ⟨p1,hle k p1 hp1⟩
   · intro k₁ k₂ o₁ o₂ p₁ p₂ h1 h2 h3 h4 hr e
     rcases hnew k₁ o₁ h1 with ⟨kp1,o1',p01,p1',a1,_,a3,a4,a5,a6,_,a8⟩ | ⟨a1,a2⟩ <;> rcases hnew k₂ o₂ h2 with ⟨kp2,o2',p02,p2',b1,_,b3,b4,b5,b6,_,b8⟩ | ⟨b1,b2⟩
     · rw [a5] at h3; rw [b5] at h4
       injection h3 with h3; injection h4 with h4
       subst h3; subst h4
       have:=pInj kp1 kp2 o1' o2' p01 p02 a1 b1 a4 b4 (.inl (hpo.own kp1 o1' p01 a1 a4).1) (by rw [← a6.1,← b6.1]; exact e)
       subst this
       rw [a8] at b8
       injection b8
     · exfalso
       rw [a5] at h3
       injection h3 with h3; subst h3
       obtain ⟨p1,hp1⟩:=hTot k₂ o₂ b2
       rw [hle k₂ p1 hp1] at h4
       injection h4 with h4; subst h4
       refine hlow k₂ o₂ p1 b1 b2 hp1 ?_
       rw [← e,a6.1]
       exact (hpo.own kp1 o1' p01 a1 a4).2
     · exfalso
       rw [b5] at h4
       injection h4 with h4; subst h4
       obtain ⟨p1,hp1⟩:=hTot k₁ o₁ a2
       rw [hle k₁ p1 hp1] at h3
       injection h3 with h3; subst h3
       refine hlow k₁ o₁ p1 a1 a2 hp1 ?_
       rw [e,b6.1]
       exact (hpo.own kp2 o2' p02 b1 b4).2
     · obtain ⟨p1,hp1⟩:=hTot k₁ o₁ a2
       obtain ⟨p2,hp2⟩:=hTot k₂ o₂ b2
       rw [hle k₁ p1 hp1] at h3
       rw [hle k₂ p2 hp2] at h4
       injection h3 with h3; injection h4 with h4
       subst h3; subst h4
       exact hInj k₁ k₂ o₁ o₂ p1 p2 a2 b2 hp1 hp2 hr e
   · intro B hB hfree
     refine hpo.lft.block B fun hO=>?_
     rcases hOwn B hO with ⟨k0,o0,p0,f1,f2,f3,f4,_⟩ | g
     · exact hfree k0 o0 p0 f1 f2 f3 f4
     · omega
   · intro k o p hk hro hp
     rcases hnew k o hk with ⟨kp,o',p0,p',g1,_,g3,g4,g5,g6,_⟩ | ⟨g1,g2⟩
     · rw [g5] at hp
       injection hp with hp
       subst hp
       have:=(hpo.own kp o' p0 g1 g4).2
       rw [← g6.1] at this
       rcases hOwn _ this with ⟨k0,o0,p00,f1,f2,f3,f4,_⟩ | g
       · exact .inl ⟨k0,o0,p00,f1,f2,f3,f4⟩
       · exact .inr g
     · obtain ⟨p1,hp1⟩:=hTot k o g2
       rw [hle k p1 hp1] at hp
       injection hp with hp
       subst hp
       exact .inl ⟨k,o,p1,g2,hro,hp1,rfl⟩
   · intro k o p hk hp
     rcases hnew k o hk with ⟨kp,o',p0,p',g1,_,g3,g4,g5,g6,_⟩ | ⟨g1,g2⟩
     · rw [g5] at hp
       injection hp with hp
       subst hp
       have:=(hpo.own kp o' p0 g1 g4).2
       rw [← g6.1] at this
       rcases hOwn _ this with ⟨k0,o0,p00,f1,f2,f3,f4,_⟩ | g
       · exact .inl ⟨k0,o0,p00,f1,f3,f4⟩
       · exact .inr g
     · obtain ⟨p1,hp1⟩:=hTot k o g2
       rw [hle k p1 hp1] at hp
       injection hp with hp
       subst hp
       exact .inl ⟨k,o,p1,g2,hp1,rfl⟩
theorem zD5 {σ σT:Nat→Int} {K:zc} {G:Nat} {s:Fs} {ks es:List Key} {θ:TH} {h:zC} {n:Key} {ψ ψ':Psi} {w w':World} {v:Value} (hθ:jy σ σT θ) (hR:@Rel (linSym σ K) ψ (zC.fam h) w) (hfr:xe ψ n)
 (hc:qP (xP s.objs s.ext ks es) (jc s.objs ks) θ h G s.n.ix s.objs ks=true) (he:zC5 (xP s.objs s.ext ks es) G s.n.ix h s.ext es=true):∀ {l:List Po} {po:Po},po∈l→zOy (linSym σT kno) (qQ (xP s.objs s.ext ks es) h [] ψ G 0) s w po v ψ' w'→zb (zAZ s ks es θ h n l) →
 @zl (linSym σ K) ψ (zC.fam h) n w (zAZ s ks es θ h n l) v w'
 | [],_,hm,_,_=>by cases hm
 | [po'],po,hm,hpo,hcl=>by
  rw [List.mem_singleton.1 hm] at hpo
  exact zEv hθ hR hfr hc he hpo hcl
 | po'::po2::r,po,hm,hpo,hcl=>by
  have hcl:zb (uS s ks es θ h n po')∧zb (zAZ s ks es θ h n (po2::r)):=hcl
  rcases List.mem_cons.1 hm with e | hm
  · subst e
    exact .inl (zEv hθ hR hfr hc he hpo hcl.1)
  · exact .inr (zD5 hθ hR hfr hc he (l:=po2::r) hm hpo hcl.2)
theorem zOo {σ:Nat→Int} {K:zc} (hK:KnownOk σ K) {f:FuncId} {G:Nat} (hG:P.globals.size≤G) {s:Fs} (hs:zGr P f s) {args:List CV} {h:zC} {n:Key} {ψ:Psi} {w:World} {args':Array Value} {m mn q:Nat} {ks es:List Key} {θl:TH}
 (hm:m=s.b.length) (hn:mn=m+s.pn) (ha:@zX (linSym σ K) ψ args args'.toList) (hg:kK P ψ) (hR:@Rel (linSym σ K) ψ (zC.fam h) w) (hfr:xe ψ n) (hfit:@zPs (linSym σ K) G s m mn q ks es θl args h=true) (hcl:zb (wS s ks es (sbP θl m mn q s.pn) (θl++jq q s.pn) h n s.posts)) :
 yf P f args' w (@zl (linSym σ K) ψ (zC.fam h) n w (wS s ks es (sbP θl m mn q s.pn) (θl++jq q s.pn) h n s.posts)):=by
 unfold zPs at hfit
 simp only [Bool.and_eq_true] at hfit
 obtain ⟨⟨⟨⟨⟨⟨f4,fp⟩,f1⟩,f2⟩,fe⟩,f3⟩,f5⟩:=hfit
 have hlow:s.b.length=θl.length:=(zIG hK P (σT:=fun i=>match nth θl i with | some q=>evQ σ q | none=>0) (j:=0) f4 (fun i q hi=>by simp only [Nat.zero_add,hi])).1
 have hm':m=θl.length:=by omega
 have hsi:∀ e d,zBG θl m mn q s.pn e d=zAh (θl++jq q s.pn) e d:=zJZ hm' hn
 rw [zDA (fun ρ e=>zT4 hm' hn e)] at hcl ⊢
 rw [kh hsi (fun _ _ _=>rfl)] at f1
 rw [zDI hsi (fun _ _ _=>rfl)] at f2
 rw [zFE hsi (fun _ _ _=>rfl)] at f5
 obtain ⟨θ,hθe⟩:∃ θ,θ=θl++jq q s.pn:=⟨_,rfl⟩
 rw [← hθe] at f1 f2 f5 hcl ⊢
 obtain ⟨σT,hσ⟩:∃ σT:Nat→Int,∀ j,σT j=match nth θ j with | some q=>evQ σ q | none=>0:=⟨_,fun _=>rfl⟩
 have hth:∀ j q,nth θ j=some q→σT j=evQ σ q:=fun j q hj=>by rw [hσ,hj]
 have hlen:s.bA.length=θ.length:=by
  rw [hθe]
  unfold Fs.bA
  rw [List.length_append,List.length_append,zKk,zJB,hlow]
 have hb:yH σT 0 s.bA:=by
  refine zCu (zIG hK P (σT:=σT) (j:=0) f4 (fun i x hi=>?_)).2 fun i hi=>?_
  · rw [Nat.zero_add]
    refine hth i x ?_
    have hlt:i<θl.length:=by
     rw [@ye zR] at hi
     exact (List.getElem?_eq_some_iff.1 hi).1
    rw [hθe,zEQ hlt,hi]
  · have h1:nth θ (0+s.b.length+i)=some (0,[(q+i,1)]):=by
     rw [Nat.zero_add,hlow,hθe,zFO,zF2 hi]
    rw [hth _ _ h1]
    have h2:=zNa fp i hi
    rw [zHB] at h2
    have h3:=hK.b _ _ h2
    show (0:Int)≤0+(1*σ (q+i)+0)∧(0:Int)+(1*σ (q+i)+0)≤255
    simp only at h3
    omega
 have hobj:=kI f2
 have hlen0:=zAd f2
 have f3:=@zL zR _ _ f3
 have hrho:∀ k b,zk (xP s.objs s.ext ks es) k=some b→G≤k.ix∧k.ix<s.n.ix:=by
  intro k b hk
  rcases zMI hlen0 hk with ⟨j,o,h1,h2⟩ | ⟨j,h1,h2⟩
  · obtain ⟨i',o',g1,g2,g3,g4,g5,g6,g7⟩:=hobj j k o h1
    exact ⟨g4,g5⟩
  · obtain ⟨_,a1,a2⟩:=zDn fe j k b h1 h2
    exact ⟨a1,a2⟩
 refine jf (hs σT hb (qQ (xP s.objs s.ext ks es) h [] ψ G 0) w args' (fun σ' K' hag hK'=>?_) ?_ ?_) fun v w' ⟨po,hpo,ψ',hok⟩=>?_
 · have hθ':jy σ σ' θ:=fun j q hj=>by
    have hlt:j<θ.length:=by
     rw [@ye zR] at hj
     exact (List.getElem?_eq_some_iff.1 hj).1
    rw [hag j (by omega)]
    exact hth j q hj
   obtain ⟨c1,c2⟩:=zLz (G:=G) (KT:=K') hθ' hR f2 f5
   exact ⟨km hθ' c2 _ _ f1 ha,c1⟩
 · intro g hg' h4
   obtain ⟨sz,e⟩:=hg g hg' h4
   have hix:(Key.ofNat g).ix=g:=@Key.ix_ofNat zR _ (by omega)
   refine ⟨sz,?_⟩
   have hno:zk (xP s.objs s.ext ks es) (Key.ofNat g)=none:=by
    cases hr:zk (xP s.objs s.ext ks es) (Key.ofNat g) with
    | none=>rfl
    | some b=>have:=(hrho _ _ hr).1; omega
   unfold qQ
   rw [hno]
   simp only [findW]
   rw [if_pos (by omega)]
   exact e
 · intro k hk
   have hno:zk (xP s.objs s.ext ks es) k=none:=by
    cases hr:zk (xP s.objs s.ext ks es) k with
    | none=>rfl
    | some b=>have:=(hrho _ _ hr).2; omega
   unfold qQ
   rw [hno]
   simp only [findW]
   rw [if_neg (by omega)]
 · exact zD5 (fun j q hj=>hth j q hj) hR hfr f2 fe hpo hok hcl
theorem zAy {σ:Nat→Int} {K:zc} (hK:KnownOk σ K) {f:FuncId} {G:Nat} (hG:P.globals.size≤G) {args:List CV} {h:zC} {n:Key} {ψ:Psi} {w:World} {args':Array Value}
 (ha:@zX (linSym σ K) ψ args args'.toList) (hg:kK P ψ) (hR:@Rel (linSym σ K) ψ (zC.fam h) w) (hfr:xe ψ n) {z:R} (hz:zb z→yf P f args' w (@zl (linSym σ K) ψ (zC.fam h) n w z)):∀ {l:List Fs},(∀ s∈l,zGr P f s) →
 zb (@zDP (linSym σ K) G args h n z l)→yf P f args' w (@zl (linSym σ K) ψ (zC.fam h) n w (@zDP (linSym σ K) G args h n z l))
 | [],_,hcl=>hz hcl
 | s::r,hl,hcl=>by
  unfold zDP at hcl ⊢
  split at hcl
  · unfold zPH at hcl ⊢
    simp only [zQZ] at hcl ⊢
    split at hcl
    · exact zAy hK hG ha hg hR hfr hz (fun s' h'=>hl s' (by simp [h'])) hcl
    rename_i ks a hh
    simp only [zII,zLO,zH6] at hcl ⊢
    split at hcl
    · rename_i hfit
      exact zOo hK hG (hl s (by simp)) rfl rfl ha hg hR hfr hfit hcl
    · rename_i hfit
      exact zAy hK hG ha hg hR hfr hz (fun s' h'=>hl s' (by simp [h'])) hcl
  · exact zAy hK hG ha hg hR hfr hz (fun s' h'=>hl s' (by simp [h'])) hcl
def fsF [Sym] (P:Program) (code:FuncId→CFn) (nat:Nats) (fuel G:Nat) (f:FuncId) (l:List Fs) (d:Bool) (args:List CV) (h:zC) (n:Key):R:=match d with
 | true=>ev P code nat fuel true f args h n
 | false=>zDP G args h n (ev P code nat fuel false f args h n) l
def zUG (P:Program) (code:FuncId→CFn) (nat:Nats) (fuel G:Nat) (f:FuncId) (l:List Fs):NatF:=fun S=>@fsF S P code nat fuel G f l
def natF (P:Program) (code:FuncId→CFn) (fuel:Nat) (f:FuncId) (G:Nat) (l:List Fs) (nat:Nats):Nats:=fun g=>Bool.rec (motive:=fun _=>Option NatF) (nat g) (some (zUG P code nat fuel G f l)) (Nat.beq g f)
theorem natF_ok {code:FuncId→CFn} {fuel:Nat} {f:FuncId} {G:Nat} {l:List Fs} {nat:Nats} (hm:P.follows .mixedOrders=true) (hcode:CodeOk P code) (hG:P.globals.size≤G) (hl:∀ s∈l,zGr P f s) (hn:∀ σ K,KnownOk σ K→@NatsOk (linSym σ K) P nat) :
 ∀ σ K,KnownOk σ K→@NatsOk (linSym σ K) P (natF P code fuel f G l nat):=by
 intro σ K hK
 have hc:@ym (linSym σ K) P (@ev (linSym σ K) P code nat fuel):=by
  letI S:Sym:=linSym σ K
  haveI hS:SymFact P:=xX hK
  exact zA5 (fun call hcall F N=>x6 hm hcall) hcode (hn _ _ hK) fuel
 have hn:=hn σ K hK
 have key:∀ g q,natF P code fuel f G l nat g=some q→(g=f∧q=zUG P code nat fuel G f l)∨nat g=some q:=by
  intro g q h
  unfold natF at h
  cases e:Nat.beq g f with
  | true=>
   rw [e] at h
   injection h with h
   exact .inl ⟨Nat.eq_of_beq_eq_true e,h.symm⟩
  | false=>rw [e] at h; exact .inr h
 refine @NatsOk.mk (linSym σ K) P _ (fun g q hg d args h n=>?_) (fun g q hg args h n ψ w args' h1 h2 h3 h4 hcl=>?_) (fun g q hg args h n ψ w args' h1 h2 h3 h4 hcl=>?_)
 · rcases key g q hg with ⟨rfl,rfl⟩ | hg
   · cases d with
     | true=>exact @ym.above (linSym σ K) _ _ hc true g args h n
     | false=>exact @w4 (linSym σ K) G args h n _ (@ym.above (linSym σ K) _ _ hc false g args h n) l
   · exact @NatsOk.above (linSym σ K) _ _ hn g q hg d args h n
 · rcases key g q hg with ⟨rfl,rfl⟩ | hg
   · exact zAy hK hG h1 h2 h3 h4 (fun hz=>@ym.calls (linSym σ K) _ _ hc g args h n ψ w args' h1 h2 h3 h4 hz) hl hcl
   · exact @NatsOk.calls (linSym σ K) _ _ hn g q hg args h n ψ w args' h1 h2 h3 h4 hcl
 · rcases key g q hg with ⟨rfl,rfl⟩ | hg
   · exact @ym.defers (linSym σ K) _ _ hc g args h n ψ w args' h1 h2 h3 h4 hcl
   · exact @NatsOk.defers (linSym σ K) _ _ hn g q hg args h n ψ w args' h1 h2 h3 h4 hcl
end
end Go.Ev
namespace Go.Ev
open Go.RowKit
noncomputable section
variable {P:Program}
def zSw (k:IntKind) (mid:Nat) (n:Key) (v:Int) (r:List Nat):Fs:=⟨[.int k v],[],[],mid,n,[(0,0)],[⟨.str r,[]⟩],[],0,[]⟩
theorem zQi {S:Sym} {ψ:Psi} {w:World}:@Rel S ψ (jp ([]++[])) w:=by
 have hn:∀ k,jp ([]++[]) k=none:=fun k=>by
  show zj k .nil=none
  rw [qh]
 refine @Rel.mk S _ _ _ ?_ ?_ ?_
 · intro k o p hk _; rw [hn] at hk; cases hk
 · intro k o hk; rw [hn] at hk; cases hk
 · intro k₁ k₂ o₁ o₂ p₁ p₂ h1; rw [hn] at h1; cases h1
end
end Go.Ev
