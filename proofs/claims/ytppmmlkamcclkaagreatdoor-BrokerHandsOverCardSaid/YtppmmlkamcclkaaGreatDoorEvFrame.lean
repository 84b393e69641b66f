/- A verified evaluator for the model's code: EvFrame, EvGo. -/
import Derived.Test.YtppmmlkamcclkaaGreatDoorEvSum
set_option linter.unusedSectionVars false
set_option linter.unusedVariables false
set_option linter.unusedSimpArgs false
namespace Go.Ev
open Go.RowKit
noncomputable section
variable {P:Program}
structure Fs where
 args:List CV
 objs:List (Key × CObj)
 ext:List Key
 mid:Nat
 n:Key
 b:List (Int × Int)
 posts:List Po
 ros:List (Key × CObj):=[]
 pn:Nat:=0
 walk:List Nat:=[]
def zIE:Nat→List (Int × Int)
 | 0=>[]
 | n+1=>(0,255)::zIE n
def Fs.bA (s:Fs):List (Int × Int):=s.b++zIE s.pn
def jb (q:Nat):Nat→TH
 | 0=>[]
 | n+1=>(0,[(q,1)])::jb (Nat.succ q) n
theorem zKc:∀ {n:Nat},(zIE n).length=n
 | 0=>rfl
 | n+1=>by show (zIE n).length+1=_; rw [zKc]
theorem zJr:∀ {n q:Nat},(jb q n).length=n
 | 0,_=>rfl
 | n+1,q=>by show (jb (q+1) n).length+1=_; rw [zJr]
theorem zFY:∀ {n q i:Nat},i<n→nth (jb q n) i=some (0,[(q+i,1)])
 | 0,_,_,h=>by omega
 | n+1,q,0,_=>rfl
 | n+1,q,i+1,h=>by
  show nth (jb (q+1) n) i=_
  rw [zFY (by omega),show q+1+i=q+(i+1) from by omega]
theorem zEK {α:Type}:∀ {l m:List α} {i:Nat},i<l.length→nth (l++m) i=nth l i
 | [],_,_,h=>by simp at h
 | _::_,_,0,_=>rfl
 | _::l,m,i+1,h=>zEK (l:=l) (m:=m) (i:=i) (by simpa using h)
theorem zFI {α:Type}:∀ {l m:List α} {i:Nat},nth (l++m) (l.length+i)=nth m i
 | [],_,i=>by rw [show ([]:List α).length+i=i from by simp]; rfl
 | x::l,m,i=>by
  rw [show (x::l).length+i=(l.length+i)+1 from by simp; omega]
  exact zFI (l:=l) (m:=m) (i:=i)
theorem zCl {σ:Nat→Int} {n:Nat}:∀ {b:List (Int × Int)} {j:Nat},zt σ j b→(∀ i,i<n→0≤σ (j+b.length+i)∧σ (j+b.length+i)≤255)→zt σ j (b++zIE n)
 | [],j,_,h=>by
  have key:∀ {n j:Nat},(∀ i,i<n→0≤σ (j+i)∧σ (j+i)≤255)→zt σ j (zIE n):=by
   intro n
   induction n with
   | zero=>intro j _; trivial
   | succ n ih=>
    intro j h
    refine ⟨h 0 (by omega),ih fun i hi=>?_⟩
    have:=h (i+1) (by omega)
    rwa [show j+(i+1)=j+1+i from by omega] at this
  exact key fun i hi=>h i hi
 | q::r,j,hb,h=>⟨hb.1,zCl (b:=r) (j:=j+1) hb.2 fun i hi=>by
  have:=h i hi
  rwa [show j+(q::r).length+i=j+1+r.length+i from by simp; omega] at this⟩
def zPs {α:Type} (m mn:Nat) (l:LL) (y:Nat→α) (z:α):α:=
 List.rec (motive:=fun _=>α) z (fun p r _=>List.rec (motive:=fun _=>α) (Prod.rec (motive:=fun _=>α) (fun j a=>Bool.rec (motive:=fun _=>α) z (Bool.rec (motive:=fun _=>α) z (Bool.rec (motive:=fun _=>α) z (y j) (yA a 1)) (Nat.ble (Nat.succ j) mn)) (Nat.ble m j)) p) (fun _ _ _=>z) r) l
theorem zMS {α:Type} {m mn:Nat} {y:Nat→α} {z:α}:∀ {l:LL},zPs m mn l y z=z∨∃ j,l=[(j,1)]∧m≤j∧j<mn∧zPs m mn l y z=y j
 | []=>.inl rfl
 | _::_::_=>.inl rfl
 | [(j,a)]=>by
  show (Bool.rec (motive:=fun _=>α) z (Bool.rec (motive:=fun _=>α) z (Bool.rec (motive:=fun _=>α) z (y j) (yA a 1)) (Nat.ble (Nat.succ j) mn)) (Nat.ble m j))=z∨∃ j',[(j,a)]=[(j',1)]∧m≤j'∧j'<mn∧(Bool.rec (motive:=fun _=>α) z (Bool.rec (motive:=fun _=>α) z (Bool.rec (motive:=fun _=>α) z (y j) (yA a 1)) (Nat.ble (Nat.succ j) mn)) (Nat.ble m j))=y j'
  cases h1:Nat.ble m j with
  | false=>exact .inl rfl
  | true=>cases h2:Nat.ble (Nat.succ j) mn with
   | false=>exact .inl rfl
   | true=>cases h3:yA a 1 with
    | false=>exact .inl rfl
    | true=>
     rw [@zb noSym,decide_eq_true_eq] at h3
     subst h3
     exact .inr ⟨j,rfl,@zL noSym _ _ h1,@zL noSym _ _ h2,rfl⟩
theorem zKs {θ:TH} {n q j:Nat} (h1:θ.length≤j) (h2:j<θ.length+n):uo (θ++jb q n) [(j,1)]=some (0,[(q+(j - θ.length),1)]):=by
 have h:nth (θ++jb q n) j=some (0,[(q+(j - θ.length),1)]):=by
  rw [show j=θ.length+(j - θ.length) from by omega,zFI,zFY (by omega)]
  congr 4
  omega
 unfold uo uo
 show (match nth (θ++jb q n) j,some ((0:Int),([]:LL)) with
  | some q,some s=>some (1*q.1+s.1,zBX (uq 1 q.2) s.2)
  | _,_=>none)=_
 rw [h]
 rfl
theorem zKq {θ t:TH}:∀ {l:LL} {s:Int × LL},uo θ l=some s→uo (θ++t) l=some s
 | [],s,h=>h
 | p::r,s,h=>by
  unfold uo at h ⊢
  split at h
  · rename_i x y hx hy
    have hlt:p.1<θ.length:=by
     rw [@nth_eq noSym] at hx
     exact (List.getElem?_eq_some_iff.1 hx).1
    rw [zEK hlt,hx,zKq hy]
    exact h
  · cases h
def zLJ (θ:TH) (q n:Nat) (l:LL):Option (Int × LL):=match zKK θ l with
 | some s=>some s
 | none=>zKK (θ++jb q n) l
theorem zNz {θ:TH} {q n:Nat} {l:LL}:zLJ θ q n l=uo (θ++jb q n) l:=by
 unfold zLJ
 rw [zAe,zAe]
 split
 · rename_i s hs
   exact (zKq hs).symm
 · rfl
def zUD (v:CV) (k:SE→Bool):Bool:=CV.rec (motive_1:=fun _=>Bool) (motive_2:=fun _=>Unit) (fun _=>false) (fun _=>false) (fun _ _=>false) (fun _=>false) (fun _=>false) false (fun _ _=>false) false (fun _ _ _ _ _ _=>false) false (fun _=>false) (fun _ _ _ _ _=>false) false (fun _ _ _=>false) false (fun _ _=>false) (fun _ _=>false) k (fun _ _ _ _=>false) (fun _ _=>false) (fun _=>false) (fun _ _=>false) (fun _ _ _ _=>false) false () (fun _ _ _ _=>()) v
def zTF (l:LL) (k:Nat→Bool):Bool:=List.rec (motive:=fun _=>Bool) false (fun p r _=>List.rec (motive:=fun _=>Bool) (Prod.rec (motive:=fun _=>Bool) (fun j a=>jB (yA a 1) (k j)) p) (fun _ _ _=>false) r) l
def zMa (o:Option (Int × LL)) (e:SE) (v:CV):Bool:=match zBC v with
 | some (k,c,l)=>match o with
  | some s=>kEq e.k k&&yA (e.c+s.1) c&&vQ s.2 l
  | none=>false
 | none=>false
def zPk (m q:Nat) (e:SE) (v:CV) (j:Nat):Bool:=zUD v fun e'=>jB (kEq e.k e'.k) (jB (yA e.c e'.c) (zTF e'.l fun i=>Nat.beq (Nat.add i m) (Nat.add q j)))
theorem zSc {m q j:Nat} (h:m≤j):∀ {l:LL},(zTF l fun i=>Nat.beq (Nat.add i m) (Nat.add q j))=vQ [(q+(j - m),1)] l
 | []=>rfl
 | [(i,a)]=>by
  show jB (yA a 1) (Nat.beq (Nat.add i m) (Nat.add q j))=(Nat.beq (q+(j - m)) i&&yA 1 a&&true)
  rw [qb,Bool.and_true,Bool.and_comm,Bool.eq_iff_iff,Bool.and_eq_true,Bool.and_eq_true,@zb noSym,@zb noSym,decide_eq_true_eq,decide_eq_true_eq]
  constructor
  · intro ⟨h1,h2⟩
    have h1:i+m=q+j:=Nat.eq_of_beq_eq_true h1
    refine ⟨?_,h2.symm⟩
    rw [show q+(j - m)=i from by omega]
    exact Nat.beq_refl _
  · intro ⟨h1,h2⟩
    have h1:=Nat.eq_of_beq_eq_true h1
    refine ⟨?_,h2.symm⟩
    rw [show Nat.add i m=Nat.add q j from by show i+m=q+j; omega]
    exact Nat.beq_refl _
 | p::r::t=>by
  show false=(Nat.beq (q+(j - m)) p.1&&yA 1 p.2&&false)
  rw [Bool.and_false]
theorem zPw {m q:Nat} {e:SE} {v:CV} {j:Nat} (h:m≤j):zPk m q e v j=zMa (some (0,[(q+(j - m),1)])) e v:=by
 have hc:∀ c:Int,c+(0:Int)=c:=fun c=>Int.add_zero c
 have key:∀ e':SE,jB (kEq e.k e'.k) (jB (yA e.c e'.c) (zTF e'.l fun i=>Nat.beq (Nat.add i m) (Nat.add q j)))=(kEq e.k e'.k&&yA (e.c+0) e'.c&&vQ [(q+(j - m),1)] e'.l):=by
  intro e'
  rw [qb,qb,zSc h,hc,Bool.and_assoc]
 cases v with
 | sym e'=>exact key e'
 | nat n=>
  show false=(kEq e.k .i64&&yA (e.c+0) (.ofNat n)&&false)
  rw [Bool.and_false]
 | int k c=>
  show false=(kEq e.k k&&yA (e.c+0) c&&false)
  rw [Bool.and_false]
 | _=>rfl
def zBv (θ:TH) (m mn q n:Nat) (e:SE) (v:CV):Bool:=zPs m mn e.l (zPk m q e v) (zMa (zLJ θ q n e.l) e v)
theorem zJP {θ:TH} {m mn q n:Nat} (hm:m=θ.length) (hn:mn=m+n) (e:SE) (v:CV):zBv θ m mn q n e v=zAb (θ++jb q n) e v:=by
 have hs:∀ o,o=uo (θ++jb q n) e.l→zMa o e v=zAb (θ++jb q n) e v:=fun o ho=>by
  subst ho
  rfl
 unfold zBv
 rcases zMS (m:=m) (mn:=mn) (y:=zPk m q e v) (z:=zMa (zLJ θ q n e.l) e v) (l:=e.l) with h | ⟨j,h1,h2,h3,h⟩
 · rw [h]
   exact hs _ zNz
 · rw [h,zPw h2]
   refine hs _ ?_
   rw [h1,hm]
   exact (zKs (by omega) (by omega)).symm
def fN (n:Nat) (k:Nat→CV):CV:=Nat.rec (motive:=fun _=>(Nat→CV)→CV) (fun k=>k 0) (fun m _ k=>k (Nat.succ m)) n k
theorem zUx {n:Nat} {k:Nat→CV}:fN n k=k n:=by cases n <;> rfl
def sbB (o:Option (Int × LL)) (e:SE):CV:=match o with
 | some s=>mkS e.k (e.c+s.1) s.2
 | none=>.any
def sbP (θ:TH) (m mn q n:Nat) (e:SE):CV:=SE.rec (motive:=fun _=>CV) (fun k c l=>zPs m mn l (fun j=>fN (Nat.add q (Nat.sub j m)) fun i=>.sym ⟨k,c,[(i,.ofNat 1)]⟩) (sbB (zLJ θ q n l) ⟨k,c,l⟩)) e
theorem zTJ {ρ:zC} {θ:TH} {m mn q n:Nat} (hm:m=θ.length) (hn:mn=m+n) (e:SE):sbP θ m mn q n e=zy ρ (θ++jb q n) (.sym e):=by
 have hs:∀ o,o=uo (θ++jb q n) e.l→sbB o e=zy ρ (θ++jb q n) (.sym e):=fun o ho=>by
  subst ho
  unfold zy
  rfl
 show zPs m mn e.l (fun j=>fN (Nat.add q (Nat.sub j m)) fun i=>CV.sym ⟨e.k,e.c,[(i,1)]⟩) (sbB (zLJ θ q n e.l) e)=_
 rcases zMS (m:=m) (mn:=mn) (y:=fun j=>fN (Nat.add q (Nat.sub j m)) fun i=>CV.sym ⟨e.k,e.c,[(i,1)]⟩) (z:=sbB (zLJ θ q n e.l) e) (l:=e.l) with h | ⟨j,h1,h2,h3,h⟩
 · rw [h]
   exact hs _ zNz
 · rw [h,← hs (some (0,[(q+(j - m),1)])) (by rw [h1,hm]; exact (zKs (by omega) (by omega)).symm)]
   show fN (Nat.add q (Nat.sub j m)) (fun i=>CV.sym ⟨e.k,e.c,[(i,1)]⟩)=CV.sym ⟨e.k,e.c+0,[(q+(j - m),1)]⟩
   rw [zUx,Int.add_zero]
   rfl
def zTw (n:Nat) (kb:List (Int × Int)):Bool:=Nat.rec (motive:=fun _=>List (Int × Int)→Bool) (fun _=>true) (fun _ ih l=>List.rec (motive:=fun _=>Bool) false (fun x r _=>Prod.rec (motive:=fun _=>Bool) (fun a b=>jB (yA a 0) (jB (yA b 255) (ih r))) x) l) n kb
def zS3 {α:Type} (q:Nat) (l:List α):List α:=Nat.rec (motive:=fun _=>List α→List α) (fun l=>l) (fun _ ih l=>List.rec (motive:=fun _=>List α) [] (fun _ r _=>ih r) l) q l
theorem zHy {α:Type}:∀ {q:Nat} {l:List α} {i:Nat},nth (zS3 q l) i=nth l (q+i)
 | 0,l,i=>by rw [Nat.zero_add]; rfl
 | q+1,[],i=>by
  have h:∀ k,nth ([]:List α) k=none:=fun k=>by cases k <;> rfl
  show nth [] i=nth [] (q+1+i)
  rw [h,h]
 | q+1,x::l,i=>by
  rw [show q+1+i=(q+i)+1 from by omega]
  exact zHy (q:=q) (l:=l) (i:=i)
theorem zMX:∀ {n:Nat} {l:List (Int × Int)},zTw n l=true→∀ i,i<n→nth l i=some (0,255)
 | 0,_,_,i,hi=>by omega
 | n+1,[],h,i,hi=>by cases h
 | n+1,(a,b)::l,h,i,hi=>by
  have h:jB (yA a 0) (jB (yA b 255) (zTw n l))=true:=h
  simp only [qb,Bool.and_eq_true,@zb noSym,decide_eq_true_eq] at h
  obtain ⟨rfl,rfl,h⟩:=h
  cases i with
  | zero=>rfl
  | succ i=>
   show nth l i=some (0,255)
   exact zMX (l:=l) h i (by omega)
def uF (ρ:zC) (si:SE→CV→Bool) (fw:Nat→List (List Nat)→CV→Bool) (l:List CV):List CV→Bool:=
 List.rec (motive:=fun _=>List CV→Bool) (fun _=>true) (fun a _ g m=>List.rec (motive:=fun _=>Bool) false (fun b r _=>jB (zQb ρ si fw a b) (g r)) m) l
def zS5 (ρ:zC) (θ:TH) (si:SE→CV→Bool) (fw:Nat→List (List Nat)→CV→Bool) (o o':CObj):Bool:=match o,o' with
 | .cells a,.cells b=>uF ρ si fw a b
 | o,o'=>zBa ρ θ o o'
def zBI (ρ inv:zC) (θ:TH) (si:SE→CV→Bool) (fw:Nat→List (List Nat)→CV→Bool) (h:zC) (lo hi:Nat):List (Key × CObj)→List Key→Bool
 | [],[]=>true
 | p::r,j::js=>jB (kr ρ p.1 j) <| jB (kr inv j p.1) <| jB (Nat.ble lo p.1.ix) <| jB (Nat.ble (Nat.succ p.1.ix) hi) <| jB (match ze j h with
  | some o=>zS5 ρ θ si fw p.2 o
  | none=>false) (zBI ρ inv θ si fw h lo hi r js)
 | _,_=>false
section
variable {ρ inv:zC} {θ:TH} {si:SE→CV→Bool} {fw:Nat→List (List Nat)→CV→Bool} (hs:∀ e d,si e d=zAb θ e d) (hf:∀ i t d,fw i t d=z8 ρ θ (.few i t) d)
include hs hf
theorem uf:∀ {l m:List CV},uF ρ si fw l m=qL ρ θ l m
 | [],m=>by unfold qL; rfl
 | c::l,[]=>by unfold qL; rfl
 | c::l,d::m=>by
  unfold qL
  rw [← zBx hs hf c d,← uf (l:=l) (m:=m),← qb]
  rfl
theorem zPD {o o':CObj}:zS5 ρ θ si fw o o'=zBa ρ θ o o':=by
 cases o <;> cases o' <;> first | rfl | exact uf hs hf
theorem zDy {h:zC} {lo hi:Nat}:∀ {l:List (Key × CObj)} {ks:List Key},zBI ρ inv θ si fw h lo hi l ks=qI ρ inv θ h lo hi l ks
 | [],[]=>rfl
 | [],_::_=>rfl
 | _::_,[]=>rfl
 | p::r,j::js=>by
  unfold zBI qI
  rw [zDy (l:=r) (ks:=js)]
  cases ze j h <;> simp only [qb,zPD hs hf,Bool.and_assoc]
end
def zDF:List (Key × CObj)→Bool
 | []=>true
 | p::r=>p.2.isRo&&zDF r
theorem zHA:∀ {l:List (Key × CObj)},zDF l=true→∀ q∈l,q.2.isRo=true
 | [],_,q,h=>by simp at h
 | p::r,h,q,hq=>by
  unfold zDF at h
  rw [Bool.and_eq_true] at h
  rcases List.mem_cons.1 hq with rfl | hq
  · exact h.1
  · exact zHA h.2 q hq
theorem vR {b:List (Key × CObj)} {k:Key} {o:CObj}:∀ {a:List (Key × CObj)},wT (a++b) k=some o→wT a k=some o∨(k,o)∈b
 | [],h=>by
  rcases x9 (show ze k (mkH .nil ([]++b))=some o from h) with ⟨j,hj⟩ | hn
  · exact .inr (List.mem_of_getElem? (by simpa using hj))
  · rw [jH] at hn; cases hn
 | p::a,h=>by
  have h:ze k (yj (some p.2) p.1 (mkH .nil (a++b)))=some o:=h
  show ze k (yj (some p.2) p.1 (mkH .nil a))=some o∨_
  rw [@zCO noSym] at h ⊢
  by_cases e:k=p.1
  · rw [if_pos e] at h ⊢
    exact .inl h
  · rw [if_neg e] at h ⊢
    exact vR (a:=a) h
def zOM:List Key→List (Key × CObj)
 | []=>[]
 | k::r=>(k,.cells [])::zOM r
def xH (objs:List (Key × CObj)) (ext ks es:List Key):zC:=je (objs++zOM ext) (ks++es)
theorem zJM:∀ {l:List Key} {i:Nat} {k:Key} {o:CObj},(zOM l)[i]? = some (k,o)→l[i]? = some k
 | [],i,k,o,h=>by simp [zOM] at h
 | x::r,0,k,o,h=>by simp [zOM] at h; simp [h.1]
 | x::r,i+1,k,o,h=>by
  have:=zJM (l:=r) (i:=i) (k:=k) (o:=o) (by simpa [zOM] using h)
  simpa using this
theorem zMv {objs:List (Key × CObj)} {ext ks es:List Key} {k b:Key} (hl:objs.length=ks.length) (h:zk (xH objs ext ks es) k=some b) :
 (∃ (i:Nat) (o:CObj),objs[i]? = some (k,o)∧ks[i]? = some b)∨∃ i:Nat,ext[i]? = some k∧es[i]? = some b:=by
 obtain ⟨j,o,h1,h2⟩:=zF0 h
 rcases Nat.lt_or_ge j objs.length with g | g
 · rw [List.getElem?_append_left g] at h1
   rw [List.getElem?_append_left (by omega)] at h2
   exact .inl ⟨j,o,h1,h2⟩
 · rw [List.getElem?_append_right g] at h1
   rw [List.getElem?_append_right (by omega),← hl] at h2
   exact .inr ⟨_,zJM h1,h2⟩
def zOq (ρ:zC) (ψ:Psi):Psi:=fun k=>match zk ρ k with
 | some j=>ψ j
 | none=>none
theorem zCs {ρ:zC} {ψ:Psi} {k j:Key} (h:zk ρ k=some j):zOq ρ ψ k=ψ j:=by
 unfold zOq
 rw [h]
theorem zD7 {ρ:zC} {ψ:Psi}:zAQ ρ ψ (zOq ρ ψ):=fun k j p hk hp=>⟨p,by rw [zCs (qj hk)]; exact hp,rfl,rfl,rfl⟩
def zM7 (ρ:zC) (θ:TH):List CE→List CE→Bool
 | [],[]=>true
 | a::as,b::bs=>z8 ρ θ a.key b.key&&z8 ρ θ a.val b.val&&Nat.beq a.born b.born&&zM7 ρ θ as bs
 | _,_=>false
def zEJ (ρ:zC) (θ:TH):CObj→CObj→Bool
 | .cells a,.cells b=>uR ρ θ a b
 | .cells a,.full _ b=>uR ρ θ a b
 | .map es c,.map es' c'=>Nat.beq c c'&&zM7 ρ θ es es'
 | _,_=>false
section
variable {σs σT:Nat→Int} {Ks KT:za} {θ:TH} {ρ:zC} {ψs ψT:Psi}
theorem zJv (hθ:ji σs σT θ) (hψ:zAQ ρ ψs ψT) {ck:Nat→Nat}:∀ {as bs:List CE} {l:List MapEntry},zM7 ρ θ as bs=true→@yE (linSym σs Ks) ψs ck bs l→@yE (linSym σT KT) ψT ck as l
 | [],[],l,_,hl=>hl
 | [],_::_,_,h,_=>by cases h
 | _::_,[],_,h,_=>by cases h
 | a::as,b::bs,l,h,hl=>by
  unfold zM7 at h
  simp only [Bool.and_eq_true] at h
  obtain ⟨⟨⟨c1,c2⟩,c3⟩,c4⟩:=h
  have c3:=@zh noSym _ _ c3
  obtain ⟨e,r,rfl,⟨h1,h2,h3⟩,h4⟩:=hl
  exact ⟨e,r,rfl,⟨qH hθ hψ _ _ c1 h1,qH hθ hψ _ _ c2 h2,by rw [h3,c3]⟩,zJv hθ hψ c4 h4⟩
theorem zFq (hθ:ji σs σT θ) (hψ:zAQ ρ ψs ψT) {o o':CObj} (h:zEJ ρ θ o o'=true) {w:World} {p:Pl} (ho:@xB (linSym σs Ks) ψs w p o'):@xB (linSym σT KT) ψT w p o∧o.isRo=false∧o'.isRo=false:=by
 unfold zEJ at h
 split at h
 · rw [jF] at h
   exact ⟨kv hθ hψ h rfl rfl rfl ho,rfl,rfl⟩
 · rw [jF] at h
   exact ⟨kv hθ hψ h rfl rfl rfl (@jE.toCells (linSym σs Ks) _ _ _ _ _ ho),rfl,rfl⟩
 · rename_i es c es' c'
   rw [Bool.and_eq_true] at h
   have hc:=@zh noSym _ _ h.1
   subst hc
   obtain ⟨arr,g1,⟨l0,gp,g2⟩,g3⟩:=ho
   exact ⟨⟨arr,g1,⟨l0,gp,zJv hθ hψ h.2 g2⟩,g3⟩,rfl,rfl⟩
 · cases h
end
def wQ (ρ inv:zC) (θ:TH) (h:zC) (lo hi:Nat):List (Key × CObj)→List Key→Bool
 | [],[]=>true
 | p::r,j::js=>kr ρ p.1 j&&kr inv j p.1&&Nat.ble lo p.1.ix&&Nat.ble (Nat.succ p.1.ix) hi&&(match ze j h with
  | some o=>zEJ ρ θ p.2 o
  | none=>false)&&wQ ρ inv θ h lo hi r js
 | _,_=>false
def zQy (ρ:zC) (θ:TH) (si:SE→CV→Bool) (fw:Nat→List (List Nat)→CV→Bool):CObj→CObj→Bool
 | .cells a,.cells b=>uF ρ si fw a b
 | .cells a,.full _ b=>uF ρ si fw a b
 | o,o'=>zEJ ρ θ o o'
def zAG (ρ inv:zC) (θ:TH) (si:SE→CV→Bool) (fw:Nat→List (List Nat)→CV→Bool) (h:zC) (lo hi:Nat):List (Key × CObj)→List Key→Bool
 | [],[]=>true
 | p::r,j::js=>kr ρ p.1 j&&kr inv j p.1&&Nat.ble lo p.1.ix&&Nat.ble (Nat.succ p.1.ix) hi&&(match ze j h with
  | some o=>zQy ρ θ si fw p.2 o
  | none=>false)&&zAG ρ inv θ si fw h lo hi r js
 | _,_=>false
theorem zOD {ρ:zC} {θ:TH} {si:SE→CV→Bool} {fw:Nat→List (List Nat)→CV→Bool} (hs:∀ e d,si e d=zAb θ e d) (hf:∀ i t d,fw i t d=z8 ρ θ (.few i t) d) {o o':CObj}:zQy ρ θ si fw o o'=zEJ ρ θ o o':=by
 have h:∀ a b,uF ρ si fw a b=uR ρ θ a b:=fun a b=>by rw [uf hs hf,jF]
 cases o <;> cases o' <;> first | rfl | exact h _ _
theorem zCe {ρ inv:zC} {θ:TH} {si:SE→CV→Bool} {fw:Nat→List (List Nat)→CV→Bool} (hs:∀ e d,si e d=zAb θ e d) (hf:∀ i t d,fw i t d=z8 ρ θ (.few i t) d) {h:zC} {lo hi:Nat}:∀ {l:List (Key × CObj)} {ks:List Key},zAG ρ inv θ si fw h lo hi l ks=wQ ρ inv θ h lo hi l ks
 | [],[]=>rfl
 | [],_::_=>rfl
 | _::_,[]=>rfl
 | p::r,j::js=>by
  unfold zAG wQ
  rw [zCe hs hf (l:=r) (ks:=js)]
  cases ze j h <;> simp only [zOD hs hf]
theorem zAd {ρ inv:zC} {θ:TH} {h:zC} {lo hi:Nat}:∀ {objs:List (Key × CObj)} {ks:List Key},wQ ρ inv θ h lo hi objs ks=true→objs.length=ks.length∧∀ (j:Nat) (k:Key) (o:CObj),objs[j]? = some (k,o) →
 ∃ i o',ks[j]? = some i∧zk ρ k=some i∧zk inv i=some k∧lo≤k.ix∧k.ix<hi∧ze i h=some o'∧zEJ ρ θ o o'=true
 | [],[],_=>⟨rfl,fun j k o hj=>by simp at hj⟩
 | [],_::_,hc=>by cases hc
 | _::_,[],hc=>by cases hc
 | p::r,i::is,hc=>by
  unfold wQ at hc
  simp only [Bool.and_eq_true] at hc
  obtain ⟨⟨⟨⟨⟨c1,c2⟩,c3⟩,c4⟩,c5⟩,c6⟩:=hc
  obtain ⟨hl,hr⟩:=zAd c6
  refine ⟨by simp [hl],fun j k o hj=>?_⟩
  cases j with
  | zero=>
   simp at hj
   subst hj
   split at c5
   · rename_i o' ho
     exact ⟨i,o',rfl,qj c1,qj c2,@zL noSym _ _ c3,@zL noSym _ _ c4,ho,c5⟩
   · cases c5
  | succ j=>
   obtain ⟨i',o',h1,h2⟩:=hr j k o (by simpa using hj)
   exact ⟨i',o',by simpa using h1,h2⟩
theorem zL3 {σs σT:Nat→Int} {Ks KT:za} {θ:TH} {ρ inv:zC} {objs:List (Key × CObj)} {ks:List Key} {h:zC} {lo hi:Nat} {ψ:Psi} {w:World} (hθ:ji σs σT θ) (hR:@Rel (linSym σs Ks) ψ (zC.fam h) w)
 (hc:wQ ρ inv θ h lo hi objs ks=true) :
 @Rel (linSym σT KT) (zOq ρ ψ) (wT objs) w ∧
 (∀ k o p,wT objs k=some o→zOq ρ ψ k=some p→o.isRo=false∧∃ k0 o0,zC.fam h k0=some o0∧o0.isRo=false∧ψ k0=some p):=by
 have hTot:∀ k o,zC.fam h k=some o→∃ p,ψ k=some p:=@Rel.tot (linSym σs Ks) _ _ _ hR
 have hOn:∀ k o p,zC.fam h k=some o→ψ k=some p→@xB (linSym σs Ks) ψ w p o:=@Rel.on (linSym σs Ks) _ _ _ hR
 have hInj:=@Rel.inj (linSym σs Ks) _ _ _ hR
 have hobj:=(zAd hc).2
 have hfam:∀ k o p,wT objs k=some o→zOq ρ ψ k=some p→∃ b o',zk ρ k=some b∧zk inv b=some k∧zC.fam h b=some o'∧ψ b=some p∧zEJ ρ θ o o'=true:=by
  intro k o p hk hp
  rcases x9 hk with ⟨j,hj⟩ | hn
  · obtain ⟨b,o',g1,g2,g3,g4,g5,g6,g7⟩:=hobj j k o hj
    rw [zCs g2] at hp
    exact ⟨b,o',g2,g3,g6,hp,g7⟩
  · rw [jH] at hn; cases hn
 refine ⟨?_,?_⟩
 · refine @Rel.mk (linSym σT KT) _ _ _ ?_ ?_ ?_
   · intro k o p hk hp
     obtain ⟨b,o',g1,g2,g3,g4,g5⟩:=hfam k o p hk hp
     exact (zFq hθ zD7 g5 (hOn b o' p g3 g4)).1
   · intro k o hk
     rcases x9 hk with ⟨j,hj⟩ | hn
     · obtain ⟨b,o',g1,g2,g3,g4,g5,g6,g7⟩:=hobj j k o hj
       obtain ⟨p0,hp0⟩:=hTot b o' g6
       exact ⟨p0,by rw [zCs g2]; exact hp0⟩
     · rw [jH] at hn; cases hn
   · intro k₁ k₂ o₁ o₂ p₁ p₂ h1 h2 h3 h4 hr e
     obtain ⟨b1,o1',g1,g2,g3,g4,g5⟩:=hfam _ _ _ h1 h3
     obtain ⟨b2,o2',f1,f2,f3,f4,f5⟩:=hfam _ _ _ h2 h4
     have:=hInj b1 b2 _ _ _ _ g3 f3 g4 f4 (.inl (zFq (KT:=KT) (σT:=σT) hθ zD7 g5 (hOn b1 o1' _ g3 g4)).2.2) e
     subst this
     rw [g2] at f2
     injection f2
 · intro k o p hk hp
   obtain ⟨b,o',g1,g2,g3,g4,g5⟩:=hfam k o p hk hp
   have hro:=(zFq (KT:=KT) (σT:=σT) hθ zD7 g5 (hOn b o' p g3 g4)).2
   exact ⟨hro.1,b,o',g3,hro.2,g4⟩
structure zR6 (S:Sym) (ψ:Psi) (s:Fs) (w:World) (po:Po) (v:Value) (ψ':Psi) (w':World):Prop where
 ext:∀ k∈s.ext,k.ix<s.n.ix→ψ' k=ψ k
 pin:∀ (i:Nat) k o,po.objs[i]? = some (k,o)→k.ix<s.mid→∀ p,ψ k=some p→ψ' k=some p
 rel:@Rel S ψ' (wT po.objs) w'
 val:@zH S ψ' po.v v
 own:∀ k o p,wT po.objs k=some o→ψ' k=some p→o.isRo=false∧zGw ψ s.objs w p.blk
 lft:Lft (zGw ψ s.objs w) w w'
def FsOk (P:Program) (f:FuncId) (s:Fs):Prop:=∀ (σ:Nat→Int),zt σ 0 s.bA→∀ (ψ:Psi) (w:World) (args':Array Value),
 (∀ σ' K',(∀ j,j<s.bA.length→σ' j=σ j)→K'.arg=noA→@zT (linSym σ' K') ψ s.args args'.toList∧@Rel (linSym σ' K') ψ (wT (s.objs++s.ros)) w)→wd P ψ→qW ψ s.n →
 ya P f args' w fun v w'=>∃ po∈s.posts,∃ ψ',zR6 (linSym σ kno) ψ s w po v ψ' w'
def zTn (k j:Key) (a:HA):HA:=match Nat.ble 32768 k.ix with
 | true=>⟨a.f,a.b,a.c,(k.ix,.ofNat j.ix,[])::a.th⟩
 | false=>match Nat.beq k.ix a.c with
  | true=>⟨a.f,j::a.b,Nat.succ a.c,a.th⟩
  | false=>a
def zUl (pm:Nat) (e:SE) (v:CV) (a:HA):HA:=List.rec (motive:=fun _=>HA) a (fun p r _=>List.rec (motive:=fun _=>HA) (Prod.rec (motive:=fun _=>HA) (fun j _=>Bool.rec (motive:=fun _=>HA) (zUb e v a) a (Nat.ble (Nat.succ pm) j)) p) (fun _ _ _=>a) r) e.l
def gV (pm:Nat) (c:CV):CV→HA→HA:=CV.rec (motive_1:=fun _=>CV→HA→HA) (motive_2:=fun _=>List CV→HA→HA)
 (fun x0 d a=>a)
 (fun x0 d a=>a)
 (fun x0 x1 d a=>a)
 (fun x0 d a=>a)
 (fun x0 d a=>a)
 (fun d a=>a)
 (fun x0 x1 d a=>(CV.rec (motive_1:=fun _=>HA→HA) (motive_2:=fun _=>Unit) (fun _=>(fun a=>a)) (fun _=>(fun a=>a)) (fun _ _=>(fun a=>a)) (fun _=>(fun a=>a)) (fun _=>(fun a=>a)) (fun a=>a) (fun y0 y1=>(fun a=>zTn x0 y0 a)) (fun a=>a) (fun _ _ _ _ _ _=>(fun a=>a)) (fun a=>a) (fun _=>(fun a=>a)) (fun _ _ _ _ _=>(fun a=>a)) (fun a=>a) (fun _ _ _=>(fun a=>a)) (fun a=>a) (fun _ _=>(fun a=>a)) (fun _ _=>(fun a=>a)) (fun _=>(fun a=>a)) (fun _ _ _ _=>(fun a=>a)) (fun _ _=>(fun a=>a)) (fun _=>(fun a=>a)) (fun _ _=>(fun a=>a)) (fun _ _ _ _=>(fun a=>a)) (fun a=>a) () (fun _ _ _ _=>()) d) a)
 (fun d a=>a)
 (fun x0 x1 x2 x3 x4 x5 d a=>(CV.rec (motive_1:=fun _=>HA→HA) (motive_2:=fun _=>Unit) (fun _=>(fun a=>a)) (fun _=>(fun a=>a)) (fun _ _=>(fun a=>a)) (fun _=>(fun a=>a)) (fun _=>(fun a=>a)) (fun a=>a) (fun _ _=>(fun a=>a)) (fun a=>a) (fun y0 y1 y2 y3 y4 y5=>(fun a=>zTn x0 y0 a)) (fun a=>a) (fun _=>(fun a=>a)) (fun _ _ _ _ _=>(fun a=>a)) (fun a=>a) (fun _ _ _=>(fun a=>a)) (fun a=>a) (fun _ _=>(fun a=>a)) (fun _ _=>(fun a=>a)) (fun _=>(fun a=>a)) (fun _ _ _ _=>(fun a=>a)) (fun _ _=>(fun a=>a)) (fun _=>(fun a=>a)) (fun _ _=>(fun a=>a)) (fun _ _ _ _=>(fun a=>a)) (fun a=>a) () (fun _ _ _ _=>()) d) a)
 (fun d a=>a)
 (fun x0 d a=>(CV.rec (motive_1:=fun _=>HA→HA) (motive_2:=fun _=>Unit) (fun _=>(fun a=>a)) (fun _=>(fun a=>a)) (fun _ _=>(fun a=>a)) (fun _=>(fun a=>a)) (fun _=>(fun a=>a)) (fun a=>a) (fun _ _=>(fun a=>a)) (fun a=>a) (fun _ _ _ _ _ _=>(fun a=>a)) (fun a=>a) (fun y0=>(fun a=>zTn x0 y0 a)) (fun _ _ _ _ _=>(fun a=>a)) (fun a=>a) (fun _ _ _=>(fun a=>a)) (fun a=>a) (fun _ _=>(fun a=>a)) (fun _ _=>(fun a=>a)) (fun _=>(fun a=>a)) (fun _ _ _ _=>(fun a=>a)) (fun _ _=>(fun a=>a)) (fun _=>(fun a=>a)) (fun _ _=>(fun a=>a)) (fun _ _ _ _=>(fun a=>a)) (fun a=>a) () (fun _ _ _ _=>()) d) a)
 (fun x0 x1 x2 ha hc d a=>(CV.rec (motive_1:=fun _=>HA→HA) (motive_2:=fun _=>Unit) (fun _=>(fun a=>a)) (fun _=>(fun a=>a)) (fun _ _=>(fun a=>a)) (fun _=>(fun a=>a)) (fun _=>(fun a=>a)) (fun a=>a) (fun _ _=>(fun a=>a)) (fun a=>a) (fun _ _ _ _ _ _=>(fun a=>a)) (fun a=>a) (fun _=>(fun a=>a)) (fun y0 y1 y2 _ _=>(fun a=>hc y2 (ha y1 a))) (fun a=>a) (fun _ _ _=>(fun a=>a)) (fun a=>a) (fun _ _=>(fun a=>a)) (fun _ _=>(fun a=>a)) (fun _=>(fun a=>a)) (fun _ _ _ _=>(fun a=>a)) (fun _ _=>(fun a=>a)) (fun _=>(fun a=>a)) (fun _ _=>(fun a=>a)) (fun _ _ _ _=>(fun a=>a)) (fun a=>a) () (fun _ _ _ _=>()) d) a)
 (fun d a=>a)
 (fun x0 x1 hv d a=>(CV.rec (motive_1:=fun _=>HA→HA) (motive_2:=fun _=>Unit) (fun _=>(fun a=>a)) (fun _=>(fun a=>a)) (fun _ _=>(fun a=>a)) (fun _=>(fun a=>a)) (fun _=>(fun a=>a)) (fun a=>a) (fun _ _=>(fun a=>a)) (fun a=>a) (fun _ _ _ _ _ _=>(fun a=>a)) (fun a=>a) (fun _=>(fun a=>a)) (fun _ _ _ _ _=>(fun a=>a)) (fun a=>a) (fun y0 y1 _=>(fun a=>hv y1 a)) (fun a=>a) (fun _ _=>(fun a=>a)) (fun _ _=>(fun a=>a)) (fun _=>(fun a=>a)) (fun _ _ _ _=>(fun a=>a)) (fun _ _=>(fun a=>a)) (fun _=>(fun a=>a)) (fun _ _=>(fun a=>a)) (fun _ _ _ _=>(fun a=>a)) (fun a=>a) () (fun _ _ _ _=>()) d) a)
 (fun d a=>a)
 (fun x0 hl d a=>(CV.rec (motive_1:=fun _=>HA→HA) (motive_2:=fun _=>Unit) (fun _=>(fun a=>a)) (fun _=>(fun a=>a)) (fun _ _=>(fun a=>a)) (fun _=>(fun a=>a)) (fun _=>(fun a=>a)) (fun a=>a) (fun _ _=>(fun a=>a)) (fun a=>a) (fun _ _ _ _ _ _=>(fun a=>a)) (fun a=>a) (fun _=>(fun a=>a)) (fun _ _ _ _ _=>(fun a=>a)) (fun a=>a) (fun _ _ _=>(fun a=>a)) (fun a=>a) (fun y0 _=>(fun a=>hl y0 a)) (fun _ _=>(fun a=>a)) (fun _=>(fun a=>a)) (fun _ _ _ _=>(fun a=>a)) (fun _ _=>(fun a=>a)) (fun _=>(fun a=>a)) (fun _ _=>(fun a=>a)) (fun _ _ _ _=>(fun a=>a)) (fun a=>a) () (fun _ _ _ _=>()) d) a)
 (fun x0 hl d a=>(CV.rec (motive_1:=fun _=>HA→HA) (motive_2:=fun _=>Unit) (fun _=>(fun a=>a)) (fun _=>(fun a=>a)) (fun _ _=>(fun a=>a)) (fun _=>(fun a=>a)) (fun _=>(fun a=>a)) (fun a=>a) (fun _ _=>(fun a=>a)) (fun a=>a) (fun _ _ _ _ _ _=>(fun a=>a)) (fun a=>a) (fun _=>(fun a=>a)) (fun _ _ _ _ _=>(fun a=>a)) (fun a=>a) (fun _ _ _=>(fun a=>a)) (fun a=>a) (fun _ _=>(fun a=>a)) (fun y0 _=>(fun a=>hl y0 a)) (fun _=>(fun a=>a)) (fun _ _ _ _=>(fun a=>a)) (fun _ _=>(fun a=>a)) (fun _=>(fun a=>a)) (fun _ _=>(fun a=>a)) (fun _ _ _ _=>(fun a=>a)) (fun a=>a) () (fun _ _ _ _=>()) d) a)
 (fun x0 d a=>zUl pm x0 d a)
 (fun x0 x1 x2 x3 d a=>a)
 (fun x0 hl d a=>(CV.rec (motive_1:=fun _=>HA→HA) (motive_2:=fun _=>Unit) (fun _=>(fun a=>a)) (fun _=>(fun a=>a)) (fun _ _=>(fun a=>a)) (fun _=>(fun a=>a)) (fun y0=>(fun a=>hl (xo y0) a)) (fun a=>a) (fun _ _=>(fun a=>a)) (fun a=>a) (fun _ _ _ _ _ _=>(fun a=>a)) (fun a=>a) (fun _=>(fun a=>a)) (fun _ _ _ _ _=>(fun a=>a)) (fun a=>a) (fun _ _ _=>(fun a=>a)) (fun a=>a) (fun _ _=>(fun a=>a)) (fun _ _=>(fun a=>a)) (fun _=>(fun a=>a)) (fun _ _ _ _=>(fun a=>a)) (fun y0 _=>(fun a=>hl y0 a)) (fun _=>(fun a=>a)) (fun _ _=>(fun a=>a)) (fun _ _ _ _=>(fun a=>a)) (fun a=>a) () (fun _ _ _ _=>()) d) a)
 (fun x0 d a=>a)
 (fun x0 x1 d a=>zTX x0 x1 d a)
 (fun x0 x1 x2 x3 d a=>a)
 (fun d a=>a)
 (fun _ a=>a)
 (fun _ _ h g m a=>List.rec (motive:=fun _=>HA) a (fun b r _=>g r (h b a)) m) c
def gVs (pm:Nat) (l m:List CV) (a:HA):HA:=gV pm (.agg l) (.agg m) a
def gEs (pm:Nat):List CE→List CE→HA→HA
 | x::xs,y::ys,a=>gEs pm xs ys (gV pm x.val y.val (gV pm x.key y.key a))
 | _,_,a=>a
def gZ (pm:Nat):List (CV × CV)→List (CV × CV)→HA→HA
 | x::xs,y::ys,a=>gZ pm xs ys (gV pm x.2 y.2 a)
 | x::xs,[],a=>gZ pm xs [] (gV pm x.2 (.str []) a)
 | _,_,a=>a
def gO (pm:Nat):CObj→CObj→HA→HA
 | .cells x,.cells y,a=>gVs pm x y a
 | .cells x,.full _ y,a=>gVs pm x y a
 | .map x _,.map y _,a=>gEs pm x (vB y) a
 | .mapz x,.mapz y,a=>gZ pm x y a
 | .mapz x,.map _ _,a=>gZ pm x [] a
 | _,_,a=>a
def gOR (pm:Nat) (o o':CObj) (a:HA):HA:=match o,o' with
 | .map x _,.map y _=>gEs pm x y a
 | o,o'=>gO pm o o' a
def zSV (pm:Nat) (h:zC):List (Key × CObj)→HA→List Key→List Key × HA
 | [],a,ks=>(ks.reverse,a)
 | p::r,a,ks=>match zR3 a with
  | none=>(ks.reverse,a)
  | some (j,a)=>match ze j h with
   | some o=>zSV pm h r (gOR pm p.2 o a) (j::ks)
   | none=>(ks.reverse,a)
def zT1 (th:List (Nat × Int × LL)):List Key→List Key
 | []=>[]
 | k::r=>(match (zI7 k.ix th).1 with
  | .ofNat m=>Key.ofNat m
  | .negSucc _=>k)::zT1 th r
def zUF (v:Int × LL):Key:=match v.1 with
 | .ofNat m=>Key.ofNat m
 | .negSucc _=>Key.ofNat 0
def zUW (th:List (Nat × Int × LL)) (n:Nat) (acc:List Key):Option (List Key):=List.rec (motive:=fun _=>Nat→List Key→Option (List Key)) (fun n acc=>Bool.rec (motive:=fun _=>Option (List Key)) none (some acc) (Nat.beq n 0))
 (fun q _ ih n acc=>Prod.rec (motive:=fun _=>Option (List Key)) (fun i v=>Bool.rec (motive:=fun _=>Option (List Key)) (ih n acc) (ih (Nat.sub n 1) (zUF v::acc)) (Nat.beq i (Nat.add 32767 n))) q) th n acc
def zUj (th:List (Nat × Int × LL)) (ext:List Key):List Key:=match zUW th ext.length [] with
 | some l=>l
 | none=>zT1 th ext
def zTr (mid:Nat):List (Key × CObj)→List Key
 | []=>[]
 | p::r=>match Nat.ble mid p.1.ix with
  | true=>zTr mid r
  | false=>p.1::zTr mid r
def zRq (mid:Nat):List (Key × CObj)→List Key→Bool
 | [],[]=>true
 | p::r,j::js=>(match Nat.ble mid p.1.ix with
  | true=>true
  | false=>Nat.beq p.1.ix j.ix)&&zRq mid r js
 | _,_=>false
theorem zNd {mid:Nat}:∀ {l:List (Key × CObj)} {ks:List Key},zRq mid l ks=true→∀ (i:Nat) k o j,l[i]? = some (k,o)→ks[i]? = some j→k.ix<mid→j=k
 | [],_,_,i,k,o,j,h1,_,_=>by simp at h1
 | _::_,[],h,_,_,_,_,_,_,_=>by cases h
 | p::r,x::js,h,i,k,o,j,h1,h2,hk=>by
  unfold zRq at h
  rw [Bool.and_eq_true] at h
  cases i with
  | zero=>
   simp at h1 h2
   subst h1 h2
   have h3:=h.1
   split at h3
   · rename_i hb
     have:=@zL noSym _ _ hb
     simp only at this hk
     omega
   · exact (@Key.ix_inj noSym _ _ (Nat.eq_of_beq_eq_true h3)).symm
  | succ i=>exact zNd h.2 i k o j (by simpa using h1) (by simpa using h2) hk
theorem zMj {t:List (Int × Int)}:∀ {r:List (Int × Int)} {j:Nat},thK (r++t) j=thK r j++thK t (j+r.length)
 | [],j=>rfl
 | x::r,j=>by
  show (0,[(j,1)])::thK (r++t) (j+1)=(0,[(j,1)])::(thK r (j+1)++thK t (j+(r.length+1)))
  rw [zMj,show j+1+r.length=j+(r.length+1) from by omega]
theorem zRf:∀ {n j:Nat},thK (zIE n) j=jb j n
 | 0,_=>rfl
 | n+1,j=>by
  show (0,[(j,1)])::thK (zIE n) (j+1)=(0,[(j,1)])::jb (j+1) n
  rw [zRf]
theorem zRH:∀ {b:List (Int × Int)},(thS b).length=b.length:=by
 have key:∀ {r:List (Int × Int)} {j:Nat},(thK r j).length=r.length:=by
  intro r
  induction r with
  | nil=>intro j; rfl
  | cons x r ih=>intro j; show (thK r (j+1)).length+1=_; rw [ih]; rfl
 intro b
 cases b with
 | nil=>rfl
 | cons x r=>show (thK r 1).length+1=_; rw [key]; rfl
def zQc (s:Fs):Bool:=match s.b with
 | []=>Nat.beq s.pn 0
 | _=>true
theorem zTC {s:Fs} (h:zQc s=true):thS s.bA=thS s.b++jb s.b.length s.pn:=by
 unfold Fs.bA
 cases hb:s.b with
 | nil=>
  unfold zQc at h
  rw [hb] at h
  have e:s.pn=0:=Nat.eq_of_beq_eq_true h
  rw [e]
  rfl
 | cons x r=>
  show (0,[])::thK (r++zIE s.pn) 1=(0,[])::(thK r 1++jb (r.length+1) s.pn)
  rw [zMj,zRf,Nat.add_comm 1]
def fNB (n:Nat) (k:Nat→Bool):Bool:=Nat.rec (motive:=fun _=>(Nat→Bool)→Bool) (fun k=>k 0) (fun m _ k=>k (Nat.succ m)) n k
theorem zPX {n:Nat} {k:Nat→Bool}:fNB n k=k n:=by cases n <;> rfl
def zLk (G:Nat) (s:Fs) (m mn:Nat) (po:Po) (v:CV) (h:zC) (n:Key) (ks:List Key):Bool:=
 zQc s&&zAG (xH po.objs s.ext ks s.ext) (jR po.objs ks) (thS s.bA) (zBv (thS s.b) m mn m s.pn) (fun i t d=>z8 (xH po.objs s.ext ks s.ext) (thS s.bA) (.few i t) d) h G 65535 po.objs ks&&zQb (xH po.objs s.ext ks s.ext) (zBv (thS s.b) m mn m s.pn) (fun i t d=>z8 (xH po.objs s.ext ks s.ext) (thS s.bA) (.few i t) d) po.v v&&zRq s.mid po.objs ks&&zEW (xH po.objs s.ext ks s.ext) s.ext&&Nat.ble (Nat.succ n.ix) 65535
def zEN (G:Nat) (s:Fs) (po:Po) (v:CV) (h:zC) (n:Key) (ks:List Key):Bool:=
 wQ (xH po.objs s.ext ks s.ext) (jR po.objs ks) (thS s.bA) h G 65535 po.objs ks&&z8 (xH po.objs s.ext ks s.ext) (thS s.bA) po.v v&&zRq s.mid po.objs ks&&zEW (xH po.objs s.ext ks s.ext) s.ext&&Nat.ble (Nat.succ n.ix) 65535
theorem zOj {G:Nat} {s:Fs} {m mn:Nat} {po:Po} {v:CV} {h:zC} {n:Key} {ks:List Key} (hm:m=s.b.length) (hn:mn=m+s.pn) (hc:zLk G s m mn po v h n ks=true):zEN G s po v h n ks=true:=by
 unfold zLk at hc
 simp only [Bool.and_eq_true] at hc
 obtain ⟨⟨⟨⟨⟨c0,c1⟩,c2⟩,c3⟩,c4⟩,c5⟩:=hc
 have hs:∀ e d,zBv (thS s.b) m mn m s.pn e d=zAb (thS s.bA) e d:=fun e d=>by
  rw [zJP (by rw [zRH]; exact hm) hn,zTC c0,hm]
 rw [zCe hs (fun _ _ _=>rfl)] at c1
 rw [zBx hs (fun _ _ _=>rfl)] at c2
 unfold zEN
 simp only [Bool.and_eq_true]
 exact ⟨⟨⟨⟨c1,c2⟩,c3⟩,c4⟩,c5⟩
def zKY (s:Fs) (po:Po) (v:CV) (h:zC) (k:List Key→Bool):Bool:=fNB (List.length s.b) fun m=>match zSV m h po.objs (gV m po.v v ⟨zTr s.mid po.objs,[],s.mid,[]⟩) [] with
 | (ks,_)=>zCS ks k
theorem zI2 {s:Fs} {po:Po} {v:CV} {h:zC} {k:List Key→Bool} (hh:zKY s po v h k=true):∃ x,k x=true:=by
 unfold zKY at hh
 rw [zPX] at hh
 split at hh
 rw [vn] at hh
 exact ⟨_,hh⟩
def zJD (G:Nat) (s:Fs) (v:CV) (h:zC) (n:Key):List Po→Bool
 | []=>false
 | po::r=>match zKY s po v h (fun ks=>fNB (List.length s.b) fun m=>fNB (Nat.add m s.pn) fun mn=>zLk G s m mn po v h n ks) with
  | true=>true
  | false=>zJD G s v h n r
theorem zES {G:Nat} {s:Fs} {v:CV} {h:zC} {n:Key}:∀ {l:List Po},zJD G s v h n l=true→∃ po∈l,∃ ks,zEN G s po v h n ks=true
 | [],hh=>by cases hh
 | po::r,hh=>by
  unfold zJD at hh
  split at hh
  · rename_i h1
    obtain ⟨ks,hk⟩:=zI2 h1
    simp only [zPX] at hk
    exact ⟨po,by simp,ks,zOj rfl rfl hk⟩
  · obtain ⟨po',h1,h2⟩:=zES hh
    exact ⟨po',by simp [h1],h2⟩
def qB (G:Nat) (s:Fs):R→Bool
 | .ret v h n=>zJD G s v h n s.posts
 | .fork a b=>qB G s a&&qB G s b
 | _=>false
theorem wD {G:Nat} {s:Fs}:∀ {r:R},qB G s r=true→zX r
 | .ok ..,h=>by cases h
 | .ret v hh n,h=>by
  obtain ⟨po,_,ks,hk⟩:=zES (show zJD G s v hh n s.posts=true from h)
  unfold zEN at hk
  rw [Bool.and_eq_true] at hk
  exact @zL noSym _ _ hk.2
 | .err _,h=>by cases h
 | .fork a b,h=>by
  have h:(qB G s a&&qB G s b)=true:=h
  rw [Bool.and_eq_true] at h
  exact ⟨wD h.1,wD h.2⟩
theorem vu {S:Sym} {G:Nat} {s:Fs} {ψ₀:Psi} {g₀:Fam} {n₀:Key} {w₀:World} {v:Value} {w:World}:∀ {r:R},qB G s r=true→@zo S ψ₀ g₀ n₀ w₀ r v w →
 ∃ (cv:CV) (h:zC) (n:Key) (ψ:Psi),@yF S ψ₀ g₀ n₀ w₀ ψ (zC.fam h) n w∧@zH S ψ cv v∧∃ po∈s.posts,∃ ks,zEN G s po cv h n ks=true
 | .ok ..,h,_=>by cases h
 | .ret cv hh n,h,⟨ψ,h1,h2⟩=>⟨cv,hh,n,ψ,h1,h2,zES h⟩
 | .err _,h,_=>by cases h
 | .fork a b,h,ho=>by
  have h:(qB G s a&&qB G s b)=true:=h
  rw [Bool.and_eq_true] at h
  rcases ho with ho | ho
  · exact vu h.1 ho
  · exact vu h.2 ho
theorem zUr {σ σ0:Nat→Int} {K K0:za} {G:Nat} {s:Fs} {po:Po} {ψ ψ':Psi} {n':Key} {w w':World} {v:Value} {cv:CV} {h:zC} {ks:List Key}
 (h0:∀ x r,s.bA=x::r→σ0 0=0) (hk:∀ j,1≤j→j<s.bA.length→σ j=σ0 j)
 (hro:zDF s.ros=true) (hp:@yF (linSym σ K) ψ (wT (s.objs++s.ros)) s.n w ψ' (zC.fam h) n' w') (hv:@zH (linSym σ K) ψ' cv v) (hc:zEN G s po cv h n' ks=true):∃ ψT,zR6 (linSym σ0 K0) ψ s w po v ψT w':=by
 unfold zEN at hc
 simp only [Bool.and_eq_true] at hc
 obtain ⟨⟨⟨⟨c1,c2⟩,c3⟩,c4⟩,_⟩:=hc
 have hθ:=zTg h0 hk
 obtain ⟨hlen,hobj⟩:=zAd c1
 obtain ⟨r1,r2⟩:=zL3 (KT:=K0) hθ (@yF.rel (linSym σ K) _ _ _ _ _ _ _ _ hp) c1
 have hm:∀ k o p,wT (s.objs++s.ros) k=some o→o.isRo=false→ψ k=some p→zGw ψ s.objs w p.blk:=fun k o p g1 g2 g3=>by
  rcases vR g1 with g1 | g1
  · exact .inl ⟨k,o,p,g1,g3,rfl⟩
  · have:=zHA hro _ g1
    simp only at this
    rw [this] at g2; cases g2
 refine ⟨_,⟨fun k hk hlt=>?_,fun i k o hi hmid p hp0=>?_,r1,qH hθ zD7 po.v cv c2 hv,fun k o p q1 q2=>?_,zQG (Lft.refl _ _) hp zJJ hm⟩⟩
 · rw [zCs (qj (zGE c4 k hk))]
   exact @yF.out (linSym σ K) _ _ _ _ _ _ _ _ hp k (.inl hlt)
 · obtain ⟨j,o',g1,g2,_⟩:=hobj i k o hi
   obtain rfl:=zNd c3 i k o j hi g1 hmid
   rw [zCs g2]
   exact @yF.ext (linSym σ K) _ _ _ _ _ _ _ _ hp _ p hp0
 · obtain ⟨f1,k0,o0,f2,f3,f4⟩:=r2 k o p q1 q2
   exact ⟨f1,zRm (Lft.refl _ _) hp zJJ hm k0 o0 p f2 f3 f4⟩
section
variable {code:FuncId→CFn} {nat:Nats} {fuel:Nat} {f:FuncId} {G:Nat} {s:Fs}
theorem zKt {tree:LTree} {ls:List Lf} (hm:P.follows .mixedOrders=true) (hcode:CodeOk P code) (hnat:∀ σ K,KnownOk σ K→@NatsOk (linSym σ K) P nat)
 (hls:leaves [] tree ⟨s.bA,[],[],[],1000⟩=some ls) (hok:okB s.bA=true) (hro:zDF s.ros=true)
 (hrun:AllG (fun e=>∀ (σ:Nat→Int),qB G s (@ev (linSym σ (e.known noA)) P code nat fuel false f s.args (mkH .nil (s.objs++s.ros)) s.n)=true) ls):FsOk P f s:=by
 intro σ hb ψ w args' hrel hglob hfr
 unfold okB at hok
 rw [Bool.and_eq_true] at hok
 obtain ⟨hlen,hz⟩:=zQJ hok.1 hb
 obtain ⟨e,he,σ',r1,r2⟩:=yR (wins:=[]) (w0:=w) (i:=σ 0) tree _ σ hls ⟨hb,trivial,trivial,fun q hq=>by cases hq⟩ zOg rfl (by show 0<s.bA.length; omega) (@zL noSym _ _ hok.2) (Nat.le_refl _)
 have hag:∀ j,j<s.bA.length→σ' j=σ j:=fun j hj=>r2 j (.inl hj)
 have hrun:=u9 hrun e he σ'
 have hK:KnownOk σ' (e.known noA):=r1.known noA
 obtain ⟨q1,q2⟩:=hrel σ' (e.known noA) hag rfl
 have hcall:@yY (linSym σ' (e.known noA)) P (@ev (linSym σ' (e.known noA)) P code nat fuel):=by
  letI S:Sym:=linSym σ' (e.known noA)
  haveI hS:SymFact P:=linSym_ok hK
  exact ww (fun call hcall F N=>yy hm hcall) hcode (hnat _ _ hK) fuel
 refine zBT (@yY.calls (linSym σ' (e.known noA)) _ _ hcall f s.args _ s.n ψ w args' q1 hglob q2 hfr (wD hrun)) fun v w' ho=>?_
 obtain ⟨cv,h,n,ψ',p1,p2,po,hpo,ks,hc⟩:=vu hrun ho
 obtain ⟨ψT,hT⟩:=zUr (σ0:=σ) (K0:=kno) (fun _ _ _=>hz) (fun j _ hj=>hag j hj) hro p1 p2 hc
 exact ⟨po,hpo,ψT,hT⟩
end
def fsChk (P:Program) (code:FuncId→CFn) (nat:Nats) (fuel:Nat) (f:FuncId) (G:Nat) (σ:Nat→Int):List Fs→Bool
 | []=>true
 | s::r=>(zB s.bA fun b=>okB b&&zDF s.ros&&qB G s (@ev (linSym σ ((⟨b,[],[],[],1000⟩:Lf).known noA)) P code nat fuel false f s.args (mkH .nil (s.objs++s.ros)) s.n))&&fsChk P code nat fuel f G σ r
theorem fsChk_ok {code:FuncId→CFn} {nat:Nats} {fuel:Nat} {f:FuncId} {G:Nat} (hm:P.follows .mixedOrders=true) (hcode:CodeOk P code) (hnat:∀ σ K,KnownOk σ K→@NatsOk (linSym σ K) P nat) :
 ∀ {l:List Fs},(∀ σ,fsChk P code nat fuel f G σ l=true)→∀ s∈l,FsOk P f s
 | [],_,s,hs=>by cases hs
 | x::r,h,s,hs=>by
  have h':∀ σ,((okB x.bA=true∧zDF x.ros=true)∧qB G x (@ev (linSym σ ((⟨x.bA,[],[],[],1000⟩:Lf).known noA)) P code nat fuel false f x.args (mkH .nil (x.objs++x.ros)) x.n)=true)∧fsChk P code nat fuel f G σ r=true:=by
   intro σ
   have:=h σ
   unfold fsChk at this
   rwa [zMh,Bool.and_eq_true,Bool.and_eq_true,Bool.and_eq_true] at this
  rcases List.mem_cons.1 hs with rfl | hs
  · exact zKt (tree:=.leaf) (ls:=[⟨s.bA,[],[],[],1000⟩]) hm hcode hnat rfl (h' fun _=>0).1.1.1 (h' fun _=>0).1.1.2 ⟨fun σ=>(h' σ).1.2,trivial⟩
  · exact fsChk_ok hm hcode hnat (fun σ=>(h' σ).2) s hs
def zNt (q:Lf→Bool):List Lf→Bool
 | []=>true
 | e::r=>q e&&zNt q r
theorem zG9 {q:Lf→Bool}:∀ {l:List Lf},zNt q l=true→∀ e∈l,q e=true
 | [],_,e,he=>by cases he
 | x::r,h,e,he=>by
  unfold zNt at h
  rw [Bool.and_eq_true] at h
  rcases List.mem_cons.1 he with rfl | he
  · exact h.1
  · exact zG9 h.2 e he
def zE2 (P:Program) (code:FuncId→CFn) (nat:Nats) (fuel:Nat) (f:FuncId) (G:Nat) (σ:Nat→Int) (t:LTree) (s:Fs):Bool:=match leaves [] t ⟨s.bA,[],[],[],1000⟩ with
 | some ls=>okB s.bA&&zDF s.ros&&zNt (fun e=>y8 e fun e=>qB G s (@ev (linSym σ (e.known noA)) P code nat fuel false f s.args (mkH .nil (s.objs++s.ros)) s.n)) ls
 | none=>false
theorem zOc {code:FuncId→CFn} {nat:Nats} {fuel:Nat} {f:FuncId} {G:Nat} (hm:P.follows .mixedOrders=true) (hcode:CodeOk P code) (hnat:∀ σ K,KnownOk σ K→@NatsOk (linSym σ K) P nat)
 {t:LTree} {s:Fs} (h:∀ σ,zE2 P code nat fuel f G σ t s=true):FsOk P f s:=by
 have h0:=h fun _=>0
 unfold zE2 at h0
 cases hls:leaves [] t ⟨s.bA,[],[],[],1000⟩ with
 | none=>rw [hls] at h0; cases h0
 | some ls=>
  rw [hls,Bool.and_eq_true,Bool.and_eq_true] at h0
  refine zKt (fuel:=fuel) (G:=G) (tree:=t) hm hcode hnat hls h0.1.1 h0.1.2 (allG_of fun e he σ=>?_)
  have h1:=h σ
  unfold zE2 at h1
  rw [hls,Bool.and_eq_true] at h1
  have h2:=zG9 h1.2 e he
  rwa [yZ] at h2
def fsTrees (P:Program) (code:FuncId→CFn) (nat:Nats) (fuel:Nat) (f:FuncId) (G:Nat) (σ:Nat→Int) (t:LTree):List Fs→Bool
 | []=>true
 | s::r=>zE2 P code nat fuel f G σ t s&&fsTrees P code nat fuel f G σ t r
theorem fsTrees_ok {code:FuncId→CFn} {nat:Nats} {fuel:Nat} {f:FuncId} {G:Nat} (hm:P.follows .mixedOrders=true) (hcode:CodeOk P code) (hnat:∀ σ K,KnownOk σ K→@NatsOk (linSym σ K) P nat) {t:LTree} :
 ∀ {l:List Fs},(∀ σ,fsTrees P code nat fuel f G σ t l=true)→∀ s∈l,FsOk P f s
 | [],_,s,hs=>by cases hs
 | x::r,h,s,hs=>by
  have h':∀ σ,zE2 P code nat fuel f G σ t x=true∧fsTrees P code nat fuel f G σ t r=true:=by
   intro σ
   have:=h σ
   unfold fsTrees at this
   rwa [Bool.and_eq_true] at this
  rcases List.mem_cons.1 hs with rfl | hs
  · exact zOc hm hcode hnat fun σ=>(h' σ).1
  · exact fsTrees_ok hm hcode hnat (fun σ=>(h' σ).2) s hs
theorem zFh {σs σT:Nat→Int} {Ks KT:za} {θ:TH} {ρ inv:zC} {objs:List (Key × CObj)} {ks:List Key} {h:zC} {lo hi G:Nat} {ψ:Psi} {w:World} (hθ:ji σs σT θ) (hR:@Rel (linSym σs Ks) ψ (zC.fam h) w)
 (hc:qI ρ inv θ h lo hi objs ks=true) :
 @Rel (linSym σT KT) (qJ ρ h [] ψ G 0) (wT objs) w∧zAQ ρ ψ (qJ ρ h [] ψ G 0) ∧
 (∀ k o p,wT objs k=some o→qJ ρ h [] ψ G 0 k=some p→o.isRo=false∧∃ k0 o0 p0,zC.fam h k0=some o0∧o0.isRo=false∧ψ k0=some p0∧p0.blk=p.blk∧zk ρ k=some k0∧k0∈ks):=by
 have hTot:∀ k o,zC.fam h k=some o→∃ p,ψ k=some p:=@Rel.tot (linSym σs Ks) _ _ _ hR
 have hOn:∀ k o p,zC.fam h k=some o→ψ k=some p→@xB (linSym σs Ks) ψ w p o:=@Rel.on (linSym σs Ks) _ _ _ hR
 have hInj:=@Rel.inj (linSym σs Ks) _ _ _ hR
 have hobj:=j3 hc
 have hps:∀ k j p,zk ρ k=some j→ψ j=some p→qJ ρ h [] ψ G 0 k=some ⟨p.blk,p.off,p.sz,zCE (ze j h) p.ck⟩:=by
  intro k j p hk hp
  unfold qJ
  rw [hk]
  simp only
  rw [hp]; rfl
 have hPs:zAQ ρ ψ (qJ ρ h [] ψ G 0):=fun k j p hk hp=>⟨_,hps k j p (qj hk) hp,rfl,rfl,rfl⟩
 have hfam:∀ k o p,wT objs k=some o→qJ ρ h [] ψ G 0 k=some p→∃ b o' p0,zk ρ k=some b∧zk inv b=some k∧zC.fam h b=some o'∧ψ b=some p0∧zBa ρ θ o o'=true ∧
  p=⟨p0.blk,p0.off,p0.sz,zCE (some o') p0.ck⟩∧b∈ks:=by
  intro k o p hk hp
  rcases x9 hk with ⟨j,hj⟩ | hn
  · obtain ⟨b,o',g1,g2,g3,g4,g5,g6,g7⟩:=hobj j k o hj
    obtain ⟨p0,hp0⟩:=hTot b o' g6
    rw [hps k b p0 g2 hp0,g6] at hp
    injection hp with hp
    exact ⟨b,o',p0,g2,g3,g6,hp0,g7,hp.symm,List.mem_of_getElem? g1⟩
  · rw [jH] at hn; cases hn
 refine ⟨?_,hPs,?_⟩
 · refine @Rel.mk (linSym σT KT) _ _ _ ?_ ?_ ?_
   · intro k o p hk hp
     obtain ⟨b,o',p0,g1,g2,g3,g4,g5,rfl,_⟩:=hfam k o p hk hp
     exact (zMQ (p:=p0) (p':=⟨p0.blk,p0.off,p0.sz,zCE (some o') p0.ck⟩) hθ hPs g5 rfl rfl rfl rfl (hOn b o' p0 g3 g4)).1
   · intro k o hk
     rcases x9 hk with ⟨j,hj⟩ | hn
     · obtain ⟨b,o',g1,g2,g3,g4,g5,g6,g7⟩:=hobj j k o hj
       obtain ⟨p0,hp0⟩:=hTot b o' g6
       exact ⟨_,hps k b p0 g2 hp0⟩
     · rw [jH] at hn; cases hn
   · intro k₁ k₂ o₁ o₂ p₁ p₂ h1 h2 h3 h4 hr e
     obtain ⟨b1,o1',q1,g1,g2,g3,g4,g5,rfl,_⟩:=hfam _ _ _ h1 h3
     obtain ⟨b2,o2',q2,f1,f2,f3,f4,f5,rfl,_⟩:=hfam _ _ _ h2 h4
     have:=hInj b1 b2 _ _ _ _ g3 f3 g4 f4 (.inl (zJL g5)) e
     subst this
     rw [g2] at f2
     injection f2
 · intro k o p hk hp
   obtain ⟨b,o',p0,g1,g2,g3,g4,g5,rfl,g6⟩:=hfam k o p hk hp
   have hro:o.isRo=false∧o'.isRo=false:=by
    unfold zBa at g5
    split at g5
    · exact ⟨rfl,rfl⟩
    · exact ⟨rfl,rfl⟩
    · exact ⟨rfl,rfl⟩
    · exact ⟨rfl,rfl⟩
    · exact ⟨rfl,rfl⟩
    · cases g5
   exact ⟨hro.1,b,o',p0,g3,hro.2,g4,rfl,g1,g6⟩
def roB:CObj→Option (List CV)
 | .ro b=>some b
 | .cells b=>some b
 | .full _ b=>some b
 | _=>none
def zC9 (ρ inv:zC) (θ:TH) (h:zC):List (Key × CObj)→Bool
 | []=>true
 | p::r=>(match p.2,zk ρ p.1 with
  | .ro a,some j=>(match ze j h with
   | some o=>(match roB o with
    | some b=>zCk inv j&&uR ρ θ a b
    | none=>false)
   | none=>false)
  | _,_=>false)&&zC9 ρ inv θ h r
def zD5 (ρ inv:zC) (si:SE→CV→Bool) (fw:Nat→List (List Nat)→CV→Bool) (h:zC):List (Key × CObj)→Bool
 | []=>true
 | p::r=>(match p.2,zk ρ p.1 with
  | .ro a,some j=>(match ze j h with
   | some o=>(match roB o with
    | some b=>zCk inv j&&uF ρ si fw a b
    | none=>false)
   | none=>false)
  | _,_=>false)&&zD5 ρ inv si fw h r
theorem zFz {ρ inv:zC} {θ:TH} {si:SE→CV→Bool} {fw:Nat→List (List Nat)→CV→Bool} (hs:∀ e d,si e d=zAb θ e d) (hf:∀ i t d,fw i t d=z8 ρ θ (.few i t) d) {h:zC}:∀ {l:List (Key × CObj)},zD5 ρ inv si fw h l=zC9 ρ inv θ h l
 | []=>rfl
 | p::r=>by
  have e:∀ a b,uF ρ si fw a b=uR ρ θ a b:=fun a b=>by rw [uf hs hf,jF]
  unfold zD5 zC9
  rw [zFz hs hf (l:=r)]
  simp only [e]
theorem zGX {ρ inv:zC} {θ:TH} {h:zC}:∀ {l:List (Key × CObj)},zC9 ρ inv θ h l=true→∀ k o,(k,o)∈l→∃ a b j o',o=.ro a∧zk ρ k=some j∧ze j h=some o'∧roB o'=some b∧zk inv j=none∧qL ρ θ a b=true
 | [],_,k,o,hk=>by simp at hk
 | p::r,hc,k,o,hk=>by
  unfold zC9 at hc
  rw [Bool.and_eq_true] at hc
  rcases List.mem_cons.1 hk with e | hk
  · subst e
    have h1:=hc.1
    split at h1
    · rename_i a j e1 e2
      split at h1
      · rename_i o' hb
        split at h1
        · rename_i b hb'
          rw [Bool.and_eq_true,jF] at h1
          refine ⟨a,b,j,o',e1,e2,hb,hb',?_,h1.2⟩
          have h2:=h1.1
          unfold zCk at h2
          split at h2
          · assumption
          · cases h2
        · cases h1
      · cases h1
    · cases h1
  · exact zGX hc.2 k o hk
theorem zTj {S:Sym} {ψ:Psi} {w:World} {p:Pl} {o:CObj} {b:List CV} (hb:roB o=some b) (h:@xB S ψ w p o):@zAa S ψ w p b:=by
 cases o with
 | ro c=>injection hb with hb; subst hb; exact h
 | cells c=>injection hb with hb; subst hb; exact @yS.toRo S _ _ _ _ h
 | full u c=>injection hb with hb; subst hb; exact @yS.toRo S _ _ _ _ (@jE.toCells S _ _ _ _ _ h)
 | map _ _=>cases hb
 | striter _ _=>cases hb
 | mapiter _ _ _ _=>cases hb
 | mapz _=>cases hb
theorem zNX {σs σT:Nat→Int} {Ks KT:za} {θ:TH} {ρ:zC} {ψs ψT:Psi} (hθ:ji σs σT θ) (hψ:zAQ ρ ψs ψT) {as bs:List CV} (h:qL ρ θ as bs=true) {w:World} {p p':Pl} (h1:p'.blk=p.blk) (h2:p'.off=p.off)
 (hc:@zAa (linSym σs Ks) ψs w p bs):@zAa (linSym σT KT) ψT w p' as:=by
 obtain ⟨arr,elem,fz,g1,g3,g5⟩:=hc
 obtain ⟨q1,q2⟩:=zDj h
 refine ⟨arr,elem,fz,by rw [h1]; exact g1,by rw [h2]; omega,fun i c hi=>?_⟩
 obtain ⟨d,hd,hcd⟩:=q2 i c hi
 obtain ⟨x,hx,hr⟩:=g5 i d hd
 exact ⟨x,by rw [h2]; exact hx,qH hθ hψ c d hcd hr⟩
theorem zLn {σs σT:Nat→Int} {Ks KT:za} {θ:TH} {ρ inv:zC} {objs ros:List (Key × CObj)} {ks:List Key} {h:zC} {lo hi G:Nat} {ψ:Psi} {w:World} (hθ:ji σs σT θ) (hR:@Rel (linSym σs Ks) ψ (zC.fam h) w)
 (hc:qI ρ inv θ h lo hi objs ks=true) (hr:zC9 ρ inv θ h ros=true) :
 @Rel (linSym σT KT) (qJ ρ h [] ψ G 0) (wT (objs++ros)) w∧zAQ ρ ψ (qJ ρ h [] ψ G 0):=by
 have hTot:∀ k o,zC.fam h k=some o→∃ p,ψ k=some p:=@Rel.tot (linSym σs Ks) _ _ _ hR
 have hOn:∀ k o p,zC.fam h k=some o→ψ k=some p→@xB (linSym σs Ks) ψ w p o:=@Rel.on (linSym σs Ks) _ _ _ hR
 have hInj:=@Rel.inj (linSym σs Ks) _ _ _ hR
 obtain ⟨c1,c2,c3⟩:=zFh (G:=G) (KT:=KT) hθ hR hc
 have c1on:∀ k o p,wT objs k=some o→qJ ρ h [] ψ G 0 k=some p→@xB (linSym σT KT) (qJ ρ h [] ψ G 0) w p o:=@Rel.on (linSym σT KT) _ _ _ c1
 have c1tot:=@Rel.tot (linSym σT KT) _ _ _ c1
 have c1inj:=@Rel.inj (linSym σT KT) _ _ _ c1
 have hps:∀ k j p,zk ρ k=some j→ψ j=some p→qJ ρ h [] ψ G 0 k=some ⟨p.blk,p.off,p.sz,zCE (ze j h) p.ck⟩:=by
  intro k j p hk hp
  unfold qJ
  rw [hk]
  simp only
  rw [hp]; rfl
 have hro:∀ k o,(k,o)∈ros→∃ a b j p o',o=.ro a∧zC.fam h j=some o'∧ψ j=some p∧qJ ρ h [] ψ G 0 k=some ⟨p.blk,p.off,p.sz,zCE (ze j h) p.ck⟩∧qL ρ θ a b=true∧roB o'=some b∧zk inv j=none:=by
  intro k o hk
  obtain ⟨a,b,j,o',e,g1,g2,gb,gn,g3⟩:=zGX hr k o hk
  obtain ⟨p,hp⟩:=hTot j _ g2
  exact ⟨a,b,j,p,o',e,g2,hp,hps k j p g1 hp,g3,gb,gn⟩
 have hinv:∀ k o k0,wT objs k=some o→zk ρ k=some k0→zk inv k0=some k:=by
  intro k o k0 hk hk0
  rcases x9 hk with ⟨j,hj⟩ | hn
  · obtain ⟨b,o',g1,g2,g3,_⟩:=j3 hc j k o hj
    rw [g2] at hk0
    injection hk0 with hk0
    rw [← hk0]; exact g3
  · rw [jH] at hn; cases hn
 have mix:∀ k₁ k₂ o₁ o₂ p₁ p₂,wT objs k₁=some o₁→(k₂,o₂)∈ros→qJ ρ h [] ψ G 0 k₁=some p₁→qJ ρ h [] ψ G 0 k₂=some p₂→p₁.blk=p₂.blk→False:=by
  intro k₁ k₂ o₁ o₂ p₁ p₂ h1 h2 h3 h4 e
  obtain ⟨_,k0,o0,p0,q1,q2,q3,q4,q5,_⟩:=c3 _ _ _ h1 h3
  obtain ⟨a,b,j,p,o',e0,r1,r2,r3,r4,r5,r6⟩:=hro _ _ h2
  rw [r3] at h4
  injection h4 with h4
  have e':p0.blk=p.blk:=by rw [q4,e,← h4]
  have:=hInj k0 j _ _ _ _ q1 r1 q3 r2 (.inl q2) e'
  subst this
  rw [hinv _ _ _ h1 q5] at r6
  cases r6
 refine ⟨@Rel.mk (linSym σT KT) _ _ _ ?_ ?_ ?_,c2⟩
 · intro k o p hk hp
   rcases vR hk with hk | hk
   · exact c1on k o p hk hp
   · obtain ⟨a,b,j,p0,o',rfl,r1,r2,r3,r4,r5,r6⟩:=hro _ _ hk
     rw [r3] at hp
     injection hp with hp
     subst hp
     exact zNX (p:=p0) hθ c2 r4 rfl rfl (zTj r5 (hOn _ _ _ r1 r2))
 · intro k o hk
   rcases vR hk with hk | hk
   · exact c1tot k o hk
   · obtain ⟨a,b,j,p0,o',rfl,r1,r2,r3,r4,r5,r6⟩:=hro _ _ hk
     exact ⟨_,r3⟩
 · intro k₁ k₂ o₁ o₂ p₁ p₂ h1 h2 h3 h4 hor e
   rcases vR h1 with g1 | g1 <;> rcases vR h2 with g2 | g2
   · exact c1inj k₁ k₂ o₁ o₂ p₁ p₂ g1 g2 h3 h4 hor e
   · exact (mix _ _ _ _ _ _ g1 g2 h3 h4 e).elim
   · exact (mix _ _ _ _ _ _ g2 g1 h4 h3 e.symm).elim
   · obtain ⟨a,_,_,_,_,rfl,_⟩:=hro _ _ g1
     obtain ⟨b,_,_,_,_,rfl,_⟩:=hro _ _ g2
     rcases hor with hor | hor <;> cases hor
def zCX (ρ:zC) (G hi:Nat) (h:zC):List Key→List Key→Bool
 | [],[]=>true
 | k::r,j::js=>kr ρ k j&&Nat.ble G k.ix&&Nat.ble (Nat.succ k.ix) hi&&zCX ρ G hi h r js
 | _,_=>false
theorem zDf {ρ:zC} {G hi:Nat} {h:zC}:∀ {l es:List Key},zCX ρ G hi h l es=true→∀ (i:Nat) k j,l[i]? = some k→es[i]? = some j→zk ρ k=some j∧G≤k.ix∧k.ix<hi
 | [],_,_,i,k,j,h1,_=>by simp at h1
 | _::_,[],hc,_,_,_,_,_=>by cases hc
 | x::r,y::js,hc,i,k,j,h1,h2=>by
  unfold zCX at hc
  simp only [Bool.and_eq_true] at hc
  obtain ⟨⟨⟨c0,c1⟩,c2⟩,c4⟩:=hc
  cases i with
  | zero=>
   simp at h1 h2
   subst h1 h2
   exact ⟨qj c0,@zL noSym _ _ c1,@zL noSym _ _ c2⟩
  | succ i=>exact zDf c4 i k j (by simpa using h1) (by simpa using h2)
def vI (mid:Nat) (ρ:zC):List (Key × CObj)→Key→Option (List Key × Key)
 | [],n=>some ([],n)
 | p::r,n=>match Nat.ble mid p.1.ix with
  | false=>match zk ρ p.1 with
   | some j=>match vI mid ρ r n with
    | some q=>some (j::q.1,q.2)
    | none=>none
   | none=>none
  | true=>match n.succ with
   | .mk a b c d=>match vI mid ρ r (.mk a b c d) with
    | some q=>some (n::q.1,q.2)
    | none=>none
theorem zDl {mid:Nat} {ρ:zC}:∀ {l:List (Key × CObj)} {n:Key} {q:List Key × Key},vI mid ρ l n=some q→n.ix≤q.2.ix
 | [],n,q,h=>by
  injection h with h; subst h
  exact Nat.le_refl _
 | p::r,n,q,h=>by
  unfold vI at h
  split at h
  · split at h
    · split at h
      · rename_i q' hq'
        injection h with h; subst h
        have:=zDl hq'
        exact this
      · cases h
    · cases h
  · split at h
    rename_i a b c d hs
    split at h
    · rename_i q' hq'
      injection h with h; subst h
      have h1:=zDl hq'
      rw [← hs] at h1
      have hle:=@Key.ix_le_succ noSym n
      simp only; omega
    · cases h
theorem zC4 {mid:Nat} {ρ:zC}:∀ {l:List (Key × CObj)} {n:Key} {q:List Key × Key},vI mid ρ l n=some q→q.2.room→n.ix≤q.2.ix ∧
 ∀ (i:Nat) (k:Key) (o:CObj) (j:Key),l[i]? = some (k,o)→q.1[i]? = some j→(k.ix<mid∧zk ρ k=some j)∨(mid≤k.ix∧n.ix≤j.ix∧j.ix<q.2.ix)
 | [],n,q,h,hr=>by
  injection h with h; subst h
  exact ⟨Nat.le_refl _,fun i k o j h1 _=>by simp at h1⟩
 | p::r,n,q,h,hr=>by
  unfold vI at h
  split at h
  · rename_i hm
    have hlt:p.1.ix<mid:=by
     rcases Nat.lt_or_ge p.1.ix mid with g | g
     · exact g
     · rw [Nat.ble_eq_true_of_le g] at hm; cases hm
    split at h
    · rename_i j hj
      split at h
      · rename_i q' hq'
        injection h with h; subst h
        obtain ⟨h1,h2⟩:=zC4 hq' hr
        refine ⟨h1,fun i k o j' g1 g2=>?_⟩
        cases i with
        | zero=>
         simp at g1 g2
         subst g1 g2
         exact .inl ⟨hlt,hj⟩
        | succ i=>exact h2 i k o j' (by simpa using g1) (by simpa using g2)
      · cases h
    · cases h
  · rename_i hm
    have hm:=@zL noSym _ _ hm
    split at h
    rename_i a b c d hs
    split at h
    · rename_i q' hq'
      injection h with h; subst h
      obtain ⟨h1,h2⟩:=zC4 hq' hr
      rw [← hs] at h1 h2
      have hle:=@Key.ix_le_succ noSym n
      have hroom:n.ix<65535:=by
       have:q'.2.ix<65535:=hr
       omega
      have hix:=@Key.ix_succ noSym n hroom
      refine ⟨by simp only; omega,fun i k o j' g1 g2=>?_⟩
      cases i with
      | zero=>
       simp at g1 g2
       subst g1 g2
       exact .inr ⟨hm,Nat.le_refl _,by simp only; omega⟩
      | succ i=>
       rcases h2 i k o j' (by simpa using g1) (by simpa using g2) with g | ⟨g3,g4,g5⟩
       · exact .inl g
       · exact .inr ⟨g3,by omega,g5⟩
    · cases h
def ckQ (bs:List CE) (clock:Nat) (j:Nat):Nat:=match nth bs j with
 | some e=>e.born
 | none=>Nat.add clock (Nat.sub j (zOd bs))
theorem zKP {bs:List CE} {clock j:Nat}:ckQ bs clock j=xv bs clock j:=by
 unfold ckQ xv
 rw [@nth_eq noSym,@zCc noSym]
 rfl
def zLC (ρ:zC) (θ:TH) (bs:List CE) (clock:Nat):List CE→List CE
 | []=>[]
 | e::l=>⟨zHa ρ θ e.key,zHa ρ θ e.val,ckQ bs clock e.born⟩::zLC ρ θ bs clock l
def kg (ρ:zC) (θ:TH) (mid:Nat) (h:zC) (k j:Key) (o:CObj):CObj:=match o with
 | .cells l=>.cells (zLl ρ θ l)
 | .map es c=>match Nat.ble mid k.ix with
  | true=>.map (zIS ρ θ es) c
  | false=>match ze j h with
   | some (.map es0 c0)=>.map (zLC ρ θ (vB es0) c0 es) (ckQ (vB es0) c0 c)
   | _=>.map [] 0
 | o=>o
def zMU (ρ:zC) (sb:SE→CV) (θ:TH) (mid:Nat) (h:zC) (k j:Key) (o:CObj):CObj:=match o with
 | .cells l=>.cells (zKM ρ sb l)
 | o=>kg ρ θ mid h k j o
theorem zLb {ρ:zC} {sb:SE→CV} {θ:TH} (hs:∀ e,sb e=zy ρ θ (.sym e)) {mid:Nat} {h:zC} {k j:Key} {o:CObj}:zMU ρ sb θ mid h k j o=kg ρ θ mid h k j o:=by
 cases o <;> first | rfl | exact congrArg CObj.cells ((jN hs _).trans (zGG _).symm)
def zNA (mid:Nat) (h:zC) (k j:Key) (o:CObj):Bool:=match o with
 | .cells _=>true
 | .map _ c=>match Nat.ble mid k.ix with
  | true=>true
  | false=>match ze j h with
   | some (.map es0 _)=>Nat.ble (zOd (vB es0)) c
   | _=>false
 | _=>false
def zIh (ρ inv:zC) (mid:Nat) (h:zC):List (Key × CObj)→List Key→Bool
 | [],[]=>true
 | p::r,j::js=>kr ρ p.1 j&&kr inv j p.1&&zNA mid h p.1 j p.2&&zIh ρ inv mid h r js
 | _,_=>false
theorem zMJ {ρ inv:zC} {mid:Nat} {h:zC}:∀ {l:List (Key × CObj)} {ks:List Key},zIh ρ inv mid h l ks=true→l.length=ks.length∧∀ (i:Nat) (k:Key) (o:CObj),l[i]? = some (k,o)→∃ j,ks[i]? = some j∧zk ρ k=some j∧zk inv j=some k∧zNA mid h k j o=true
 | [],[],_=>⟨rfl,fun i k o h=>by simp at h⟩
 | [],_::_,h=>by cases h
 | _::_,[],h=>by cases h
 | p::r,j::js,h=>by
  unfold zIh at h
  simp only [Bool.and_eq_true] at h
  obtain ⟨⟨⟨h1,h2⟩,h3⟩,h4⟩:=h
  obtain ⟨g1,g2⟩:=zMJ h4
  refine ⟨by simp [g1],fun i k o hi=>?_⟩
  cases i with
  | zero=>
   simp at hi
   subst hi
   exact ⟨j,rfl,qj h1,qj h2,h3⟩
  | succ i=>
   obtain ⟨j',q1,q2⟩:=g2 i k o (by simpa using hi)
   exact ⟨j',by simpa using q1,q2⟩
def zCf (ρ:zC) (θ:TH) (mid:Nat) (h:zC):List (Key × CObj)→List Key→List (Key × CObj)
 | p::r,j::js=>(j,kg ρ θ mid h p.1 j p.2)::zCf ρ θ mid h r js
 | _,_=>[]
def zCJ (ρ:zC) (sb:SE→CV) (θ:TH) (mid:Nat) (h:zC):List (Key × CObj)→List Key→List (Key × CObj)
 | p::r,j::js=>(j,zMU ρ sb θ mid h p.1 j p.2)::zCJ ρ sb θ mid h r js
 | _,_=>[]
theorem zHt {ρ:zC} {sb:SE→CV} {θ:TH} (hs:∀ e,sb e=zy ρ θ (.sym e)) {mid:Nat} {h:zC}:∀ {l:List (Key × CObj)} {ks:List Key},zCJ ρ sb θ mid h l ks=zCf ρ θ mid h l ks
 | [],_=>by simp [zCJ,zCf]
 | _::_,[]=>by simp [zCJ,zCf]
 | p::r,j::js=>by unfold zCJ zCf; rw [zLb hs,zHt hs]
theorem zEv {ρ inv ρ':zC} {θ:TH} {mid:Nat} {h h0:zC} {k:Key} {o:CObj}:∀ {l:List (Key × CObj)} {ks:List Key},zIh ρ inv mid h l ks=true→ze k (mkH h0 (zCf ρ' θ mid h l ks))=some o →
 (∃ (kp:Key) (o':CObj) (i:Nat),ze kp (mkH .nil l)=some o'∧o=kg ρ' θ mid h kp k o'∧zNA mid h kp k o'=true∧zk ρ kp=some k∧l[i]? = some (kp,o')∧ks[i]? = some k)∨ze k h0=some o
 | [],[],_,hh=>.inr hh
 | [],_::_,hb,_=>by cases hb
 | _::_,[],hb,_=>by cases hb
 | p::r,j::js,hb,hh=>by
  unfold zIh at hb
  simp only [Bool.and_eq_true] at hb
  obtain ⟨⟨⟨h1,h2⟩,h3⟩,h4⟩:=hb
  have hh:ze k (yj (some (kg ρ' θ mid h p.1 j p.2)) j (mkH h0 (zCf ρ' θ mid h r js)))=some o:=hh
  rw [kY] at hh
  split at hh
  · rename_i e
    subst e
    injection hh with hh
    refine .inl ⟨p.1,p.2,0,?_,hh.symm,h3,qj h1,rfl,rfl⟩
    show ze p.1 (yj (some p.2) p.1 (mkH .nil r))=_
    rw [kY,if_pos rfl]
  · rename_i e
    rcases zEv h4 hh with ⟨kp,o',i,g1,g2,g3,g4,g5,g6⟩ | g
    · refine .inl ⟨kp,o',i+1,?_,g2,g3,g4,by simpa using g5,by simpa using g6⟩
      show ze kp (yj (some p.2) p.1 (mkH .nil r))=_
      rw [kY,if_neg (fun e'=>by
       rw [e',qj h1] at g4
       injection g4 with g4
       exact e g4.symm)]
      exact g1
    · exact .inr g
theorem zJF {ck:Nat→Nat} {clock:Nat} (h:wb ck clock):∀ d,wb ck (clock+d)
 | 0=>h
 | d+1=>@wb.succ noSym _ _ (zJF h d)
theorem zHO {σ σT:Nat→Int} {K KT:za} {θ:TH} {ρ:zC} {ψs ψT:Psi} (hθ:ji σ σT θ) (hψ:zHQ ρ ψs ψT) {bs:List CE} {clock:Nat} {ck:Nat→Nat}:∀ {es:List CE} {l:List MapEntry},
 @yE (linSym σT KT) ψs (fun j=>ck (xv bs clock j)) es l→@yE (linSym σ K) ψT ck (zLC ρ θ bs clock es) l
 | [],l,h=>h
 | c::es,l,h=>by
  obtain ⟨e,r,rfl,⟨h1,h2,h3⟩,h4⟩:=h
  refine ⟨e,r,rfl,⟨?_,?_,?_⟩,zHO hθ hψ h4⟩
  · show @zH (linSym σ K) ψT (zHa ρ θ c.key) e.key
    rw [zCB]; exact kK hθ hψ _ h1
  · show @zH (linSym σ K) ψT (zHa ρ θ c.val) e.val
    rw [zCB]; exact kK hθ hψ _ h2
  · show e.born=ck (ckQ bs clock c.born)
    rw [zKP]; exact h3
def fEF:List CE→(List CE→R)→R
 | [],k=>k []
 | ⟨a,b,n⟩::l,k=>fQ a fun a=>fQ b fun b=>Nat.rec (motive:=fun _=>(Nat→R)→R) (fun k=>k 0) (fun m _ k=>k (Nat.succ m)) n fun n=>fEF l fun l=>k (⟨a,b,n⟩::l)
theorem zS0 {n:Nat} {k:Nat→R}:Nat.rec (motive:=fun _=>(Nat→R)→R) (fun k=>k 0) (fun m _ k=>k (Nat.succ m)) n k=k n:=by cases n <;> rfl
theorem zPZ:∀ {l:List CE} {k:List CE→R},fEF l k=k l
 | [],_=>rfl
 | ⟨a,b,n⟩::l,k=>by unfold fEF; rw [zGP,zGP,zS0,zPZ]
def fOF (o:CObj) (k:CObj→R):R:=match o with
 | .cells l=>fQs l fun l=>k (.cells l)
 | .map es c=>fEF es fun es=>Nat.rec (motive:=fun _=>(Nat→R)→R) (fun k=>k 0) (fun m _ k=>k (Nat.succ m)) c fun c=>k (.map es c)
 | o=>k o
theorem zTf {o:CObj} {k:CObj→R}:fOF o k=k o:=by
 cases o with
 | cells l=>exact zA2 l _
 | map es c=>
  show (fEF es fun es=>Nat.rec (motive:=fun _=>(Nat→R)→R) (fun k=>k 0) (fun m _ k=>k (Nat.succ m)) c fun c=>k (.map es c))=_
  rw [zPZ]
  exact zS0
 | ro _=>rfl
 | striter _ _=>rfl
 | mapiter _ _ _ _=>rfl
 | full _ _=>rfl
 | mapz _=>rfl
def zPh:List (Key × CObj)→(List (Key × CObj)→R)→R
 | [],k=>k []
 | (j,o)::l,k=>fOF o fun o=>zPh l fun l=>k ((j,o)::l)
theorem zIv:∀ {l:List (Key × CObj)} {k:List (Key × CObj)→R},zPh l k=k l
 | [],_=>rfl
 | (j,o)::l,k=>by unfold zPh; rw [zTf,zIv]
def zPf [Sym] (G:Nat) (s:Fs) (m mn q:Nat) (ks es:List Key) (θ:TH) (args:List CV) (h:zC):Bool:=
 zRQ s.b θ&&zTw s.pn (zS3 q Sym.kb)&&zSD (xH s.objs s.ext ks es) (zBv θ m mn q s.pn) (fun i t d=>z8 (xH s.objs s.ext ks es) (θ++jb q s.pn) (.few i t) d) s.args args &&
 zBI (xH s.objs s.ext ks es) (jR s.objs ks) (θ++jb q s.pn) (zBv θ m mn q s.pn) (fun i t d=>z8 (xH s.objs s.ext ks es) (θ++jb q s.pn) (.few i t) d) h G s.n.ix s.objs ks &&
 zCX (xH s.objs s.ext ks es) G s.n.ix h s.ext es&&Nat.ble G s.n.ix&&zD5 (xH s.objs s.ext ks es) (jR s.objs ks) (zBv θ m mn q s.pn) (fun i t d=>z8 (xH s.objs s.ext ks es) (θ++jb q s.pn) (.few i t) d) h s.ros
def uM (s:Fs) (ks es:List Key) (θ:TH) (h:zC) (n:Key) (po:Po):R:=match vI s.mid (je s.objs ks) po.objs n with
 | none=>.err 435
 | some q=>match zIh (xH po.objs s.ext q.1 es) (jR po.objs q.1) s.mid h po.objs q.1 with
  | false=>.err 436
  | true=>fQ (zHa (xH po.objs s.ext q.1 es) θ po.v) fun v=>zPh (zCf (xH po.objs s.ext q.1 es) θ s.mid h po.objs q.1) fun os=>.ret v (mkH (zGB ks h) os) q.2
def zAP (s:Fs) (ks es:List Key) (θ:TH) (h:zC) (n:Key):List Po→R
 | []=>.err 437
 | [po]=>uM s ks es θ h n po
 | po::r=>.fork (uM s ks es θ h n po) (zAP s ks es θ h n r)
def uO (s:Fs) (ks es:List Key) (sb:SE→CV) (θ:TH) (h:zC) (n:Key) (po:Po):R:=match vI s.mid (je s.objs ks) po.objs n with
 | none=>.err 435
 | some q=>match zIh (xH po.objs s.ext q.1 es) (jR po.objs q.1) s.mid h po.objs q.1 with
  | false=>.err 436
  | true=>fQ (zP0 (xH po.objs s.ext q.1 es) sb po.v) fun v=>zPh (zCJ (xH po.objs s.ext q.1 es) sb θ s.mid h po.objs q.1) fun os=>.ret v (mkH (zGB ks h) os) q.2
def wG (s:Fs) (ks es:List Key) (sb:SE→CV) (θ:TH) (h:zC) (n:Key):List Po→R
 | []=>.err 437
 | [po]=>uO s ks es sb θ h n po
 | po::r=>.fork (uO s ks es sb θ h n po) (wG s ks es sb θ h n r)
theorem zE4 {s:Fs} {ks es:List Key} {sb:SE→CV} {θ:TH} (hs:∀ ρ e,sb e=zy ρ θ (.sym e)) {h:zC} {n:Key} {po:Po}:uO s ks es sb θ h n po=uM s ks es θ h n po:=by
 unfold uO uM
 simp only [zBY (hs _),zHt (hs _),zCB]
theorem zDs {s:Fs} {ks es:List Key} {sb:SE→CV} {θ:TH} (hs:∀ ρ e,sb e=zy ρ θ (.sym e)) {h:zC} {n:Key}:∀ {l:List Po},wG s ks es sb θ h n l=zAP s ks es θ h n l
 | []=>rfl
 | [po]=>zE4 hs
 | po::po2::r=>by
  show R.fork (uO s ks es sb θ h n po) (wG s ks es sb θ h n (po2::r))=R.fork (uM s ks es θ h n po) (zAP s ks es θ h n (po2::r))
  rw [zE4 hs,zDs hs]
def fNR (n:Nat) (k:Nat→R):R:=Nat.rec (motive:=fun _=>(Nat→R)→R) (fun k=>k 0) (fun m _ k=>k (Nat.succ m)) n k
theorem zQI {n:Nat} {k:Nat→R}:fNR n k=k n:=by cases n <;> rfl
def qOf (m:Nat) (th:List (Nat × Int × LL)):Nat:=match zI7 m th with
 | (_,(q,_)::_)=>q
 | _=>0
def zUy (pm:Nat) (h:zC) (th:List (Nat × Int × LL)):List (Key × CObj)→HA→HA
 | [],a=>a
 | p::r,a=>zUy pm h th r (match p.2,(zI7 p.1.ix th).1 with
  | .ro x,.ofNat m=>(match ze (Key.ofNat m) h with
   | some o=>(match roB o with
    | some y=>gVs pm x y a
    | none=>a)
   | none=>a)
  | _,_=>a)
def thQ (th:List (Nat × Int × LL)) (j:Nat) (acc:TH):Option TH:=List.rec (motive:=fun _=>Nat→TH→Option TH) (fun j acc=>Nat.rec (motive:=fun _=>Option TH) (some acc) (fun _ _=>none) j)
 (fun q _ ih j acc=>Prod.rec (motive:=fun _=>Option TH) (fun i v=>Bool.rec (motive:=fun _=>Option TH) (ih j acc) (ih (Nat.pred j) (v::acc)) (Nat.beq i j)) q) th j acc
def zUT (n m:Nat) (th:List (Nat × Int × LL)):Nat:=Nat.rec (motive:=fun _=>Nat) 0 (fun _ _=>qOf m th) n
def zUh (th:List (Nat × Int × LL)) (b:List (Int × Int)):TH:=match b with
 | []=>[]
 | _::r=>match thQ th (List.length r) [] with
  | some θ=>(0,[])::θ
  | none=>zU0 th b
def zUe (th:List (Nat × Int × LL)) (k:List (Nat × Int × LL)→R):R:=List.rec (motive:=fun _=>(List (Nat × Int × LL)→R)→R) (fun k=>k []) (fun x _ g k=>g fun l=>k (x::l)) th k
theorem zH0:∀ {th:List (Nat × Int × LL)} {k:List (Nat × Int × LL)→R},zUe th k=k th
 | [],_=>rfl
 | x::th,k=>zH0 (th:=th) (k:=fun l=>k (x::l))
def qkO:CObj→CObj→Bool
 | .cells x,.cells y=>zO3 x y
 | .cells x,.full _ y=>zO3 x y
 | _,_=>true
def zLW (pm:Nat) (h:zC):List (Key × CObj)→HA→List Key→Option (List Key × HA)
 | [],a,ks=>some (ks.reverse,a)
 | p::r,a,ks=>match zR3 a with
  | none=>none
  | some (j,a)=>match ze j h with
   | some o=>match qkO p.2 o with
    | true=>zLW pm h r (gO pm p.2 o a) (j::ks)
    | false=>none
   | none=>none
def zQz (pm:Nat) (h:zC) (ros:List (Key × CObj)):List Nat→List (Key × CObj)→HA→List Key→Option (List Key × HA)
 | [],l,a,ks=>zLW pm h l a ks
 | 0::w,p::r,a,ks=>(match zR3 a with
  | none=>none
  | some (j,a)=>match ze j h with
   | some o=>match qkO p.2 o with
    | true=>zQz pm h ros w r (gO pm p.2 o a) (j::ks)
    | false=>none
   | none=>none)
 | 0::_,[],_,_=>none
 | Nat.succ q::w,l,a,ks=>(match nth ros q with
  | some (k,.ro x)=>(match (zI7 k.ix a.th).1 with
   | .ofNat m=>(match ze (Key.ofNat m) h with
    | some o=>(match roB o with
     | some y=>(match zO3 x y with
      | true=>zQz pm h ros w l (gVs pm x y a) ks
      | false=>none)
     | none=>none)
    | none=>none)
   | .negSucc _=>none)
  | _=>none)
def zUO (pm:Nat) (h:zC) (s:Fs) (a:HA):Option (List Key × HA):=match s.walk with
 | []=>(match zLW pm h s.objs a [] with
  | some (ks,a)=>some (ks,zUy pm h a.th s.ros a)
  | none=>none)
 | w=>zQz pm h s.ros w s.objs a []
def zPv [Sym] (G:Nat) (args:List CV) (h:zC) (n:Key) (s:Fs) (z:R):R:=fNR (List.length s.b) fun m=>fNR (Nat.add m s.pn) fun mn=>match zUO m h s (gVs m s.args args ⟨[],[],zSR s.objs,[]⟩) with
 | none=>z
 | some (ks,a)=>fKs ks fun ks=>fKs (zUj a.th s.ext) fun es=>zUe a.th fun th=>fTH (zUh th s.b) fun θ=>fNR (zUT s.pn m th) fun q=>match zPf G s m mn q ks es θ args h with
  | true=>wG s ks es (sbP θ m mn q s.pn) (θ++jb q s.pn) h n s.posts
  | false=>z
def qkK (h:zC) (objs:List (Key × CObj)) (b:Nat) (k j:Key):Bool:=match Nat.ble 32768 k.ix with
 | true=>true
 | false=>match nth objs (Nat.sub k.ix b),ze j h with
  | some p,some (.cells y)=>(match p.2 with
   | .cells x=>zO3 x y
   | _=>true)
  | _,_=>true
def qkA (h:zC) (objs:List (Key × CObj)) (b:Nat):List CV→List CV→Bool
 | x::l,y::m=>(match x,y with
  | .ptr k _,.ptr j _=>qkK h objs b k j
  | .sl k _ _ _ _ _,.sl j _ _ _ _ _=>qkK h objs b k j
  | .agg (.sl k _ _ _ _ _::_),.agg (.sl j _ _ _ _ _::_)=>qkK h objs b k j
  | _,_=>true)&&qkA h objs b l m
 | _,_=>true
def zB9 [Sym] (G:Nat) (args:List CV) (h:zC) (n:Key) (z:R):List Fs→R
 | []=>z
 | s::r=>match zO3 s.args args&&qkA h s.objs (zSR s.objs) s.args args with
  | true=>zPv G args h n s (zB9 G args h n z r)
  | false=>zB9 G args h n z r
theorem u5 {ρ inv:zC} {θ:TH} {h:zC} {lo hi:Nat}:∀ {objs:List (Key × CObj)} {ks:List Key},qI ρ inv θ h lo hi objs ks=true→objs.length=ks.length
 | [],[],_=>rfl
 | [],_::_,h=>by cases h
 | _::_,[],h=>by cases h
 | p::r,j::js,h=>by
  unfold qI at h
  rw [Bool.and_eq_true] at h
  simp [u5 h.2]
theorem zAZ {s:Fs} {ks es:List Key} {sb:SE→CV} {θ:TH} {h:zC} {n:Key} {po:Po}:zj n (uO s ks es sb θ h n po):=by
 unfold uO
 cases hq:vI s.mid (je s.objs ks) po.objs n with
 | none=>trivial
 | some q=>
  simp only
  cases hb:zIh (xH po.objs s.ext q.1 es) (jR po.objs q.1) s.mid h po.objs q.1 with
  | false=>trivial
  | true=>
   simp only [zGP,zIv]
   exact zDl hq
theorem u4 {s:Fs} {ks es:List Key} {sb:SE→CV} {θ:TH} {h:zC} {n:Key}:∀ {l:List Po},zj n (wG s ks es sb θ h n l)
 | []=>trivial
 | [po]=>zAZ
 | po::po'::r=>⟨zAZ,u4 (l:=po'::r)⟩
theorem kL [Sym] {G:Nat} {args:List CV} {h:zC} {n:Key} {z:R} (hz:zj n z):∀ {l:List Fs},zj n (zB9 G args h n z l)
 | []=>hz
 | s::r=>by
  unfold zB9
  split
  · unfold zPv
    simp only [zQI]
    split
    · exact kL hz
    rw [zIC,zIC,zH0,zLA]
    split
    · exact u4
    · exact kL hz
  · exact kL hz
theorem zEn {σ σT:Nat→Int} {K:za} {G:Nat} {s:Fs} {ks es:List Key} {θ:TH} {h:zC} {n:Key} {po:Po} {ψ ψ':Psi} {w w':World} {v:Value} (hθ:ji σ σT θ) (hR:@Rel (linSym σ K) ψ (zC.fam h) w) (hfr:qW ψ n)
 (hc:qI (xH s.objs s.ext ks es) (jR s.objs ks) θ h G s.n.ix s.objs ks=true) (he:zCX (xH s.objs s.ext ks es) G s.n.ix h s.ext es=true)
 (hpo:zR6 (linSym σT kno) (qJ (xH s.objs s.ext ks es) h [] ψ G 0) s w po v ψ' w') (hcl:zX (uM s ks es θ h n po)) :
 @zo (linSym σ K) ψ (zC.fam h) n w (uM s ks es θ h n po) v w':=by
 unfold uM at hcl ⊢
 cases hq:vI s.mid (je s.objs ks) po.objs n with
 | none=>rw [hq] at hcl; exact hcl.elim
 | some q=>
  rw [hq] at hcl
  simp only at hcl ⊢
  cases hb:zIh (xH po.objs s.ext q.1 es) (jR po.objs q.1) s.mid h po.objs q.1 with
  | false=>rw [hb] at hcl; exact hcl.elim
  | true=>
   rw [hb] at hcl
   simp only [zGP,zIv,zCB] at hcl ⊢
   have hroom:q.2.room:=hcl
   obtain ⟨hmono,hkeys⟩:=zC4 hq hroom
   obtain ⟨hlen,hbij⟩:=zMJ hb
   obtain ⟨c1,c2,c3⟩:=zFh (G:=G) (KT:=kno) hθ hR hc
   have hobj:=j3 hc
   have hlen0:=u5 hc
   have hTot:∀ k o,zC.fam h k=some o→∃ p,ψ k=some p:=@Rel.tot (linSym σ K) _ _ _ hR
   have hOn:∀ k o p,zC.fam h k=some o→ψ k=some p→@xB (linSym σ K) ψ w p o:=@Rel.on (linSym σ K) _ _ _ hR
   have hInj:=@Rel.inj (linSym σ K) _ _ _ hR
   have pTot:=@Rel.tot (linSym σT kno) _ _ _ hpo.rel
   have pOn:=@Rel.on (linSym σT kno) _ _ _ hpo.rel
   have pInj:=@Rel.inj (linSym σT kno) _ _ _ hpo.rel
   have hold:∀ k p,ψ k=some p→k.ix<n.ix:=fun k p hp=>by
    rcases Nat.lt_or_ge k.ix n.ix with g | g
    · exact g
    · rw [hfr k g] at hp; cases hp
   obtain ⟨ψ2,hψ2⟩:∃ ψ2:Psi,∀ k,ψ2 k=if n.ix≤k.ix then (match zk (jR po.objs q.1) k with | some kp=>ψ' kp | none=>ψ k) else ψ k:=⟨_,fun _=>rfl⟩
   have h2old:∀ k,k.ix<n.ix→ψ2 k=ψ k:=fun k hk=>by rw [hψ2,if_neg (by omega)]
   have hle:ψ.le ψ2:=fun k p hp=>by rw [h2old k (hold k p hp)]; exact hp
   have hpsT:∀ k j p,zk (xH s.objs s.ext ks es) k=some j→ψ j=some p→qJ (xH s.objs s.ext ks es) h [] ψ G 0 k=some ⟨p.blk,p.off,p.sz,zCE (ze j h) p.ck⟩:=by
    intro k j p hk hp
    unfold qJ
    rw [hk]
    simp only
    rw [hp]; rfl
   have hrho0:∀ k j,zk (je s.objs ks) k=some j→zk (xH s.objs s.ext ks es) k=some j∧j∈ks∧∃ o p,ze j h=some o∧ψ j=some p:=by
    intro k j hk
    obtain ⟨i,o,g1,g2⟩:=zF0 hk
    obtain ⟨j',o',f1,f2,f3,f4,f5,f6,f7⟩:=hobj i k o g1
    rw [g2] at f1
    injection f1 with f1
    subst f1
    obtain ⟨p,hp⟩:=hTot j o' f6
    exact ⟨f2,List.mem_of_getElem? g2,o',p,f6,hp⟩
   have hend:∀ (i:Nat) (k:Key) (o:CObj) (j:Key),po.objs[i]? = some (k,o)→q.1[i]? = some j→∀ p,ψ' k=some p→∃ p',ψ2 j=some p'∧zFb p p' ∧
    ((s.mid≤k.ix∧p'=p)∨(k.ix<s.mid∧p=⟨p'.blk,p'.off,p'.sz,zCE (ze j h) p'.ck⟩∧ψ j=some p')):=by
    intro i k o j g1 g2 p hp
    rcases hkeys i k o j g1 g2 with ⟨f1,f2⟩ | ⟨f1,f2,f3⟩
    · obtain ⟨e0,_,o0,pj,e1,e2⟩:=hrho0 k j f2
      have e3:=hpo.pin i k o g1 f1 _ (hpsT k j pj e0 e2)
      rw [hp] at e3
      injection e3 with e3
      subst e3
      exact ⟨pj,by rw [h2old j (hold j pj e2)]; exact e2,⟨rfl,rfl,rfl⟩,.inr ⟨f1,rfl,e2⟩⟩
    · obtain ⟨j',b1,b2,b3,_⟩:=hbij i k o g1
      rw [g2] at b1
      injection b1 with b1
      subst b1
      exact ⟨p,by rw [hψ2,if_pos f2,b3]; exact hp,⟨rfl,rfl,rfl⟩,.inl ⟨f1,rfl⟩⟩
   have hM:zHQ (xH po.objs s.ext q.1 es) ψ' ψ2:=by
    intro k j p hk hp
    rcases zMv hlen hk with ⟨i,o,g1,g2⟩ | ⟨i,g1,g2⟩
    · obtain ⟨p',h1,h2,_⟩:=hend i k o j g1 g2 p hp
      exact ⟨p',h1,h2⟩
    · obtain ⟨a0,a1,a2⟩:=zDf he i k j g1 g2
      have e3:=hpo.ext k (List.mem_of_getElem? g1) a2
      cases e2:ψ j with
      | none=>
       have e4:qJ (xH s.objs s.ext ks es) h [] ψ G 0 k=none:=by
        unfold qJ
        rw [a0]
        simp only
        rw [e2]; rfl
       rw [e3,e4] at hp
       cases hp
      | some pj=>
       rw [e3,hpsT k j pj a0 e2] at hp
       injection hp with hp
       subst hp
       exact ⟨pj,by rw [h2old j (hold j pj e2)]; exact e2,⟨rfl,rfl,rfl⟩⟩
   have hOwn:∀ B,zGw (qJ (xH s.objs s.ext ks es) h [] ψ G 0) s.objs w B→(∃ k0 o0 p0,ze k0 h=some o0∧o0.isRo=false∧ψ k0=some p0∧p0.blk=B∧k0∈ks)∨w.heap.size≤B:=by
    intro B hB
    rcases hB with ⟨k,o,p,g1,g2,g3⟩ | g
    · obtain ⟨_,k0,o0,p0,f1,f2,f3,f4,f5,f6⟩:=c3 k o p g1 g2
      exact .inl ⟨k0,o0,p0,f1,f2,f3,f4.trans g3,f6⟩
    · exact .inr g
   have hnew:∀ k o,ze k (mkH (zGB ks h) (zCf (xH po.objs s.ext q.1 es) θ s.mid h po.objs q.1))=some o →
    (∃ (kp:Key) (o':CObj) (p p':Pl),wT po.objs kp=some o'∧o=kg (xH po.objs s.ext q.1 es) θ s.mid h kp k o'∧zNA s.mid h kp k o'=true∧ψ' kp=some p∧ψ2 k=some p'∧zFb p p' ∧
      ((s.mid≤kp.ix∧p'=p)∨(kp.ix<s.mid∧p=⟨p'.blk,p'.off,p'.sz,zCE (ze k h) p'.ck⟩∧ψ k=some p'))∧zk (xH po.objs s.ext q.1 es) kp=some k)∨(k ∉ ks∧ze k h=some o):=by
    intro k o hk
    rcases zEv hb hk with ⟨kp,o',i,g1,g2,g3,g4,g5,g6⟩ | hk
    · obtain ⟨p,hp⟩:=pTot kp o' g1
      obtain ⟨p',e1,e2,e3⟩:=hend i kp o' k g5 g6 p hp
      exact .inl ⟨kp,o',p,p',g1,g2,g3,hp,e1,e2,e3,g4⟩
    · exact .inr (zGZ hk)
   have hin:∀ k o p,ze k h=some o→ψ k=some p→p.blk<w.heap.size:=fun k o p h1 h2=>@xB.lt (linSym σ K) _ _ _ _ (hOn k o p h1 h2)
   have hlow:∀ k o p,k ∉ ks→ze k h=some o→ψ k=some p→¬ zGw (qJ (xH s.objs s.ext ks es) h [] ψ G 0) s.objs w p.blk:=by
    intro k o p g1 g2 g3 hB
    rcases hOwn _ hB with ⟨k0,o0,p0,f1,f2,f3,f4,f5⟩ | g
    · have:=hInj k0 k o0 o p0 p f1 g2 f3 g3 (.inl f2) f4
      subst this
      exact g1 f5
    · have:=hin k o p g2 g3
      omega
   have hone:∀ (kp k:Key) (o':CObj) (p p':Pl),wT po.objs kp=some o'→zNA s.mid h kp k o'=true→ψ' kp=some p→zFb p p' →
    ((s.mid≤kp.ix∧p'=p)∨(kp.ix<s.mid∧p=⟨p'.blk,p'.off,p'.sz,zCE (ze k h) p'.ck⟩∧ψ k=some p')) →
    @xB (linSym σ K) ψ2 w' p' (kg (xH po.objs s.ext q.1 es) θ s.mid h kp k o')∧(kg (xH po.objs s.ext q.1 es) θ s.mid h kp k o').isRo=false:=by
    intro kp k o' p p' g1 g3 g4 g6 g7
    have hpon:=pOn kp o' p g1 g4
    cases o' with
    | cells l=>
     have e:kg (xH po.objs s.ext q.1 es) θ s.mid h kp k (.cells l)=zQH (xH po.objs s.ext q.1 es) θ (.cells l):=by
      show CObj.cells (zLl _ θ l)=CObj.cells (xf _ θ l)
      rw [zGG]
     rw [e]
     exact ⟨zKA hθ hM rfl g6 (fun _ _ e=>by cases e) hpon,rfl⟩
    | map es1 c1=>
     rcases g7 with ⟨m1,m2⟩ | ⟨m1,m2,m3⟩
     · have hb1:Nat.ble s.mid kp.ix=true:=Nat.ble_eq_true_of_le m1
       have e:kg (xH po.objs s.ext q.1 es) θ s.mid h kp k (.map es1 c1)=zQH (xH po.objs s.ext q.1 es) θ (.map es1 c1):=by
        unfold kg
        simp only [hb1]
        rfl
       rw [e]
       exact ⟨zKA hθ hM rfl g6 (fun _ _ _=>m2) hpon,rfl⟩
     · have hb1:Nat.ble s.mid kp.ix=false:=by
        cases hx:Nat.ble s.mid kp.ix with
        | false=>rfl
        | true=>have:=@zL noSym _ _ hx; omega
       unfold zNA at g3
       simp only [hb1] at g3
       unfold kg
       simp only [hb1]
       split at g3
       · rename_i es0 c0 h0
         rw [h0] at m2
         have hle0:=@zL noSym _ _ g3
         rw [@zCc noSym] at hle0
         obtain ⟨arr0,a1,_,a3⟩:=hOn k _ p' h0 m3
         have m2:p=⟨p'.blk,p'.off,p'.sz,fun j=>p'.ck (xv (vB es0) c0 j)⟩:=m2
         subst m2
         obtain ⟨arr,b1,⟨l0,bp,b2⟩,b3⟩:=hpon
         obtain ⟨d,hd⟩:∃ d,c1=(vB es0).length+d:=⟨c1 - (vB es0).length,by omega⟩
         have hck:xv (vB es0) c0 c1=c0+d:=by rw [hd]; exact vj d
         refine ⟨⟨arr,?_,⟨l0,bp,zHO hθ hM b2⟩,?_⟩,rfl⟩
         · rw [zKP]; exact b1
         · rw [zKP,hck]; exact zJF a3 d
       · cases g3
    | ro _=>cases g3
    | striter _ _=>cases g3
    | mapiter _ _ _ _=>cases g3
    | full _ _=>cases g3
    | mapz _=>cases g3
   refine ⟨ψ2,@yF.mk (linSym σ K) _ _ _ _ _ _ _ _ hle ?_ (@Rel.mk (linSym σ K) _ _ _ ?_ ?_ ?_) ?_ ?_ hpo.lft.size hpo.lft.tape hpo.lft.os hpo.lft.output hmono ?_,kK hθ hM _ hpo.val⟩
   · intro k hk
     rcases hk with hk | hk
     · exact h2old k hk
     · rw [hψ2,if_pos (by omega)]
       split
       · rename_i kp hkp
         exfalso
         obtain ⟨i,⟨o,g1⟩,g2⟩:=zPp hkp
         rcases hkeys i kp o k g1 g2 with ⟨f1,f2⟩ | ⟨f1,f2,f3⟩
         · obtain ⟨_,_,o0,pj,e1,e2⟩:=hrho0 kp k f2
           have:=hold k pj e2
           omega
         · omega
       · rfl
   · intro k o p hk hp
     rcases hnew k o hk with ⟨kp,o',p0,p',g1,rfl,g3,g4,g5,g6,g7,_⟩ | ⟨g1,g2⟩
     · rw [g5] at hp
       injection hp with hp
       subst hp
       exact (hone kp k o' p0 p' g1 g3 g4 g6 g7).1
     · obtain ⟨p1,hp1⟩:=hTot k o g2
       rw [hle k p1 hp1] at hp
       injection hp with hp
       subst hp
       exact @xB.mono (linSym σ K) _ _ hle _ _ _ (@xB.congr (linSym σ K) _ _ _ _ _ (hpo.lft.block _ (hlow k o p1 g1 g2 hp1)) (hOn k o p1 g2 hp1))
   · intro k o hk
     rcases hnew k o hk with ⟨kp,o',p0,p',g1,_,g3,g4,g5,_⟩ | ⟨g1,g2⟩
     · exact ⟨p',g5⟩
     · obtain ⟨p1,hp1⟩:=hTot k o g2
       exact ⟨p1,hle k p1 hp1⟩
   · intro k₁ k₂ o₁ o₂ p₁ p₂ h1 h2 h3 h4 hr e
     rcases hnew k₁ o₁ h1 with ⟨kp1,o1',p01,p1',a1,_,a3,a4,a5,a6,_,a8⟩ | ⟨a1,a2⟩ <;> rcases hnew k₂ o₂ h2 with ⟨kp2,o2',p02,p2',b1,_,b3,b4,b5,b6,_,b8⟩ | ⟨b1,b2⟩
     · rw [a5] at h3; rw [b5] at h4
       injection h3 with h3; injection h4 with h4
       subst h3; subst h4
       have:=pInj kp1 kp2 o1' o2' p01 p02 a1 b1 a4 b4 (.inl (hpo.own kp1 o1' p01 a1 a4).1) (by rw [← a6.1,← b6.1]; exact e)
       subst this
       rw [a8] at b8
       injection b8
     · exfalso
       rw [a5] at h3
       injection h3 with h3; subst h3
       obtain ⟨p1,hp1⟩:=hTot k₂ o₂ b2
       rw [hle k₂ p1 hp1] at h4
       injection h4 with h4; subst h4
       refine hlow k₂ o₂ p1 b1 b2 hp1 ?_
       rw [← e,a6.1]
       exact (hpo.own kp1 o1' p01 a1 a4).2
     · exfalso
       rw [b5] at h4
       injection h4 with h4; subst h4
       obtain ⟨p1,hp1⟩:=hTot k₁ o₁ a2
       rw [hle k₁ p1 hp1] at h3
       injection h3 with h3; subst h3
       refine hlow k₁ o₁ p1 a1 a2 hp1 ?_
       rw [e,b6.1]
       exact (hpo.own kp2 o2' p02 b1 b4).2
     · obtain ⟨p1,hp1⟩:=hTot k₁ o₁ a2
       obtain ⟨p2,hp2⟩:=hTot k₂ o₂ b2
       rw [hle k₁ p1 hp1] at h3
       rw [hle k₂ p2 hp2] at h4
       injection h3 with h3; injection h4 with h4
       subst h3; subst h4
       exact hInj k₁ k₂ o₁ o₂ p1 p2 a2 b2 hp1 hp2 hr e
   · intro B hB hfree
     refine hpo.lft.block B fun hO=>?_
     rcases hOwn B hO with ⟨k0,o0,p0,f1,f2,f3,f4,_⟩ | g
     · exact hfree k0 o0 p0 f1 f2 f3 f4
     · omega
   · intro k o p hk hro hp
     rcases hnew k o hk with ⟨kp,o',p0,p',g1,_,g3,g4,g5,g6,_⟩ | ⟨g1,g2⟩
     · rw [g5] at hp
       injection hp with hp
       subst hp
       have:=(hpo.own kp o' p0 g1 g4).2
       rw [← g6.1] at this
       rcases hOwn _ this with ⟨k0,o0,p00,f1,f2,f3,f4,_⟩ | g
       · exact .inl ⟨k0,o0,p00,f1,f2,f3,f4⟩
       · exact .inr g
     · obtain ⟨p1,hp1⟩:=hTot k o g2
       rw [hle k p1 hp1] at hp
       injection hp with hp
       subst hp
       exact .inl ⟨k,o,p1,g2,hro,hp1,rfl⟩
   · intro k o p hk hp
     rcases hnew k o hk with ⟨kp,o',p0,p',g1,_,g3,g4,g5,g6,_⟩ | ⟨g1,g2⟩
     · rw [g5] at hp
       injection hp with hp
       subst hp
       have:=(hpo.own kp o' p0 g1 g4).2
       rw [← g6.1] at this
       rcases hOwn _ this with ⟨k0,o0,p00,f1,f2,f3,f4,_⟩ | g
       · exact .inl ⟨k0,o0,p00,f1,f3,f4⟩
       · exact .inr g
     · obtain ⟨p1,hp1⟩:=hTot k o g2
       rw [hle k p1 hp1] at hp
       injection hp with hp
       subst hp
       exact .inl ⟨k,o,p1,g2,hp1,rfl⟩
theorem zDW {σ σT:Nat→Int} {K:za} {G:Nat} {s:Fs} {ks es:List Key} {θ:TH} {h:zC} {n:Key} {ψ ψ':Psi} {w w':World} {v:Value} (hθ:ji σ σT θ) (hR:@Rel (linSym σ K) ψ (zC.fam h) w) (hfr:qW ψ n)
 (hc:qI (xH s.objs s.ext ks es) (jR s.objs ks) θ h G s.n.ix s.objs ks=true) (he:zCX (xH s.objs s.ext ks es) G s.n.ix h s.ext es=true):∀ {l:List Po} {po:Po},po∈l→zR6 (linSym σT kno) (qJ (xH s.objs s.ext ks es) h [] ψ G 0) s w po v ψ' w'→zX (zAP s ks es θ h n l) →
 @zo (linSym σ K) ψ (zC.fam h) n w (zAP s ks es θ h n l) v w'
 | [],_,hm,_,_=>by cases hm
 | [po'],po,hm,hpo,hcl=>by
  rw [List.mem_singleton.1 hm] at hpo
  exact zEn hθ hR hfr hc he hpo hcl
 | po'::po2::r,po,hm,hpo,hcl=>by
  have hcl:zX (uM s ks es θ h n po')∧zX (zAP s ks es θ h n (po2::r)):=hcl
  rcases List.mem_cons.1 hm with e | hm
  · subst e
    exact .inl (zEn hθ hR hfr hc he hpo hcl.1)
  · exact .inr (zDW hθ hR hfr hc he (l:=po2::r) hm hpo hcl.2)
theorem zN6 {σ:Nat→Int} {K:za} (hK:KnownOk σ K) {f:FuncId} {G:Nat} (hG:P.globals.size≤G) {s:Fs} (hs:FsOk P f s) {args:List CV} {h:zC} {n:Key} {ψ:Psi} {w:World} {args':Array Value} {m mn q:Nat} {ks es:List Key} {θl:TH}
 (hm:m=s.b.length) (hn:mn=m+s.pn) (ha:@zT (linSym σ K) ψ args args'.toList) (hg:wd P ψ) (hR:@Rel (linSym σ K) ψ (zC.fam h) w) (hfr:qW ψ n) (hfit:@zPf (linSym σ K) G s m mn q ks es θl args h=true) (hcl:zX (wG s ks es (sbP θl m mn q s.pn) (θl++jb q s.pn) h n s.posts)) :
 ya P f args' w (@zo (linSym σ K) ψ (zC.fam h) n w (wG s ks es (sbP θl m mn q s.pn) (θl++jb q s.pn) h n s.posts)):=by
 unfold zPf at hfit
 simp only [Bool.and_eq_true] at hfit
 obtain ⟨⟨⟨⟨⟨⟨f4,fp⟩,f1⟩,f2⟩,fe⟩,f3⟩,f5⟩:=hfit
 have hlow:s.b.length=θl.length:=(zIA hK P (σT:=fun i=>match nth θl i with | some q=>evQ σ q | none=>0) (j:=0) f4 (fun i q hi=>by simp only [Nat.zero_add,hi])).1
 have hm':m=θl.length:=by omega
 have hsi:∀ e d,zBv θl m mn q s.pn e d=zAb (θl++jb q s.pn) e d:=zJP hm' hn
 rw [zDs (fun ρ e=>zTJ hm' hn e)] at hcl ⊢
 rw [kN hsi (fun _ _ _=>rfl)] at f1
 rw [zDy hsi (fun _ _ _=>rfl)] at f2
 rw [zFz hsi (fun _ _ _=>rfl)] at f5
 obtain ⟨θ,hθe⟩:∃ θ,θ=θl++jb q s.pn:=⟨_,rfl⟩
 rw [← hθe] at f1 f2 f5 hcl ⊢
 obtain ⟨σT,hσ⟩:∃ σT:Nat→Int,∀ j,σT j=match nth θ j with | some q=>evQ σ q | none=>0:=⟨_,fun _=>rfl⟩
 have hth:∀ j q,nth θ j=some q→σT j=evQ σ q:=fun j q hj=>by rw [hσ,hj]
 have hlen:s.bA.length=θ.length:=by
  rw [hθe]
  unfold Fs.bA
  rw [List.length_append,List.length_append,zKc,zJr,hlow]
 have hb:zt σT 0 s.bA:=by
  refine zCl (zIA hK P (σT:=σT) (j:=0) f4 (fun i x hi=>?_)).2 fun i hi=>?_
  · rw [Nat.zero_add]
    refine hth i x ?_
    have hlt:i<θl.length:=by
     rw [@nth_eq noSym] at hi
     exact (List.getElem?_eq_some_iff.1 hi).1
    rw [hθe,zEK hlt,hi]
  · have h1:nth θ (0+s.b.length+i)=some (0,[(q+i,1)]):=by
     rw [Nat.zero_add,hlow,hθe,zFI,zFY hi]
    rw [hth _ _ h1]
    have h2:=zMX fp i hi
    rw [zHy] at h2
    have h3:=hK.b _ _ h2
    show (0:Int)≤0+(1*σ (q+i)+0)∧(0:Int)+(1*σ (q+i)+0)≤255
    simp only at h3
    omega
 have hobj:=j3 f2
 have hlen0:=u5 f2
 have f3:=@zL noSym _ _ f3
 have hrho:∀ k b,zk (xH s.objs s.ext ks es) k=some b→G≤k.ix∧k.ix<s.n.ix:=by
  intro k b hk
  rcases zMv hlen0 hk with ⟨j,o,h1,h2⟩ | ⟨j,h1,h2⟩
  · obtain ⟨i',o',g1,g2,g3,g4,g5,g6,g7⟩:=hobj j k o h1
    exact ⟨g4,g5⟩
  · obtain ⟨_,a1,a2⟩:=zDf fe j k b h1 h2
    exact ⟨a1,a2⟩
 refine zBT (hs σT hb (qJ (xH s.objs s.ext ks es) h [] ψ G 0) w args' (fun σ' K' hag hK'=>?_) ?_ ?_) fun v w' ⟨po,hpo,ψ',hok⟩=>?_
 · have hθ':ji σ σ' θ:=fun j q hj=>by
    have hlt:j<θ.length:=by
     rw [@nth_eq noSym] at hj
     exact (List.getElem?_eq_some_iff.1 hj).1
    rw [hag j (by omega)]
    exact hth j q hj
   obtain ⟨c1,c2⟩:=zLn (G:=G) (KT:=K') hθ' hR f2 f5
   exact ⟨kQ hθ' c2 _ _ f1 ha,c1⟩
 · intro g hg' h4
   obtain ⟨sz,e⟩:=hg g hg' h4
   have hix:(Key.ofNat g).ix=g:=@Key.ix_ofNat noSym _ (by omega)
   refine ⟨sz,?_⟩
   have hno:zk (xH s.objs s.ext ks es) (Key.ofNat g)=none:=by
    cases hr:zk (xH s.objs s.ext ks es) (Key.ofNat g) with
    | none=>rfl
    | some b=>have:=(hrho _ _ hr).1; omega
   unfold qJ
   rw [hno]
   simp only [findW]
   rw [if_pos (by omega)]
   exact e
 · intro k hk
   have hno:zk (xH s.objs s.ext ks es) k=none:=by
    cases hr:zk (xH s.objs s.ext ks es) k with
    | none=>rfl
    | some b=>have:=(hrho _ _ hr).2; omega
   unfold qJ
   rw [hno]
   simp only [findW]
   rw [if_neg (by omega)]
 · exact zDW (fun j q hj=>hth j q hj) hR hfr f2 fe hpo hok hcl
theorem vT {σ:Nat→Int} {K:za} (hK:KnownOk σ K) {f:FuncId} {G:Nat} (hG:P.globals.size≤G) {args:List CV} {h:zC} {n:Key} {ψ:Psi} {w:World} {args':Array Value}
 (ha:@zT (linSym σ K) ψ args args'.toList) (hg:wd P ψ) (hR:@Rel (linSym σ K) ψ (zC.fam h) w) (hfr:qW ψ n) {z:R} (hz:zX z→ya P f args' w (@zo (linSym σ K) ψ (zC.fam h) n w z)):∀ {l:List Fs},(∀ s∈l,FsOk P f s) →
 zX (@zB9 (linSym σ K) G args h n z l)→ya P f args' w (@zo (linSym σ K) ψ (zC.fam h) n w (@zB9 (linSym σ K) G args h n z l))
 | [],_,hcl=>hz hcl
 | s::r,hl,hcl=>by
  unfold zB9 at hcl ⊢
  split at hcl
  · unfold zPv at hcl ⊢
    simp only [zQI] at hcl ⊢
    split at hcl
    · exact vT hK hG ha hg hR hfr hz (fun s' h'=>hl s' (by simp [h'])) hcl
    rename_i ks a hh
    simp only [zIC,zLA,zH0] at hcl ⊢
    split at hcl
    · rename_i hfit
      exact zN6 hK hG (hl s (by simp)) rfl rfl ha hg hR hfr hfit hcl
    · rename_i hfit
      exact vT hK hG ha hg hR hfr hz (fun s' h'=>hl s' (by simp [h'])) hcl
  · exact vT hK hG ha hg hR hfr hz (fun s' h'=>hl s' (by simp [h'])) hcl
def fsF [Sym] (P:Program) (code:FuncId→CFn) (nat:Nats) (fuel G:Nat) (f:FuncId) (l:List Fs) (d:Bool) (args:List CV) (h:zC) (n:Key):R:=match d with
 | true=>ev P code nat fuel true f args h n
 | false=>zB9 G args h n (ev P code nat fuel false f args h n) l
def zUk (P:Program) (code:FuncId→CFn) (nat:Nats) (fuel G:Nat) (f:FuncId) (l:List Fs):NatF:=fun S=>@fsF S P code nat fuel G f l
def natF (P:Program) (code:FuncId→CFn) (fuel:Nat) (f:FuncId) (G:Nat) (l:List Fs) (nat:Nats):Nats:=fun g=>Bool.rec (motive:=fun _=>Option NatF) (nat g) (some (zUk P code nat fuel G f l)) (Nat.beq g f)
theorem natF_ok {code:FuncId→CFn} {fuel:Nat} {f:FuncId} {G:Nat} {l:List Fs} {nat:Nats} (hm:P.follows .mixedOrders=true) (hcode:CodeOk P code) (hG:P.globals.size≤G) (hl:∀ s∈l,FsOk P f s) (hn:∀ σ K,KnownOk σ K→@NatsOk (linSym σ K) P nat) :
 ∀ σ K,KnownOk σ K→@NatsOk (linSym σ K) P (natF P code fuel f G l nat):=by
 intro σ K hK
 have hc:@yY (linSym σ K) P (@ev (linSym σ K) P code nat fuel):=by
  letI S:Sym:=linSym σ K
  haveI hS:SymFact P:=linSym_ok hK
  exact ww (fun call hcall F N=>yy hm hcall) hcode (hn _ _ hK) fuel
 have hn:=hn σ K hK
 have key:∀ g q,natF P code fuel f G l nat g=some q→(g=f∧q=zUk P code nat fuel G f l)∨nat g=some q:=by
  intro g q h
  unfold natF at h
  cases e:Nat.beq g f with
  | true=>
   rw [e] at h
   injection h with h
   exact .inl ⟨Nat.eq_of_beq_eq_true e,h.symm⟩
  | false=>rw [e] at h; exact .inr h
 refine @NatsOk.mk (linSym σ K) P _ (fun g q hg d args h n=>?_) (fun g q hg args h n ψ w args' h1 h2 h3 h4 hcl=>?_) (fun g q hg args h n ψ w args' h1 h2 h3 h4 hcl=>?_)
 · rcases key g q hg with ⟨rfl,rfl⟩ | hg
   · cases d with
     | true=>exact @yY.above (linSym σ K) _ _ hc true g args h n
     | false=>exact @kL (linSym σ K) G args h n _ (@yY.above (linSym σ K) _ _ hc false g args h n) l
   · exact @NatsOk.above (linSym σ K) _ _ hn g q hg d args h n
 · rcases key g q hg with ⟨rfl,rfl⟩ | hg
   · exact vT hK hG h1 h2 h3 h4 (fun hz=>@yY.calls (linSym σ K) _ _ hc g args h n ψ w args' h1 h2 h3 h4 hz) hl hcl
   · exact @NatsOk.calls (linSym σ K) _ _ hn g q hg args h n ψ w args' h1 h2 h3 h4 hcl
 · rcases key g q hg with ⟨rfl,rfl⟩ | hg
   · exact @yY.defers (linSym σ K) _ _ hc g args h n ψ w args' h1 h2 h3 h4 hcl
   · exact @NatsOk.defers (linSym σ K) _ _ hn g q hg args h n ψ w args' h1 h2 h3 h4 hcl
def fsG [Sym] (P:Program) (code:FuncId→CFn) (nat:Nats) (fuel G:Nat) (f:FuncId) (sel:List CV→zC→List Fs) (d:Bool) (args:List CV) (h:zC) (n:Key):R:=match d with
 | true=>ev P code nat fuel true f args h n
 | false=>zB9 G args h n (ev P code nat fuel false f args h n) (sel args h)
def zT6 (P:Program) (code:FuncId→CFn) (nat:Nats) (fuel G:Nat) (f:FuncId) (sel:List CV→zC→List Fs):NatF:=fun S=>@fsG S P code nat fuel G f sel
def natG (P:Program) (code:FuncId→CFn) (fuel:Nat) (f:FuncId) (G:Nat) (sel:List CV→zC→List Fs) (nat:Nats):Nats:=fun g=>Bool.rec (motive:=fun _=>Option NatF) (nat g) (some (zT6 P code nat fuel G f sel)) (Nat.beq g f)
theorem natG_ok {code:FuncId→CFn} {fuel:Nat} {f:FuncId} {G:Nat} {sel:List CV→zC→List Fs} {nat:Nats} (hm:P.follows .mixedOrders=true) (hcode:CodeOk P code) (hG:P.globals.size≤G) (hl:∀ args h,∀ s∈sel args h,FsOk P f s) (hn:∀ σ K,KnownOk σ K→@NatsOk (linSym σ K) P nat) :
 ∀ σ K,KnownOk σ K→@NatsOk (linSym σ K) P (natG P code fuel f G sel nat):=by
 intro σ K hK
 have hc:@yY (linSym σ K) P (@ev (linSym σ K) P code nat fuel):=by
  letI S:Sym:=linSym σ K
  haveI hS:SymFact P:=linSym_ok hK
  exact ww (fun call hcall F N=>yy hm hcall) hcode (hn _ _ hK) fuel
 have hn:=hn σ K hK
 have key:∀ g q,natG P code fuel f G sel nat g=some q→(g=f∧q=zT6 P code nat fuel G f sel)∨nat g=some q:=by
  intro g q h
  unfold natG at h
  cases e:Nat.beq g f with
  | true=>
   rw [e] at h
   injection h with h
   exact .inl ⟨Nat.eq_of_beq_eq_true e,h.symm⟩
  | false=>rw [e] at h; exact .inr h
 refine @NatsOk.mk (linSym σ K) P _ (fun g q hg d args h n=>?_) (fun g q hg args h n ψ w args' h1 h2 h3 h4 hcl=>?_) (fun g q hg args h n ψ w args' h1 h2 h3 h4 hcl=>?_)
 · rcases key g q hg with ⟨rfl,rfl⟩ | hg
   · cases d with
     | true=>exact @yY.above (linSym σ K) _ _ hc true g args h n
     | false=>exact @kL (linSym σ K) G args h n _ (@yY.above (linSym σ K) _ _ hc false g args h n) (l:=sel args h)
   · exact @NatsOk.above (linSym σ K) _ _ hn g q hg d args h n
 · rcases key g q hg with ⟨rfl,rfl⟩ | hg
   · exact vT hK hG h1 h2 h3 h4 (fun hz=>@yY.calls (linSym σ K) _ _ hc g args h n ψ w args' h1 h2 h3 h4 hz) (hl args h) hcl
   · exact @NatsOk.calls (linSym σ K) _ _ hn g q hg args h n ψ w args' h1 h2 h3 h4 hcl
 · rcases key g q hg with ⟨rfl,rfl⟩ | hg
   · exact @yY.defers (linSym σ K) _ _ hc g args h n ψ w args' h1 h2 h3 h4 hcl
   · exact @NatsOk.defers (linSym σ K) _ _ hn g q hg args h n ψ w args' h1 h2 h3 h4 hcl
end
end Go.Ev
namespace Go.Ev
open Go.RowKit
noncomputable section
variable {P:Program}
mutual
theorem zH.sw {S S':Sym} (hv:∀ e,@Sym.val S e=@Sym.val S' e) (ha:∀ k,@Sym.arg S k=@Sym.arg S' k) {ψ:Psi}:∀ (c:CV) {v:Value},@zH S ψ c v→@zH S' ψ c v
 | .bool _,_,h=>h
 | .nat _,_,h=>h
 | .int _ _,_,h=>h
 | .anyi _,_,h=>h
 | .str _,_,h=>h
 | .nilptr,_,h=>h
 | .ptr _ _,_,h=>h
 | .nilsl,_,h=>h
 | .sl ..,_,h=>h
 | .nilmap,_,h=>h
 | .map _,_,h=>h
 | .func _ a c,_,h=>by
  unfold zH at h ⊢
  obtain ⟨a',c',e,h1,h2⟩:=h
  exact ⟨a',c',e,zT.sw hv ha a h1,zT.sw hv ha c h2⟩
 | .nilfunc,_,h=>h
 | .iface _ x,_,h=>by
  unfold zH at h ⊢
  obtain ⟨y,e,h1⟩:=h
  exact ⟨y,e,zH.sw hv ha x h1⟩
 | .niliface,_,h=>h
 | .agg cs,_,h=>by
  unfold zH at h ⊢
  obtain ⟨a,e,h1⟩:=h
  exact ⟨a,e,zT.sw hv ha cs h1⟩
 | .tup cs,_,h=>by
  unfold zH at h ⊢
  obtain ⟨a,e,h1⟩:=h
  exact ⟨a,e,zT.sw hv ha cs h1⟩
 | .sym _,_,h=>by
  unfold zH at h ⊢
  rw [← hv]; exact h
 | .win ..,_,h=>by
  unfold zH at h ⊢
  rw [← ha,← hv,← hv]; exact h
 | .sst l,_,h=>by
  unfold zH at h ⊢
  obtain ⟨b,e,h1⟩:=h
  exact ⟨b,e,zT.sw hv ha l h1⟩
 | .big _,_,h=>h
 | .few _ _,_,h=>by
  unfold zH at h ⊢
  rw [← hv]; exact h
 | .elt ..,_,h=>by
  unfold zH at h ⊢
  rw [← hv]; exact h
 | .any,_,_=>by unfold zH; trivial
theorem zT.sw {S S':Sym} (hv:∀ e,@Sym.val S e=@Sym.val S' e) (ha:∀ k,@Sym.arg S k=@Sym.arg S' k) {ψ:Psi}:∀ (cs:List CV) {l:List Value},@zT S ψ cs l→@zT S' ψ cs l
 | [],_,h=>h
 | c::cs,_,h=>by
  unfold zT at h ⊢
  obtain ⟨v,r,e,h1,h2⟩:=h
  exact ⟨v,r,e,zH.sw hv ha c h1,zT.sw hv ha cs h2⟩
end
section
variable {S S':Sym} (hv:∀ e,@Sym.val S e=@Sym.val S' e) (ha:∀ k,@Sym.arg S k=@Sym.arg S' k) {ψ:Psi}
include hv ha
theorem zHD {ck:Nat→Nat}:∀ {es:List CE} {l:List MapEntry},@yE S ψ ck es l→@yE S' ψ ck es l
 | [],_,h=>h
 | c::cs,_,⟨e,r,h1,⟨h2,h3,h4⟩,h5⟩=>⟨e,r,h1,⟨zH.sw hv ha _ h2,zH.sw hv ha _ h3,h4⟩,zHD h5⟩
theorem zE6:∀ {es:List (CV × CV)} {l:List MapEntry},@kn S ψ es l→@kn S' ψ es l
 | [],_,h=>h
 | q::r,_,h=>by
  rcases h with ⟨h1,h2⟩ | ⟨e,m,h1,h2,h3,h4⟩
  · exact .inl ⟨zH.sw hv ha _ h1,zE6 h2⟩
  · exact .inr ⟨e,m,h1,zH.sw hv ha _ h2,zH.sw hv ha _ h3,zE6 h4⟩
theorem zSe {w:World} {p:Pl}:∀ {o:CObj},@xB S ψ w p o→@xB S' ψ w p o
 | .cells _,⟨a,e,f,h1,h2,h3,h4,h5⟩=>⟨a,e,f,h1,h2,h3,h4,fun i c hc=>let ⟨x,g1,g2⟩:=h5 i c hc; ⟨x,g1,zH.sw hv ha _ g2⟩⟩
 | .ro _,⟨a,e,f,h1,h2,h5⟩=>⟨a,e,f,h1,h2,fun i c hc=>let ⟨x,g1,g2⟩:=h5 i c hc; ⟨x,g1,zH.sw hv ha _ g2⟩⟩
 | .map _ _,⟨a,h1,⟨l,h2,h3⟩,h4⟩=>⟨a,h1,⟨l,h2,zHD hv ha h3⟩,h4⟩
 | .striter _ _,⟨b,h1,h2,h3⟩=>⟨b,h1,zT.sw hv ha _ h2,h3⟩
 | .full _ _,⟨a,e,f,h1,h2,h3,h4,h5⟩=>⟨a,e,f,h1,h2,h3,h4,fun i c hc=>let ⟨x,g1,g2⟩:=h5 i c hc; ⟨x,g1,zH.sw hv ha _ g2⟩⟩
 | .mapz _,⟨a,c,h1,⟨l,h2,h3⟩⟩=>⟨a,c,h1,⟨l,h2,zE6 hv ha h3⟩⟩
 | .mapiter ..,h=>h
theorem zTd {g:Fam} {w:World} (h:@Rel S ψ g w):@Rel S' ψ g w:=
 @Rel.mk S' _ _ _ (fun k o p h1 h2=>zSe hv ha (@Rel.on S _ _ _ h k o p h1 h2)) (@Rel.tot S _ _ _ h) (@Rel.inj S _ _ _ h)
theorem zQK:∀ {ds:xP} {l:List Deferred},@qy S P ψ ds l→@qy S' P ψ ds l
 | [],_,h=>h
 | f::fs,_,⟨d,r,h1,⟨fv,cap,as,g1,g2,g3⟩,h4⟩=>⟨d,r,h1,⟨fv,cap,as,g1,g2,zT.sw hv ha _ g3⟩,zQK h4⟩
theorem zTW {F N:Nat} {tm:Tm} {ds:xP} {h:zC} {n:Key} {a:Act} {w:World} (hs:@St S P F N ψ tm ds h n a w):@St S' P F N ψ tm ds h n a w:=
 @St.mk S' P F N _ _ _ _ _ _ _ (@yx.mk S' _ _ _ _ _ (@yx.size S _ _ _ _ _ (@St.frame S _ _ _ _ _ _ _ _ _ _ hs)) fun t h1 h2 h3=>zH.sw hv ha _ (@yx.tmp S _ _ _ _ _ (@St.frame S _ _ _ _ _ _ _ _ _ _ hs) t h1 h2 h3))
  (zQK hv ha (@St.dfr S _ _ _ _ _ _ _ _ _ _ hs)) (zTd hv ha (@St.rel S _ _ _ _ _ _ _ _ _ _ hs)) (@St.glob S _ _ _ _ _ _ _ _ _ _ hs) (@St.fresh S _ _ _ _ _ _ _ _ _ _ hs)
end
theorem relsC {σ:Nat→Int} {K:za} {ψ:Psi} {k:Key} {j:Nat} {v:Value} {l:List CV} {m:List Value} {base:Option Addr} {len cap:Nat} (ha:K.arg k=some v) (hv:v=.slice base len cap) (hj:σ j=len)
 (hp:0<len→∃ p x,ψ k=some p∧base=some ⟨p.blk,x,none⟩∧p.off=x∧p.sz=x+cap*1∧len≤cap) (h:@zT (linSym σ K) ψ l m):@zT (linSym σ K) ψ (.win k 1 ⟨.i64,0,[]⟩ (sv j)::l) (v::m):=by
 refine (@zW (linSym σ K) _ _ _ _ _).2 ⟨(@xq (linSym σ K) _ _ _ _ _ _).2 ⟨ha,base,len,cap,0,hv,?_,rfl,fun _ h2=>?_⟩,h⟩
 · show Value.int .i64 (evE σ (sv j))=_
   rw [ja,hj]
 · obtain ⟨p,x,h3,h4,h5,h6,h7⟩:=hp (by omega)
   exact ⟨p,x,h3,h4,by rw [h5]; simp,h6,h7⟩
def zIN (o:Option CObj):Bool:=match o with
 | none=>true
 | some _=>false
def rdL (tm:Tm):List (Nat × CV)→(List (Nat × CV)→Bool)→Bool
 | [],k=>k []
 | p::r,k=>zQ (x7 (Loc.ofNat p.1) tm) fun v=>rdL tm r fun l=>k ((p.1,v)::l)
def rdO (X h:zC):List (Nat × CV)→(List (Key × CObj)→Bool)→Bool
 | [],k=>k []
 | p::r,k=>match zSa p.2 with
  | none=>rdO X h r k
  | some j=>match ze j h with
   | none=>rdO X h r k
   | some o=>zIN (ze j X)&&zOQ o fun o=>rdO X h r fun l=>k ((j,o)::l)
def zBB (X:zC) (locs:List (Nat × CV)) (r:R) (k:List (Nat × CV)→List (Key × CObj)→Key→Bool):Bool:=match r with
 | .ok .normal tm [] h n=>Nat.ble (Nat.succ n.ix) 65535&&rdL tm locs fun l=>rdO X h l fun o=>zK n fun n=>k l o n
 | _=>false
theorem zK9 {tm:Tm}:∀ {l:List (Nat × CV)} {k:List (Nat × CV)→Bool},rdL tm l k=k (l.map fun p=>(p.1,x7 (Loc.ofNat p.1) tm))
 | [],_=>rfl
 | p::r,k=>by
  unfold rdL
  rw [zO2,zK9]
  rfl
theorem zCo {X h:zC}:∀ {l:List (Nat × CV)} {k:List (Key × CObj)→Bool},rdO X h l k=true→∃ o,k o=true∧∀ q∈o,ze q.1 h=some q.2∧ze q.1 X=none
 | [],k,hk=>⟨[],hk,fun q hq=>by cases hq⟩
 | p::r,k,hk=>by
  unfold rdO at hk
  split at hk
  · exact zCo hk
  · rename_i j _
    split at hk
    · exact zCo hk
    · rename_i o ho
      rw [Bool.and_eq_true,zLX] at hk
      obtain ⟨l,h1,h2⟩:=zCo hk.2
      refine ⟨_,h1,fun q hq=>?_⟩
      rcases List.mem_cons.1 hq with rfl | hq
      · refine ⟨ho,?_⟩
        have h3:=hk.1
        unfold zIN at h3
        split at h3
        · assumption
        · cases h3
      · exact h2 q hq
theorem zFW {X:zC} {locs:List (Nat × CV)} {r:R} {k:List (Nat × CV)→List (Key × CObj)→Key→Bool} (h:zBB X locs r k=true) :
 ∃ tm hh n o,r=.ok .normal tm [] hh n∧n.ix+1≤65535∧k (locs.map fun p=>(p.1,x7 (Loc.ofNat p.1) tm)) o n=true∧∀ q∈o,ze q.1 hh=some q.2∧ze q.1 X=none:=by
 unfold zBB at h
 split at h
 · rename_i tm hh n
   rw [Bool.and_eq_true,zK9] at h
   obtain ⟨o,h1,h2⟩:=zCo h.2
   rw [uh] at h1
   exact ⟨tm,hh,n,o,rfl,@zL noSym _ _ h.1,h1,h2⟩
 · cases h
theorem zRd {X:zC} {k:Key} {o:CObj}:∀ {objs:List (Key × CObj)},ze k (mkH .nil objs)=some o→ze k (mkH X objs)=some o
 | [],h=>by rw [show mkH .nil []=(.nil:zC) from rfl,jH] at h; cases h
 | p::r,h=>by
  have h:ze k (yj (some p.2) p.1 (mkH .nil r))=some o:=h
  show ze k (yj (some p.2) p.1 (mkH X r))=some o
  rw [kY] at h ⊢
  split at h
  · rename_i e; rw [if_pos e]; exact h
  · rename_i e; rw [if_neg e]; exact zRd h
theorem zJm {X:zC} {k:Key}:∀ {objs:List (Key × CObj)},(∀ q∈objs,q.1≠k)→ze k (mkH X objs)=ze k X
 | [],_=>rfl
 | p::r,h=>by
  show ze k (yj (some p.2) p.1 (mkH X r))=_
  rw [kY,if_neg fun e=>h p (by simp) e.symm]
  exact zJm fun q hq=>h q (by simp [hq])
theorem zRt {k:Key} {o:CObj}:∀ {objs:List (Key × CObj)},ze k (mkH .nil objs)=some o→(k,o)∈objs:=by
 intro objs h
 rcases x9 h with ⟨j,hj⟩ | h
 · exact List.mem_of_getElem? hj
 · rw [jH] at h; cases h
section
variable {code:FuncId→CFn} {nat:Nats} {fuel:Nat} {fn:Func} {c b:Code} {p:List Stp} {rs:List CRes} {G:Nat} {wins:List Win} {ws L:List (Key × Nat)} {w0:World} {F N:Nat}
def HdX (P:Program) (F N:Nat) (fn:Func) (c b:Code) (p:List Stp) (w0:World) (σ:Nat→Int) (K:za) (X:zC) (locs:List (Nat × CV)) (objs:List (Key × CObj)) (n:Key):Prop:=
 ∀ (ψ:Psi) (a:Act) (w:World),@St (linSym σ K) P F N ψ (uP locs) [] (mkH X objs) n a w→Below w0.heap.size w0 w→(∀ k o q,zC.fam (mkH X objs) k=some o→o.isRo=false→ψ k=some q→w0.heap.size≤q.blk) →
  vN P b (QH P p c (zGv P fn w0)) a w
theorem zUu {σ:Nat→Int} {K K':za} (h:K'.arg=K.arg) {X:zC} {locs:List (Nat × CV)} {objs:List (Key × CObj)} {n:Key} (hd:HdX P F N fn c b p w0 σ K' X locs objs n):HdX P F N fn c b p w0 σ K X locs objs n:=
 fun ψ a w hs hb ho=>hd ψ a w (zTW (S:=linSym σ K) (S':=linSym σ K') (fun _=>rfl) (fun k=>by show K.arg k=K'.arg k; rw [h]) hs) hb ho
theorem zGb {σ:Nat→Int} {e e':Lf} {A:Key→Option Value} {X:zC} {locs:List (Nat × CV)} {objs:List (Key × CObj)} {n:Key} (hd:HdX P F N fn c b p w0 σ (e'.known A) X locs objs n):HdX P F N fn c b p w0 σ (e.known A) X locs objs n:=
 zUu (K:=e.known A) (K':=e'.known A) rfl hd
theorem zEX:∀ {p:List Stp} {c:Code},subC p c=some b→zu c=true→zu b=true:=by
 intro p
 induction p with
 | nil=>
  intro c hs hn
  cases c <;> try (cases hs; done)
  injection hs with hs; subst hs
  simpa [zu] using hn
 | cons x p ih=>
  intro c hs hn
  cases x <;> cases c <;> try (cases hs; done)
  · rename_i x y
    have hn:zu x=true∧zu y=true:=by simpa [zu] using hn
    exact ih hs hn.1
  · rename_i x y
    have hn:zu x=true∧zu y=true:=by simpa [zu] using hn
    exact ih hs hn.2
  · exact ih hs hn
theorem zBK (hm:P.follows .mixedOrders=true) (hcode:CodeOk P code) (hnat:∀ σ K,KnownOk σ K→@NatsOk (linSym σ K) P nat) (hsub:subC p c=some b) (hn:zu c=true) {σ:Nat→Int} {K:za} (hK:KnownOk σ K)
 {X:zC} {locs:List (Nat × CV)} {objs:List (Key × CObj)} {n:Key} (hap:∀ q∈objs,ze q.1 X=none) {k:List (Nat × CV)→List (Key × CObj)→Key→Bool}
 (hrun:zBB X locs (@zi (linSym σ K) P (@ev (linSym σ K) P code nat fuel) (uz p (zR P F N c)) (uP locs) [] (mkH .nil objs) n) k=true)
 (hk:∀ l o n',k l o n'=true→(∀ q∈o,ze q.1 X=none)→HdX P F N fn c b p w0 σ K X l o n'):HdX P F N fn c b p w0 σ K X locs objs n:=by
 intro ψ a w hst hb ho
 letI S:Sym:=linSym σ K
 haveI hS:SymFact P:=linSym_ok hK
 have hcall:yY P (ev P code nat fuel):=ww (fun call hcall F N=>yy hm hcall) hcode (hnat _ _ hK) fuel
 have hdraw:qv P F N (ev P code nat fuel):=yy hm hcall
 rw [@wA S P F N p c b hsub] at hrun
 obtain ⟨tm,hh,n',os,hr,hroom,hk1,hos⟩:=zFW hrun
 have hjo:Rel ψ (zC.fam (mkH X objs)) w:=hst.rel
 have hup:∀ k o,zC.fam (mkH .nil objs) k=some o→zC.fam (mkH X objs) k=some o:=fun k o h=>zRd h
 have hkey:∀ k o,zC.fam (mkH .nil objs) k=some o→ze k X=none:=fun k o h=>hap _ (zRt h)
 have hXin:∀ k o,ze k X=some o→zC.fam (mkH X objs) k=some o:=fun k o h=>by
  show ze k (mkH X objs)=some o
  rw [zJm fun q hq e=>?_]
  · exact h
  · have:=hap q hq
    rw [e,h] at this; cases this
 have hsm:St P F N ψ (uP locs) [] (mkH .nil objs) n a w:=
  ⟨hst.frame,hst.dfr,⟨fun k o q h1 h2=>hjo.on k o q (hup k o h1) h2,fun k o h1=>hjo.tot k o (hup k o h1),fun k1 k2 o1 o2 p1 p2 h1 h2 h3 h4 h5 h6=>hjo.inj k1 k2 o1 o2 p1 p2 (hup _ _ h1) (hup _ _ h2) h3 h4 h5 h6⟩,hst.glob,hst.fresh⟩
 have hsim:=kO hcall hdraw b (zEX hsub hn) hsm (by rw [hr]; exact hroom)
 rw [hr] at hsim
 refine zAJ (wp_mono hsim fun e a' w' ho'=>?_)
 obtain ⟨h1,ψ',h2,h3,h4⟩:=ho'
 cases e <;> first | exact h1.elim | skip
 have hXlt:∀ k o q,ze k X=some o→ψ k=some q→q.blk<w.heap.size∧ψ' k=some q∧w'.heap[q.blk]? = w.heap[q.blk]?∧xB ψ' w' q o:=by
  intro k o q g1 g2
  have g3:=hjo.on k o q (hXin k o g1) g2
  have g4:=h3.frame q.blk g3.lt fun k1 o1 p1 f1 f2 f3 f4=>by
   have:=hjo.inj k1 k _ _ _ _ (hup _ _ f1) (hXin k o g1) f3 g2 (.inl f2) f4
   subst this
   rw [hkey _ _ f1] at g1; cases g1
  exact ⟨g3.lt,h3.ext _ _ g2,g4,(g3.congr g4).mono h3.ext⟩
 have hkept:∀ k o,(k,o)∈os→zC.fam hh k=some o:=fun k o h=>(hos _ h).1
 have hcase:∀ k o,zC.fam (mkH X os) k=some o→zC.fam hh k=some o∧ze k X=none∨ze k X=some o:=by
  intro k o h
  rcases x9 (show ze k (mkH X os)=some o from h) with ⟨j,hj⟩ | h
  · exact .inl ⟨hkept _ _ (List.mem_of_getElem? hj),(hos _ (List.mem_of_getElem? hj)).2⟩
  · exact .inr h
 have hXtot:∀ k o,ze k X=some o→∃ q,ψ k=some q:=fun k o h=>hjo.tot k o (hXin k o h)
 have hR:Rel ψ' (zC.fam hh) w':=h2.rel
 have hmix:∀ k1 k2 o1 o2 p1 p2,zC.fam hh k1=some o1→ze k2 X=some o2→ψ' k1=some p1→ψ' k2=some p2→(o1.isRo=false∨o2.isRo=false)→p1.blk=p2.blk→False:=by
  intro k1 k2 o1 o2 p1 p2 f1 f2 f3 f4 hor e
  obtain ⟨q,hq⟩:=hXtot k2 o2 f2
  obtain ⟨g1,g2,g3,g4⟩:=hXlt k2 o2 q f2 hq
  rw [g2] at f4
  injection f4 with f4
  subst f4
  have done:∀ k0 o0 p0,zC.fam (mkH .nil objs) k0=some o0→ψ k0=some p0→p0.blk=p1.blk→(o0.isRo=false∨o2.isRo=false)→False:=by
   intro k0 o0 p0 a1 a2 a3 a4
   have:=hjo.inj k0 k2 _ _ _ _ (hup _ _ a1) (hXin _ _ f2) a2 hq a4 (a3.trans e)
   subst this
   rw [hkey _ _ a1] at f2; cases f2
  rcases hor with hor | hor
  · rcases h3.img k1 o1 p1 f1 hor f3 with ⟨k0,o0,p0,a1,a2,a3,a4⟩ | hge
    · exact done k0 o0 p0 a1 a3 a4 (.inl a2)
    · omega
  · rcases h3.imgA k1 o1 p1 f1 f3 with ⟨k0,o0,p0,a1,a3,a4⟩ | hge
    · exact done k0 o0 p0 a1 a3 a4 (.inr hor)
    · omega
 have hoS:∀ k o q,zC.fam (mkH .nil objs) k=some o→o.isRo=false→ψ k=some q→w0.heap.size≤q.blk:=fun k o q f1 f2 f3=>ho k o q (hup _ _ f1) f2 f3
 refine hk _ os n' hk1 (fun q hq=>(hos q hq).2) ψ' a' w' ⟨⟨h2.frame.size,fun t f1 f2 f3=>?_⟩,h2.dfr,⟨?_,?_,?_⟩,h2.glob,h2.fresh⟩ (zFk hb h3 hoS) ?_
 · rcases zC7 t (locs:=locs.map fun p=>(p.1,x7 (Loc.ofNat p.1) tm)) with e | ⟨q,hq,e1,e2⟩
   · rw [e]; exact qA
   · rw [e2]
     obtain ⟨q',_,rfl⟩:=List.mem_map.1 hq
     simp only at e1 ⊢
     rw [e1]
     exact h2.frame.tmp t f1 f2 f3
 · intro k o q f1 f2
   rcases hcase k o f1 with ⟨f1,_⟩ | f1
   · exact hR.on k o q f1 f2
   · obtain ⟨q0,hq0⟩:=hXtot k o f1
     obtain ⟨_,g2,_,g4⟩:=hXlt k o q0 f1 hq0
     rw [g2] at f2
     injection f2 with f2
     subst f2
     exact g4
 · intro k o f1
   rcases hcase k o f1 with ⟨f1,_⟩ | f1
   · exact hR.tot k o f1
   · obtain ⟨q0,hq0⟩:=hXtot k o f1
     exact ⟨q0,h3.ext _ _ hq0⟩
 · intro k1 k2 o1 o2 p1 p2 f1 f2 f3 f4 hor e
   rcases hcase k1 o1 f1 with ⟨f1,_⟩ | f1 <;> rcases hcase k2 o2 f2 with ⟨f2,_⟩ | f2
   · exact hR.inj k1 k2 o1 o2 p1 p2 f1 f2 f3 f4 hor e
   · exact (hmix _ _ _ _ _ _ f1 f2 f3 f4 hor e).elim
   · exact (hmix _ _ _ _ _ _ f2 f1 f4 f3 hor.symm e.symm).elim
   · obtain ⟨q1,hq1⟩:=hXtot k1 o1 f1
     obtain ⟨q2,hq2⟩:=hXtot k2 o2 f2
     rw [h3.ext _ _ hq1] at f3
     rw [h3.ext _ _ hq2] at f4
     injection f3 with f3
     injection f4 with f4
     subst f3 f4
     exact hjo.inj k1 k2 o1 o2 _ _ (hXin _ _ f1) (hXin _ _ f2) hq1 hq2 hor e
 · intro k o q f1 f2 f3
   rcases hcase k o f1 with ⟨f1,_⟩ | f1
   · rcases h3.img k o q f1 f2 f3 with ⟨k0,o0,p0,a1,a2,a3,a4⟩ | hge
     · rw [← a4]; exact hoS k0 o0 p0 a1 a2 a3
     · exact Nat.le_trans hb.size hge
   · obtain ⟨q0,hq0⟩:=hXtot k o f1
     rw [h3.ext _ _ hq0] at f3
     injection f3 with f3
     subst f3
     exact ho k o q0 (hXin _ _ f1) f2 hq0
def zTI (P:Program) (code:FuncId→CFn) (nat:Nats) (fuel:Nat) (p:List Stp) (cc:CCode) (rs:List CRes) (s:Nat→Int) (K:za) (X:zC) (locs:List (Nat × CV)) (objs:List (Key × CObj)) (n:Key):Bool:=
 ko (jx 0 [] [] (fun _=>false) K (zGF P code nat fuel p cc rs (linSym s K)) (@zi (linSym s K) P (@ev (linSym s K) P code nat fuel) (uz p cc) (uP locs) [] (mkH X objs) n) [])
theorem zRw (hm:P.follows .mixedOrders=true) (hcode:CodeOk P code) (hnat:∀ σ K,KnownOk σ K→@NatsOk (linSym σ K) P nat) (hsub:subC p c=some b) (hn:zu c=true) (hrs:yn (xI P F N) fn.results.toList=some rs)
 {σ:Nat→Int} {K:za} (hK:KnownOk σ K) {X:zC} {locs:List (Nat × CV)} {objs:List (Key × CObj)} {n:Key} (h:zTI P code nat fuel p (zR P F N c) rs σ K X locs objs n=true):HdX P F N fn c b p w0 σ K X locs objs n:=by
 intro ψ a w hst hb ho
 letI S:Sym:=linSym σ K
 haveI hS:SymFact P:=linSym_ok hK
 have hcall:yY P (ev P code nat fuel):=ww (fun call hcall F N=>yy hm hcall) hcode (hnat _ _ hK) fuel
 have hdraw:qv P F N (ev P code nat fuel):=yy hm hcall
 unfold zTI at h
 rw [@wA S P F N p c b hsub] at h
 obtain ⟨o,hchk⟩:=uU h
 have hsim:=kO hcall hdraw b (zEX hsub hn) hst (jC (zCI hK hm hcode hnat) hchk)
 refine zAJ (wp_mono hsim fun e a' w' ho'=>?_)
 rcases wX hchk ho' with ⟨rfl,tm,h,n,ψ',t',T',h1,h2,h3,h4,h5⟩ | ⟨hne,r',h1,h2⟩
 · cases h4
 · have:=zIP hK hm hcode hnat hsub hn hrs h1 h2 hb ho
   cases e <;> first | exact absurd rfl hne | exact this
inductive WT where
 | fin (x:Nat)
 | pass (t:WT)
 | cut (v:Nat) (z:Int) (a b:WT)
 | pin (v:Nat) (ts:Nat→WT)
 | join (v:Nat) (t:WT)
def orQ (a b:Bool):Bool:=match a with
 | true=>true
 | false=>b
def zDY (m:Nat) (f:Nat→Bool):Bool:=Nat.rec (motive:=fun _=>Bool) true (fun j ih=>f j&&ih) m
theorem zFO {f:Nat→Bool}:∀ {m:Nat},zDY m f=true→∀ j,j<m→f j=true
 | 0,_,j,hj=>by omega
 | m+1,h,j,hj=>by
  have h:(f m&&zDY m f)=true:=h
  rw [Bool.and_eq_true] at h
  by_cases e:j=m
  · subst e; exact h.1
  · exact zFO h.2 j (by omega)
def zDz (e:Lf) (v:Nat) (q:Int × Int):Lf:={ e with b:=vf e.b v q }
def eqV (a b:CV):Bool:=match a,b with
 | .nat a,.nat b=>Nat.beq a b
 | .bool a,.bool b=>Bool.rec (motive:=fun _=>Bool) (Bool.rec (motive:=fun _=>Bool) true false b) b a
 | .ptr k o,.ptr k' o'=>Nat.beq o o'&&decide (k=k')
 | .sl k o l c z x,.sl k' o' l' c' z' x'=>Nat.beq o o'&&Nat.beq l l'&&Nat.beq c c'&&Nat.beq z z'&&decide (x=x')&&decide (k=k')
 | .win k z e n,.win k' z' e' n'=>Nat.beq z z'&&zJ2 e e'&&zJ2 n n'&&decide (k=k')
 | .sym e,.sym e'=>zJ2 e e'
 | .nilsl,.nilsl=>true
 | .nilptr,.nilptr=>true
 | .any,.any=>true
 | _,_=>false
theorem zPM {a b:CV} (h:eqV a b=true):a=b:=by
 unfold eqV at h
 split at h
 · rw [@zh noSym _ _ h]
 · rename_i a b
   cases a <;> cases b <;> first | rfl | cases h
 · simp only [Bool.and_eq_true,decide_eq_true_eq] at h
   rw [@zh noSym _ _ h.1,h.2]
 · simp only [Bool.and_eq_true,decide_eq_true_eq] at h
   obtain ⟨⟨⟨⟨⟨h1,h2⟩,h3⟩,h4⟩,h5⟩,h6⟩:=h
   rw [@zh noSym _ _ h1,@zh noSym _ _ h2,@zh noSym _ _ h3,@zh noSym _ _ h4,h5,h6]
 · simp only [Bool.and_eq_true,decide_eq_true_eq] at h
   obtain ⟨⟨⟨h1,h2⟩,h3⟩,h4⟩:=h
   rw [@zh noSym _ _ h1,@zAo noSym _ _ h2,@zAo noSym _ _ h3,h4]
 · rw [@zAo noSym _ _ h]
 · rfl
 · rfl
 · rfl
 · cases h
def zQ0:List CV→List CV→Bool
 | [],[]=>true
 | a::r,b::s=>eqV a b&&zQ0 r s
 | _,_=>false
theorem zH9:∀ {a b:List CV},zQ0 a b=true→a=b
 | [],[],_=>rfl
 | [],_::_,h=>by cases h
 | _::_,[],h=>by cases h
 | a::r,b::s,h=>by
  unfold zQ0 at h
  rw [Bool.and_eq_true] at h
  rw [zPM h.1,zH9 h.2]
def eqO (a b:CObj):Bool:=match a,b with
 | .cells a,.cells b=>zQ0 a b
 | .ro a,.ro b=>zQ0 a b
 | _,_=>false
theorem zTc {a b:CObj} (h:eqO a b=true):a=b:=by
 unfold eqO at h
 split at h
 · rw [zH9 h]
 · rw [zH9 h]
 · cases h
def zN8:List (Nat × CV)→List (Nat × CV)→Bool
 | [],[]=>true
 | a::r,b::s=>Nat.beq a.1 b.1&&eqV a.2 b.2&&zN8 r s
 | _,_=>false
theorem zMl:∀ {a b:List (Nat × CV)},zN8 a b=true→a=b
 | [],[],_=>rfl
 | [],_::_,h=>by cases h
 | _::_,[],h=>by cases h
 | (a,x)::r,(b,y)::s,h=>by
  unfold zN8 at h
  rw [Bool.and_eq_true,Bool.and_eq_true] at h
  have h1:a=b:=@zh noSym _ _ h.1.1
  have h2:x=y:=zPM h.1.2
  rw [h1,h2,zMl h.2]
def zN4:List (Key × CObj)→List (Key × CObj)→Bool
 | [],[]=>true
 | a::r,b::s=>decide (a.1=b.1)&&eqO a.2 b.2&&zN4 r s
 | _,_=>false
theorem zMn:∀ {a b:List (Key × CObj)},zN4 a b=true→a=b
 | [],[],_=>rfl
 | [],_::_,h=>by cases h
 | _::_,[],h=>by cases h
 | (a,x)::r,(b,y)::s,h=>by
  unfold zN4 at h
  rw [Bool.and_eq_true,Bool.and_eq_true,decide_eq_true_eq] at h
  have h1:a=b:=h.1.1
  have h2:x=y:=zTc h.1.2
  rw [h1,h2,zMn h.2]
def w6 (P:Program) (code:FuncId→CFn) (nat:Nats) (fuel:Nat) (p:List Stp) (cc:CCode) (s:Nat→Int) (K:za) (X:zC) (locs:List (Nat × CV)) (objs:List (Key × CObj)) (n:Key) (k:List (Nat × CV)→List (Key × CObj)→Key→Bool):Bool:=
 zBB X locs (@zi (linSym s K) P (@ev (linSym s K) P code nat fuel) (uz p cc) (uP locs) [] (mkH .nil objs) n) k
def goW (P:Program) (code:FuncId→CFn) (nat:Nats) (natE:Nat→Nats) (fuel:Nat) (p:List Stp) (cc:CCode) (rs:List CRes) (X:zC) (s:Nat→Int) (A:Key→Option Value):WT→Lf→List (Nat × CV)→List (Key × CObj)→Key→Bool
 | .fin x,e,l,o,n=>zTI P code (natE x) fuel p cc rs s (e.known A) X l o n
 | .pass t,e,l,o,n=>w6 P code nat fuel p cc s (e.known A) X l o n fun l o n=>goW P code nat natE fuel p cc rs X s A t e l o n
 | .cut v z a b,e,l,o,n=>match nth e.b v with
  | some q=>orQ (decide (min q.2 (z - 1)<q.1)) (y8 (zDz e v (q.1,min q.2 (z - 1))) fun e=>goW P code nat natE fuel p cc rs X s A a e l o n)&&orQ (decide (q.2<max q.1 z)) (y8 (zDz e v (max q.1 z,q.2)) fun e=>goW P code nat natE fuel p cc rs X s A b e l o n)
  | none=>false
 | .pin v ts,e,l,o,n=>match nth e.b v with
  | some q=>zDY (q.2 - q.1+1).toNat fun j=>y8 (vD e v (q.1+Int.ofNat j)) fun e=>w6 P code nat fuel p cc s (e.known A) X l o n fun l o n=>goW P code nat natE fuel p cc rs X s A (ts j) e l o n
  | none=>false
 | .join v t,e,l,o,n=>match nth e.b v with
  | some q=>y8 (vD e v q.2) fun e2=>w6 P code nat fuel p cc s (e2.known A) X l o n fun l2 o2 n2=>
   zDY (q.2 - q.1).toNat (fun j=>y8 (vD e v (q.1+Int.ofNat j)) fun e=>w6 P code nat fuel p cc s (e.known A) X l o n fun l o n=>zN8 l2 l&&zN4 o2 o&&decide (n2=n))&&goW P code nat natE fuel p cc rs X s A t e l2 o2 n2
  | none=>false
theorem zBj {natE:Nat→Nats} (hm:P.follows .mixedOrders=true) (hcode:CodeOk P code) (hnat:∀ σ K,KnownOk σ K→@NatsOk (linSym σ K) P nat) (hnE:∀ x σ K,KnownOk σ K→@NatsOk (linSym σ K) P (natE x)) (hsub:subC p c=some b) (hn:zu c=true) (hrs:yn (xI P F N) fn.results.toList=some rs)
 {X:zC} {σ:Nat→Int} {A:Key→Option Value}:∀ (t:WT) (e:Lf) (l:List (Nat × CV)) (o:List (Key × CObj)) (n:Key),zt σ 0 e.b→qu σ e.f→xd σ e.r→(∀ q∈o,ze q.1 X=none) →
 goW P code nat natE fuel p (zR P F N c) rs X σ A t e l o n=true→HdX P F N fn c b p w0 σ (e.known A) X l o n
 | .fin x,e,l,o,n,hb,hf,hr,_,h=>zRw hm hcode (hnE x) hsub hn hrs (zAO hb hf hr) h
 | .pass t,e,l,o,n,hb,hf,hr,ho,h=>zBK hm hcode hnat hsub hn (zAO hb hf hr) ho h fun l o n h ho=>zBj hm hcode hnat hnE hsub hn hrs t e l o n hb hf hr ho h
 | .cut v z a b,e,l,o,n,hb,hf,hr,ho,h=>by
  unfold goW at h
  split at h
  · rename_i q hq
    rw [Bool.and_eq_true,yZ,yZ] at h
    have g:=xW hb hq
    rw [Nat.zero_add] at g
    by_cases hc:σ v<z
    · have h1:=h.1
      rw [decide_eq_false (by omega)] at h1
      exact zGb (zBj hm hcode hnat hnE hsub hn hrs a (zDz e v (q.1,min q.2 (z - 1))) l o n (kE hb (by rw [Nat.zero_add]; exact g.1) (by rw [Nat.zero_add]; omega)) hf hr ho h1)
    · have h1:=h.2
      rw [decide_eq_false (by omega)] at h1
      exact zGb (zBj hm hcode hnat hnE hsub hn hrs b (zDz e v (max q.1 z,q.2)) l o n (kE hb (by rw [Nat.zero_add]; omega) (by rw [Nat.zero_add]; exact g.2)) hf hr ho h1)
  · cases h
 | .pin v ts,e,l,o,n,hb,hf,hr,ho,h=>by
  unfold goW at h
  split at h
  · rename_i q hq
    have g:=xW hb hq
    rw [Nat.zero_add] at g
    have h1:=zFO h (σ v - q.1).toNat (by omega)
    rw [yZ] at h1
    have ez:q.1+Int.ofNat (σ v - q.1).toNat=σ v:=by
     show q.1+(((σ v - q.1).toNat:Nat):Int)=σ v
     omega
    rw [ez] at h1
    have hb':zt σ 0 (vD e v (σ v)).b:=qg hb (by rw [Nat.zero_add])
    exact zGb (zBK hm hcode hnat hsub hn (K:=(vD e v (σ v)).known A) (zAO hb' hf hr) ho h1 fun l o n h ho=>zBj hm hcode hnat hnE hsub hn hrs (ts (σ v - q.1).toNat) (vD e v (σ v)) l o n hb' hf hr ho h)
  · cases h
 | .join v t,e,l,o,n,hb,hf,hr,ho,h=>by
  unfold goW at h
  split at h
  · rename_i q hq
    have g:=xW hb hq
    rw [Nat.zero_add] at g
    rw [yZ] at h
    have hb':zt σ 0 (vD e v (σ v)).b:=qg hb (by rw [Nat.zero_add])
    by_cases hc:σ v=q.2
    · rw [← hc] at h
      refine zGb (zBK hm hcode hnat hsub hn (K:=(vD e v (σ v)).known A) (zAO hb' hf hr) ho h fun l o n h ho=>?_)
      rw [Bool.and_eq_true] at h
      exact zGb (zBj hm hcode hnat hnE hsub hn hrs t e l o n hb hf hr ho h.2)
    · obtain ⟨tm2,hh2,n2,o2,_,_,hk2,ho2⟩:=zFW h
      rw [Bool.and_eq_true] at hk2
      have h1:=zFO hk2.1 (σ v - q.1).toNat (by omega)
      rw [yZ] at h1
      have ez:q.1+Int.ofNat (σ v - q.1).toNat=σ v:=by
       show q.1+(((σ v - q.1).toNat:Nat):Int)=σ v
       omega
      rw [ez] at h1
      refine zGb (zBK hm hcode hnat hsub hn (K:=(vD e v (σ v)).known A) (zAO hb' hf hr) ho h1 fun l o n h ho=>?_)
      rw [Bool.and_eq_true,Bool.and_eq_true,decide_eq_true_eq] at h
      rw [← zMl h.1.1,← zMn h.1.2,← h.2]
      exact zGb (zBj hm hcode hnat hnE hsub hn hrs t e _ _ _ hb hf hr (fun q hq=>(ho2 q hq).2) hk2.2)
  · cases h
def StateGoodW (P:Program) (code:FuncId→CFn) (nat:Nats) (natE:Nat→Nats) (fuel:Nat) (L:List (Key × Nat)) (p:List Stp) (cc:CCode) (rs:List CRes) (ks:List (Key × Kd)) (T:TS):Prop:=
 ∃ (tree:LTree) (ls:List Lf),leaves ks tree ⟨T.b,T.f,T.r,[],1000⟩=some ls∧(Nat.ble (Nat.succ ks.length) T.b.length&&Nat.ble T.b.length 1000&&vO T.b.length L)=true ∧
  AllG (fun e=>jU T.objs e.l=true∧∀ (s:Nat→Int) (A:Key→Option Value),∃ wt,goW P code nat natE fuel p cc rs (mkH .nil T.objs) s A wt e T.locs (zAS e.l) T.n=true) ls
theorem loopOk_W {natE:Nat→Nats} {A:Key→Option Value} {Ts:List TS} {ks:List (Key × Kd)} {cc:CCode} {f:FuncId} (hm:P.follows .mixedOrders=true) (hcode:CodeOk P code) (hnat:∀ σ K,KnownOk σ K→@NatsOk (linSym σ K) P nat) (hnE:∀ x σ K,KnownOk σ K→@NatsOk (linSym σ K) P (natE x)) (hf:P.funcs[f]? = some fn) (hb:fn.body=some c) (hcf:compFn P f=.mk cc rs)
 (hA:ArgsAre A wins) (hwin:∀ σ,LensAre wins L σ→WinIs wins w0 σ ks) (h:AllS (StateGoodW P code nat natE fuel L p cc rs ks) Ts):LoopOk P (frameBits fn c) fn.ntmps G A wins L w0 fn c Ts p:=by
 obtain ⟨hrs,hnr,rfl⟩:=zBr hf hb hcf
 intro t T σ ψ a w b hsub hT hi
 obtain ⟨tree,ls,h1,h2,h3⟩:=zFZ h hT
 rw [Bool.and_eq_true,Bool.and_eq_true] at h2
 have g1:=@zL noSym _ _ h2.1.1
 have g2:=@zL noSym _ _ h2.1.2
 obtain ⟨e,hmem,σ',r1,r2⟩:=yR (wins:=wins) (w0:=w0) (i:=σ 0) tree _ σ h1 ⟨hi.bnd,hi.fct,hi.rul,fun q hq=>by cases hq⟩ (hwin σ hi.len) rfl (by show ks.length<T.b.length; omega) g2 (Nat.le_refl _)
 obtain ⟨hap,hall⟩:=u9 h3 e hmem
 obtain ⟨wt,hrun⟩:=hall σ' A
 have hst:=zKw hi (K':=e.known A) (fun j hj=>r2 j (.inl hj)) rfl (fun q hq=>r1.w q hq σ' _ hA kW) hap
 refine zBj hm hcode hnat hnE hsub hnr hrs wt e T.locs (zAS e.l) T.n r1.b r1.f r1.r (fun q hq=>?_) hrun ψ a w hst hi.blw fun k o q q1 q2 q3=>?_
 · obtain ⟨x,hx,rfl⟩:=List.mem_map.1 hq
   exact zDm hap x hx
 · rcases vW q1 with ⟨cs,_,rfl⟩ | q1
   · cases q2
   · exact (hi.own k o q q1 q3).2
theorem zEk {X h:zC}:∀ {l:List (Nat × CV)},(∀ k:List (Key × CObj)→Bool,rdO X h l k=false)∨∃ o,∀ k:List (Key × CObj)→Bool,rdO X h l k=k o
 | []=>.inr ⟨[],fun k=>rfl⟩
 | p::r=>by
  unfold rdO
  split
  · exact zEk
  · split
    · exact zEk
    · rename_i o _
      simp only [zLX]
      cases zIN (ze _ X) with
      | false=>exact .inl fun k=>rfl
      | true=>
       rcases zEk (X:=X) (h:=h) (l:=r) with h1 | ⟨o1,h1⟩
       · exact .inl fun k=>by rw [h1]; rfl
       · exact .inr ⟨_,fun k=>by rw [h1]; rfl⟩
theorem zNC {X:zC} {locs:List (Nat × CV)} {r:R}:(∀ k:List (Nat × CV)→List (Key × CObj)→Key→Bool,zBB X locs r k=false)∨∃ l o n,∀ k:List (Nat × CV)→List (Key × CObj)→Key→Bool,zBB X locs r k=k l o n:=by
 unfold zBB
 split
 · rename_i tm hh n
   simp only [zK9,uh]
   cases Nat.ble (Nat.succ n.ix) 65535 with
   | false=>exact .inl fun k=>rfl
   | true=>
    rcases zEk (X:=X) (h:=hh) (l:=locs.map fun p=>(p.1,x7 (Loc.ofNat p.1) tm)) with h1 | ⟨o,h1⟩
    · exact .inl fun k=>by rw [h1]; rfl
    · exact .inr ⟨_,o,n,fun k=>by rw [h1]; rfl⟩
 · exact .inl fun k=>rfl
theorem zAD {X:zC} {locs:List (Nat × CV)} {r:R} {ι:Type} {i0:ι} {ks:ι→List (Nat × CV)→List (Key × CObj)→Key→Bool} {k:List (Nat × CV)→List (Key × CObj)→Key→Bool} (h:∀ i,zBB X locs r (ks i)=true)
 (hk:∀ l o n,(∀ i,ks i l o n=true)→k l o n=true):zBB X locs r k=true:=by
 rcases zNC (X:=X) (locs:=locs) (r:=r) with h1 | ⟨l,o,n,h1⟩
 · have:=h i0
   rw [h1] at this
   cases this
 · rw [h1]
   exact hk l o n fun i=>(h1 (ks i)).symm.trans (h i)
def goP (P:Program) (code:FuncId→CFn) (nat:Nats) (natE:Nat→Nats) (fuel:Nat) (p:List Stp) (cc:CCode) (rs:List CRes) (X:zC) (s:Nat→Int) (A:Key→Option Value) (t:WT):List Bool→Lf→List (Nat × CV)→List (Key × CObj)→Key→Bool:=WT.rec (motive:=fun _=>List Bool→Lf→List (Nat × CV)→List (Key × CObj)→Key→Bool)
 (fun x _ e l o n=>goW P code nat natE fuel p cc rs X s A (.fin x) e l o n)
 (fun t ih w e l o n=>List.rec (motive:=fun _=>Bool) (goW P code nat natE fuel p cc rs X s A (.pass t) e l o n) (fun _ _ _=>w6 P code nat fuel p cc s (e.known A) X l o n fun l o n=>ih w e l o n) w)
 (fun v z a b iha ihb w e l o n=>List.rec (motive:=fun _=>Bool) (goW P code nat natE fuel p cc rs X s A (.cut v z a b) e l o n) (fun c w _=>match nth e.b v with
   | some q=>(match c with
    | false=>orQ (decide (min q.2 (z - 1)<q.1)) (y8 (zDz e v (q.1,min q.2 (z - 1))) fun e=>iha w e l o n)
    | true=>orQ (decide (q.2<max q.1 z)) (y8 (zDz e v (max q.1 z,q.2)) fun e=>ihb w e l o n))
   | none=>false) w)
 (fun v ts ih w e l o n=>List.rec (motive:=fun _=>Bool) (goW P code nat natE fuel p cc rs X s A (.pin v ts) e l o n) (fun c w _=>match nth e.b v with
   | some q=>Nat.ble (q.2 - q.1+1).toNat 2&&(match c with
    | false=>y8 (vD e v (q.1+Int.ofNat 0)) fun e=>w6 P code nat fuel p cc s (e.known A) X l o n fun l o n=>ih 0 w e l o n
    | true=>orQ (Nat.ble (q.2 - q.1+1).toNat 1) (y8 (vD e v (q.1+Int.ofNat 1)) fun e=>w6 P code nat fuel p cc s (e.known A) X l o n fun l o n=>ih 1 w e l o n))
   | none=>false) w)
 (fun v t ih w e l o n=>List.rec (motive:=fun _=>Bool) (goW P code nat natE fuel p cc rs X s A (.join v t) e l o n) (fun _ _ _=>match nth e.b v with
   | some q=>y8 (vD e v q.2) fun e2=>w6 P code nat fuel p cc s (e2.known A) X l o n fun l2 o2 n2=>
    zDY (q.2 - q.1).toNat (fun j=>y8 (vD e v (q.1+Int.ofNat j)) fun e=>w6 P code nat fuel p cc s (e.known A) X l o n fun l o n=>zN8 l2 l&&zN4 o2 o&&decide (n2=n))&&ih w e l2 o2 n2
   | none=>false) w) t
theorem zKf {f:Nat→Bool}:∀ {m:Nat},(∀ j,j<m→f j=true)→zDY m f=true
 | 0,_=>rfl
 | m+1,h=>by
  show (f m&&zDY m f)=true
  rw [Bool.and_eq_true]
  exact ⟨h m (by omega),zKf fun j hj=>h j (by omega)⟩
theorem zSd {natE:Nat→Nats} {cc:CCode} {X:zC} {s:Nat→Int} {A:Key→Option Value} {t:WT} {e:Lf} {l:List (Nat × CV)} {o:List (Key × CObj)} {n:Key}:goP P code nat natE fuel p cc rs X s A t [] e l o n=goW P code nat natE fuel p cc rs X s A t e l o n:=by
 cases t <;> rfl
abbrev WyP (d:Nat):Type:={ w:List Bool // w.length=d }
def zD0:(d:Nat)→WyP d
 | 0=>⟨[],rfl⟩
 | d+1=>⟨false::(zD0 d).1,by rw [List.length_cons,(zD0 d).2]⟩
theorem uW {natE:Nat→Nats} {cc:CCode} {X:zC} {s:Nat→Int} {A:Key→Option Value}:∀ (t:WT) (d:Nat) (e:Lf) (l:List (Nat × CV)) (o:List (Key × CObj)) (n:Key),
 (∀ w:WyP d,goP P code nat natE fuel p cc rs X s A t w.1 e l o n=true)→goW P code nat natE fuel p cc rs X s A t e l o n=true
 | t,0,e,l,o,n,h=>by
  have:=h ⟨[],rfl⟩
  rwa [zSd] at this
 | .fin x,d+1,e,l,o,n,h=>h (zD0 (d+1))
 | .pass t,d+1,e,l,o,n,h=>by
  have h':∀ w:WyP (d+1),w6 P code nat fuel p cc s (e.known A) X l o n (fun l o n=>goP P code nat natE fuel p cc rs X s A t w.1 e l o n)=true:=by
   intro w
   have:=h w
   obtain ⟨w,hw⟩:=w
   cases w with
   | nil=>cases hw
   | cons c w=>exact this
  unfold goW
  exact zAD (i0:=zD0 (d+1)) h' fun l o n hk=>uW t (d+1) e l o n hk
 | .cut v z a b,d+1,e,l,o,n,h=>by
  unfold goW
  have h0:∀ w:WyP d,(match nth e.b v with
   | some q=>orQ (decide (min q.2 (z - 1)<q.1)) (y8 (zDz e v (q.1,min q.2 (z - 1))) fun e=>goP P code nat natE fuel p cc rs X s A a w.1 e l o n)
   | none=>false)=true:=fun w=>h ⟨false::w.1,by rw [List.length_cons,w.2]⟩
  have h1:∀ w:WyP d,(match nth e.b v with
   | some q=>orQ (decide (q.2<max q.1 z)) (y8 (zDz e v (max q.1 z,q.2)) fun e=>goP P code nat natE fuel p cc rs X s A b w.1 e l o n)
   | none=>false)=true:=fun w=>h ⟨true::w.1,by rw [List.length_cons,w.2]⟩
  cases hq:nth e.b v with
  | none=>
   have:=h0 (zD0 d)
   rw [hq] at this
   cases this
  | some q=>
   simp only [hq,yZ] at h0 h1
   show (_&&_)=true
   rw [Bool.and_eq_true,yZ,yZ]
   refine ⟨?_,?_⟩
   · cases hd:decide (min q.2 (z - 1)<q.1) with
     | true=>rfl
     | false=>
      rw [hd] at h0
      exact uW a d _ l o n h0
   · cases hd:decide (q.2<max q.1 z) with
     | true=>rfl
     | false=>
      rw [hd] at h1
      exact uW b d _ l o n h1
 | .pin v ts,d+1,e,l,o,n,h=>by
  unfold goW
  have h0:∀ w:WyP d,(match nth e.b v with
   | some q=>Nat.ble (q.2 - q.1+1).toNat 2&&(y8 (vD e v (q.1+Int.ofNat 0)) fun e=>w6 P code nat fuel p cc s (e.known A) X l o n fun l o n=>goP P code nat natE fuel p cc rs X s A (ts 0) w.1 e l o n)
   | none=>false)=true:=fun w=>h ⟨false::w.1,by rw [List.length_cons,w.2]⟩
  have h1:∀ w:WyP d,(match nth e.b v with
   | some q=>Nat.ble (q.2 - q.1+1).toNat 2&&orQ (Nat.ble (q.2 - q.1+1).toNat 1) (y8 (vD e v (q.1+Int.ofNat 1)) fun e=>w6 P code nat fuel p cc s (e.known A) X l o n fun l o n=>goP P code nat natE fuel p cc rs X s A (ts 1) w.1 e l o n)
   | none=>false)=true:=fun w=>h ⟨true::w.1,by rw [List.length_cons,w.2]⟩
  cases hq:nth e.b v with
  | none=>
   have:=h0 (zD0 d)
   rw [hq] at this
   cases this
  | some q=>
   simp only [hq,yZ,Bool.and_eq_true] at h0 h1
   have hm:=Nat.le_of_ble_eq_true (h0 (zD0 d)).1
   refine zKf fun j hj=>?_
   rw [yZ]
   rcases (by omega:j=0∨j=1) with rfl | rfl
   · exact zAD (i0:=zD0 d) (fun w=>(h0 w).2) fun l o n hk=>uW (ts 0) d _ l o n hk
   · cases hd:Nat.ble (q.2 - q.1+1).toNat 1 with
     | true=>exact absurd (Nat.le_of_ble_eq_true hd) (by omega)
     | false=>
      simp only [hd] at h1
      exact zAD (i0:=zD0 d) (fun w=>(h1 w).2) fun l o n hk=>uW (ts 1) d _ l o n hk
 | .join v t,d+1,e,l,o,n,h=>by
  unfold goW
  have h':∀ w:WyP (d+1),(match nth e.b v with
   | some q=>y8 (vD e v q.2) fun e2=>w6 P code nat fuel p cc s (e2.known A) X l o n fun l2 o2 n2=>
    zDY (q.2 - q.1).toNat (fun j=>y8 (vD e v (q.1+Int.ofNat j)) fun e=>w6 P code nat fuel p cc s (e.known A) X l o n fun l o n=>zN8 l2 l&&zN4 o2 o&&decide (n2=n))&&goP P code nat natE fuel p cc rs X s A t w.1 e l2 o2 n2
   | none=>false)=true:=by
   intro w
   have:=h w
   obtain ⟨w,hw⟩:=w
   cases w with
   | nil=>cases hw
   | cons c w=>exact this
  cases hq:nth e.b v with
  | none=>
   have:=h' (zD0 (d+1))
   rw [hq] at this
   cases this
  | some q=>
   simp only [hq,yZ] at h'
   show y8 _ _=true
   rw [yZ]
   simp only [yZ]
   refine zAD (i0:=zD0 (d+1)) h' fun l2 o2 n2 hk=>?_
   have hk':=fun w=>(Bool.and_eq_true _ _ |>.mp (hk w))
   rw [Bool.and_eq_true]
   exact ⟨(hk' (zD0 (d+1))).1,uW t (d+1) e l2 o2 n2 fun w=>(hk' w).2⟩
def zOy:Nat→Nat→List Bool
 | 0,_=>[]
 | d+1,k=>Nat.beq (k / 2 ^ d % 2) 1::zOy d k
theorem zKx:∀ (d:Nat) (w:List Bool),w.length=d→∃ k,k<2 ^ d∧∀ z,zOy d (z*2 ^ d+k)=w
 | 0,[],_=>⟨0,by decide,fun z=>rfl⟩
 | 0,_::_,h=>by cases h
 | d+1,[],h=>by cases h
 | d+1,c::w,h=>by
  obtain ⟨k,hk,hw⟩:=zKx d w (by simpa using h)
  have hp:0<2 ^ d:=Nat.pos_of_ne_zero (by simp)
  have e2:2 ^ (d+1)=2*2 ^ d:=by rw [Nat.pow_succ]; omega
  cases c with
  | false=>
   refine ⟨k,by omega,fun z=>?_⟩
   have ez:z*2 ^ (d+1)+k=(2*z)*2 ^ d+k:=by rw [e2,← Nat.mul_assoc,Nat.mul_comm z 2]
   unfold zOy
   rw [ez,hw,show ((2*z)*2 ^ d+k) / 2 ^ d=2*z by rw [Nat.mul_comm,Nat.mul_add_div hp,Nat.div_eq_of_lt hk]; rfl]
   congr 1
   rw [show 2*z % 2=0 by omega]
   rfl
  | true=>
   refine ⟨2 ^ d+k,by omega,fun z=>?_⟩
   have ez:z*2 ^ (d+1)+(2 ^ d+k)=(2*z+1)*2 ^ d+k:=by rw [e2,← Nat.mul_assoc,Nat.mul_comm z 2,Nat.add_mul,Nat.one_mul,Nat.add_assoc]
   unfold zOy
   rw [ez,hw,show ((2*z+1)*2 ^ d+k) / 2 ^ d=2*z+1 by rw [Nat.mul_comm,Nat.mul_add_div hp,Nat.div_eq_of_lt hk]]
   congr 1
   rw [show (2*z+1) % 2=1 by omega]
   rfl
def stateP (P:Program) (code:FuncId→CFn) (nat:Nats) (natE:Nat→Nats) (fuel:Nat) (p:List Stp) (cc:CCode) (rs:List CRes) (ks:List (Key × Kd)) (L:List (Key × Nat)) (T:TS) (tree:LTree) (wt:WT) (d:Nat) (s:Nat→Int) (A:Key→Option Value) (k:Nat):Bool:=
 zQB T fun T=>(match leaves ks tree ⟨T.b,T.f,T.r,[],1000⟩ with
 | some [e]=>y8 e fun e=>jU T.objs e.l&&goP P code nat natE fuel p cc rs (mkH .nil T.objs) s A wt (zOy d k) e T.locs (zAS e.l) T.n
 | _=>false)&&(Nat.ble (Nat.succ ks.length) T.b.length&&Nat.ble T.b.length 1000&&vO T.b.length L)
theorem stateP_good {natE:Nat→Nats} {cc:CCode} {ks:List (Key × Kd)} {T:TS} {tree:LTree} {wt:WT} {d:Nat}
 (h:∀ k,k<2 ^ d→∀ s A,stateP P code nat natE fuel p cc rs ks L T tree wt d s A k=true):StateGoodW P code nat natE fuel L p cc rs ks T:=by
 have h':∀ k,k<2 ^ d→∀ s A,((match leaves ks tree ⟨T.b,T.f,T.r,[],1000⟩ with
  | some [e]=>jU T.objs e.l&&goP P code nat natE fuel p cc rs (mkH .nil T.objs) s A wt (zOy d k) e T.locs (zAS e.l) T.n
  | _=>false)=true)∧(Nat.ble (Nat.succ ks.length) T.b.length&&Nat.ble T.b.length 1000&&vO T.b.length L)=true:=by
  intro k hk s A
  have:=h k hk s A
  unfold stateP at this
  rw [zCp,Bool.and_eq_true] at this
  refine ⟨?_,this.2⟩
  have h1:=this.1
  split at h1
  · rename_i e he
    rw [yZ] at h1
    exact h1
  · cases h1
 have hp:0<2 ^ d:=Nat.pos_of_ne_zero (by simp)
 have h0:=(h' 0 hp (fun _=>0) (fun _=>none)).1
 split at h0
 · rename_i e he
   simp only [he,Bool.and_eq_true] at h'
   refine ⟨tree,[e],he,(by have:=(h' 0 hp (fun _=>0) (fun _=>none)).2; simp only [Bool.and_eq_true]; exact this),zGD ⟨(h' 0 hp (fun _=>0) (fun _=>none)).1.1,fun s A=>⟨wt,?_⟩⟩ zJ5⟩
   refine uW wt d e T.locs (zAS e.l) T.n fun w=>?_
   obtain ⟨k,hk,hw⟩:=zKx d w.1 w.2
   have:=(h' k hk s A).1.2
   rw [← hw 0,Nat.zero_mul,Nat.zero_add]
   exact this
 · cases h0
end
end
end Go.Ev
