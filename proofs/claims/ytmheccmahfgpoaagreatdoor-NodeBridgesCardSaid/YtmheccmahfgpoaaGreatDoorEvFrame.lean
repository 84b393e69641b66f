/- A verified evaluator for the model's code: EvFrame, EvLits, EvRows. -/
import Derived.Test.YtmheccmahfgpoaaGreatDoorEvSum
set_option linter.unusedSectionVars false
set_option linter.unusedVariables false
set_option linter.unusedSimpArgs false
namespace Go.Ev
open Go.RowKit
noncomputable section
variable {P:Program}
structure Fs where
 args:List CV
 objs:List (Key × CObj)
 ext:List Key
 mid:Nat
 n:Key
 b:List (Int × Int)
 posts:List Po
 ros:List (Key × CObj):=[]
 pn:Nat:=0
 walk:List Nat:=[]
def zH1:Nat→List (Int × Int)
 | 0=>[]
 | n+1=>(0,255)::zH1 n
def Fs.bA (s:Fs):List (Int × Int):=s.b++zH1 s.pn
def jV (q:Nat):Nat→TH
 | 0=>[]
 | n+1=>(0,[(q,1)])::jV (Nat.succ q) n
theorem zJw:∀ {n:Nat},(zH1 n).length=n
 | 0=>rfl
 | n+1=>by show (zH1 n).length+1=_; rw [zJw]
theorem zIN:∀ {n q:Nat},(jV q n).length=n
 | 0,_=>rfl
 | n+1,q=>by show (jV (q+1) n).length+1=_; rw [zIN]
theorem zFq:∀ {n q i:Nat},i<n→nth (jV q n) i=some (0,[(q+i,1)])
 | 0,_,_,h=>by omega
 | n+1,q,0,_=>rfl
 | n+1,q,i+1,h=>by
  show nth (jV (q+1) n) i=_
  rw [zFq (by omega),show q+1+i=q+(i+1) from by omega]
theorem zEe {α:Type}:∀ {l m:List α} {i:Nat},i<l.length→nth (l++m) i=nth l i
 | [],_,_,h=>by simp at h
 | _::_,_,0,_=>rfl
 | _::l,m,i+1,h=>zEe (l:=l) (m:=m) (i:=i) (by simpa using h)
theorem zFc {α:Type}:∀ {l m:List α} {i:Nat},nth (l++m) (l.length+i)=nth m i
 | [],_,i=>by rw [show ([]:List α).length+i=i from by simp]; rfl
 | x::l,m,i=>by
  rw [show (x::l).length+i=(l.length+i)+1 from by simp; omega]
  exact zFc (l:=l) (m:=m) (i:=i)
theorem zBU {σ:Nat→Int} {n:Nat}:∀ {b:List (Int × Int)} {j:Nat},yF σ j b→(∀ i,i<n→0≤σ (j+b.length+i)∧σ (j+b.length+i)≤255)→yF σ j (b++zH1 n)
 | [],j,_,h=>by
  have key:∀ {n j:Nat},(∀ i,i<n→0≤σ (j+i)∧σ (j+i)≤255)→yF σ j (zH1 n):=by
   intro n
   induction n with
   | zero=>intro j _; trivial
   | succ n ih=>
    intro j h
    refine ⟨h 0 (by omega),ih fun i hi=>?_⟩
    have:=h (i+1) (by omega)
    rwa [show j+(i+1)=j+1+i from by omega] at this
  exact key fun i hi=>h i hi
 | q::r,j,hb,h=>⟨hb.1,zBU (b:=r) (j:=j+1) hb.2 fun i hi=>by
  have:=h i hi
  rwa [show j+(q::r).length+i=j+1+r.length+i from by simp; omega] at this⟩
def zOq {α:Type} (m mn:Nat) (l:LL) (y:Nat→α) (z:α):α:=
 List.rec (motive:=fun _=>α) z (fun p r _=>List.rec (motive:=fun _=>α) (Prod.rec (motive:=fun _=>α) (fun j a=>Bool.rec (motive:=fun _=>α) z (Bool.rec (motive:=fun _=>α) z (Bool.rec (motive:=fun _=>α) z (y j) (zx a 1)) (Nat.ble (Nat.succ j) mn)) (Nat.ble m j)) p) (fun _ _ _=>z) r) l
theorem zL3 {α:Type} {m mn:Nat} {y:Nat→α} {z:α}:∀ {l:LL},zOq m mn l y z=z∨∃ j,l=[(j,1)]∧m≤j∧j<mn∧zOq m mn l y z=y j
 | []=>.inl rfl
 | _::_::_=>.inl rfl
 | [(j,a)]=>by
  show (Bool.rec (motive:=fun _=>α) z (Bool.rec (motive:=fun _=>α) z (Bool.rec (motive:=fun _=>α) z (y j) (zx a 1)) (Nat.ble (Nat.succ j) mn)) (Nat.ble m j))=z∨∃ j',[(j,a)]=[(j',1)]∧m≤j'∧j'<mn∧(Bool.rec (motive:=fun _=>α) z (Bool.rec (motive:=fun _=>α) z (Bool.rec (motive:=fun _=>α) z (y j) (zx a 1)) (Nat.ble (Nat.succ j) mn)) (Nat.ble m j))=y j'
  cases h1:Nat.ble m j with
  | false=>exact .inl rfl
  | true=>cases h2:Nat.ble (Nat.succ j) mn with
   | false=>exact .inl rfl
   | true=>cases h3:zx a 1 with
    | false=>exact .inl rfl
    | true=>
     rw [@za noSym,decide_eq_true_eq] at h3
     subst h3
     exact .inr ⟨j,rfl,@zJ noSym _ _ h1,@zJ noSym _ _ h2,rfl⟩
theorem zJL {θ:TH} {n q j:Nat} (h1:θ.length≤j) (h2:j<θ.length+n):uR (θ++jV q n) [(j,1)]=some (0,[(q+(j - θ.length),1)]):=by
 have h:nth (θ++jV q n) j=some (0,[(q+(j - θ.length),1)]):=by
  rw [show j=θ.length+(j - θ.length) from by omega,zFc,zFq (by omega)]
  congr 4
  omega
 unfold uR uR
 show (match nth (θ++jV q n) j,some ((0:Int),([]:LL)) with
  | some q,some s=>some (1*q.1+s.1,zBu (uT 1 q.2) s.2)
  | _,_=>none)=_
 rw [h]
 rfl
theorem zJJ {θ t:TH}:∀ {l:LL} {s:Int × LL},uR θ l=some s→uR (θ++t) l=some s
 | [],s,h=>h
 | p::r,s,h=>by
  unfold uR at h ⊢
  split at h
  · rename_i x y hx hy
    have hlt:p.1<θ.length:=by
     rw [@nth_eq noSym] at hx
     exact (List.getElem?_eq_some_iff.1 hx).1
    rw [zEe hlt,hx,zJJ hy]
    exact h
  · cases h
def zKW (θ:TH) (q n:Nat) (l:LL):Option (Int × LL):=match zJ1 θ l with
 | some s=>some s
 | none=>zJ1 (θ++jV q n) l
theorem zMJ {θ:TH} {q n:Nat} {l:LL}:zKW θ q n l=uR (θ++jV q n) l:=by
 unfold zKW
 rw [ul,ul]
 split
 · rename_i s hs
   exact (zJJ hs).symm
 · rfl
def zTo (v:CV) (k:SE→Bool):Bool:=CV.rec (motive_1:=fun _=>Bool) (motive_2:=fun _=>Unit) (fun _=>false) (fun _=>false) (fun _ _=>false) (fun _=>false) (fun _=>false) false (fun _ _=>false) false (fun _ _ _ _ _ _=>false) false (fun _=>false) (fun _ _ _ _ _=>false) false (fun _ _ _=>false) false (fun _ _=>false) (fun _ _=>false) k (fun _ _ _ _=>false) (fun _ _=>false) (fun _=>false) (fun _ _=>false) (fun _ _ _ _=>false) false () (fun _ _ _ _=>()) v
def zSv (l:LL) (k:Nat→Bool):Bool:=List.rec (motive:=fun _=>Bool) false (fun p r _=>List.rec (motive:=fun _=>Bool) (Prod.rec (motive:=fun _=>Bool) (fun j a=>qv (zx a 1) (k j)) p) (fun _ _ _=>false) r) l
def zLo (o:Option (Int × LL)) (e:SE) (v:CV):Bool:=match zA9 v with
 | some (k,c,l)=>match o with
  | some s=>kEq e.k k&&zx (e.c+s.1) c&&vA s.2 l
  | none=>false
 | none=>false
def zOi (m q:Nat) (e:SE) (v:CV) (j:Nat):Bool:=zTo v fun e'=>qv (kEq e.k e'.k) (qv (zx e.c e'.c) (zSv e'.l fun i=>Nat.beq (Nat.add i m) (Nat.add q j)))
theorem zQ4 {m q j:Nat} (h:m≤j):∀ {l:LL},(zSv l fun i=>Nat.beq (Nat.add i m) (Nat.add q j))=vA [(q+(j - m),1)] l
 | []=>rfl
 | [(i,a)]=>by
  show qv (zx a 1) (Nat.beq (Nat.add i m) (Nat.add q j))=(Nat.beq (q+(j - m)) i&&zx 1 a&&true)
  rw [qX,Bool.and_true,Bool.and_comm,Bool.eq_iff_iff,Bool.and_eq_true,Bool.and_eq_true,@za noSym,@za noSym,decide_eq_true_eq,decide_eq_true_eq]
  constructor
  · intro ⟨h1,h2⟩
    have h1:i+m=q+j:=Nat.eq_of_beq_eq_true h1
    refine ⟨?_,h2.symm⟩
    rw [show q+(j - m)=i from by omega]
    exact Nat.beq_refl _
  · intro ⟨h1,h2⟩
    have h1:=Nat.eq_of_beq_eq_true h1
    refine ⟨?_,h2.symm⟩
    rw [show Nat.add i m=Nat.add q j from by show i+m=q+j; omega]
    exact Nat.beq_refl _
 | p::r::t=>by
  show false=(Nat.beq (q+(j - m)) p.1&&zx 1 p.2&&false)
  rw [Bool.and_false]
theorem zOw {m q:Nat} {e:SE} {v:CV} {j:Nat} (h:m≤j):zOi m q e v j=zLo (some (0,[(q+(j - m),1)])) e v:=by
 have hc:∀ c:Int,c+(0:Int)=c:=fun c=>Int.add_zero c
 have key:∀ e':SE,qv (kEq e.k e'.k) (qv (zx e.c e'.c) (zSv e'.l fun i=>Nat.beq (Nat.add i m) (Nat.add q j)))=(kEq e.k e'.k&&zx (e.c+0) e'.c&&vA [(q+(j - m),1)] e'.l):=by
  intro e'
  rw [qX,qX,zQ4 h,hc,Bool.and_assoc]
 cases v with
 | sym e'=>exact key e'
 | nat n=>
  show false=(kEq e.k .i64&&zx (e.c+0) (.ofNat n)&&false)
  rw [Bool.and_false]
 | int k c=>
  show false=(kEq e.k k&&zx (e.c+0) c&&false)
  rw [Bool.and_false]
 | _=>rfl
def zA3 (θ:TH) (m mn q n:Nat) (e:SE) (v:CV):Bool:=zOq m mn e.l (zOi m q e v) (zLo (zKW θ q n e.l) e v)
theorem zJc {θ:TH} {m mn q n:Nat} (hm:m=θ.length) (hn:mn=m+n) (e:SE) (v:CV):zA3 θ m mn q n e v=ui (θ++jV q n) e v:=by
 have hs:∀ o,o=uR (θ++jV q n) e.l→zLo o e v=ui (θ++jV q n) e v:=fun o ho=>by
  subst ho
  rfl
 unfold zA3
 rcases zL3 (m:=m) (mn:=mn) (y:=zOi m q e v) (z:=zLo (zKW θ q n e.l) e v) (l:=e.l) with h | ⟨j,h1,h2,h3,h⟩
 · rw [h]
   exact hs _ zMJ
 · rw [h,zOw h2]
   refine hs _ ?_
   rw [h1,hm]
   exact (zJL (by omega) (by omega)).symm
def fN (n:Nat) (k:Nat→CV):CV:=Nat.rec (motive:=fun _=>(Nat→CV)→CV) (fun k=>k 0) (fun m _ k=>k (Nat.succ m)) n k
theorem zTi {n:Nat} {k:Nat→CV}:fN n k=k n:=by cases n <;> rfl
def sbB (o:Option (Int × LL)) (e:SE):CV:=match o with
 | some s=>mkS e.k (e.c+s.1) s.2
 | none=>.any
def sbP (θ:TH) (m mn q n:Nat) (e:SE):CV:=SE.rec (motive:=fun _=>CV) (fun k c l=>zOq m mn l (fun j=>fN (Nat.add q (Nat.sub j m)) fun i=>.sym ⟨k,c,[(i,.ofNat 1)]⟩) (sbB (zKW θ q n l) ⟨k,c,l⟩)) e
theorem zSy {ρ:Heap} {θ:TH} {m mn q n:Nat} (hm:m=θ.length) (hn:mn=m+n) (e:SE):sbP θ m mn q n e=zr ρ (θ++jV q n) (.sym e):=by
 have hs:∀ o,o=uR (θ++jV q n) e.l→sbB o e=zr ρ (θ++jV q n) (.sym e):=fun o ho=>by
  subst ho
  unfold zr
  rfl
 show zOq m mn e.l (fun j=>fN (Nat.add q (Nat.sub j m)) fun i=>CV.sym ⟨e.k,e.c,[(i,1)]⟩) (sbB (zKW θ q n e.l) e)=_
 rcases zL3 (m:=m) (mn:=mn) (y:=fun j=>fN (Nat.add q (Nat.sub j m)) fun i=>CV.sym ⟨e.k,e.c,[(i,1)]⟩) (z:=sbB (zKW θ q n e.l) e) (l:=e.l) with h | ⟨j,h1,h2,h3,h⟩
 · rw [h]
   exact hs _ zMJ
 · rw [h,← hs (some (0,[(q+(j - m),1)])) (by rw [h1,hm]; exact (zJL (by omega) (by omega)).symm)]
   show fN (Nat.add q (Nat.sub j m)) (fun i=>CV.sym ⟨e.k,e.c,[(i,1)]⟩)=CV.sym ⟨e.k,e.c+0,[(q+(j - m),1)]⟩
   rw [zTi,Int.add_zero]
   rfl
def zSk (n:Nat) (kb:List (Int × Int)):Bool:=Nat.rec (motive:=fun _=>List (Int × Int)→Bool) (fun _=>true) (fun _ ih l=>List.rec (motive:=fun _=>Bool) false (fun x r _=>Prod.rec (motive:=fun _=>Bool) (fun a b=>qv (zx a 0) (qv (zx b 255) (ih r))) x) l) n kb
def zRW {α:Type} (q:Nat) (l:List α):List α:=Nat.rec (motive:=fun _=>List α→List α) (fun l=>l) (fun _ ih l=>List.rec (motive:=fun _=>List α) [] (fun _ r _=>ih r) l) q l
theorem zGV {α:Type}:∀ {q:Nat} {l:List α} {i:Nat},nth (zRW q l) i=nth l (q+i)
 | 0,l,i=>by rw [Nat.zero_add]; rfl
 | q+1,[],i=>by
  have h:∀ k,nth ([]:List α) k=none:=fun k=>by cases k <;> rfl
  show nth [] i=nth [] (q+1+i)
  rw [h,h]
 | q+1,x::l,i=>by
  rw [show q+1+i=(q+i)+1 from by omega]
  exact zGV (q:=q) (l:=l) (i:=i)
theorem zL9:∀ {n:Nat} {l:List (Int × Int)},zSk n l=true→∀ i,i<n→nth l i=some (0,255)
 | 0,_,_,i,hi=>by omega
 | n+1,[],h,i,hi=>by cases h
 | n+1,(a,b)::l,h,i,hi=>by
  have h:qv (zx a 0) (qv (zx b 255) (zSk n l))=true:=h
  simp only [qX,Bool.and_eq_true,@za noSym,decide_eq_true_eq] at h
  obtain ⟨rfl,rfl,h⟩:=h
  cases i with
  | zero=>rfl
  | succ i=>
   show nth l i=some (0,255)
   exact zL9 (l:=l) h i (by omega)
def vl (ρ:Heap) (si:SE→CV→Bool) (fw:Nat→List (List Nat)→CV→Bool) (l:List CV):List CV→Bool:=
 List.rec (motive:=fun _=>List CV→Bool) (fun _=>true) (fun a _ g m=>List.rec (motive:=fun _=>Bool) false (fun b r _=>qv (zPb ρ si fw a b) (g r)) m) l
def zRY (ρ:Heap) (θ:TH) (si:SE→CV→Bool) (fw:Nat→List (List Nat)→CV→Bool) (o o':CObj):Bool:=match o,o' with
 | .cells a,.cells b=>vl ρ si fw a b
 | o,o'=>zAM ρ θ o o'
def zBf (ρ inv:Heap) (θ:TH) (si:SE→CV→Bool) (fw:Nat→List (List Nat)→CV→Bool) (h:Heap) (lo hi:Nat):List (Key × CObj)→List Key→Bool
 | [],[]=>true
 | p::r,j::js=>qv (kg ρ p.1 j) <| qv (kg inv j p.1) <| qv (Nat.ble lo p.1.ix) <| qv (Nat.ble (Nat.succ p.1.ix) hi) <| qv (match getH j h with
  | some o=>zRY ρ θ si fw p.2 o
  | none=>false) (zBf ρ inv θ si fw h lo hi r js)
 | _,_=>false
section
variable {ρ inv:Heap} {θ:TH} {si:SE→CV→Bool} {fw:Nat→List (List Nat)→CV→Bool} (hs:∀ e d,si e d=ui θ e d) (hf:∀ i t d,fw i t d=zw ρ θ (.few i t) d)
include hs hf
theorem uK:∀ {l m:List CV},vl ρ si fw l m=qE ρ θ l m
 | [],m=>by unfold qE; rfl
 | c::l,[]=>by unfold qE; rfl
 | c::l,d::m=>by
  unfold qE
  rw [← zA5 hs hf c d,← uK (l:=l) (m:=m),← qX]
  rfl
theorem zOD {o o':CObj}:zRY ρ θ si fw o o'=zAM ρ θ o o':=by
 cases o <;> cases o' <;> first | rfl | exact uK hs hf
theorem zC3 {h:Heap} {lo hi:Nat}:∀ {l:List (Key × CObj)} {ks:List Key},zBf ρ inv θ si fw h lo hi l ks=qB ρ inv θ h lo hi l ks
 | [],[]=>rfl
 | [],_::_=>rfl
 | _::_,[]=>rfl
 | p::r,j::js=>by
  unfold zBf qB
  rw [zC3 (l:=r) (ks:=js)]
  cases getH j h <;> simp only [qX,zOD hs hf,Bool.and_assoc]
end
def zEz:List (Key × CObj)→Bool
 | []=>true
 | p::r=>p.2.isRo&&zEz r
theorem zGX:∀ {l:List (Key × CObj)},zEz l=true→∀ q∈l,q.2.isRo=true
 | [],_,q,h=>by simp at h
 | p::r,h,q,hq=>by
  unfold zEz at h
  rw [Bool.and_eq_true] at h
  rcases List.mem_cons.1 hq with rfl | hq
  · exact h.1
  · exact zGX h.2 q hq
theorem vB {b:List (Key × CObj)} {k:Key} {o:CObj}:∀ {a:List (Key × CObj)},kY (a++b) k=some o→kY a k=some o∨(k,o)∈b
 | [],h=>by
  rcases qj (show getH k (mkH .nil ([]++b))=some o from h) with ⟨j,hj⟩ | hn
  · exact .inr (List.mem_of_getElem? (by simpa using hj))
  · rw [jX] at hn; cases hn
 | p::a,h=>by
  have h:getH k (yl (some p.2) p.1 (mkH .nil (a++b)))=some o:=h
  show getH k (yl (some p.2) p.1 (mkH .nil a))=some o∨_
  rw [@zCl noSym] at h ⊢
  by_cases e:k=p.1
  · rw [if_pos e] at h ⊢
    exact .inl h
  · rw [if_neg e] at h ⊢
    exact vB (a:=a) h
def zNN:List Key→List (Key × CObj)
 | []=>[]
 | k::r=>(k,.cells [])::zNN r
def xG (objs:List (Key × CObj)) (ext ks es:List Key):Heap:=jZ (objs++zNN ext) (ks++es)
theorem zI9:∀ {l:List Key} {i:Nat} {k:Key} {o:CObj},(zNN l)[i]? = some (k,o)→l[i]? = some k
 | [],i,k,o,h=>by simp [zNN] at h
 | x::r,0,k,o,h=>by simp [zNN] at h; simp [h.1]
 | x::r,i+1,k,o,h=>by
  have:=zI9 (l:=r) (i:=i) (k:=k) (o:=o) (by simpa [zNN] using h)
  simpa using this
theorem zLF {objs:List (Key × CObj)} {ext ks es:List Key} {k b:Key} (hl:objs.length=ks.length) (h:zg (xG objs ext ks es) k=some b) :
 (∃ (i:Nat) (o:CObj),objs[i]? = some (k,o)∧ks[i]? = some b)∨∃ i:Nat,ext[i]? = some k∧es[i]? = some b:=by
 obtain ⟨j,o,h1,h2⟩:=zFr h
 rcases Nat.lt_or_ge j objs.length with g | g
 · rw [List.getElem?_append_left g] at h1
   rw [List.getElem?_append_left (by omega)] at h2
   exact .inl ⟨j,o,h1,h2⟩
 · rw [List.getElem?_append_right g] at h1
   rw [List.getElem?_append_right (by omega),← hl] at h2
   exact .inr ⟨_,zI9 h1,h2⟩
def zNt (ρ:Heap) (ψ:Psi):Psi:=fun k=>match zg ρ k with
 | some j=>ψ j
 | none=>none
theorem zB1 {ρ:Heap} {ψ:Psi} {k j:Key} (h:zg ρ k=some j):zNt ρ ψ k=ψ j:=by
 unfold zNt
 rw [h]
theorem zDA {ρ:Heap} {ψ:Psi}:zAr ρ ψ (zNt ρ ψ):=fun k j p hk hp=>⟨p,by rw [zB1 (qe hk)]; exact hp,rfl,rfl,rfl⟩
def zMi (ρ:Heap) (θ:TH):List CE→List CE→Bool
 | [],[]=>true
 | a::as,b::bs=>zw ρ θ a.key b.key&&zw ρ θ a.val b.val&&Nat.beq a.born b.born&&zMi ρ θ as bs
 | _,_=>false
def zEd (ρ:Heap) (θ:TH):CObj→CObj→Bool
 | .cells a,.cells b=>uA ρ θ a b
 | .cells a,.full _ b=>uA ρ θ a b
 | .map es c,.map es' c'=>Nat.beq c c'&&zMi ρ θ es es'
 | _,_=>false
section
variable {σs σT:Nat→Int} {Ks KT:zc} {θ:TH} {ρ:Heap} {ψs ψT:Psi}
theorem zIR (hθ:jc σs σT θ) (hψ:zAr ρ ψs ψT) {ck:Nat→Nat}:∀ {as bs:List CE} {l:List MapEntry},zMi ρ θ as bs=true→@yB (linSym σs Ks) ψs ck bs l→@yB (linSym σT KT) ψT ck as l
 | [],[],l,_,hl=>hl
 | [],_::_,_,h,_=>by cases h
 | _::_,[],_,h,_=>by cases h
 | a::as,b::bs,l,h,hl=>by
  unfold zMi at h
  simp only [Bool.and_eq_true] at h
  obtain ⟨⟨⟨c1,c2⟩,c3⟩,c4⟩:=h
  have c3:=@zu noSym _ _ c3
  obtain ⟨e,r,rfl,⟨h1,h2,h3⟩,h4⟩:=hl
  exact ⟨e,r,rfl,⟨qA hθ hψ _ _ c1 h1,qA hθ hψ _ _ c2 h2,by rw [h3,c3]⟩,zIR hθ hψ c4 h4⟩
theorem zET (hθ:jc σs σT θ) (hψ:zAr ρ ψs ψT) {o o':CObj} (h:zEd ρ θ o o'=true) {w:World} {p:Pl} (ho:@xC (linSym σs Ks) ψs w p o'):@xC (linSym σT KT) ψT w p o∧o.isRo=false∧o'.isRo=false:=by
 unfold zEd at h
 split at h
 · rw [qy] at h
   exact ⟨km hθ hψ h rfl rfl rfl ho,rfl,rfl⟩
 · rw [qy] at h
   exact ⟨km hθ hψ h rfl rfl rfl (@qx.toCells (linSym σs Ks) _ _ _ _ _ ho),rfl,rfl⟩
 · rename_i es c es' c'
   rw [Bool.and_eq_true] at h
   have hc:=@zu noSym _ _ h.1
   subst hc
   obtain ⟨arr,g1,⟨l0,gp,g2⟩,g3⟩:=ho
   exact ⟨⟨arr,g1,⟨l0,gp,zIR hθ hψ h.2 g2⟩,g3⟩,rfl,rfl⟩
 · cases h
end
def wH (ρ inv:Heap) (θ:TH) (h:Heap) (lo hi:Nat):List (Key × CObj)→List Key→Bool
 | [],[]=>true
 | p::r,j::js=>kg ρ p.1 j&&kg inv j p.1&&Nat.ble lo p.1.ix&&Nat.ble (Nat.succ p.1.ix) hi&&(match getH j h with
  | some o=>zEd ρ θ p.2 o
  | none=>false)&&wH ρ inv θ h lo hi r js
 | _,_=>false
def zPy (ρ:Heap) (θ:TH) (si:SE→CV→Bool) (fw:Nat→List (List Nat)→CV→Bool):CObj→CObj→Bool
 | .cells a,.cells b=>vl ρ si fw a b
 | .cells a,.full _ b=>vl ρ si fw a b
 | o,o'=>zEd ρ θ o o'
def zAj (ρ inv:Heap) (θ:TH) (si:SE→CV→Bool) (fw:Nat→List (List Nat)→CV→Bool) (h:Heap) (lo hi:Nat):List (Key × CObj)→List Key→Bool
 | [],[]=>true
 | p::r,j::js=>kg ρ p.1 j&&kg inv j p.1&&Nat.ble lo p.1.ix&&Nat.ble (Nat.succ p.1.ix) hi&&(match getH j h with
  | some o=>zPy ρ θ si fw p.2 o
  | none=>false)&&zAj ρ inv θ si fw h lo hi r js
 | _,_=>false
theorem zNE {ρ:Heap} {θ:TH} {si:SE→CV→Bool} {fw:Nat→List (List Nat)→CV→Bool} (hs:∀ e d,si e d=ui θ e d) (hf:∀ i t d,fw i t d=zw ρ θ (.few i t) d) {o o':CObj}:zPy ρ θ si fw o o'=zEd ρ θ o o':=by
 have h:∀ a b,vl ρ si fw a b=uA ρ θ a b:=fun a b=>by rw [uK hs hf,qy]
 cases o <;> cases o' <;> first | rfl | exact h _ _
theorem zBN {ρ inv:Heap} {θ:TH} {si:SE→CV→Bool} {fw:Nat→List (List Nat)→CV→Bool} (hs:∀ e d,si e d=ui θ e d) (hf:∀ i t d,fw i t d=zw ρ θ (.few i t) d) {h:Heap} {lo hi:Nat}:∀ {l:List (Key × CObj)} {ks:List Key},zAj ρ inv θ si fw h lo hi l ks=wH ρ inv θ h lo hi l ks
 | [],[]=>rfl
 | [],_::_=>rfl
 | _::_,[]=>rfl
 | p::r,j::js=>by
  unfold zAj wH
  rw [zBN hs hf (l:=r) (ks:=js)]
  cases getH j h <;> simp only [zNE hs hf]
theorem uk {ρ inv:Heap} {θ:TH} {h:Heap} {lo hi:Nat}:∀ {objs:List (Key × CObj)} {ks:List Key},wH ρ inv θ h lo hi objs ks=true→objs.length=ks.length∧∀ (j:Nat) (k:Key) (o:CObj),objs[j]? = some (k,o) →
 ∃ i o',ks[j]? = some i∧zg ρ k=some i∧zg inv i=some k∧lo≤k.ix∧k.ix<hi∧getH i h=some o'∧zEd ρ θ o o'=true
 | [],[],_=>⟨rfl,fun j k o hj=>by simp at hj⟩
 | [],_::_,hc=>by cases hc
 | _::_,[],hc=>by cases hc
 | p::r,i::is,hc=>by
  unfold wH at hc
  simp only [Bool.and_eq_true] at hc
  obtain ⟨⟨⟨⟨⟨c1,c2⟩,c3⟩,c4⟩,c5⟩,c6⟩:=hc
  obtain ⟨hl,hr⟩:=uk c6
  refine ⟨by simp [hl],fun j k o hj=>?_⟩
  cases j with
  | zero=>
   simp at hj
   subst hj
   split at c5
   · rename_i o' ho
     exact ⟨i,o',rfl,qe c1,qe c2,@zJ noSym _ _ c3,@zJ noSym _ _ c4,ho,c5⟩
   · cases c5
  | succ j=>
   obtain ⟨i',o',h1,h2⟩:=hr j k o (by simpa using hj)
   exact ⟨i',o',by simpa using h1,h2⟩
theorem zLf {σs σT:Nat→Int} {Ks KT:zc} {θ:TH} {ρ inv:Heap} {objs:List (Key × CObj)} {ks:List Key} {h:Heap} {lo hi:Nat} {ψ:Psi} {w:World} (hθ:jc σs σT θ) (hR:@Rel (linSym σs Ks) ψ (Heap.fam h) w)
 (hc:wH ρ inv θ h lo hi objs ks=true) :
 @Rel (linSym σT KT) (zNt ρ ψ) (kY objs) w ∧
 (∀ k o p,kY objs k=some o→zNt ρ ψ k=some p→o.isRo=false∧∃ k0 o0,Heap.fam h k0=some o0∧o0.isRo=false∧ψ k0=some p):=by
 have hTot:∀ k o,Heap.fam h k=some o→∃ p,ψ k=some p:=@Rel.tot (linSym σs Ks) _ _ _ hR
 have hOn:∀ k o p,Heap.fam h k=some o→ψ k=some p→@xC (linSym σs Ks) ψ w p o:=@Rel.on (linSym σs Ks) _ _ _ hR
 have hInj:=@Rel.inj (linSym σs Ks) _ _ _ hR
 have hobj:=(uk hc).2
 have hfam:∀ k o p,kY objs k=some o→zNt ρ ψ k=some p→∃ b o',zg ρ k=some b∧zg inv b=some k∧Heap.fam h b=some o'∧ψ b=some p∧zEd ρ θ o o'=true:=by
  intro k o p hk hp
  rcases qj hk with ⟨j,hj⟩ | hn
  · obtain ⟨b,o',g1,g2,g3,g4,g5,g6,g7⟩:=hobj j k o hj
    rw [zB1 g2] at hp
    exact ⟨b,o',g2,g3,g6,hp,g7⟩
  · rw [jX] at hn; cases hn
 refine ⟨?_,?_⟩
 · refine @Rel.mk (linSym σT KT) _ _ _ ?_ ?_ ?_
   · intro k o p hk hp
     obtain ⟨b,o',g1,g2,g3,g4,g5⟩:=hfam k o p hk hp
     exact (zET hθ zDA g5 (hOn b o' p g3 g4)).1
   · intro k o hk
     rcases qj hk with ⟨j,hj⟩ | hn
     · obtain ⟨b,o',g1,g2,g3,g4,g5,g6,g7⟩:=hobj j k o hj
       obtain ⟨p0,hp0⟩:=hTot b o' g6
       exact ⟨p0,by rw [zB1 g2]; exact hp0⟩
     · rw [jX] at hn; cases hn
   · intro k₁ k₂ o₁ o₂ p₁ p₂ h1 h2 h3 h4 hr e
     obtain ⟨b1,o1',g1,g2,g3,g4,g5⟩:=hfam _ _ _ h1 h3
     obtain ⟨b2,o2',f1,f2,f3,f4,f5⟩:=hfam _ _ _ h2 h4
     have:=hInj b1 b2 _ _ _ _ g3 f3 g4 f4 (.inl (zET (KT:=KT) (σT:=σT) hθ zDA g5 (hOn b1 o1' _ g3 g4)).2.2) e
     subst this
     rw [g2] at f2
     injection f2
 · intro k o p hk hp
   obtain ⟨b,o',g1,g2,g3,g4,g5⟩:=hfam k o p hk hp
   have hro:=(zET (KT:=KT) (σT:=σT) hθ zDA g5 (hOn b o' p g3 g4)).2
   exact ⟨hro.1,b,o',g3,hro.2,g4⟩
structure zQ0 (S:Sym) (ψ:Psi) (s:Fs) (w:World) (po:Po) (v:Value) (ψ':Psi) (w':World):Prop where
 ext:∀ k∈s.ext,∀ p,ψ k=some p→ψ' k=some p
 pin:∀ (i:Nat) k o,po.objs[i]? = some (k,o)→k.ix<s.mid→∀ p,ψ k=some p→ψ' k=some p
 rel:@Rel S ψ' (kY po.objs) w'
 val:@zG S ψ' po.v v
 own:∀ k o p,kY po.objs k=some o→ψ' k=some p→o.isRo=false∧zFU ψ s.objs w p.blk
 lft:Lft (zFU ψ s.objs w) w w'
def FsOk (P:Program) (f:FuncId) (s:Fs):Prop:=∀ (σ:Nat→Int),yF σ 0 s.bA→∀ (ψ:Psi) (w:World) (args':Array Value),
 (∀ σ' K',(∀ j,j<s.bA.length→σ' j=σ j)→K'.arg=noA→@zS (linSym σ' K') ψ s.args args'.toList∧@Rel (linSym σ' K') ψ (kY (s.objs++s.ros)) w)→wS P ψ→qR ψ s.n →
 yr P f args' w fun v w'=>∃ po∈s.posts,∃ ψ',zQ0 (linSym σ kno) ψ s w po v ψ' w'
def zSc (k j:Key) (a:HA):HA:=match Nat.ble 32768 k.ix with
 | true=>⟨a.f,a.b,a.c,(k.ix,.ofNat j.ix,[])::a.th⟩
 | false=>match Nat.beq k.ix a.c with
  | true=>⟨a.f,j::a.b,Nat.succ a.c,a.th⟩
  | false=>a
def zS7 (pm:Nat) (e:SE) (v:CV) (a:HA):HA:=List.rec (motive:=fun _=>HA) a (fun p r _=>List.rec (motive:=fun _=>HA) (Prod.rec (motive:=fun _=>HA) (fun j _=>Bool.rec (motive:=fun _=>HA) (zSZ e v a) a (Nat.ble (Nat.succ pm) j)) p) (fun _ _ _=>a) r) e.l
def gV (pm:Nat) (c:CV):CV→HA→HA:=CV.rec (motive_1:=fun _=>CV→HA→HA) (motive_2:=fun _=>List CV→HA→HA)
 (fun x0 d a=>a)
 (fun x0 d a=>a)
 (fun x0 x1 d a=>a)
 (fun x0 d a=>a)
 (fun x0 d a=>a)
 (fun d a=>a)
 (fun x0 x1 d a=>(CV.rec (motive_1:=fun _=>HA→HA) (motive_2:=fun _=>Unit) (fun _=>(fun a=>a)) (fun _=>(fun a=>a)) (fun _ _=>(fun a=>a)) (fun _=>(fun a=>a)) (fun _=>(fun a=>a)) (fun a=>a) (fun y0 y1=>(fun a=>zSc x0 y0 a)) (fun a=>a) (fun _ _ _ _ _ _=>(fun a=>a)) (fun a=>a) (fun _=>(fun a=>a)) (fun _ _ _ _ _=>(fun a=>a)) (fun a=>a) (fun _ _ _=>(fun a=>a)) (fun a=>a) (fun _ _=>(fun a=>a)) (fun _ _=>(fun a=>a)) (fun _=>(fun a=>a)) (fun _ _ _ _=>(fun a=>a)) (fun _ _=>(fun a=>a)) (fun _=>(fun a=>a)) (fun _ _=>(fun a=>a)) (fun _ _ _ _=>(fun a=>a)) (fun a=>a) () (fun _ _ _ _=>()) d) a)
 (fun d a=>a)
 (fun x0 x1 x2 x3 x4 x5 d a=>(CV.rec (motive_1:=fun _=>HA→HA) (motive_2:=fun _=>Unit) (fun _=>(fun a=>a)) (fun _=>(fun a=>a)) (fun _ _=>(fun a=>a)) (fun _=>(fun a=>a)) (fun _=>(fun a=>a)) (fun a=>a) (fun _ _=>(fun a=>a)) (fun a=>a) (fun y0 y1 y2 y3 y4 y5=>(fun a=>zSc x0 y0 a)) (fun a=>a) (fun _=>(fun a=>a)) (fun _ _ _ _ _=>(fun a=>a)) (fun a=>a) (fun _ _ _=>(fun a=>a)) (fun a=>a) (fun _ _=>(fun a=>a)) (fun _ _=>(fun a=>a)) (fun _=>(fun a=>a)) (fun _ _ _ _=>(fun a=>a)) (fun _ _=>(fun a=>a)) (fun _=>(fun a=>a)) (fun _ _=>(fun a=>a)) (fun _ _ _ _=>(fun a=>a)) (fun a=>a) () (fun _ _ _ _=>()) d) a)
 (fun d a=>a)
 (fun x0 d a=>(CV.rec (motive_1:=fun _=>HA→HA) (motive_2:=fun _=>Unit) (fun _=>(fun a=>a)) (fun _=>(fun a=>a)) (fun _ _=>(fun a=>a)) (fun _=>(fun a=>a)) (fun _=>(fun a=>a)) (fun a=>a) (fun _ _=>(fun a=>a)) (fun a=>a) (fun _ _ _ _ _ _=>(fun a=>a)) (fun a=>a) (fun y0=>(fun a=>zSc x0 y0 a)) (fun _ _ _ _ _=>(fun a=>a)) (fun a=>a) (fun _ _ _=>(fun a=>a)) (fun a=>a) (fun _ _=>(fun a=>a)) (fun _ _=>(fun a=>a)) (fun _=>(fun a=>a)) (fun _ _ _ _=>(fun a=>a)) (fun _ _=>(fun a=>a)) (fun _=>(fun a=>a)) (fun _ _=>(fun a=>a)) (fun _ _ _ _=>(fun a=>a)) (fun a=>a) () (fun _ _ _ _=>()) d) a)
 (fun x0 x1 x2 ha hc d a=>(CV.rec (motive_1:=fun _=>HA→HA) (motive_2:=fun _=>Unit) (fun _=>(fun a=>a)) (fun _=>(fun a=>a)) (fun _ _=>(fun a=>a)) (fun _=>(fun a=>a)) (fun _=>(fun a=>a)) (fun a=>a) (fun _ _=>(fun a=>a)) (fun a=>a) (fun _ _ _ _ _ _=>(fun a=>a)) (fun a=>a) (fun _=>(fun a=>a)) (fun y0 y1 y2 _ _=>(fun a=>hc y2 (ha y1 a))) (fun a=>a) (fun _ _ _=>(fun a=>a)) (fun a=>a) (fun _ _=>(fun a=>a)) (fun _ _=>(fun a=>a)) (fun _=>(fun a=>a)) (fun _ _ _ _=>(fun a=>a)) (fun _ _=>(fun a=>a)) (fun _=>(fun a=>a)) (fun _ _=>(fun a=>a)) (fun _ _ _ _=>(fun a=>a)) (fun a=>a) () (fun _ _ _ _=>()) d) a)
 (fun d a=>a)
 (fun x0 x1 hv d a=>(CV.rec (motive_1:=fun _=>HA→HA) (motive_2:=fun _=>Unit) (fun _=>(fun a=>a)) (fun _=>(fun a=>a)) (fun _ _=>(fun a=>a)) (fun _=>(fun a=>a)) (fun _=>(fun a=>a)) (fun a=>a) (fun _ _=>(fun a=>a)) (fun a=>a) (fun _ _ _ _ _ _=>(fun a=>a)) (fun a=>a) (fun _=>(fun a=>a)) (fun _ _ _ _ _=>(fun a=>a)) (fun a=>a) (fun y0 y1 _=>(fun a=>hv y1 a)) (fun a=>a) (fun _ _=>(fun a=>a)) (fun _ _=>(fun a=>a)) (fun _=>(fun a=>a)) (fun _ _ _ _=>(fun a=>a)) (fun _ _=>(fun a=>a)) (fun _=>(fun a=>a)) (fun _ _=>(fun a=>a)) (fun _ _ _ _=>(fun a=>a)) (fun a=>a) () (fun _ _ _ _=>()) d) a)
 (fun d a=>a)
 (fun x0 hl d a=>(CV.rec (motive_1:=fun _=>HA→HA) (motive_2:=fun _=>Unit) (fun _=>(fun a=>a)) (fun _=>(fun a=>a)) (fun _ _=>(fun a=>a)) (fun _=>(fun a=>a)) (fun _=>(fun a=>a)) (fun a=>a) (fun _ _=>(fun a=>a)) (fun a=>a) (fun _ _ _ _ _ _=>(fun a=>a)) (fun a=>a) (fun _=>(fun a=>a)) (fun _ _ _ _ _=>(fun a=>a)) (fun a=>a) (fun _ _ _=>(fun a=>a)) (fun a=>a) (fun y0 _=>(fun a=>hl y0 a)) (fun _ _=>(fun a=>a)) (fun _=>(fun a=>a)) (fun _ _ _ _=>(fun a=>a)) (fun _ _=>(fun a=>a)) (fun _=>(fun a=>a)) (fun _ _=>(fun a=>a)) (fun _ _ _ _=>(fun a=>a)) (fun a=>a) () (fun _ _ _ _=>()) d) a)
 (fun x0 hl d a=>(CV.rec (motive_1:=fun _=>HA→HA) (motive_2:=fun _=>Unit) (fun _=>(fun a=>a)) (fun _=>(fun a=>a)) (fun _ _=>(fun a=>a)) (fun _=>(fun a=>a)) (fun _=>(fun a=>a)) (fun a=>a) (fun _ _=>(fun a=>a)) (fun a=>a) (fun _ _ _ _ _ _=>(fun a=>a)) (fun a=>a) (fun _=>(fun a=>a)) (fun _ _ _ _ _=>(fun a=>a)) (fun a=>a) (fun _ _ _=>(fun a=>a)) (fun a=>a) (fun _ _=>(fun a=>a)) (fun y0 _=>(fun a=>hl y0 a)) (fun _=>(fun a=>a)) (fun _ _ _ _=>(fun a=>a)) (fun _ _=>(fun a=>a)) (fun _=>(fun a=>a)) (fun _ _=>(fun a=>a)) (fun _ _ _ _=>(fun a=>a)) (fun a=>a) () (fun _ _ _ _=>()) d) a)
 (fun x0 d a=>zS7 pm x0 d a)
 (fun x0 x1 x2 x3 d a=>a)
 (fun x0 hl d a=>(CV.rec (motive_1:=fun _=>HA→HA) (motive_2:=fun _=>Unit) (fun _=>(fun a=>a)) (fun _=>(fun a=>a)) (fun _ _=>(fun a=>a)) (fun _=>(fun a=>a)) (fun y0=>(fun a=>hl (xk y0) a)) (fun a=>a) (fun _ _=>(fun a=>a)) (fun a=>a) (fun _ _ _ _ _ _=>(fun a=>a)) (fun a=>a) (fun _=>(fun a=>a)) (fun _ _ _ _ _=>(fun a=>a)) (fun a=>a) (fun _ _ _=>(fun a=>a)) (fun a=>a) (fun _ _=>(fun a=>a)) (fun _ _=>(fun a=>a)) (fun _=>(fun a=>a)) (fun _ _ _ _=>(fun a=>a)) (fun y0 _=>(fun a=>hl y0 a)) (fun _=>(fun a=>a)) (fun _ _=>(fun a=>a)) (fun _ _ _ _=>(fun a=>a)) (fun a=>a) () (fun _ _ _ _=>()) d) a)
 (fun x0 d a=>a)
 (fun x0 x1 d a=>zSM x0 x1 d a)
 (fun x0 x1 x2 x3 d a=>a)
 (fun d a=>a)
 (fun _ a=>a)
 (fun _ _ h g m a=>List.rec (motive:=fun _=>HA) a (fun b r _=>g r (h b a)) m) c
def gVs (pm:Nat) (l m:List CV) (a:HA):HA:=gV pm (.agg l) (.agg m) a
def gEs (pm:Nat):List CE→List CE→HA→HA
 | x::xs,y::ys,a=>gEs pm xs ys (gV pm x.val y.val (gV pm x.key y.key a))
 | _,_,a=>a
def gZ (pm:Nat):List (CV × CV)→List (CV × CV)→HA→HA
 | x::xs,y::ys,a=>gZ pm xs ys (gV pm x.2 y.2 a)
 | x::xs,[],a=>gZ pm xs [] (gV pm x.2 (.str []) a)
 | _,_,a=>a
def gO (pm:Nat):CObj→CObj→HA→HA
 | .cells x,.cells y,a=>gVs pm x y a
 | .cells x,.full _ y,a=>gVs pm x y a
 | .map x _,.map y _,a=>gEs pm x (wu y) a
 | .mapz x,.mapz y,a=>gZ pm x y a
 | .mapz x,.map _ _,a=>gZ pm x [] a
 | _,_,a=>a
def zRO (pm:Nat) (h:Heap):List (Key × CObj)→HA→List Key→List Key × HA
 | [],a,ks=>(ks.reverse,a)
 | p::r,a,ks=>match zQX a with
  | none=>(ks.reverse,a)
  | some (j,a)=>match getH j h with
   | some o=>zRO pm h r (gO pm p.2 o a) (j::ks)
   | none=>(ks.reverse,a)
def zSQ (th:List (Nat × Int × LL)):List Key→List Key
 | []=>[]
 | k::r=>(match (zF1 k.ix th).1 with
  | .ofNat m=>Key.ofNat m
  | .negSucc _=>k)::zSQ th r
def zSg (mid:Nat):List (Key × CObj)→List Key
 | []=>[]
 | p::r=>match Nat.ble mid p.1.ix with
  | true=>zSg mid r
  | false=>p.1::zSg mid r
def zQk (mid:Nat):List (Key × CObj)→List Key→Bool
 | [],[]=>true
 | p::r,j::js=>(match Nat.ble mid p.1.ix with
  | true=>true
  | false=>Nat.beq p.1.ix j.ix)&&zQk mid r js
 | _,_=>false
theorem zMp {mid:Nat}:∀ {l:List (Key × CObj)} {ks:List Key},zQk mid l ks=true→∀ (i:Nat) k o j,l[i]? = some (k,o)→ks[i]? = some j→k.ix<mid→j=k
 | [],_,_,i,k,o,j,h1,_,_=>by simp at h1
 | _::_,[],h,_,_,_,_,_,_,_=>by cases h
 | p::r,x::js,h,i,k,o,j,h1,h2,hk=>by
  unfold zQk at h
  rw [Bool.and_eq_true] at h
  cases i with
  | zero=>
   simp at h1 h2
   subst h1 h2
   have h3:=h.1
   split at h3
   · rename_i hb
     have:=@zJ noSym _ _ hb
     simp only at this hk
     omega
   · exact (@Key.ix_inj noSym _ _ (Nat.eq_of_beq_eq_true h3)).symm
  | succ i=>exact zMp h.2 i k o j (by simpa using h1) (by simpa using h2) hk
theorem zLx {t:List (Int × Int)}:∀ {r:List (Int × Int)} {j:Nat},thK (r++t) j=thK r j++thK t (j+r.length)
 | [],j=>rfl
 | x::r,j=>by
  show (0,[(j,1)])::thK (r++t) (j+1)=(0,[(j,1)])::(thK r (j+1)++thK t (j+(r.length+1)))
  rw [zLx,show j+1+r.length=j+(r.length+1) from by omega]
theorem zP9:∀ {n j:Nat},thK (zH1 n) j=jV j n
 | 0,_=>rfl
 | n+1,j=>by
  show (0,[(j,1)])::thK (zH1 n) (j+1)=(0,[(j,1)])::jV (j+1) n
  rw [zP9]
theorem zQA:∀ {b:List (Int × Int)},(thS b).length=b.length:=by
 have key:∀ {r:List (Int × Int)} {j:Nat},(thK r j).length=r.length:=by
  intro r
  induction r with
  | nil=>intro j; rfl
  | cons x r ih=>intro j; show (thK r (j+1)).length+1=_; rw [ih]; rfl
 intro b
 cases b with
 | nil=>rfl
 | cons x r=>show (thK r 1).length+1=_; rw [key]; rfl
def zPc (s:Fs):Bool:=match s.b with
 | []=>Nat.beq s.pn 0
 | _=>true
theorem zSs {s:Fs} (h:zPc s=true):thS s.bA=thS s.b++jV s.b.length s.pn:=by
 unfold Fs.bA
 cases hb:s.b with
 | nil=>
  unfold zPc at h
  rw [hb] at h
  have e:s.pn=0:=Nat.eq_of_beq_eq_true h
  rw [e]
  rfl
 | cons x r=>
  show (0,[])::thK (r++zH1 s.pn) 1=(0,[])::(thK r 1++jV (r.length+1) s.pn)
  rw [zLx,zP9,Nat.add_comm 1]
def fNB (n:Nat) (k:Nat→Bool):Bool:=Nat.rec (motive:=fun _=>(Nat→Bool)→Bool) (fun k=>k 0) (fun m _ k=>k (Nat.succ m)) n k
theorem zOV {n:Nat} {k:Nat→Bool}:fNB n k=k n:=by cases n <;> rfl
def zKx (G:Nat) (s:Fs) (m mn:Nat) (po:Po) (v:CV) (h:Heap) (n:Key) (ks:List Key):Bool:=
 zPc s&&zAj (xG po.objs s.ext ks s.ext) (jK po.objs ks) (thS s.bA) (zA3 (thS s.b) m mn m s.pn) (fun i t d=>zw (xG po.objs s.ext ks s.ext) (thS s.bA) (.few i t) d) h G 65535 po.objs ks&&zPb (xG po.objs s.ext ks s.ext) (zA3 (thS s.b) m mn m s.pn) (fun i t d=>zw (xG po.objs s.ext ks s.ext) (thS s.bA) (.few i t) d) po.v v&&zQk s.mid po.objs ks&&zEr (xG po.objs s.ext ks s.ext) s.ext&&Nat.ble (Nat.succ n.ix) 65535
def zEh (G:Nat) (s:Fs) (po:Po) (v:CV) (h:Heap) (n:Key) (ks:List Key):Bool:=
 wH (xG po.objs s.ext ks s.ext) (jK po.objs ks) (thS s.bA) h G 65535 po.objs ks&&zw (xG po.objs s.ext ks s.ext) (thS s.bA) po.v v&&zQk s.mid po.objs ks&&zEr (xG po.objs s.ext ks s.ext) s.ext&&Nat.ble (Nat.succ n.ix) 65535
theorem zNm {G:Nat} {s:Fs} {m mn:Nat} {po:Po} {v:CV} {h:Heap} {n:Key} {ks:List Key} (hm:m=s.b.length) (hn:mn=m+s.pn) (hc:zKx G s m mn po v h n ks=true):zEh G s po v h n ks=true:=by
 unfold zKx at hc
 simp only [Bool.and_eq_true] at hc
 obtain ⟨⟨⟨⟨⟨c0,c1⟩,c2⟩,c3⟩,c4⟩,c5⟩:=hc
 have hs:∀ e d,zA3 (thS s.b) m mn m s.pn e d=ui (thS s.bA) e d:=fun e d=>by
  rw [zJc (by rw [zQA]; exact hm) hn,zSs c0,hm]
 rw [zBN hs (fun _ _ _=>rfl)] at c1
 rw [zA5 hs (fun _ _ _=>rfl)] at c2
 unfold zEh
 simp only [Bool.and_eq_true]
 exact ⟨⟨⟨⟨c1,c2⟩,c3⟩,c4⟩,c5⟩
def zKf (s:Fs) (po:Po) (v:CV) (h:Heap) (k:List Key→Bool):Bool:=fNB (List.length s.b) fun m=>match zRO m h po.objs (gV m po.v v ⟨zSg s.mid po.objs,[],s.mid,[]⟩) [] with
 | (ks,_)=>zCp ks k
theorem zIn {s:Fs} {po:Po} {v:CV} {h:Heap} {k:List Key→Bool} (hh:zKf s po v h k=true):∃ x,k x=true:=by
 unfold zKf at hh
 rw [zOV] at hh
 split at hh
 rw [vT] at hh
 exact ⟨_,hh⟩
def zI0 (G:Nat) (s:Fs) (v:CV) (h:Heap) (n:Key):List Po→Bool
 | []=>false
 | po::r=>match zKf s po v h (fun ks=>fNB (List.length s.b) fun m=>fNB (Nat.add m s.pn) fun mn=>zKx G s m mn po v h n ks) with
  | true=>true
  | false=>zI0 G s v h n r
theorem zEm {G:Nat} {s:Fs} {v:CV} {h:Heap} {n:Key}:∀ {l:List Po},zI0 G s v h n l=true→∃ po∈l,∃ ks,zEh G s po v h n ks=true
 | [],hh=>by cases hh
 | po::r,hh=>by
  unfold zI0 at hh
  split at hh
  · rename_i h1
    obtain ⟨ks,hk⟩:=zIn h1
    simp only [zOV] at hk
    exact ⟨po,by simp,ks,zNm rfl rfl hk⟩
  · obtain ⟨po',h1,h2⟩:=zEm hh
    exact ⟨po',by simp [h1],h2⟩
def qP (G:Nat) (s:Fs):R→Bool
 | .ret v h n=>zI0 G s v h n s.posts
 | .fork a b=>qP G s a&&qP G s b
 | _=>false
theorem k6 {G:Nat} {s:Fs}:∀ {r:R},qP G s r=true→zX r
 | .ok ..,h=>by cases h
 | .ret v hh n,h=>by
  obtain ⟨po,_,ks,hk⟩:=zEm (show zI0 G s v hh n s.posts=true from h)
  unfold zEh at hk
  rw [Bool.and_eq_true] at hk
  exact @zJ noSym _ _ hk.2
 | .err _,h=>by cases h
 | .fork a b,h=>by
  have h:(qP G s a&&qP G s b)=true:=h
  rw [Bool.and_eq_true] at h
  exact ⟨k6 h.1,k6 h.2⟩
theorem vX {S:Sym} {G:Nat} {s:Fs} {ψ₀:Psi} {g₀:Fam} {n₀:Key} {w₀:World} {v:Value} {w:World}:∀ {r:R},qP G s r=true→@zn S ψ₀ g₀ n₀ w₀ r v w →
 ∃ (cv:CV) (h:Heap) (n:Key) (ψ:Psi),@z7 S ψ₀ g₀ n₀ w₀ ψ (Heap.fam h) n w∧@zG S ψ cv v∧∃ po∈s.posts,∃ ks,zEh G s po cv h n ks=true
 | .ok ..,h,_=>by cases h
 | .ret cv hh n,h,⟨ψ,h1,h2⟩=>⟨cv,hh,n,ψ,h1,h2,zEm h⟩
 | .err _,h,_=>by cases h
 | .fork a b,h,ho=>by
  have h:(qP G s a&&qP G s b)=true:=h
  rw [Bool.and_eq_true] at h
  rcases ho with ho | ho
  · exact vX h.1 ho
  · exact vX h.2 ho
theorem zTd {σ σ0:Nat→Int} {K K0:zc} {G:Nat} {s:Fs} {po:Po} {ψ ψ':Psi} {n n':Key} {w w':World} {v:Value} {cv:CV} {h:Heap} {ks:List Key}
 (h0:∀ x r,s.bA=x::r→σ0 0=0) (hk:∀ j,1≤j→j<s.bA.length→σ j=σ0 j)
 (hro:zEz s.ros=true) (hp:@z7 (linSym σ K) ψ (kY (s.objs++s.ros)) n w ψ' (Heap.fam h) n' w') (hv:@zG (linSym σ K) ψ' cv v) (hc:zEh G s po cv h n' ks=true):∃ ψT,zQ0 (linSym σ0 K0) ψ s w po v ψT w':=by
 unfold zEh at hc
 simp only [Bool.and_eq_true] at hc
 obtain ⟨⟨⟨⟨c1,c2⟩,c3⟩,c4⟩,_⟩:=hc
 have hθ:=zR7 h0 hk
 obtain ⟨hlen,hobj⟩:=uk c1
 obtain ⟨r1,r2⟩:=zLf (KT:=K0) hθ (@z7.rel (linSym σ K) _ _ _ _ _ _ _ _ hp) c1
 have hm:∀ k o p,kY (s.objs++s.ros) k=some o→o.isRo=false→ψ k=some p→zFU ψ s.objs w p.blk:=fun k o p g1 g2 g3=>by
  rcases vB g1 with g1 | g1
  · exact .inl ⟨k,o,p,g1,g3,rfl⟩
  · have:=zGX hro _ g1
    simp only at this
    rw [this] at g2; cases g2
 refine ⟨_,⟨fun k hk p hp0=>?_,fun i k o hi hmid p hp0=>?_,r1,qA hθ zDA po.v cv c2 hv,fun k o p q1 q2=>?_,zPF (Lft.refl _ _) hp zI6 hm⟩⟩
 · rw [zB1 (qe (zF4 c4 k hk))]
   exact @z7.ext (linSym σ K) _ _ _ _ _ _ _ _ hp k p hp0
 · obtain ⟨j,o',g1,g2,_⟩:=hobj i k o hi
   obtain rfl:=zMp c3 i k o j hi g1 hmid
   rw [zB1 g2]
   exact @z7.ext (linSym σ K) _ _ _ _ _ _ _ _ hp _ p hp0
 · obtain ⟨f1,k0,o0,f2,f3,f4⟩:=r2 k o p q1 q2
   exact ⟨f1,zQg (Lft.refl _ _) hp zI6 hm k0 o0 p f2 f3 f4⟩
section
variable {code:FuncId→CFn} {nat:Nats} {fuel:Nat} {f:FuncId} {G:Nat} {s:Fs}
theorem zP0 {tree:LTree} {ls:List Lf} (hm:P.follows .mixedOrders=true) (hcode:CodeOk P code) (hnat:∀ σ K,KnownOk σ K→@NatsOk (linSym σ K) P nat)
 (hls:leaves [] tree ⟨s.bA,[],[],[],1000⟩=some ls) (hok:okB s.bA=true) (hro:zEz s.ros=true)
 (hrun:AllG (fun e=>∀ (σ:Nat→Int),qP G s (@ev (linSym σ (e.known noA)) P code nat fuel false f s.args (mkH .nil (s.objs++s.ros)) s.n)=true) ls):FsOk P f s:=by
 intro σ hb ψ w args' hrel hglob hfr
 unfold okB at hok
 rw [Bool.and_eq_true] at hok
 obtain ⟨hlen,hz⟩:=zPI hok.1 hb
 obtain ⟨e,he,σ',r1,r2⟩:=yS (wins:=[]) (w0:=w) (i:=σ 0) tree _ σ hls ⟨hb,trivial,trivial,fun q hq=>by cases hq⟩ zNj rfl (by show 0<s.bA.length; omega) (@zJ noSym _ _ hok.2) (Nat.le_refl _)
 have hag:∀ j,j<s.bA.length→σ' j=σ j:=fun j hj=>r2 j (.inl hj)
 have hrun:=zBn hrun e he σ'
 have hK:KnownOk σ' (e.known noA):=r1.known noA
 obtain ⟨q1,q2⟩:=hrel σ' (e.known noA) hag rfl
 have hcall:@yW (linSym σ' (e.known noA)) P (@ev (linSym σ' (e.known noA)) P code nat fuel):=by
  letI S:Sym:=linSym σ' (e.known noA)
  haveI hS:SymFact P:=xg hK
  exact zAx (fun call hcall F N=>xf hm hcall) hcode (hnat _ _ hK) fuel
 refine vv (@yW.calls (linSym σ' (e.known noA)) _ _ hcall f s.args _ s.n ψ w args' q1 hglob q2 hfr (k6 hrun)) fun v w' ho=>?_
 obtain ⟨cv,h,n,ψ',p1,p2,po,hpo,ks,hc⟩:=vX hrun ho
 obtain ⟨ψT,hT⟩:=zTd (σ0:=σ) (K0:=kno) (fun _ _ _=>hz) (fun j _ hj=>hag j hj) hro p1 p2 hc
 exact ⟨po,hpo,ψT,hT⟩
end
def fsChk (P:Program) (code:FuncId→CFn) (nat:Nats) (fuel:Nat) (f:FuncId) (G:Nat) (σ:Nat→Int):List Fs→Bool
 | []=>true
 | s::r=>(zB s.bA fun b=>okB b&&zEz s.ros&&qP G s (@ev (linSym σ ((⟨b,[],[],[],1000⟩:Lf).known noA)) P code nat fuel false f s.args (mkH .nil (s.objs++s.ros)) s.n))&&fsChk P code nat fuel f G σ r
theorem fsChk_ok {code:FuncId→CFn} {nat:Nats} {fuel:Nat} {f:FuncId} {G:Nat} (hm:P.follows .mixedOrders=true) (hcode:CodeOk P code) (hnat:∀ σ K,KnownOk σ K→@NatsOk (linSym σ K) P nat) :
 ∀ {l:List Fs},(∀ σ,fsChk P code nat fuel f G σ l=true)→∀ s∈l,FsOk P f s
 | [],_,s,hs=>by cases hs
 | x::r,h,s,hs=>by
  have h':∀ σ,((okB x.bA=true∧zEz x.ros=true)∧qP G x (@ev (linSym σ ((⟨x.bA,[],[],[],1000⟩:Lf).known noA)) P code nat fuel false f x.args (mkH .nil (x.objs++x.ros)) x.n)=true)∧fsChk P code nat fuel f G σ r=true:=by
   intro σ
   have:=h σ
   unfold fsChk at this
   rwa [zLv,Bool.and_eq_true,Bool.and_eq_true,Bool.and_eq_true] at this
  rcases List.mem_cons.1 hs with rfl | hs
  · exact zP0 (tree:=.leaf) (ls:=[⟨s.bA,[],[],[],1000⟩]) hm hcode hnat rfl (h' fun _=>0).1.1.1 (h' fun _=>0).1.1.2 ⟨fun σ=>(h' σ).1.2,trivial⟩
  · exact fsChk_ok hm hcode hnat (fun σ=>(h' σ).2) s hs
theorem zEL {σs σT:Nat→Int} {Ks KT:zc} {θ:TH} {ρ inv:Heap} {objs:List (Key × CObj)} {ks:List Key} {h:Heap} {lo hi G:Nat} {ψ:Psi} {w:World} (hθ:jc σs σT θ) (hR:@Rel (linSym σs Ks) ψ (Heap.fam h) w)
 (hc:qB ρ inv θ h lo hi objs ks=true) :
 @Rel (linSym σT KT) (qV ρ h [] ψ G 0) (kY objs) w∧zAr ρ ψ (qV ρ h [] ψ G 0) ∧
 (∀ k o p,kY objs k=some o→qV ρ h [] ψ G 0 k=some p→o.isRo=false∧∃ k0 o0 p0,Heap.fam h k0=some o0∧o0.isRo=false∧ψ k0=some p0∧p0.blk=p.blk∧zg ρ k=some k0∧k0∈ks):=by
 have hTot:∀ k o,Heap.fam h k=some o→∃ p,ψ k=some p:=@Rel.tot (linSym σs Ks) _ _ _ hR
 have hOn:∀ k o p,Heap.fam h k=some o→ψ k=some p→@xC (linSym σs Ks) ψ w p o:=@Rel.on (linSym σs Ks) _ _ _ hR
 have hInj:=@Rel.inj (linSym σs Ks) _ _ _ hR
 have hobj:=ju hc
 have hps:∀ k j p,zg ρ k=some j→ψ j=some p→qV ρ h [] ψ G 0 k=some ⟨p.blk,p.off,p.sz,zCc (getH j h) p.ck⟩:=by
  intro k j p hk hp
  unfold qV
  rw [hk]
  simp only
  rw [hp]; rfl
 have hPs:zAr ρ ψ (qV ρ h [] ψ G 0):=fun k j p hk hp=>⟨_,hps k j p (qe hk) hp,rfl,rfl,rfl⟩
 have hfam:∀ k o p,kY objs k=some o→qV ρ h [] ψ G 0 k=some p→∃ b o' p0,zg ρ k=some b∧zg inv b=some k∧Heap.fam h b=some o'∧ψ b=some p0∧zAM ρ θ o o'=true ∧
  p=⟨p0.blk,p0.off,p0.sz,zCc (some o') p0.ck⟩∧b∈ks:=by
  intro k o p hk hp
  rcases qj hk with ⟨j,hj⟩ | hn
  · obtain ⟨b,o',g1,g2,g3,g4,g5,g6,g7⟩:=hobj j k o hj
    obtain ⟨p0,hp0⟩:=hTot b o' g6
    rw [hps k b p0 g2 hp0,g6] at hp
    injection hp with hp
    exact ⟨b,o',p0,g2,g3,g6,hp0,g7,hp.symm,List.mem_of_getElem? g1⟩
  · rw [jX] at hn; cases hn
 refine ⟨?_,hPs,?_⟩
 · refine @Rel.mk (linSym σT KT) _ _ _ ?_ ?_ ?_
   · intro k o p hk hp
     obtain ⟨b,o',p0,g1,g2,g3,g4,g5,rfl,_⟩:=hfam k o p hk hp
     exact (zL1 (p:=p0) (p':=⟨p0.blk,p0.off,p0.sz,zCc (some o') p0.ck⟩) hθ hPs g5 rfl rfl rfl rfl (hOn b o' p0 g3 g4)).1
   · intro k o hk
     rcases qj hk with ⟨j,hj⟩ | hn
     · obtain ⟨b,o',g1,g2,g3,g4,g5,g6,g7⟩:=hobj j k o hj
       obtain ⟨p0,hp0⟩:=hTot b o' g6
       exact ⟨_,hps k b p0 g2 hp0⟩
     · rw [jX] at hn; cases hn
   · intro k₁ k₂ o₁ o₂ p₁ p₂ h1 h2 h3 h4 hr e
     obtain ⟨b1,o1',q1,g1,g2,g3,g4,g5,rfl,_⟩:=hfam _ _ _ h1 h3
     obtain ⟨b2,o2',q2,f1,f2,f3,f4,f5,rfl,_⟩:=hfam _ _ _ h2 h4
     have:=hInj b1 b2 _ _ _ _ g3 f3 g4 f4 (.inl (zI8 g5)) e
     subst this
     rw [g2] at f2
     injection f2
 · intro k o p hk hp
   obtain ⟨b,o',p0,g1,g2,g3,g4,g5,rfl,g6⟩:=hfam k o p hk hp
   have hro:o.isRo=false∧o'.isRo=false:=by
    unfold zAM at g5
    split at g5
    · exact ⟨rfl,rfl⟩
    · exact ⟨rfl,rfl⟩
    · exact ⟨rfl,rfl⟩
    · exact ⟨rfl,rfl⟩
    · exact ⟨rfl,rfl⟩
    · cases g5
   exact ⟨hro.1,b,o',p0,g3,hro.2,g4,rfl,g1,g6⟩
def roB:CObj→Option (List CV)
 | .ro b=>some b
 | .cells b=>some b
 | .full _ b=>some b
 | _=>none
def zCF (ρ inv:Heap) (θ:TH) (h:Heap):List (Key × CObj)→Bool
 | []=>true
 | p::r=>(match p.2,zg ρ p.1 with
  | .ro a,some j=>(match getH j h with
   | some o=>(match roB o with
    | some b=>zBT inv j&&uA ρ θ a b
    | none=>false)
   | none=>false)
  | _,_=>false)&&zCF ρ inv θ h r
def zDy (ρ inv:Heap) (si:SE→CV→Bool) (fw:Nat→List (List Nat)→CV→Bool) (h:Heap):List (Key × CObj)→Bool
 | []=>true
 | p::r=>(match p.2,zg ρ p.1 with
  | .ro a,some j=>(match getH j h with
   | some o=>(match roB o with
    | some b=>zBT inv j&&vl ρ si fw a b
    | none=>false)
   | none=>false)
  | _,_=>false)&&zDy ρ inv si fw h r
theorem zE2 {ρ inv:Heap} {θ:TH} {si:SE→CV→Bool} {fw:Nat→List (List Nat)→CV→Bool} (hs:∀ e d,si e d=ui θ e d) (hf:∀ i t d,fw i t d=zw ρ θ (.few i t) d) {h:Heap}:∀ {l:List (Key × CObj)},zDy ρ inv si fw h l=zCF ρ inv θ h l
 | []=>rfl
 | p::r=>by
  have e:∀ a b,vl ρ si fw a b=uA ρ θ a b:=fun a b=>by rw [uK hs hf,qy]
  unfold zDy zCF
  rw [zE2 hs hf (l:=r)]
  simp only [e]
theorem zGl {ρ inv:Heap} {θ:TH} {h:Heap}:∀ {l:List (Key × CObj)},zCF ρ inv θ h l=true→∀ k o,(k,o)∈l→∃ a b j o',o=.ro a∧zg ρ k=some j∧getH j h=some o'∧roB o'=some b∧zg inv j=none∧qE ρ θ a b=true
 | [],_,k,o,hk=>by simp at hk
 | p::r,hc,k,o,hk=>by
  unfold zCF at hc
  rw [Bool.and_eq_true] at hc
  rcases List.mem_cons.1 hk with e | hk
  · subst e
    have h1:=hc.1
    split at h1
    · rename_i a j e1 e2
      split at h1
      · rename_i o' hb
        split at h1
        · rename_i b hb'
          rw [Bool.and_eq_true,qy] at h1
          refine ⟨a,b,j,o',e1,e2,hb,hb',?_,h1.2⟩
          have h2:=h1.1
          unfold zBT at h2
          split at h2
          · assumption
          · cases h2
        · cases h1
      · cases h1
    · cases h1
  · exact zGl hc.2 k o hk
theorem zR9 {S:Sym} {ψ:Psi} {w:World} {p:Pl} {o:CObj} {b:List CV} (hb:roB o=some b) (h:@xC S ψ w p o):@uh S ψ w p b:=by
 cases o with
 | ro c=>injection hb with hb; subst hb; exact h
 | cells c=>injection hb with hb; subst hb; exact @yN.toRo S _ _ _ _ h
 | full u c=>injection hb with hb; subst hb; exact @yN.toRo S _ _ _ _ (@qx.toCells S _ _ _ _ _ h)
 | map _ _=>cases hb
 | striter _ _=>cases hb
 | mapiter _ _ _ _=>cases hb
 | mapz _=>cases hb
theorem zM3 {σs σT:Nat→Int} {Ks KT:zc} {θ:TH} {ρ:Heap} {ψs ψT:Psi} (hθ:jc σs σT θ) (hψ:zAr ρ ψs ψT) {as bs:List CV} (h:qE ρ θ as bs=true) {w:World} {p p':Pl} (h1:p'.blk=p.blk) (h2:p'.off=p.off)
 (hc:@uh (linSym σs Ks) ψs w p bs):@uh (linSym σT KT) ψT w p' as:=by
 obtain ⟨arr,elem,fz,g1,g3,g5⟩:=hc
 obtain ⟨q1,q2⟩:=zCN h
 refine ⟨arr,elem,fz,by rw [h1]; exact g1,by rw [h2]; omega,fun i c hi=>?_⟩
 obtain ⟨d,hd,hcd⟩:=q2 i c hi
 obtain ⟨x,hx,hr⟩:=g5 i d hd
 exact ⟨x,by rw [h2]; exact hx,qA hθ hψ c d hcd hr⟩
theorem zKz {σs σT:Nat→Int} {Ks KT:zc} {θ:TH} {ρ inv:Heap} {objs ros:List (Key × CObj)} {ks:List Key} {h:Heap} {lo hi G:Nat} {ψ:Psi} {w:World} (hθ:jc σs σT θ) (hR:@Rel (linSym σs Ks) ψ (Heap.fam h) w)
 (hc:qB ρ inv θ h lo hi objs ks=true) (hr:zCF ρ inv θ h ros=true) :
 @Rel (linSym σT KT) (qV ρ h [] ψ G 0) (kY (objs++ros)) w∧zAr ρ ψ (qV ρ h [] ψ G 0):=by
 have hTot:∀ k o,Heap.fam h k=some o→∃ p,ψ k=some p:=@Rel.tot (linSym σs Ks) _ _ _ hR
 have hOn:∀ k o p,Heap.fam h k=some o→ψ k=some p→@xC (linSym σs Ks) ψ w p o:=@Rel.on (linSym σs Ks) _ _ _ hR
 have hInj:=@Rel.inj (linSym σs Ks) _ _ _ hR
 obtain ⟨c1,c2,c3⟩:=zEL (G:=G) (KT:=KT) hθ hR hc
 have c1on:∀ k o p,kY objs k=some o→qV ρ h [] ψ G 0 k=some p→@xC (linSym σT KT) (qV ρ h [] ψ G 0) w p o:=@Rel.on (linSym σT KT) _ _ _ c1
 have c1tot:=@Rel.tot (linSym σT KT) _ _ _ c1
 have c1inj:=@Rel.inj (linSym σT KT) _ _ _ c1
 have hps:∀ k j p,zg ρ k=some j→ψ j=some p→qV ρ h [] ψ G 0 k=some ⟨p.blk,p.off,p.sz,zCc (getH j h) p.ck⟩:=by
  intro k j p hk hp
  unfold qV
  rw [hk]
  simp only
  rw [hp]; rfl
 have hro:∀ k o,(k,o)∈ros→∃ a b j p o',o=.ro a∧Heap.fam h j=some o'∧ψ j=some p∧qV ρ h [] ψ G 0 k=some ⟨p.blk,p.off,p.sz,zCc (getH j h) p.ck⟩∧qE ρ θ a b=true∧roB o'=some b∧zg inv j=none:=by
  intro k o hk
  obtain ⟨a,b,j,o',e,g1,g2,gb,gn,g3⟩:=zGl hr k o hk
  obtain ⟨p,hp⟩:=hTot j _ g2
  exact ⟨a,b,j,p,o',e,g2,hp,hps k j p g1 hp,g3,gb,gn⟩
 have hinv:∀ k o k0,kY objs k=some o→zg ρ k=some k0→zg inv k0=some k:=by
  intro k o k0 hk hk0
  rcases qj hk with ⟨j,hj⟩ | hn
  · obtain ⟨b,o',g1,g2,g3,_⟩:=ju hc j k o hj
    rw [g2] at hk0
    injection hk0 with hk0
    rw [← hk0]; exact g3
  · rw [jX] at hn; cases hn
 have mix:∀ k₁ k₂ o₁ o₂ p₁ p₂,kY objs k₁=some o₁→(k₂,o₂)∈ros→qV ρ h [] ψ G 0 k₁=some p₁→qV ρ h [] ψ G 0 k₂=some p₂→p₁.blk=p₂.blk→False:=by
  intro k₁ k₂ o₁ o₂ p₁ p₂ h1 h2 h3 h4 e
  obtain ⟨_,k0,o0,p0,q1,q2,q3,q4,q5,_⟩:=c3 _ _ _ h1 h3
  obtain ⟨a,b,j,p,o',e0,r1,r2,r3,r4,r5,r6⟩:=hro _ _ h2
  rw [r3] at h4
  injection h4 with h4
  have e':p0.blk=p.blk:=by rw [q4,e,← h4]
  have:=hInj k0 j _ _ _ _ q1 r1 q3 r2 (.inl q2) e'
  subst this
  rw [hinv _ _ _ h1 q5] at r6
  cases r6
 refine ⟨@Rel.mk (linSym σT KT) _ _ _ ?_ ?_ ?_,c2⟩
 · intro k o p hk hp
   rcases vB hk with hk | hk
   · exact c1on k o p hk hp
   · obtain ⟨a,b,j,p0,o',rfl,r1,r2,r3,r4,r5,r6⟩:=hro _ _ hk
     rw [r3] at hp
     injection hp with hp
     subst hp
     exact zM3 (p:=p0) hθ c2 r4 rfl rfl (zR9 r5 (hOn _ _ _ r1 r2))
 · intro k o hk
   rcases vB hk with hk | hk
   · exact c1tot k o hk
   · obtain ⟨a,b,j,p0,o',rfl,r1,r2,r3,r4,r5,r6⟩:=hro _ _ hk
     exact ⟨_,r3⟩
 · intro k₁ k₂ o₁ o₂ p₁ p₂ h1 h2 h3 h4 hor e
   rcases vB h1 with g1 | g1 <;> rcases vB h2 with g2 | g2
   · exact c1inj k₁ k₂ o₁ o₂ p₁ p₂ g1 g2 h3 h4 hor e
   · exact (mix _ _ _ _ _ _ g1 g2 h3 h4 e).elim
   · exact (mix _ _ _ _ _ _ g2 g1 h4 h3 e.symm).elim
   · obtain ⟨a,_,_,_,_,rfl,_⟩:=hro _ _ g1
     obtain ⟨b,_,_,_,_,rfl,_⟩:=hro _ _ g2
     rcases hor with hor | hor <;> cases hor
def zCu (ρ:Heap) (G hi:Nat) (h:Heap):List Key→List Key→Bool
 | [],[]=>true
 | k::r,j::js=>kg ρ k j&&Nat.ble G k.ix&&Nat.ble (Nat.succ k.ix) hi&&(match getH j h with
  | some _=>true
  | none=>false)&&zCu ρ G hi h r js
 | _,_=>false
theorem zCK {ρ:Heap} {G hi:Nat} {h:Heap}:∀ {l es:List Key},zCu ρ G hi h l es=true→∀ (i:Nat) k j,l[i]? = some k→es[i]? = some j→zg ρ k=some j∧G≤k.ix∧k.ix<hi∧∃ o,getH j h=some o
 | [],_,_,i,k,j,h1,_=>by simp at h1
 | _::_,[],hc,_,_,_,_,_=>by cases hc
 | x::r,y::js,hc,i,k,j,h1,h2=>by
  unfold zCu at hc
  simp only [Bool.and_eq_true] at hc
  obtain ⟨⟨⟨⟨c0,c1⟩,c2⟩,c3⟩,c4⟩:=hc
  cases i with
  | zero=>
   simp at h1 h2
   subst h1 h2
   refine ⟨qe c0,@zJ noSym _ _ c1,@zJ noSym _ _ c2,?_⟩
   split at c3
   · rename_i o ho; exact ⟨o,ho⟩
   · cases c3
  | succ i=>exact zCK c4 i k j (by simpa using h1) (by simpa using h2)
def w4 (mid:Nat) (ρ:Heap):List (Key × CObj)→Key→Option (List Key × Key)
 | [],n=>some ([],n)
 | p::r,n=>match Nat.ble mid p.1.ix with
  | false=>match zg ρ p.1 with
   | some j=>match w4 mid ρ r n with
    | some q=>some (j::q.1,q.2)
    | none=>none
   | none=>none
  | true=>match n.succ with
   | .mk a b c d=>match w4 mid ρ r (.mk a b c d) with
    | some q=>some (n::q.1,q.2)
    | none=>none
theorem zCP {mid:Nat} {ρ:Heap}:∀ {l:List (Key × CObj)} {n:Key} {q:List Key × Key},w4 mid ρ l n=some q→n.ix≤q.2.ix
 | [],n,q,h=>by
  injection h with h; subst h
  exact Nat.le_refl _
 | p::r,n,q,h=>by
  unfold w4 at h
  split at h
  · split at h
    · split at h
      · rename_i q' hq'
        injection h with h; subst h
        have:=zCP hq'
        exact this
      · cases h
    · cases h
  · split at h
    rename_i a b c d hs
    split at h
    · rename_i q' hq'
      injection h with h; subst h
      have h1:=zCP hq'
      rw [← hs] at h1
      have hle:=@Key.ix_le_succ noSym n
      simp only; omega
    · cases h
theorem zCB {mid:Nat} {ρ:Heap}:∀ {l:List (Key × CObj)} {n:Key} {q:List Key × Key},w4 mid ρ l n=some q→q.2.room→n.ix≤q.2.ix ∧
 ∀ (i:Nat) (k:Key) (o:CObj) (j:Key),l[i]? = some (k,o)→q.1[i]? = some j→(k.ix<mid∧zg ρ k=some j)∨(mid≤k.ix∧n.ix≤j.ix∧j.ix<q.2.ix)
 | [],n,q,h,hr=>by
  injection h with h; subst h
  exact ⟨Nat.le_refl _,fun i k o j h1 _=>by simp at h1⟩
 | p::r,n,q,h,hr=>by
  unfold w4 at h
  split at h
  · rename_i hm
    have hlt:p.1.ix<mid:=by
     rcases Nat.lt_or_ge p.1.ix mid with g | g
     · exact g
     · rw [Nat.ble_eq_true_of_le g] at hm; cases hm
    split at h
    · rename_i j hj
      split at h
      · rename_i q' hq'
        injection h with h; subst h
        obtain ⟨h1,h2⟩:=zCB hq' hr
        refine ⟨h1,fun i k o j' g1 g2=>?_⟩
        cases i with
        | zero=>
         simp at g1 g2
         subst g1 g2
         exact .inl ⟨hlt,hj⟩
        | succ i=>exact h2 i k o j' (by simpa using g1) (by simpa using g2)
      · cases h
    · cases h
  · rename_i hm
    have hm:=@zJ noSym _ _ hm
    split at h
    rename_i a b c d hs
    split at h
    · rename_i q' hq'
      injection h with h; subst h
      obtain ⟨h1,h2⟩:=zCB hq' hr
      rw [← hs] at h1 h2
      have hle:=@Key.ix_le_succ noSym n
      have hroom:n.ix<65535:=by
       have:q'.2.ix<65535:=hr
       omega
      have hix:=@Key.ix_succ noSym n hroom
      refine ⟨by simp only; omega,fun i k o j' g1 g2=>?_⟩
      cases i with
      | zero=>
       simp at g1 g2
       subst g1 g2
       exact .inr ⟨hm,Nat.le_refl _,by simp only; omega⟩
      | succ i=>
       rcases h2 i k o j' (by simpa using g1) (by simpa using g2) with g | ⟨g3,g4,g5⟩
       · exact .inl g
       · exact .inr ⟨g3,by omega,g5⟩
    · cases h
def ckQ (bs:List CE) (clock:Nat) (j:Nat):Nat:=match nth bs j with
 | some e=>e.born
 | none=>Nat.add clock (Nat.sub j (zNg bs))
theorem zJ6 {bs:List CE} {clock j:Nat}:ckQ bs clock j=xr bs clock j:=by
 unfold ckQ xr
 rw [@nth_eq noSym,@zBL noSym]
 rfl
def zKP (ρ:Heap) (θ:TH) (bs:List CE) (clock:Nat):List CE→List CE
 | []=>[]
 | e::l=>⟨zGx ρ θ e.key,zGx ρ θ e.val,ckQ bs clock e.born⟩::zKP ρ θ bs clock l
def kX (ρ:Heap) (θ:TH) (mid:Nat) (h:Heap) (k j:Key) (o:CObj):CObj:=match o with
 | .cells l=>.cells (zKy ρ θ l)
 | .map es c=>match Nat.ble mid k.ix with
  | true=>.map (zIe ρ θ es) c
  | false=>match getH j h with
   | some (.map es0 c0)=>.map (zKP ρ θ (wu es0) c0 es) (ckQ (wu es0) c0 c)
   | _=>.map [] 0
 | o=>o
def zL6 (ρ:Heap) (sb:SE→CV) (θ:TH) (mid:Nat) (h:Heap) (k j:Key) (o:CObj):CObj:=match o with
 | .cells l=>.cells (zJ3 ρ sb l)
 | o=>kX ρ θ mid h k j o
theorem zKp {ρ:Heap} {sb:SE→CV} {θ:TH} (hs:∀ e,sb e=zr ρ θ (.sym e)) {mid:Nat} {h:Heap} {k j:Key} {o:CObj}:zL6 ρ sb θ mid h k j o=kX ρ θ mid h k j o:=by
 cases o <;> first | rfl | exact congrArg CObj.cells ((jF hs _).trans (zF5 _).symm)
def zMK (mid:Nat) (h:Heap) (k j:Key) (o:CObj):Bool:=match o with
 | .cells _=>true
 | .map _ c=>match Nat.ble mid k.ix with
  | true=>true
  | false=>match getH j h with
   | some (.map es0 _)=>Nat.ble (zNg (wu es0)) c
   | _=>false
 | _=>false
def zHD (ρ inv:Heap) (mid:Nat) (h:Heap):List (Key × CObj)→List Key→Bool
 | [],[]=>true
 | p::r,j::js=>kg ρ p.1 j&&kg inv j p.1&&zMK mid h p.1 j p.2&&zHD ρ inv mid h r js
 | _,_=>false
theorem zLU {ρ inv:Heap} {mid:Nat} {h:Heap}:∀ {l:List (Key × CObj)} {ks:List Key},zHD ρ inv mid h l ks=true→l.length=ks.length∧∀ (i:Nat) (k:Key) (o:CObj),l[i]? = some (k,o)→∃ j,ks[i]? = some j∧zg ρ k=some j∧zg inv j=some k∧zMK mid h k j o=true
 | [],[],_=>⟨rfl,fun i k o h=>by simp at h⟩
 | [],_::_,h=>by cases h
 | _::_,[],h=>by cases h
 | p::r,j::js,h=>by
  unfold zHD at h
  simp only [Bool.and_eq_true] at h
  obtain ⟨⟨⟨h1,h2⟩,h3⟩,h4⟩:=h
  obtain ⟨g1,g2⟩:=zLU h4
  refine ⟨by simp [g1],fun i k o hi=>?_⟩
  cases i with
  | zero=>
   simp at hi
   subst hi
   exact ⟨j,rfl,qe h1,qe h2,h3⟩
  | succ i=>
   obtain ⟨j',q1,q2⟩:=g2 i k o (by simpa using hi)
   exact ⟨j',by simpa using q1,q2⟩
def zBO (ρ:Heap) (θ:TH) (mid:Nat) (h:Heap):List (Key × CObj)→List Key→List (Key × CObj)
 | p::r,j::js=>(j,kX ρ θ mid h p.1 j p.2)::zBO ρ θ mid h r js
 | _,_=>[]
def zCg (ρ:Heap) (sb:SE→CV) (θ:TH) (mid:Nat) (h:Heap):List (Key × CObj)→List Key→List (Key × CObj)
 | p::r,j::js=>(j,zL6 ρ sb θ mid h p.1 j p.2)::zCg ρ sb θ mid h r js
 | _,_=>[]
theorem zGQ {ρ:Heap} {sb:SE→CV} {θ:TH} (hs:∀ e,sb e=zr ρ θ (.sym e)) {mid:Nat} {h:Heap}:∀ {l:List (Key × CObj)} {ks:List Key},zCg ρ sb θ mid h l ks=zBO ρ θ mid h l ks
 | [],_=>by simp [zCg,zBO]
 | _::_,[]=>by simp [zCg,zBO]
 | p::r,j::js=>by unfold zCg zBO; rw [zKp hs,zGQ hs]
theorem zDY {ρ inv ρ':Heap} {θ:TH} {mid:Nat} {h h0:Heap} {k:Key} {o:CObj}:∀ {l:List (Key × CObj)} {ks:List Key},zHD ρ inv mid h l ks=true→getH k (mkH h0 (zBO ρ' θ mid h l ks))=some o →
 (∃ (kp:Key) (o':CObj) (i:Nat),getH kp (mkH .nil l)=some o'∧o=kX ρ' θ mid h kp k o'∧zMK mid h kp k o'=true∧zg ρ kp=some k∧l[i]? = some (kp,o')∧ks[i]? = some k)∨getH k h0=some o
 | [],[],_,hh=>.inr hh
 | [],_::_,hb,_=>by cases hb
 | _::_,[],hb,_=>by cases hb
 | p::r,j::js,hb,hh=>by
  unfold zHD at hb
  simp only [Bool.and_eq_true] at hb
  obtain ⟨⟨⟨h1,h2⟩,h3⟩,h4⟩:=hb
  have hh:getH k (yl (some (kX ρ' θ mid h p.1 j p.2)) j (mkH h0 (zBO ρ' θ mid h r js)))=some o:=hh
  rw [wv] at hh
  split at hh
  · rename_i e
    subst e
    injection hh with hh
    refine .inl ⟨p.1,p.2,0,?_,hh.symm,h3,qe h1,rfl,rfl⟩
    show getH p.1 (yl (some p.2) p.1 (mkH .nil r))=_
    rw [wv,if_pos rfl]
  · rename_i e
    rcases zDY h4 hh with ⟨kp,o',i,g1,g2,g3,g4,g5,g6⟩ | g
    · refine .inl ⟨kp,o',i+1,?_,g2,g3,g4,by simpa using g5,by simpa using g6⟩
      show getH kp (yl (some p.2) p.1 (mkH .nil r))=_
      rw [wv,if_neg (fun e'=>by
       rw [e',qe h1] at g4
       injection g4 with g4
       exact e g4.symm)]
      exact g1
    · exact .inr g
theorem zI2 {ck:Nat→Nat} {clock:Nat} (h:wP ck clock):∀ d,wP ck (clock+d)
 | 0=>h
 | d+1=>@wP.succ noSym _ _ (zI2 h d)
theorem zHc {σ σT:Nat→Int} {K KT:zc} {θ:TH} {ρ:Heap} {ψs ψT:Psi} (hθ:jc σ σT θ) (hψ:zHe ρ ψs ψT) {bs:List CE} {clock:Nat} {ck:Nat→Nat}:∀ {es:List CE} {l:List MapEntry},
 @yB (linSym σT KT) ψs (fun j=>ck (xr bs clock j)) es l→@yB (linSym σ K) ψT ck (zKP ρ θ bs clock es) l
 | [],l,h=>h
 | c::es,l,h=>by
  obtain ⟨e,r,rfl,⟨h1,h2,h3⟩,h4⟩:=h
  refine ⟨e,r,rfl,⟨?_,?_,?_⟩,zHc hθ hψ h4⟩
  · show @zG (linSym σ K) ψT (zGx ρ θ c.key) e.key
    rw [zB9]; exact kG hθ hψ _ h1
  · show @zG (linSym σ K) ψT (zGx ρ θ c.val) e.val
    rw [zB9]; exact kG hθ hψ _ h2
  · show e.born=ck (ckQ bs clock c.born)
    rw [zJ6]; exact h3
def fEF:List CE→(List CE→R)→R
 | [],k=>k []
 | ⟨a,b,n⟩::l,k=>fQ a fun a=>fQ b fun b=>Nat.rec (motive:=fun _=>(Nat→R)→R) (fun k=>k 0) (fun m _ k=>k (Nat.succ m)) n fun n=>fEF l fun l=>k (⟨a,b,n⟩::l)
theorem zRT {n:Nat} {k:Nat→R}:Nat.rec (motive:=fun _=>(Nat→R)→R) (fun k=>k 0) (fun m _ k=>k (Nat.succ m)) n k=k n:=by cases n <;> rfl
theorem zOX:∀ {l:List CE} {k:List CE→R},fEF l k=k l
 | [],_=>rfl
 | ⟨a,b,n⟩::l,k=>by unfold fEF; rw [zGe,zGe,zRT,zOX]
def fOF (o:CObj) (k:CObj→R):R:=match o with
 | .cells l=>fQs l fun l=>k (.cells l)
 | .map es c=>fEF es fun es=>Nat.rec (motive:=fun _=>(Nat→R)→R) (fun k=>k 0) (fun m _ k=>k (Nat.succ m)) c fun c=>k (.map es c)
 | o=>k o
theorem zR6 {o:CObj} {k:CObj→R}:fOF o k=k o:=by
 cases o with
 | cells l=>exact zAF l _
 | map es c=>
  show (fEF es fun es=>Nat.rec (motive:=fun _=>(Nat→R)→R) (fun k=>k 0) (fun m _ k=>k (Nat.succ m)) c fun c=>k (.map es c))=_
  rw [zOX]
  exact zRT
 | ro _=>rfl
 | striter _ _=>rfl
 | mapiter _ _ _ _=>rfl
 | full _ _=>rfl
 | mapz _=>rfl
def zOg:List (Key × CObj)→(List (Key × CObj)→R)→R
 | [],k=>k []
 | (j,o)::l,k=>fOF o fun o=>zOg l fun l=>k ((j,o)::l)
theorem zHS:∀ {l:List (Key × CObj)} {k:List (Key × CObj)→R},zOg l k=k l
 | [],_=>rfl
 | (j,o)::l,k=>by unfold zOg; rw [zR6,zHS]
def zOe [Sym] (G:Nat) (s:Fs) (m mn q:Nat) (ks es:List Key) (θ:TH) (args:List CV) (h:Heap):Bool:=
 zQK s.b θ&&zSk s.pn (zRW q Sym.kb)&&zRx (xG s.objs s.ext ks es) (zA3 θ m mn q s.pn) (fun i t d=>zw (xG s.objs s.ext ks es) (θ++jV q s.pn) (.few i t) d) s.args args &&
 zBf (xG s.objs s.ext ks es) (jK s.objs ks) (θ++jV q s.pn) (zA3 θ m mn q s.pn) (fun i t d=>zw (xG s.objs s.ext ks es) (θ++jV q s.pn) (.few i t) d) h G s.n.ix s.objs ks &&
 zCu (xG s.objs s.ext ks es) G s.n.ix h s.ext es&&Nat.ble G s.n.ix&&zDy (xG s.objs s.ext ks es) (jK s.objs ks) (zA3 θ m mn q s.pn) (fun i t d=>zw (xG s.objs s.ext ks es) (θ++jV q s.pn) (.few i t) d) h s.ros
def vx (s:Fs) (ks es:List Key) (θ:TH) (h:Heap) (n:Key) (po:Po):R:=match w4 s.mid (jZ s.objs ks) po.objs n with
 | none=>.err 435
 | some q=>match zHD (xG po.objs s.ext q.1 es) (jK po.objs q.1) s.mid h po.objs q.1 with
  | false=>.err 436
  | true=>fQ (zGx (xG po.objs s.ext q.1 es) θ po.v) fun v=>zOg (zBO (xG po.objs s.ext q.1 es) θ s.mid h po.objs q.1) fun os=>.ret v (mkH (zF0 ks h) os) q.2
def zAq (s:Fs) (ks es:List Key) (θ:TH) (h:Heap) (n:Key):List Po→R
 | []=>.err 437
 | [po]=>vx s ks es θ h n po
 | po::r=>.fork (vx s ks es θ h n po) (zAq s ks es θ h n r)
def vy (s:Fs) (ks es:List Key) (sb:SE→CV) (θ:TH) (h:Heap) (n:Key) (po:Po):R:=match w4 s.mid (jZ s.objs ks) po.objs n with
 | none=>.err 435
 | some q=>match zHD (xG po.objs s.ext q.1 es) (jK po.objs q.1) s.mid h po.objs q.1 with
  | false=>.err 436
  | true=>fQ (zOY (xG po.objs s.ext q.1 es) sb po.v) fun v=>zOg (zCg (xG po.objs s.ext q.1 es) sb θ s.mid h po.objs q.1) fun os=>.ret v (mkH (zF0 ks h) os) q.2
def k9 (s:Fs) (ks es:List Key) (sb:SE→CV) (θ:TH) (h:Heap) (n:Key):List Po→R
 | []=>.err 437
 | [po]=>vy s ks es sb θ h n po
 | po::r=>.fork (vy s ks es sb θ h n po) (k9 s ks es sb θ h n r)
theorem zEy {s:Fs} {ks es:List Key} {sb:SE→CV} {θ:TH} (hs:∀ ρ e,sb e=zr ρ θ (.sym e)) {h:Heap} {n:Key} {po:Po}:vy s ks es sb θ h n po=vx s ks es θ h n po:=by
 unfold vy vx
 simp only [zBv (hs _),zGQ (hs _),zB9]
theorem zCW {s:Fs} {ks es:List Key} {sb:SE→CV} {θ:TH} (hs:∀ ρ e,sb e=zr ρ θ (.sym e)) {h:Heap} {n:Key}:∀ {l:List Po},k9 s ks es sb θ h n l=zAq s ks es θ h n l
 | []=>rfl
 | [po]=>zEy hs
 | po::po2::r=>by
  show R.fork (vy s ks es sb θ h n po) (k9 s ks es sb θ h n (po2::r))=R.fork (vx s ks es θ h n po) (zAq s ks es θ h n (po2::r))
  rw [zEy hs,zCW hs]
def fNR (n:Nat) (k:Nat→R):R:=Nat.rec (motive:=fun _=>(Nat→R)→R) (fun k=>k 0) (fun m _ k=>k (Nat.succ m)) n k
theorem zPH {n:Nat} {k:Nat→R}:fNR n k=k n:=by cases n <;> rfl
def qOf (m:Nat) (th:List (Nat × Int × LL)):Nat:=match zF1 m th with
 | (_,(q,_)::_)=>q
 | _=>0
def zTj (pm:Nat) (h:Heap) (th:List (Nat × Int × LL)):List (Key × CObj)→HA→HA
 | [],a=>a
 | p::r,a=>zTj pm h th r (match p.2,(zF1 p.1.ix th).1 with
  | .ro x,.ofNat m=>(match getH (Key.ofNat m) h with
   | some o=>(match roB o with
    | some y=>gVs pm x y a
    | none=>a)
   | none=>a)
  | _,_=>a)
def thQ:List (Nat × Int × LL)→Nat→TH→Option TH
 | [],j,acc=>match j with
  | 0=>some acc
  | _=>none
 | q::r,j,acc=>match Nat.beq q.1 j with
  | true=>thQ r (Nat.pred j) (q.2::acc)
  | false=>thQ r j acc
def zS5 (th:List (Nat × Int × LL)) (b:List (Int × Int)):TH:=match b with
 | []=>[]
 | _::r=>match thQ th (List.length r) [] with
  | some θ=>(0,[])::θ
  | none=>zTK th b
def zS2 (th:List (Nat × Int × LL)) (k:List (Nat × Int × LL)→R):R:=List.rec (motive:=fun _=>(List (Nat × Int × LL)→R)→R) (fun k=>k []) (fun x _ g k=>g fun l=>k (x::l)) th k
theorem zHn:∀ {th:List (Nat × Int × LL)} {k:List (Nat × Int × LL)→R},zS2 th k=k th
 | [],_=>rfl
 | x::th,k=>zHn (th:=th) (k:=fun l=>k (x::l))
def qkO:CObj→CObj→Bool
 | .cells x,.cells y=>zN2 x y
 | .cells x,.full _ y=>zN2 x y
 | _,_=>true
def zK8 (pm:Nat) (h:Heap):List (Key × CObj)→HA→List Key→Option (List Key × HA)
 | [],a,ks=>some (ks.reverse,a)
 | p::r,a,ks=>match zQX a with
  | none=>none
  | some (j,a)=>match getH j h with
   | some o=>match qkO p.2 o with
    | true=>zK8 pm h r (gO pm p.2 o a) (j::ks)
    | false=>none
   | none=>none
def zPz (pm:Nat) (h:Heap) (ros:List (Key × CObj)):List Nat→List (Key × CObj)→HA→List Key→Option (List Key × HA)
 | [],l,a,ks=>zK8 pm h l a ks
 | 0::w,p::r,a,ks=>(match zQX a with
  | none=>none
  | some (j,a)=>match getH j h with
   | some o=>match qkO p.2 o with
    | true=>zPz pm h ros w r (gO pm p.2 o a) (j::ks)
    | false=>none
   | none=>none)
 | 0::_,[],_,_=>none
 | Nat.succ q::w,l,a,ks=>(match nth ros q with
  | some (k,.ro x)=>(match (zF1 k.ix a.th).1 with
   | .ofNat m=>(match getH (Key.ofNat m) h with
    | some o=>(match roB o with
     | some y=>(match zN2 x y with
      | true=>zPz pm h ros w l (gVs pm x y a) ks
      | false=>none)
     | none=>none)
    | none=>none)
   | .negSucc _=>none)
  | _=>none)
def zTy (pm:Nat) (h:Heap) (s:Fs) (a:HA):Option (List Key × HA):=match s.walk with
 | []=>(match zK8 pm h s.objs a [] with
  | some (ks,a)=>some (ks,zTj pm h a.th s.ros a)
  | none=>none)
 | w=>zPz pm h s.ros w s.objs a []
def zOu [Sym] (G:Nat) (args:List CV) (h:Heap) (n:Key) (s:Fs) (z:R):R:=fNR (List.length s.b) fun m=>fNR (Nat.add m s.pn) fun mn=>match zTy m h s (gVs m s.args args ⟨[],[],zRK s.objs,[]⟩) with
 | none=>z
 | some (ks,a)=>fKs ks fun ks=>fKs (zSQ a.th s.ext) fun es=>zS2 a.th fun th=>fTH (zS5 th s.b) fun θ=>fNR (qOf m th) fun q=>match zOe G s m mn q ks es θ args h with
  | true=>k9 s ks es (sbP θ m mn q s.pn) (θ++jV q s.pn) h n s.posts
  | false=>z
def qkK (h:Heap) (objs:List (Key × CObj)) (b:Nat) (k j:Key):Bool:=match Nat.ble 32768 k.ix with
 | true=>true
 | false=>match nth objs (Nat.sub k.ix b),getH j h with
  | some p,some (.cells y)=>(match p.2 with
   | .cells x=>zN2 x y
   | _=>true)
  | _,_=>true
def qkA (h:Heap) (objs:List (Key × CObj)) (b:Nat):List CV→List CV→Bool
 | x::l,y::m=>(match x,y with
  | .ptr k _,.ptr j _=>qkK h objs b k j
  | .sl k _ _ _ _ _,.sl j _ _ _ _ _=>qkK h objs b k j
  | .agg (.sl k _ _ _ _ _::_),.agg (.sl j _ _ _ _ _::_)=>qkK h objs b k j
  | _,_=>true)&&qkA h objs b l m
 | _,_=>true
def zBI [Sym] (G:Nat) (args:List CV) (h:Heap) (n:Key) (z:R):List Fs→R
 | []=>z
 | s::r=>match zN2 s.args args&&qkA h s.objs (zRK s.objs) s.args args with
  | true=>zOu G args h n s (zBI G args h n z r)
  | false=>zBI G args h n z r
theorem uc {ρ inv:Heap} {θ:TH} {h:Heap} {lo hi:Nat}:∀ {objs:List (Key × CObj)} {ks:List Key},qB ρ inv θ h lo hi objs ks=true→objs.length=ks.length
 | [],[],_=>rfl
 | [],_::_,h=>by cases h
 | _::_,[],h=>by cases h
 | p::r,j::js,h=>by
  unfold qB at h
  rw [Bool.and_eq_true] at h
  simp [uc h.2]
theorem zAC {s:Fs} {ks es:List Key} {sb:SE→CV} {θ:TH} {h:Heap} {n:Key} {po:Po}:zh n (vy s ks es sb θ h n po):=by
 unfold vy
 cases hq:w4 s.mid (jZ s.objs ks) po.objs n with
 | none=>trivial
 | some q=>
  simp only
  cases hb:zHD (xG po.objs s.ext q.1 es) (jK po.objs q.1) s.mid h po.objs q.1 with
  | false=>trivial
  | true=>
   simp only [zGe,zHS]
   exact zCP hq
theorem ub {s:Fs} {ks es:List Key} {sb:SE→CV} {θ:TH} {h:Heap} {n:Key}:∀ {l:List Po},zh n (k9 s ks es sb θ h n l)
 | []=>trivial
 | [po]=>zAC
 | po::po'::r=>⟨zAC,ub (l:=po'::r)⟩
theorem kH [Sym] {G:Nat} {args:List CV} {h:Heap} {n:Key} {z:R} (hz:zh n z):∀ {l:List Fs},zh n (zBI G args h n z l)
 | []=>hz
 | s::r=>by
  unfold zBI
  split
  · unfold zOu
    simp only [zPH]
    split
    · exact kH hz
    rw [zHZ,zHZ,zHn,zKN]
    split
    · exact ub
    · exact kH hz
  · exact kH hz
theorem zDS {σ σT:Nat→Int} {K:zc} {G:Nat} {s:Fs} {ks es:List Key} {θ:TH} {h:Heap} {n:Key} {po:Po} {ψ ψ':Psi} {w w':World} {v:Value} (hθ:jc σ σT θ) (hR:@Rel (linSym σ K) ψ (Heap.fam h) w) (hfr:qR ψ n)
 (hc:qB (xG s.objs s.ext ks es) (jK s.objs ks) θ h G s.n.ix s.objs ks=true) (he:zCu (xG s.objs s.ext ks es) G s.n.ix h s.ext es=true)
 (hpo:zQ0 (linSym σT kno) (qV (xG s.objs s.ext ks es) h [] ψ G 0) s w po v ψ' w') (hcl:zX (vx s ks es θ h n po)) :
 @zn (linSym σ K) ψ (Heap.fam h) n w (vx s ks es θ h n po) v w':=by
 unfold vx at hcl ⊢
 cases hq:w4 s.mid (jZ s.objs ks) po.objs n with
 | none=>rw [hq] at hcl; exact hcl.elim
 | some q=>
  rw [hq] at hcl
  simp only at hcl ⊢
  cases hb:zHD (xG po.objs s.ext q.1 es) (jK po.objs q.1) s.mid h po.objs q.1 with
  | false=>rw [hb] at hcl; exact hcl.elim
  | true=>
   rw [hb] at hcl
   simp only [zGe,zHS,zB9] at hcl ⊢
   have hroom:q.2.room:=hcl
   obtain ⟨hmono,hkeys⟩:=zCB hq hroom
   obtain ⟨hlen,hbij⟩:=zLU hb
   obtain ⟨c1,c2,c3⟩:=zEL (G:=G) (KT:=kno) hθ hR hc
   have hobj:=ju hc
   have hlen0:=uc hc
   have hTot:∀ k o,Heap.fam h k=some o→∃ p,ψ k=some p:=@Rel.tot (linSym σ K) _ _ _ hR
   have hOn:∀ k o p,Heap.fam h k=some o→ψ k=some p→@xC (linSym σ K) ψ w p o:=@Rel.on (linSym σ K) _ _ _ hR
   have hInj:=@Rel.inj (linSym σ K) _ _ _ hR
   have pTot:=@Rel.tot (linSym σT kno) _ _ _ hpo.rel
   have pOn:=@Rel.on (linSym σT kno) _ _ _ hpo.rel
   have pInj:=@Rel.inj (linSym σT kno) _ _ _ hpo.rel
   have hold:∀ k p,ψ k=some p→k.ix<n.ix:=fun k p hp=>by
    rcases Nat.lt_or_ge k.ix n.ix with g | g
    · exact g
    · rw [hfr k g] at hp; cases hp
   obtain ⟨ψ2,hψ2⟩:∃ ψ2:Psi,∀ k,ψ2 k=if n.ix≤k.ix then (match zg (jK po.objs q.1) k with | some kp=>ψ' kp | none=>ψ k) else ψ k:=⟨_,fun _=>rfl⟩
   have h2old:∀ k,k.ix<n.ix→ψ2 k=ψ k:=fun k hk=>by rw [hψ2,if_neg (by omega)]
   have hle:ψ.le ψ2:=fun k p hp=>by rw [h2old k (hold k p hp)]; exact hp
   have hpsT:∀ k j p,zg (xG s.objs s.ext ks es) k=some j→ψ j=some p→qV (xG s.objs s.ext ks es) h [] ψ G 0 k=some ⟨p.blk,p.off,p.sz,zCc (getH j h) p.ck⟩:=by
    intro k j p hk hp
    unfold qV
    rw [hk]
    simp only
    rw [hp]; rfl
   have hrho0:∀ k j,zg (jZ s.objs ks) k=some j→zg (xG s.objs s.ext ks es) k=some j∧j∈ks∧∃ o p,getH j h=some o∧ψ j=some p:=by
    intro k j hk
    obtain ⟨i,o,g1,g2⟩:=zFr hk
    obtain ⟨j',o',f1,f2,f3,f4,f5,f6,f7⟩:=hobj i k o g1
    rw [g2] at f1
    injection f1 with f1
    subst f1
    obtain ⟨p,hp⟩:=hTot j o' f6
    exact ⟨f2,List.mem_of_getElem? g2,o',p,f6,hp⟩
   have hend:∀ (i:Nat) (k:Key) (o:CObj) (j:Key),po.objs[i]? = some (k,o)→q.1[i]? = some j→∀ p,ψ' k=some p→∃ p',ψ2 j=some p'∧zEF p p' ∧
    ((s.mid≤k.ix∧p'=p)∨(k.ix<s.mid∧p=⟨p'.blk,p'.off,p'.sz,zCc (getH j h) p'.ck⟩∧ψ j=some p')):=by
    intro i k o j g1 g2 p hp
    rcases hkeys i k o j g1 g2 with ⟨f1,f2⟩ | ⟨f1,f2,f3⟩
    · obtain ⟨e0,_,o0,pj,e1,e2⟩:=hrho0 k j f2
      have e3:=hpo.pin i k o g1 f1 _ (hpsT k j pj e0 e2)
      rw [hp] at e3
      injection e3 with e3
      subst e3
      exact ⟨pj,by rw [h2old j (hold j pj e2)]; exact e2,⟨rfl,rfl,rfl⟩,.inr ⟨f1,rfl,e2⟩⟩
    · obtain ⟨j',b1,b2,b3,_⟩:=hbij i k o g1
      rw [g2] at b1
      injection b1 with b1
      subst b1
      exact ⟨p,by rw [hψ2,if_pos f2,b3]; exact hp,⟨rfl,rfl,rfl⟩,.inl ⟨f1,rfl⟩⟩
   have hM:zHe (xG po.objs s.ext q.1 es) ψ' ψ2:=by
    intro k j p hk hp
    rcases zLF hlen hk with ⟨i,o,g1,g2⟩ | ⟨i,g1,g2⟩
    · obtain ⟨p',h1,h2,_⟩:=hend i k o j g1 g2 p hp
      exact ⟨p',h1,h2⟩
    · obtain ⟨a0,a1,a2,o0,a3⟩:=zCK he i k j g1 g2
      obtain ⟨pj,e2⟩:=hTot j o0 a3
      have e3:=hpo.ext k (List.mem_of_getElem? g1) _ (hpsT k j pj a0 e2)
      rw [hp] at e3
      injection e3 with e3
      subst e3
      exact ⟨pj,by rw [h2old j (hold j pj e2)]; exact e2,⟨rfl,rfl,rfl⟩⟩
   have hOwn:∀ B,zFU (qV (xG s.objs s.ext ks es) h [] ψ G 0) s.objs w B→(∃ k0 o0 p0,getH k0 h=some o0∧o0.isRo=false∧ψ k0=some p0∧p0.blk=B∧k0∈ks)∨w.heap.size≤B:=by
    intro B hB
    rcases hB with ⟨k,o,p,g1,g2,g3⟩ | g
    · obtain ⟨_,k0,o0,p0,f1,f2,f3,f4,f5,f6⟩:=c3 k o p g1 g2
      exact .inl ⟨k0,o0,p0,f1,f2,f3,f4.trans g3,f6⟩
    · exact .inr g
   have hnew:∀ k o,getH k (mkH (zF0 ks h) (zBO (xG po.objs s.ext q.1 es) θ s.mid h po.objs q.1))=some o →
    (∃ (kp:Key) (o':CObj) (p p':Pl),kY po.objs kp=some o'∧o=kX (xG po.objs s.ext q.1 es) θ s.mid h kp k o'∧zMK s.mid h kp k o'=true∧ψ' kp=some p∧ψ2 k=some p'∧zEF p p' ∧
      ((s.mid≤kp.ix∧p'=p)∨(kp.ix<s.mid∧p=⟨p'.blk,p'.off,p'.sz,zCc (getH k h) p'.ck⟩∧ψ k=some p'))∧zg (xG po.objs s.ext q.1 es) kp=some k)∨(k ∉ ks∧getH k h=some o):=by
    intro k o hk
    rcases zDY hb hk with ⟨kp,o',i,g1,g2,g3,g4,g5,g6⟩ | hk
    · obtain ⟨p,hp⟩:=pTot kp o' g1
      obtain ⟨p',e1,e2,e3⟩:=hend i kp o' k g5 g6 p hp
      exact .inl ⟨kp,o',p,p',g1,g2,g3,hp,e1,e2,e3,g4⟩
    · exact .inr (zGn hk)
   have hin:∀ k o p,getH k h=some o→ψ k=some p→p.blk<w.heap.size:=fun k o p h1 h2=>@xC.lt (linSym σ K) _ _ _ _ (hOn k o p h1 h2)
   have hlow:∀ k o p,k ∉ ks→getH k h=some o→ψ k=some p→¬ zFU (qV (xG s.objs s.ext ks es) h [] ψ G 0) s.objs w p.blk:=by
    intro k o p g1 g2 g3 hB
    rcases hOwn _ hB with ⟨k0,o0,p0,f1,f2,f3,f4,f5⟩ | g
    · have:=hInj k0 k o0 o p0 p f1 g2 f3 g3 (.inl f2) f4
      subst this
      exact g1 f5
    · have:=hin k o p g2 g3
      omega
   have hone:∀ (kp k:Key) (o':CObj) (p p':Pl),kY po.objs kp=some o'→zMK s.mid h kp k o'=true→ψ' kp=some p→zEF p p' →
    ((s.mid≤kp.ix∧p'=p)∨(kp.ix<s.mid∧p=⟨p'.blk,p'.off,p'.sz,zCc (getH k h) p'.ck⟩∧ψ k=some p')) →
    @xC (linSym σ K) ψ2 w' p' (kX (xG po.objs s.ext q.1 es) θ s.mid h kp k o')∧(kX (xG po.objs s.ext q.1 es) θ s.mid h kp k o').isRo=false:=by
    intro kp k o' p p' g1 g3 g4 g6 g7
    have hpon:=pOn kp o' p g1 g4
    cases o' with
    | cells l=>
     have e:kX (xG po.objs s.ext q.1 es) θ s.mid h kp k (.cells l)=zPG (xG po.objs s.ext q.1 es) θ (.cells l):=by
      show CObj.cells (zKy _ θ l)=CObj.cells (xZ _ θ l)
      rw [zF5]
     rw [e]
     exact ⟨zJR hθ hM rfl g6 (fun _ _ e=>by cases e) hpon,rfl⟩
    | map es1 c1=>
     rcases g7 with ⟨m1,m2⟩ | ⟨m1,m2,m3⟩
     · have hb1:Nat.ble s.mid kp.ix=true:=Nat.ble_eq_true_of_le m1
       have e:kX (xG po.objs s.ext q.1 es) θ s.mid h kp k (.map es1 c1)=zPG (xG po.objs s.ext q.1 es) θ (.map es1 c1):=by
        unfold kX
        simp only [hb1]
        rfl
       rw [e]
       exact ⟨zJR hθ hM rfl g6 (fun _ _ _=>m2) hpon,rfl⟩
     · have hb1:Nat.ble s.mid kp.ix=false:=by
        cases hx:Nat.ble s.mid kp.ix with
        | false=>rfl
        | true=>have:=@zJ noSym _ _ hx; omega
       unfold zMK at g3
       simp only [hb1] at g3
       unfold kX
       simp only [hb1]
       split at g3
       · rename_i es0 c0 h0
         rw [h0] at m2
         have hle0:=@zJ noSym _ _ g3
         rw [@zBL noSym] at hle0
         obtain ⟨arr0,a1,_,a3⟩:=hOn k _ p' h0 m3
         have m2:p=⟨p'.blk,p'.off,p'.sz,fun j=>p'.ck (xr (wu es0) c0 j)⟩:=m2
         subst m2
         obtain ⟨arr,b1,⟨l0,bp,b2⟩,b3⟩:=hpon
         obtain ⟨d,hd⟩:∃ d,c1=(wu es0).length+d:=⟨c1 - (wu es0).length,by omega⟩
         have hck:xr (wu es0) c0 c1=c0+d:=by rw [hd]; exact vO d
         refine ⟨⟨arr,?_,⟨l0,bp,zHc hθ hM b2⟩,?_⟩,rfl⟩
         · rw [zJ6]; exact b1
         · rw [zJ6,hck]; exact zI2 a3 d
       · cases g3
    | ro _=>cases g3
    | striter _ _=>cases g3
    | mapiter _ _ _ _=>cases g3
    | full _ _=>cases g3
    | mapz _=>cases g3
   refine ⟨ψ2,@z7.mk (linSym σ K) _ _ _ _ _ _ _ _ hle ?_ (@Rel.mk (linSym σ K) _ _ _ ?_ ?_ ?_) ?_ ?_ hpo.lft.size hpo.lft.tape hpo.lft.os hpo.lft.output hmono ?_,kG hθ hM _ hpo.val⟩
   · intro k hk
     rcases hk with hk | hk
     · exact h2old k hk
     · rw [hψ2,if_pos (by omega)]
       split
       · rename_i kp hkp
         exfalso
         obtain ⟨i,⟨o,g1⟩,g2⟩:=zOn hkp
         rcases hkeys i kp o k g1 g2 with ⟨f1,f2⟩ | ⟨f1,f2,f3⟩
         · obtain ⟨_,_,o0,pj,e1,e2⟩:=hrho0 kp k f2
           have:=hold k pj e2
           omega
         · omega
       · rfl
   · intro k o p hk hp
     rcases hnew k o hk with ⟨kp,o',p0,p',g1,rfl,g3,g4,g5,g6,g7,_⟩ | ⟨g1,g2⟩
     · rw [g5] at hp
       injection hp with hp
       subst hp
       exact (hone kp k o' p0 p' g1 g3 g4 g6 g7).1
     · obtain ⟨p1,hp1⟩:=hTot k o g2
       rw [hle k p1 hp1] at hp
       injection hp with hp
       subst hp
       exact @xC.mono (linSym σ K) _ _ hle _ _ _ (@xC.congr (linSym σ K) _ _ _ _ _ (hpo.lft.block _ (hlow k o p1 g1 g2 hp1)) (hOn k o p1 g2 hp1))
   · intro k o hk
     rcases hnew k o hk with ⟨kp,o',p0,p',g1,_,g3,g4,g5,_⟩ | ⟨g1,g2⟩
     · exact ⟨p',g5⟩
     · obtain ⟨p1,hp1⟩:=hTot k o g2
       exact ⟨p1,hle k p1 hp1⟩
   · intro k₁ k₂ o₁ o₂ p₁ p₂ h1 h2 h3 h4 hr e
     rcases hnew k₁ o₁ h1 with ⟨kp1,o1',p01,p1',a1,_,a3,a4,a5,a6,_,a8⟩ | ⟨a1,a2⟩ <;> rcases hnew k₂ o₂ h2 with ⟨kp2,o2',p02,p2',b1,_,b3,b4,b5,b6,_,b8⟩ | ⟨b1,b2⟩
     · rw [a5] at h3; rw [b5] at h4
       injection h3 with h3; injection h4 with h4
       subst h3; subst h4
       have:=pInj kp1 kp2 o1' o2' p01 p02 a1 b1 a4 b4 (.inl (hpo.own kp1 o1' p01 a1 a4).1) (by rw [← a6.1,← b6.1]; exact e)
       subst this
       rw [a8] at b8
       injection b8
     · exfalso
       rw [a5] at h3
       injection h3 with h3; subst h3
       obtain ⟨p1,hp1⟩:=hTot k₂ o₂ b2
       rw [hle k₂ p1 hp1] at h4
       injection h4 with h4; subst h4
       refine hlow k₂ o₂ p1 b1 b2 hp1 ?_
       rw [← e,a6.1]
       exact (hpo.own kp1 o1' p01 a1 a4).2
     · exfalso
       rw [b5] at h4
       injection h4 with h4; subst h4
       obtain ⟨p1,hp1⟩:=hTot k₁ o₁ a2
       rw [hle k₁ p1 hp1] at h3
       injection h3 with h3; subst h3
       refine hlow k₁ o₁ p1 a1 a2 hp1 ?_
       rw [e,b6.1]
       exact (hpo.own kp2 o2' p02 b1 b4).2
     · obtain ⟨p1,hp1⟩:=hTot k₁ o₁ a2
       obtain ⟨p2,hp2⟩:=hTot k₂ o₂ b2
       rw [hle k₁ p1 hp1] at h3
       rw [hle k₂ p2 hp2] at h4
       injection h3 with h3; injection h4 with h4
       subst h3; subst h4
       exact hInj k₁ k₂ o₁ o₂ p1 p2 a2 b2 hp1 hp2 hr e
   · intro B hB hfree
     refine hpo.lft.block B fun hO=>?_
     rcases hOwn B hO with ⟨k0,o0,p0,f1,f2,f3,f4,_⟩ | g
     · exact hfree k0 o0 p0 f1 f2 f3 f4
     · omega
   · intro k o p hk hro hp
     rcases hnew k o hk with ⟨kp,o',p0,p',g1,_,g3,g4,g5,g6,_⟩ | ⟨g1,g2⟩
     · rw [g5] at hp
       injection hp with hp
       subst hp
       have:=(hpo.own kp o' p0 g1 g4).2
       rw [← g6.1] at this
       rcases hOwn _ this with ⟨k0,o0,p00,f1,f2,f3,f4,_⟩ | g
       · exact .inl ⟨k0,o0,p00,f1,f2,f3,f4⟩
       · exact .inr g
     · obtain ⟨p1,hp1⟩:=hTot k o g2
       rw [hle k p1 hp1] at hp
       injection hp with hp
       subst hp
       exact .inl ⟨k,o,p1,g2,hro,hp1,rfl⟩
   · intro k o p hk hp
     rcases hnew k o hk with ⟨kp,o',p0,p',g1,_,g3,g4,g5,g6,_⟩ | ⟨g1,g2⟩
     · rw [g5] at hp
       injection hp with hp
       subst hp
       have:=(hpo.own kp o' p0 g1 g4).2
       rw [← g6.1] at this
       rcases hOwn _ this with ⟨k0,o0,p00,f1,f2,f3,f4,_⟩ | g
       · exact .inl ⟨k0,o0,p00,f1,f3,f4⟩
       · exact .inr g
     · obtain ⟨p1,hp1⟩:=hTot k o g2
       rw [hle k p1 hp1] at hp
       injection hp with hp
       subst hp
       exact .inl ⟨k,o,p1,g2,hp1,rfl⟩
theorem zDq {σ σT:Nat→Int} {K:zc} {G:Nat} {s:Fs} {ks es:List Key} {θ:TH} {h:Heap} {n:Key} {ψ ψ':Psi} {w w':World} {v:Value} (hθ:jc σ σT θ) (hR:@Rel (linSym σ K) ψ (Heap.fam h) w) (hfr:qR ψ n)
 (hc:qB (xG s.objs s.ext ks es) (jK s.objs ks) θ h G s.n.ix s.objs ks=true) (he:zCu (xG s.objs s.ext ks es) G s.n.ix h s.ext es=true):∀ {l:List Po} {po:Po},po∈l→zQ0 (linSym σT kno) (qV (xG s.objs s.ext ks es) h [] ψ G 0) s w po v ψ' w'→zX (zAq s ks es θ h n l) →
 @zn (linSym σ K) ψ (Heap.fam h) n w (zAq s ks es θ h n l) v w'
 | [],_,hm,_,_=>by cases hm
 | [po'],po,hm,hpo,hcl=>by
  rw [List.mem_singleton.1 hm] at hpo
  exact zDS hθ hR hfr hc he hpo hcl
 | po'::po2::r,po,hm,hpo,hcl=>by
  have hcl:zX (vx s ks es θ h n po')∧zX (zAq s ks es θ h n (po2::r)):=hcl
  rcases List.mem_cons.1 hm with e | hm
  · subst e
    exact .inl (zDS hθ hR hfr hc he hpo hcl.1)
  · exact .inr (zDq hθ hR hfr hc he (l:=po2::r) hm hpo hcl.2)
theorem zNb {σ:Nat→Int} {K:zc} (hK:KnownOk σ K) {f:FuncId} {G:Nat} (hG:P.globals.size≤G) {s:Fs} (hs:FsOk P f s) {args:List CV} {h:Heap} {n:Key} {ψ:Psi} {w:World} {args':Array Value} {m mn q:Nat} {ks es:List Key} {θl:TH}
 (hm:m=s.b.length) (hn:mn=m+s.pn) (ha:@zS (linSym σ K) ψ args args'.toList) (hg:wS P ψ) (hR:@Rel (linSym σ K) ψ (Heap.fam h) w) (hfr:qR ψ n) (hfit:@zOe (linSym σ K) G s m mn q ks es θl args h=true) (hcl:zX (k9 s ks es (sbP θl m mn q s.pn) (θl++jV q s.pn) h n s.posts)) :
 yr P f args' w (@zn (linSym σ K) ψ (Heap.fam h) n w (k9 s ks es (sbP θl m mn q s.pn) (θl++jV q s.pn) h n s.posts)):=by
 unfold zOe at hfit
 simp only [Bool.and_eq_true] at hfit
 obtain ⟨⟨⟨⟨⟨⟨f4,fp⟩,f1⟩,f2⟩,fe⟩,f3⟩,f5⟩:=hfit
 have hlow:s.b.length=θl.length:=(zHX hK P (σT:=fun i=>match nth θl i with | some q=>evQ σ q | none=>0) (j:=0) f4 (fun i q hi=>by simp only [Nat.zero_add,hi])).1
 have hm':m=θl.length:=by omega
 have hsi:∀ e d,zA3 θl m mn q s.pn e d=ui (θl++jV q s.pn) e d:=zJc hm' hn
 rw [zCW (fun ρ e=>zSy hm' hn e)] at hcl ⊢
 rw [kJ hsi (fun _ _ _=>rfl)] at f1
 rw [zC3 hsi (fun _ _ _=>rfl)] at f2
 rw [zE2 hsi (fun _ _ _=>rfl)] at f5
 obtain ⟨θ,hθe⟩:∃ θ,θ=θl++jV q s.pn:=⟨_,rfl⟩
 rw [← hθe] at f1 f2 f5 hcl ⊢
 obtain ⟨σT,hσ⟩:∃ σT:Nat→Int,∀ j,σT j=match nth θ j with | some q=>evQ σ q | none=>0:=⟨_,fun _=>rfl⟩
 have hth:∀ j q,nth θ j=some q→σT j=evQ σ q:=fun j q hj=>by rw [hσ,hj]
 have hlen:s.bA.length=θ.length:=by
  rw [hθe]
  unfold Fs.bA
  rw [List.length_append,List.length_append,zJw,zIN,hlow]
 have hb:yF σT 0 s.bA:=by
  refine zBU (zHX hK P (σT:=σT) (j:=0) f4 (fun i x hi=>?_)).2 fun i hi=>?_
  · rw [Nat.zero_add]
    refine hth i x ?_
    have hlt:i<θl.length:=by
     rw [@nth_eq noSym] at hi
     exact (List.getElem?_eq_some_iff.1 hi).1
    rw [hθe,zEe hlt,hi]
  · have h1:nth θ (0+s.b.length+i)=some (0,[(q+i,1)]):=by
     rw [Nat.zero_add,hlow,hθe,zFc,zFq hi]
    rw [hth _ _ h1]
    have h2:=zL9 fp i hi
    rw [zGV] at h2
    have h3:=hK.b _ _ h2
    show (0:Int)≤0+(1*σ (q+i)+0)∧(0:Int)+(1*σ (q+i)+0)≤255
    simp only at h3
    omega
 have hobj:=ju f2
 have hlen0:=uc f2
 have f3:=@zJ noSym _ _ f3
 have hrho:∀ k b,zg (xG s.objs s.ext ks es) k=some b→G≤k.ix∧k.ix<s.n.ix:=by
  intro k b hk
  rcases zLF hlen0 hk with ⟨j,o,h1,h2⟩ | ⟨j,h1,h2⟩
  · obtain ⟨i',o',g1,g2,g3,g4,g5,g6,g7⟩:=hobj j k o h1
    exact ⟨g4,g5⟩
  · obtain ⟨_,a1,a2,_⟩:=zCK fe j k b h1 h2
    exact ⟨a1,a2⟩
 refine vv (hs σT hb (qV (xG s.objs s.ext ks es) h [] ψ G 0) w args' (fun σ' K' hag hK'=>?_) ?_ ?_) fun v w' ⟨po,hpo,ψ',hok⟩=>?_
 · have hθ':jc σ σ' θ:=fun j q hj=>by
    have hlt:j<θ.length:=by
     rw [@nth_eq noSym] at hj
     exact (List.getElem?_eq_some_iff.1 hj).1
    rw [hag j (by omega)]
    exact hth j q hj
   obtain ⟨c1,c2⟩:=zKz (G:=G) (KT:=K') hθ' hR f2 f5
   exact ⟨kN hθ' c2 _ _ f1 ha,c1⟩
 · intro g hg' h4
   obtain ⟨sz,e⟩:=hg g hg' h4
   have hix:(Key.ofNat g).ix=g:=@Key.ix_ofNat noSym _ (by omega)
   refine ⟨sz,?_⟩
   have hno:zg (xG s.objs s.ext ks es) (Key.ofNat g)=none:=by
    cases hr:zg (xG s.objs s.ext ks es) (Key.ofNat g) with
    | none=>rfl
    | some b=>have:=(hrho _ _ hr).1; omega
   unfold qV
   rw [hno]
   simp only [findW]
   rw [if_pos (by omega)]
   exact e
 · intro k hk
   have hno:zg (xG s.objs s.ext ks es) k=none:=by
    cases hr:zg (xG s.objs s.ext ks es) k with
    | none=>rfl
    | some b=>have:=(hrho _ _ hr).2; omega
   unfold qV
   rw [hno]
   simp only [findW]
   rw [if_neg (by omega)]
 · exact zDq (fun j q hj=>hth j q hj) hR hfr f2 fe hpo hok hcl
theorem vC {σ:Nat→Int} {K:zc} (hK:KnownOk σ K) {f:FuncId} {G:Nat} (hG:P.globals.size≤G) {args:List CV} {h:Heap} {n:Key} {ψ:Psi} {w:World} {args':Array Value}
 (ha:@zS (linSym σ K) ψ args args'.toList) (hg:wS P ψ) (hR:@Rel (linSym σ K) ψ (Heap.fam h) w) (hfr:qR ψ n) {z:R} (hz:zX z→yr P f args' w (@zn (linSym σ K) ψ (Heap.fam h) n w z)):∀ {l:List Fs},(∀ s∈l,FsOk P f s) →
 zX (@zBI (linSym σ K) G args h n z l)→yr P f args' w (@zn (linSym σ K) ψ (Heap.fam h) n w (@zBI (linSym σ K) G args h n z l))
 | [],_,hcl=>hz hcl
 | s::r,hl,hcl=>by
  unfold zBI at hcl ⊢
  split at hcl
  · unfold zOu at hcl ⊢
    simp only [zPH] at hcl ⊢
    split at hcl
    · exact vC hK hG ha hg hR hfr hz (fun s' h'=>hl s' (by simp [h'])) hcl
    rename_i ks a hh
    simp only [zHZ,zKN,zHn] at hcl ⊢
    split at hcl
    · rename_i hfit
      exact zNb hK hG (hl s (by simp)) rfl rfl ha hg hR hfr hfit hcl
    · rename_i hfit
      exact vC hK hG ha hg hR hfr hz (fun s' h'=>hl s' (by simp [h'])) hcl
  · exact vC hK hG ha hg hR hfr hz (fun s' h'=>hl s' (by simp [h'])) hcl
def fsF [Sym] (P:Program) (code:FuncId→CFn) (nat:Nats) (fuel G:Nat) (f:FuncId) (l:List Fs) (d:Bool) (args:List CV) (h:Heap) (n:Key):R:=match d with
 | true=>ev P code nat fuel true f args h n
 | false=>zBI G args h n (ev P code nat fuel false f args h n) l
def zS6 (P:Program) (code:FuncId→CFn) (nat:Nats) (fuel G:Nat) (f:FuncId) (l:List Fs):NatF:=fun S=>@fsF S P code nat fuel G f l
def natF (P:Program) (code:FuncId→CFn) (fuel:Nat) (f:FuncId) (G:Nat) (l:List Fs) (nat:Nats):Nats:=fun g=>Bool.rec (motive:=fun _=>Option NatF) (nat g) (some (zS6 P code nat fuel G f l)) (Nat.beq g f)
theorem natF_ok {code:FuncId→CFn} {fuel:Nat} {f:FuncId} {G:Nat} {l:List Fs} {nat:Nats} (hm:P.follows .mixedOrders=true) (hcode:CodeOk P code) (hG:P.globals.size≤G) (hl:∀ s∈l,FsOk P f s) (hn:∀ σ K,KnownOk σ K→@NatsOk (linSym σ K) P nat) :
 ∀ σ K,KnownOk σ K→@NatsOk (linSym σ K) P (natF P code fuel f G l nat):=by
 intro σ K hK
 have hc:@yW (linSym σ K) P (@ev (linSym σ K) P code nat fuel):=by
  letI S:Sym:=linSym σ K
  haveI hS:SymFact P:=xg hK
  exact zAx (fun call hcall F N=>xf hm hcall) hcode (hn _ _ hK) fuel
 have hn:=hn σ K hK
 have key:∀ g q,natF P code fuel f G l nat g=some q→(g=f∧q=zS6 P code nat fuel G f l)∨nat g=some q:=by
  intro g q h
  unfold natF at h
  cases e:Nat.beq g f with
  | true=>
   rw [e] at h
   injection h with h
   exact .inl ⟨Nat.eq_of_beq_eq_true e,h.symm⟩
  | false=>rw [e] at h; exact .inr h
 refine @NatsOk.mk (linSym σ K) P _ (fun g q hg d args h n=>?_) (fun g q hg args h n ψ w args' h1 h2 h3 h4 hcl=>?_) (fun g q hg args h n ψ w args' h1 h2 h3 h4 hcl=>?_)
 · rcases key g q hg with ⟨rfl,rfl⟩ | hg
   · cases d with
     | true=>exact @yW.above (linSym σ K) _ _ hc true g args h n
     | false=>exact @kH (linSym σ K) G args h n _ (@yW.above (linSym σ K) _ _ hc false g args h n) l
   · exact @NatsOk.above (linSym σ K) _ _ hn g q hg d args h n
 · rcases key g q hg with ⟨rfl,rfl⟩ | hg
   · exact vC hK hG h1 h2 h3 h4 (fun hz=>@yW.calls (linSym σ K) _ _ hc g args h n ψ w args' h1 h2 h3 h4 hz) hl hcl
   · exact @NatsOk.calls (linSym σ K) _ _ hn g q hg args h n ψ w args' h1 h2 h3 h4 hcl
 · rcases key g q hg with ⟨rfl,rfl⟩ | hg
   · exact @yW.defers (linSym σ K) _ _ hc g args h n ψ w args' h1 h2 h3 h4 hcl
   · exact @NatsOk.defers (linSym σ K) _ _ hn g q hg args h n ψ w args' h1 h2 h3 h4 hcl
def fsG [Sym] (P:Program) (code:FuncId→CFn) (nat:Nats) (fuel G:Nat) (f:FuncId) (sel:List CV→Heap→List Fs) (d:Bool) (args:List CV) (h:Heap) (n:Key):R:=match d with
 | true=>ev P code nat fuel true f args h n
 | false=>zBI G args h n (ev P code nat fuel false f args h n) (sel args h)
def zSV (P:Program) (code:FuncId→CFn) (nat:Nats) (fuel G:Nat) (f:FuncId) (sel:List CV→Heap→List Fs):NatF:=fun S=>@fsG S P code nat fuel G f sel
def natG (P:Program) (code:FuncId→CFn) (fuel:Nat) (f:FuncId) (G:Nat) (sel:List CV→Heap→List Fs) (nat:Nats):Nats:=fun g=>Bool.rec (motive:=fun _=>Option NatF) (nat g) (some (zSV P code nat fuel G f sel)) (Nat.beq g f)
theorem natG_ok {code:FuncId→CFn} {fuel:Nat} {f:FuncId} {G:Nat} {sel:List CV→Heap→List Fs} {nat:Nats} (hm:P.follows .mixedOrders=true) (hcode:CodeOk P code) (hG:P.globals.size≤G) (hl:∀ args h,∀ s∈sel args h,FsOk P f s) (hn:∀ σ K,KnownOk σ K→@NatsOk (linSym σ K) P nat) :
 ∀ σ K,KnownOk σ K→@NatsOk (linSym σ K) P (natG P code fuel f G sel nat):=by
 intro σ K hK
 have hc:@yW (linSym σ K) P (@ev (linSym σ K) P code nat fuel):=by
  letI S:Sym:=linSym σ K
  haveI hS:SymFact P:=xg hK
  exact zAx (fun call hcall F N=>xf hm hcall) hcode (hn _ _ hK) fuel
 have hn:=hn σ K hK
 have key:∀ g q,natG P code fuel f G sel nat g=some q→(g=f∧q=zSV P code nat fuel G f sel)∨nat g=some q:=by
  intro g q h
  unfold natG at h
  cases e:Nat.beq g f with
  | true=>
   rw [e] at h
   injection h with h
   exact .inl ⟨Nat.eq_of_beq_eq_true e,h.symm⟩
  | false=>rw [e] at h; exact .inr h
 refine @NatsOk.mk (linSym σ K) P _ (fun g q hg d args h n=>?_) (fun g q hg args h n ψ w args' h1 h2 h3 h4 hcl=>?_) (fun g q hg args h n ψ w args' h1 h2 h3 h4 hcl=>?_)
 · rcases key g q hg with ⟨rfl,rfl⟩ | hg
   · cases d with
     | true=>exact @yW.above (linSym σ K) _ _ hc true g args h n
     | false=>exact @kH (linSym σ K) G args h n _ (@yW.above (linSym σ K) _ _ hc false g args h n) (l:=sel args h)
   · exact @NatsOk.above (linSym σ K) _ _ hn g q hg d args h n
 · rcases key g q hg with ⟨rfl,rfl⟩ | hg
   · exact vC hK hG h1 h2 h3 h4 (fun hz=>@yW.calls (linSym σ K) _ _ hc g args h n ψ w args' h1 h2 h3 h4 hz) (hl args h) hcl
   · exact @NatsOk.calls (linSym σ K) _ _ hn g q hg args h n ψ w args' h1 h2 h3 h4 hcl
 · rcases key g q hg with ⟨rfl,rfl⟩ | hg
   · exact @yW.defers (linSym σ K) _ _ hc g args h n ψ w args' h1 h2 h3 h4 hcl
   · exact @NatsOk.defers (linSym σ K) _ _ hn g q hg args h n ψ w args' h1 h2 h3 h4 hcl
end
end Go.Ev
namespace Go.Ev
open Go.RowKit
noncomputable section
variable {P:Program}
def zDl (v:Int) (q:Int × Int):Int:=q.1+q.2*v
def zRo (q:Int × Int):CV:=match zx q.2 (.ofNat 0) with
 | true=>.int .u8 q.1
 | false=>.sym ⟨.u8,q.1,[(1,q.2)]⟩
def zSq (k:IntKind) (mid:Nat) (n:Key) (v:Int) (r:List Nat):Fs:=⟨[.int k v],[],[],mid,n,[(0,0)],[⟨.str r,[]⟩],[],0,[]⟩
def rowS (k:IntKind) (mid:Nat) (n:Key) (lo hi:Int) (cs:List (Int × Int)):Fs:=⟨[.sym ⟨k,0,[(1,1)]⟩],[],[],mid,n,[(0,0),(lo,hi)],[⟨.sst (cs.map zRo),[]⟩],[],0,[]⟩
theorem zIA {σ:Nat→Int} {K:zc} {ψ:Psi}:∀ {cs:List (Int × Int)} {m:List UInt8},(m.map fun x=>Int.ofNat x.toNat)=cs.map (zDl (σ 1)) →
 @zS (linSym σ K) ψ (cs.map zRo) (m.map fun x=>Value.int .u8 (Int.ofNat x.toNat))
 | [],[],_=>(@zM (linSym σ K) _ _).2 rfl
 | [],_::_,h=>by simp at h
 | _::_,[],h=>by simp at h
 | q::cs,x::m,h=>by
  rw [List.map_cons,List.map_cons] at h
  injection h with h1 h2
  rw [List.map_cons,List.map_cons]
  refine (@zT (linSym σ K) _ _ _ _ _).2 ⟨?_,zIA h2⟩
  rw [h1]
  unfold zRo zDl
  split
  · rename_i h0
    rw [@za noSym,decide_eq_true_eq] at h0
    rw [@zb (linSym σ K),h0]
    congr 1
    show q.1+0*σ 1=q.1
    omega
  · rw [@z8 (linSym σ K)]
    show Value.int .u8 _=Value.int .u8 (q.1+(q.2*σ 1+0))
    rw [Int.add_zero]
theorem zO3 {S:Sym} {ψ:Psi} {w:World}:@Rel S ψ (kY ([]++[])) w:=by
 have hn:∀ k,kY ([]++[]) k=none:=fun k=>by
  show getH k .nil=none
  rw [jX]
 refine @Rel.mk S _ _ _ ?_ ?_ ?_
 · intro k o p hk _; rw [hn] at hk; cases hk
 · intro k o hk; rw [hn] at hk; cases hk
 · intro k₁ k₂ o₁ o₂ p₁ p₂ h1; rw [hn] at h1; cases h1
theorem zIU {f:FuncId} {k:IntKind} {mid:Nat} {n:Key} {lo hi:Int} {cs:List (Int × Int)}
 (h:∀ v,lo≤v→v≤hi→∃ r,FsOk P f (zSq k mid n v r)∧r.map Int.ofNat=cs.map (zDl v)):FsOk P f (rowS k mid n lo hi cs):=by
 intro σ hb ψ w args' hrel hg hf
 have hb:(0≤σ 0∧σ 0≤0)∧(lo≤σ 1∧σ 1≤hi)∧True:=hb
 obtain ⟨r,hr,er⟩:=h (σ 1) hb.2.1.1 hb.2.1.2
 have h1:=(hrel σ kno (fun _ _=>rfl) rfl).1
 have h1:@zS (linSym σ kno) ψ [.sym ⟨k,0,[(1,1)]⟩] args'.toList:=h1
 obtain ⟨v0,l0,e0,h2,h3⟩:=(@zY (linSym σ kno) _ _ _ _).1 h1
 have h2:v0=.int k (0+(1*σ 1+0)):=(@z8 (linSym σ kno) _ _ _).1 h2
 have h3:=(@zM (linSym σ kno) _ _).1 h3
 have e1:(0+(1*σ 1+0):Int)=σ 1:=by omega
 rw [e1] at h2
 subst h2 h3
 refine vv (hr σ ⟨hb.1,trivial⟩ ψ w args' (fun σ' K' _ _=>⟨?_,zO3⟩) hg hf) fun v w' ⟨po,hpo,ψ',hok⟩=>⟨⟨.sst (cs.map zRo),[]⟩,List.mem_singleton.2 rfl,ψ',?_⟩
 · show @zS (linSym σ' K') ψ [.int k (σ 1)] args'.toList
   rw [e0]
   exact (@zT (linSym σ' K') _ _ _ _ _).2 ⟨(@zb (linSym σ' K') _ _ _ _).2 rfl,(@zM (linSym σ' K') _ _).2 rfl⟩
 · obtain rfl:po=⟨.str r,[]⟩:=List.mem_singleton.1 hpo
   refine ⟨fun k hk=>(by cases hk),fun i k o hi=>(by simp at hi),hok.rel,?_,hok.own,hok.lft⟩
   obtain ⟨b,rfl,hb'⟩:=(@ze (linSym σ kno) _ _ _).1 hok.val
   refine (@yi (linSym σ kno) _ _ _).2 ⟨b,rfl,zIA ?_⟩
   rw [← er,← hb']
   unfold zk
   rw [List.map_map]; rfl
def zOy (cs:List (Int × Int)) (v:Int):List Nat:=cs.map fun q=>(zDl v q).toNat
def zHz (k:IntKind) (mid:Nat) (n:Key) (cs:List (Int × Int)):Nat→Int→List Fs
 | 0,_=>[]
 | m+1,v=>zSq k mid n v (zOy cs v)::zHz k mid n cs m (v+1)
def zHj (cs:List (Int × Int)):Nat→Int→Bool
 | 0,_=>true
 | m+1,v=>cs.all (fun q=>decide (0≤zDl v q))&&zHj cs m (v+1)
theorem zEo {k:IntKind} {mid:Nat} {n:Key} {cs:List (Int × Int)}:∀ {m:Nat} {v0 v:Int},v0≤v→v<v0+m→zSq k mid n v (zOy cs v)∈zHz k mid n cs m v0
 | 0,v0,v,h1,h2=>by exfalso; omega
 | m+1,v0,v,h1,h2=>by
  unfold zHz
  by_cases e:v=v0
  · subst e; simp
  · exact List.mem_cons_of_mem _ (zEo (by omega) (by push_cast at h2; omega))
theorem zFW {cs:List (Int × Int)}:∀ {m:Nat} {v0 v:Int},zHj cs m v0=true→v0≤v→v<v0+m→(zOy cs v).map Int.ofNat=cs.map (zDl v)
 | 0,v0,v,_,h1,h2=>by exfalso; omega
 | m+1,v0,v,h,h1,h2=>by
  unfold zHj at h
  rw [Bool.and_eq_true] at h
  by_cases e:v=v0
  · subst e
    unfold zOy
    rw [List.map_map]
    refine List.map_congr_left fun q hq=>?_
    have:=List.all_eq_true.1 h.1 q hq
    simp only [decide_eq_true_eq] at this
    show Int.ofNat (zDl v q).toNat=zDl v q
    exact Int.toNat_of_nonneg this
  · exact zFW h.2 (by omega) (by push_cast at h2; omega)
theorem fsOk_row {f:FuncId} {k:IntKind} {mid:Nat} {n:Key} {lo hi:Int} {m:Nat} {cs:List (Int × Int)} (he:hi<lo+m) (hp:zHj cs m lo=true)
 (h:∀ s∈zHz k mid n cs m lo,FsOk P f s):FsOk P f (rowS k mid n lo hi cs):=
 zIU fun v h1 h2=>⟨zOy cs v,h _ (zEo h1 (by omega)),zFW hp h1 (by omega)⟩
end
end Go.Ev
namespace Go.Ev
open Go.RowKit Go.ChangeShapes Go.WideShapes
noncomputable section
def winOf (k:Key):Value→Win
 | .slice (some a) l c=>match c with
  | 0=>⟨k,0,some a,0,0,0,0,0⟩
  | c+1=>⟨k,0,some a,a.block,a.off,l,c+1,a.off+(c+1)*1⟩
 | _=>⟨k,0,none,0,0,0,0,0⟩
theorem winOf_key {k:Key} {v:Value}:(winOf k v).key=k:=by
 unfold winOf
 split
 · split <;> rfl
 · rfl
theorem zBE {W:World} {k:Key}:ByteArg W (.slice none 0 0) ⟨k,0,none,0,0,0,0,0⟩:=
 ⟨rfl,.inl ⟨rfl,rfl⟩,fun i hi=>by simp at hi,rfl,rfl,Nat.le_refl _⟩
theorem zKq {H:Type} {enc:TypeId × Value→H} {P:Program} {W:World} {base fuel:Nat} {held:Bool} {t e:TypeId} {x:Value} {y:DataW H × List MemPlace} (ht:P.underlying t=some (.slice e)) (he:P.underlying e=some (.int .u8)) (hc:P.cellsOf e=1)
 (h:DataW.trod enc P W base (fun _=>true) held fuel t [x]=some y) (k:Key):x=.slice (winOf k x).base (winOf k x).len (winOf k x).cap∧ByteArg W x (winOf k x)∧(winOf k x).len≤maxLen:=by
 rcases open_ints ht he hc h with ⟨hcs,_⟩ | ⟨a,len,cap,zs,hcs,_,hl,hm,hz,_,hcell,hwf⟩
 · simp at hcs
   subst hcs
   exact ⟨rfl,zBE,Nat.zero_le _⟩
 · simp at hcs
   subst hcs
   simp only [if_true] at hz
   cases cap with
   | zero=>
    obtain rfl:len=0:=by omega
    exact ⟨rfl,⟨rfl,.inl ⟨rfl,rfl⟩,fun i hi=>by simp [winOf] at hi,rfl,rfl,Nat.le_refl _⟩,Nat.zero_le _⟩
   | succ cap=>
    have h0:=hcell 0 (by omega)
    obtain ⟨b,off,spot⟩:=a
    have hspot:spot=none:=by simpa [Addr.add] using World.cell?_spot h0
    subst hspot
    have cellAt:∀ i,i<cap+1→W.cell? ⟨b,off+i,none⟩=some (.int .u8 (zs.getD i 0)):=by
     intro i hi
     have:=hcell i (by omega)
     rwa [@yk noSym] at this
    obtain ⟨arr,elem,fz,hb⟩:∃ arr elem fz,W.heap[b]? = some (.cells arr elem fz):=by
     have:=cellAt 0 (by omega)
     unfold World.cell? at this
     split at this
     · rename_i c e f h; exact ⟨c,e,f,h⟩
     · cases this
    have cellB:∀ i,i<cap+1→off+i+1≤arr.size∧arr[off+i]? = some (.int .u8 (zs.getD i 0)):=by
     intro i hi
     have:=cellAt i hi
     unfold World.cell? at this
     rw [hb] at this
     simp only [Option.isSome_none,Bool.false_eq_true,if_false] at this
     have h2:=(Array.getElem?_eq_some_iff.1 this).1
     exact ⟨by omega,this⟩
    refine ⟨rfl,⟨rfl,.inr ⟨rfl,arr,elem,fz,hb,by have:=(cellB 0 (by omega)).1; show off≤arr.size; omega⟩,fun i hi=>?_,rfl,rfl,hl⟩,Nat.le_trans hl hm⟩
    have hi:i<len:=hi
    obtain ⟨g1,g2⟩:=cellB i (by omega)
    refine ⟨arr,elem,fz,zs.getD i 0,hb,g1,g2,?_⟩
    have hmem:zs.getD i 0∈zs:=by
     rw [List.getD_eq_getElem?_getD,List.getElem?_eq_getElem (by omega)]
     exact List.getElem_mem _
    have:=hwf _ hmem
    unfold Lit.wf at this
    rw [Bool.and_eq_true,decide_eq_true_eq,decide_eq_true_eq] at this
    exact this
theorem rowsArg_of {H:Type} {enc:TypeId × Value→H} {P:Program} {W:World} {base:Nat} {t e e2:TypeId} {v:Value} {d:DataW H} {p:List MemPlace} (ht:P.underlying t=some (.slice e)) (he:P.underlying e=some (.slice e2)) (he2:P.underlying e2=some (.int .u8))
 (hc:P.cellsOf e=1) (hc2:P.cellsOf e2=1) (hval:Value.okWide P W .any base t v) (h0:DataW.Trod enc P W 0 (fun _=>true) true t v d p) (k:Key) (kf:Nat→Key) :
 ∃ (bs:Option Addr) (B x len cap sz:Nat) (g:Nat→Value),RowArg W v ⟨k,1,bs,B,x,len,cap,sz⟩∧(∀ i,g i=.slice (winOf (kf i) (g i)).base (winOf (kf i) (g i)).len (winOf (kf i) (g i)).cap∧ByteArg W (g i) (winOf (kf i) (g i))∧(winOf (kf i) (g i)).len≤maxLen)∧len≤cap ∧
  ∀ i,i<len→∃ arr elem fz,W.heap[B]? = some (.cells arr elem fz)∧x+i+1≤arr.size∧arr[x+i]? = some (g i):=by
 obtain ⟨fuel,hf⟩:=h0
 obtain ⟨a0,len,cap,rfl⟩:=okWide_slice ht hval
 have hnil:∀ i,(Value.slice none 0 0:Value)=.slice (winOf (kf i) (.slice none 0 0)).base (winOf (kf i) (.slice none 0 0)).len (winOf (kf i) (.slice none 0 0)).cap∧ByteArg W (.slice none 0 0) (winOf (kf i) (.slice none 0 0))∧(winOf (kf i) (.slice none 0 0)).len≤maxLen:=fun i=>⟨rfl,zBE,Nat.zero_le _⟩
 rcases DataW.trod_slice ht hf with ⟨hcs,_⟩ | ⟨a,len',cap',elems,rest,n,_,hcs,_,_,hl,_,hlen,hel,_,_⟩
 · simp [Value.cells] at hcs
   obtain ⟨rfl,rfl,rfl⟩:=hcs
   exact ⟨none,0,0,0,0,0,fun _=>.slice none 0 0,⟨rfl,fun h=>by simp at h,rfl⟩,hnil,Nat.le_refl _,fun i hi=>by omega⟩
 · simp [Value.cells] at hcs
   obtain ⟨rfl,rfl,rfl⟩:=hcs
   obtain ⟨b,off,spot⟩:=a
   have cellR:∀ i,i<len→∃ x y,W.cell? ((⟨b,off,spot⟩:Addr).add i)=some x∧DataW.trod enc P W 0 (fun _=>true) true n e [x]=some y:=by
    intro i hi
    have:=hel i hi
    rw [hc,Nat.mul_one] at this
    have hy:∃ y,elems[i]? = some y:=⟨_,List.getElem?_eq_getElem (by omega)⟩
    obtain ⟨y,hy⟩:=hy
    rw [hy] at this
    obtain ⟨cs',hcs',hy'⟩:=Option.bind_eq_some_iff.1 this
    obtain ⟨x,rfl⟩:∃ x,cs'=[x]:=by
     rcases open_ints he he2 hc2 hy' with ⟨q,_⟩ | ⟨a,l,c,zs,q,_⟩
     · exact ⟨_,q⟩
     · exact ⟨_,q⟩
    exact ⟨x,y,cell_of_cells?_one hcs',hy'⟩
   rcases Nat.eq_zero_or_pos len with rfl | hpos
   · exact ⟨some ⟨b,off,spot⟩,b,off,0,cap,off+cap*1,fun _=>.slice none 0 0,⟨rfl,fun h=>by simp at h,rfl⟩,hnil,Nat.zero_le _,fun i hi=>by omega⟩
   · obtain ⟨x0,_,hx0,_⟩:=cellR 0 hpos
     have hspot:spot=none:=by simpa [Addr.add] using World.cell?_spot hx0
     subst hspot
     obtain ⟨arr,elem,fz,hb⟩:∃ arr elem fz,W.heap[b]? = some (.cells arr elem fz):=by
      rw [@yk noSym] at hx0
      unfold World.cell? at hx0
      split at hx0
      · rename_i c e f h; exact ⟨c,e,f,h⟩
      · cases hx0
     have cellS:∀ i,i<len→∃ x y,off+i+1≤arr.size∧arr[off+i]? = some x∧DataW.trod enc P W 0 (fun _=>true) true n e [x]=some y:=by
      intro i hi
      obtain ⟨x,y,this,hy⟩:=cellR i hi
      rw [@yk noSym] at this
      unfold World.cell? at this
      rw [hb] at this
      simp only [Option.isSome_none,Bool.false_eq_true,if_false] at this
      have h2:=(Array.getElem?_eq_some_iff.1 this).1
      exact ⟨x,y,by omega,this,hy⟩
     refine ⟨some ⟨b,off,none⟩,b,off,len,cap,off+cap*1,fun i=>if hi:i<len then (cellS i hi).choose else .slice none 0 0,⟨rfl,fun _=>rfl,rfl⟩,fun i=>?_,hl,fun i hi=>?_⟩
     · by_cases hi:i<len
       · simp only [dif_pos hi]
         obtain ⟨y,_,_,hy⟩:=(cellS i hi).choose_spec
         exact zKq he he2 hc2 hy (kf i)
       · simp only [dif_neg hi]
         exact hnil i
     · obtain ⟨y,h1,h2,_⟩:=(cellS i hi).choose_spec
       exact ⟨arr,elem,fz,hb,h1,by simp only [dif_pos hi]; exact h2⟩
end
end Go.Ev
