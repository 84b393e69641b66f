/- A verified evaluator for the model's code: EvArg. -/
import Derived.Test.YtkolecenifiaaaaGreatDoorEvT2
import Derived.Carry
import Derived.ChangeSlices
set_option linter.unusedSectionVars false
set_option linter.unusedVariables false
set_option linter.unusedSimpArgs false
namespace Go.Ev
open Go.RowKit Go.ChangeShapes Go.WideShapes
noncomputable section
structure IntArg(W:World)(v:Value)(wn:Win):Prop where
 val:v=.slice wn.base wn.len wn.cap
 base:0<wn.len->wn.base=some ⟨wn.B,wn.x,none⟩
 cell:∀i,i<wn.len->∃arr elem fz q,W.heap[wn.B]? = some (.cells arr elem fz)/\wn.x+i+1<=arr.size/\arr[wn.x+i]? = some (.int .i64 q)
 size:wn.sz=wn.x+wn.cap*1
 cap:wn.len<=wn.cap
theorem intArg_of{H:Type}{enc:TypeId × Value->H}{P:Program}{W:World}{base:Nat}{t e:TypeId}{v:Value}{d:DataW H}{p:List MemPlace}(ht:P.underlying t=some (.slice e))(he:P.underlying e=some (.int .i64))(hc:P.cellsOf e=1)
 (hval:Value.okWide P W .any base t v) (h0:DataW.Trod enc P W 0 (λ_=>true) true t v d p) (k:Key) :
 ∃(bs:Option Addr) (B x len cap sz:Nat),IntArg W v ⟨k,1,bs,B,x,len,cap,sz⟩:=by
 obtain⟨fuel,hf⟩:=h0;obtain⟨a0,len,cap,rfl⟩:=okWide_slice ht hval;rcases open_ints ht he hc hf with⟨hcs,_⟩ |⟨a,len',cap',zs,hcs,_,hl,hm,hz,_,hcell,_⟩
 . simp[Value.cells]at hcs;obtain⟨rfl,rfl,rfl⟩:=hcs;exact⟨none,0,0,0,0,0,rfl,λh=>by simp at h,λi hi=>by simp at hi,rfl,Nat.zero_le _⟩
 . simp[Value.cells]at hcs;obtain⟨rfl,rfl,rfl⟩:=hcs;simp only[if_true]at hz;obtain⟨b,off,spot⟩:=a;rcases Nat.eq_zero_or_pos len with rfl |hpos
   . exact⟨some ⟨b,off,spot⟩,b,off,0,cap,off+cap*1,rfl,λh=>by simp at h,λi hi=>by simp at hi,rfl,Nat.zero_le _⟩
   . have h1:0<zs.length:=by omega
     have hspot:spot=none:=by simpa [Addr.add]using World.cell?_spot (hcell 0 h1)
     subst hspot;have cellAt:∀i,i<len->W.cell? ⟨b,off+i,none⟩=some (.int .i64 (zs.getD i 0)):=by
      intro i hi
      have:=hcell i (by omega)
      rwa [@xf noSym]at this
     obtain⟨arr,elem,fz,hb⟩:∃arr elem fz,W.heap[b]? = some (.cells arr elem fz):=by
      have:=cellAt 0 hpos
      unfold World.cell? at this;split at this
      . rename_i c e f h; exact⟨c,e,f,h⟩
      . cases this
     refine⟨some ⟨b,off,none⟩,b,off,len,cap,off+cap*1,rfl,λ_=>rfl,λi hi=>?_,rfl,by first |exact hl |assumption⟩
     have:=cellAt i hi
     unfold World.cell? at this;rw[hb]at this;simp only[Option.isSome_none,Bool.false_eq_true,if_false]at this;refine⟨arr,elem,fz,zs.getD i 0,hb,?_,this⟩
     have:=(Array.getElem?_eq_some_iff.1 this).1
     show off+i+1<=arr.size;omega
theorem len_le{P:Program}{W:World}{base:Nat}{t e:TypeId}{v:Value}{bs:Option Addr}{len cap:Nat}(ht:P.underlying t=some (.slice e))(hval:Value.okWide P W .any base t v)(hv:v=.slice bs len cap):(len:Int)<=9223372036854775807:=by
 subst hv;simp only[Value.okWide,ht,Cell.okWide]at hval;unfold Cell.ok at hval;rw[ht]at hval;cases bs with
 |none=>simp only at hval;split at hval <;> first |omega |simp_all
 |some a=>
  simp only at hval;obtain⟨h1,h2,_⟩:=hval
  have:IntKind.i64.max=9223372036854775807:=by decide
  omega
theorem zTP{W:World}{v:Value}{wins:List Win}{wn:Win}(h:IntArg W v wn)(h1:wn.esz=1)(hf:findW wins wn.key=some wn){i:Int}(h0:0<=i)(hi:i<wn.len) :
 ∃q:Int,∀(J:Nat->Int) (K:zU) (L:Nat),J L=q->zB9 (linSym J K) wins W i (wn.key,[.sym (sv L)]):=by
 obtain⟨arr,elem,fz,q,g1,g3,g4⟩:=h.cell i.toNat (by omega);refine⟨q,λJ K L e=>⟨wn,arr,elem,fz,hf,g1,?_,λj c hj=>?_⟩⟩
 . rw[h1,Nat.mul_one]; exact g3
 . cases j with
   |zero=>simp at hj;subst hj;refine⟨.int .i64 q,by rw[h1,Nat.mul_one,Nat.add_zero]; exact g4,λY _=>?_⟩;rw[<- e];exact zFG|succ j=>simp at hj
structure zPl(W:World)(v:Value)(wn:Win):Prop where
 val:v=.slice wn.base wn.len wn.cap
 base:0<wn.len->wn.base=some ⟨wn.B,wn.x,none⟩
 cell:∀i,i<wn.len->∃arr elem fz b,W.heap[wn.B]? = some (.cells arr elem fz)/\wn.x+i+1<=arr.size/\arr[wn.x+i]? = some (.bool b)
 size:wn.sz=wn.x+wn.cap*1
 cap:wn.len<=wn.cap
theorem zQ0{W:World}{v:Value}{wins:List Win}{wn:Win}(h:zPl W v wn)(h1:wn.esz=1)(hf:findW wins wn.key=some wn){i:Int}(h0:0<=i)(hi:i<wn.len) :
 (∀(J:Nat->Int) (K:zU),zB9 (linSym J K) wins W i (wn.key,[.bool false]))\/(∀(J:Nat->Int) (K:zU),zB9 (linSym J K) wins W i (wn.key,[.bool true])):=by
 obtain⟨arr,elem,fz,b,g1,g3,g4⟩:=h.cell i.toNat (by omega);have key:∀(J:Nat->Int) (K:zU),zB9 (linSym J K) wins W i (wn.key,[.bool b]):=λJ K=>⟨wn,arr,elem,fz,hf,g1,by rw[h1,Nat.mul_one]; exact g3,λj c hj=>by
  cases j with
  |zero=>simp at hj;subst hj;exact⟨.bool b,by rw[h1,Nat.mul_one,Nat.add_zero]; exact g4,λY _=>(@zL (linSym J K) _ _ _).2 rfl⟩|succ j=>simp at hj⟩
 cases b
 . exact .inl key
 . exact .inr key
theorem relsW{J:Nat->Int}{K:zU}{Y:Psi}{k:Key}{z i j:Nat}{v:Value}{l:List CV}{m:List Value}{base:Option Addr}{len cap:Nat}(ha:K.arg k=some v)(hv:v=.slice base len cap)(hi:J i=0)(hj:J j=len)
 (hp:0<len->∃p x,Y k=some p/\base=some ⟨p.blk,x,none⟩/\p.off=x+0*z/\p.sz=x+cap*z/\len<=cap) (h:@zP (linSym J K) Y l m):@zP (linSym J K) Y (.win k z (sv i) (sv j)::l) (v::m):=by
 refine(@zW (linSym J K) _ _ _ _ _).2 ⟨(@qW (linSym J K) _ _ _ _ _ _).2 ⟨ha,base,len,cap,0,hv,?_,?_,λ_ h2=>?_⟩,h⟩
 . show Value.int .i64 (evE J (sv j))=_;rw[xn,hj]
 . show Value.int .i64 (evE J (sv i))=_;rw[xn,hi]
 . exact hp (by omega)
theorem zVX(n i:Nat):Nat.land n (2 ^ i)=0\/Nat.land n (2 ^ i)=2 ^ i:=by
 show n &&& 2 ^ i=0\/n &&& 2 ^ i=2 ^ i;cases h:n.testBit i with
 |false=>
  left;apply Nat.eq_of_testBit_eq;intro j;rw[Nat.testBit_and,Nat.testBit_two_pow];by_cases e:i=j
  . subst e; simp[h]
  . simp[e]
 |true=>
  right;apply Nat.eq_of_testBit_eq;intro j;rw[Nat.testBit_and,Nat.testBit_two_pow];by_cases e:i=j
  . subst e; simp[h]
  . simp[e]
theorem zG8(q:Int)(m:Nat)(hm:m<=4294967295):∃j,j<=m/\yR .and .i64 q (.ofNat m)=some (mkInt .i64 (.ofNat j)):=by
 have h1:toU .i64 (.ofNat m)=m:=by show m % 2 ^ 64=m;exact Nat.mod_eq_of_lt (by omega)
 have e:yR .and .i64 q (.ofNat m)=some (mkInt .i64 (yz .i64 (.ofNat (Nat.land (toU .i64 q) (toU .i64 (.ofNat m)))))):=rfl;have h2:Nat.land (toU .i64 q) m<=m:=Nat.and_le_right;refine⟨Nat.land (toU .i64 q) m,h2,?_⟩;rw[e,h1];have h3:yz .i64 (.ofNat (Nat.land (toU .i64 q) m))=.ofNat (Nat.land (toU .i64 q) m):=by generalize Nat.land (toU .i64 q) m=z at h2;rw[@xM noSym];simp[IntKind.wrap,IntKind.signed,IntKind.bits];omega
 rw[h3]
theorem zO0(q:Int)(hq:0<=q)(m:Nat):∃j:Nat,j<=m/\yR .rem .i64 q (.ofNat (m+1))=some (mkInt .i64 (.ofNat j)):=by
 obtain⟨z,h1,h2⟩:=uu q m;obtain⟨n,rfl⟩:∃n:Nat,q=(n:Int):=⟨q.toNat,by omega⟩
 refine⟨n % (m+1),?_,?_⟩
 . have:=Nat.mod_lt n (show 0<m+1 by omega)
   omega
 . show Bool.rec (motive:=λ_=>Option CV) (some (mkInt .i64 ((n:Int).tmod (.ofNat (m+1))))) none (zm (.ofNat (m+1)) (.ofNat 0))=_;rw[@zX noSym,decide_eq_false (by intro h; injection h with h; cases h)];rfl
theorem zRs(q:Int)(t:Nat)(ht:t<7):yR .and .i64 q (.ofNat (2 ^ t))=some (mkInt .i64 (.ofNat 0))\/yR .and .i64 q (.ofNat (2 ^ t))=some (mkInt .i64 (.ofNat (2 ^ t))):=by
 have h0:2 ^ t<=2 ^ 6:=Nat.pow_le_pow_right (by omega) (by omega);have h1:toU .i64 (.ofNat (2 ^ t))=2 ^ t:=by show 2 ^ t % 2 ^ 64=2 ^ t;exact Nat.mod_eq_of_lt (by omega)
 have e:yR .and .i64 q (.ofNat (2 ^ t))=some (mkInt .i64 (yz .i64 (.ofNat (Nat.land (toU .i64 q) (toU .i64 (.ofNat (2 ^ t))))))):=rfl;have h3:∀n:Nat,n<=64->yz .i64 (.ofNat n)=.ofNat n:=by intro n hn;rw[@xM noSym];simp[IntKind.wrap,IntKind.signed,IntKind.bits];omega
 rw[e,h1];rcases zVX (toU .i64 q) t with h |h
 . left; rw[h,h3 0 (by omega)]
 . right; rw[h,h3 (2 ^ t) (by omega)]
end
end Go.Ev
