/- A verified evaluator for the model's code: EvBag, EvNam. -/
import Derived.Test.YtkolecenifiaaaaGreatDoorEvSeen
set_option linter.unusedSectionVars false
set_option linter.unusedVariables false
set_option linter.unusedSimpArgs false
namespace Go.Ev
open Go.RowKit Go.Maps Go.MapKept
open Go.Proofs (encStr)
noncomputable section
variable[Sym]
variable{P:Program}
variable[SymFact P]
structure zY1(P:Program)(f:FuncId):Prop where
 enter:∀args w,(callFunc f args).run P w=.ok (.enter f args) w
 has:∀(b off n c:Nat) (zs:List ByteArray) (x:ByteArray) (w:World),zs.length=n->n<=1000->(∀j (hj:j<zs.length),w.cell? ⟨b,off+j,none⟩=some (.string zs[j])) ->
  Calls P f #[.slice (some ⟨b,off,none⟩) n c,.string x] w λe w'=>e=.returned (.bool (zs.any λz=>z == x))/\Below w.heap.size w w'
end
noncomputable section
variable{P:Program}
def zMI(P:Program)(code:FuncId->CFn)(nat:Nats)(fuel:Nat)(f:FuncId)(sel:List CV->zC->Bool)(q:NatF):NatF:=λS d args h n=>match zBk d&&sel args h with
 |true=>q S false args h n|false=>match nat f with
  |some r=>r S d args h n|none=>@ev S P code nat fuel d f args h n
def natH(P:Program)(code:FuncId->CFn)(fuel:Nat)(f:FuncId)(sel:List CV->zC->Bool)(q:NatF)(nat:Nats):Nats:=λg=>Bool.rec (motive:=λ_=>Option NatF) (nat g) (some (zMI P code nat fuel f sel q)) (Nat.beq g f)
theorem zP5{code:FuncId->CFn}{fuel:Nat}{f:FuncId}{sel:List CV->zC->Bool}{q:NatF}{nat:Nats}(hm:P.follows .mixedOrders=true)(hcode:CodeOk P code)
 (ha:∀S args h n,zo n (q S false args h n))
 (hq:∀(J:Nat->Int) (K:zU),KnownOk J K->∀(args:List CV) (h:zC) (n:Key) (Y:Psi) (w:World) (args':Array Value),@zP (linSym J K) Y args args'.toList->vU P Y->@Rel (linSym J K) Y (zC.fam h) w->qN Y n->zd (q (linSym J K) false args h n) ->
   yS P f args' w (@zr (linSym J K) Y (zC.fam h) n w (q (linSym J K) false args h n)))
 (hn:∀J K,KnownOk J K->@NatsOk (linSym J K) P nat):∀J K,KnownOk J K->@NatsOk (linSym J K) P (natH P code fuel f sel q nat):=by
 intro J K hK;have hc:@yk (linSym J K) P (@ev (linSym J K) P code nat fuel):=by
  letI S:Sym:=linSym J K
  haveI hS:SymFact P:=yn hK
  exact kZ (λcall hcall F N=>ym hm hcall) hcode (hn _ _ hK) fuel
 have hn:=hn J K hK;have key:∀g r,natH P code fuel f sel q nat g=some r->(g=f/\r=zMI P code nat fuel f sel q)\/nat g=some r:=by
  intro g r h;unfold natH at h;cases e:Nat.beq g f with
  |true=>rw[e]at h;injection h with h;exact .inl ⟨Nat.eq_of_beq_eq_true e,h.symm⟩
  |false=>rw[e]at h; exact .inr h
 refine @NatsOk.mk (linSym J K) P _ (λg r hg d args h n=>?_) (λg r hg args h n Y w args' h1 h2 h3 h4 hcl=>?_) (λg r hg args h n Y w args' h1 h2 h3 h4 hcl=>?_)
 . rcases key g r hg with⟨rfl,rfl⟩ |hg
   . unfold zMI;split
     . exact ha _ _ _ _
     . split
       . rename_i r hr;exact @NatsOk.above (linSym J K) _ _ hn g r hr d args h n
       . exact @yk.above (linSym J K) _ _ hc d g args h n
   . exact @NatsOk.above (linSym J K) _ _ hn g r hg d args h n
 . rcases key g r hg with⟨rfl,rfl⟩ |hg
   . unfold zMI at hcl ⊢;split at hcl
     . exact hq J K hK args h n Y w args' h1 h2 h3 h4 hcl
     . split at hcl
       . rename_i r hr;exact @NatsOk.calls (linSym J K) _ _ hn g r hr args h n Y w args' h1 h2 h3 h4 hcl
       . exact @yk.calls (linSym J K) _ _ hc g args h n Y w args' h1 h2 h3 h4 hcl
   . exact @NatsOk.calls (linSym J K) _ _ hn g r hg args h n Y w args' h1 h2 h3 h4 hcl
 . rcases key g r hg with⟨rfl,rfl⟩ |hg
   . unfold zMI at hcl ⊢;split at hcl
     . rename_i hs;cases hs
     . split at hcl
       . rename_i r hr;exact @NatsOk.defers (linSym J K) _ _ hn g r hr args h n Y w args' h1 h2 h3 h4 hcl
       . exact @yk.defers (linSym J K) _ _ hc g args h n Y w args' h1 h2 h3 h4 hcl
   . exact @NatsOk.defers (linSym J K) _ _ hn g r hg args h n Y w args' h1 h2 h3 h4 hcl
end
end Go.Ev
namespace Go.Ev
open Go.RowKit Go.Maps Go.MapKept
noncomputable section
variable{P:Program}
end
end Go.Ev
