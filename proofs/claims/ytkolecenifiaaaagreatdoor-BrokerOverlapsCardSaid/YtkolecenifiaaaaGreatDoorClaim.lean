/-
  BrokerOverlaps hands back true for every input: by runs of a verified evaluator over the program's code; its loop by states that cover all that come to its head.
  Conditions: none but those of the given row.
-/
import Derived.Test.YtkolecenifiaaaaGreatDoorRows
import Derived.Test.YtkolecenifiaaaaGreatDoorCards
import Derived.Test.YtkolecenifiaaaaGreatDoorTie
import Derived.Test.YtkolecenifiaaaaGreatDoorFacts
import Derived.Test.YtkolecenifiaaaaGreatDoorLoop
import Derived.WalkKit
import Derived.ProofKit
import Derived.OpenShut
import Derived.LaidMore
import Derived.Lay
import Derived.Stop.Joined
import Derived.SevenTiedAt
namespace Go.Proofs.YtkolecenifiaaaaGreatDoor.brokerOverlaps
open Go.ChangeShapes Go.WideShapes Go.ChangeAt Go.RowKit
set_option linter.unusedVariables false
section
variable{H:Type}{enc:TypeId × Value->H}{P:Program}
/-- what is left behind a call that has turned nothing that was there -/
theorem post_law{f:Func}{s:ChangeSpec}{apart fresh handsOn:Bool}{W W':World}{args:Array Value}{v:Value}{ds gs:List (DataW H)}{before pa pv:List MemPlace}
 (hW:DataW.Whole enc P f.params.toList s.vars apart W args.toList ds gs before)
 (hr:∀(b:Nat) (sp:Nat->Bool) (hd:Bool),DataW.TrodAll enc P W' b sp hd f.resultTypes.toList (v.resultList f.resultTypes.size) (s.fn H (ds++gs)).results [])
 (ha:DataW.TrodAll enc P W' 0 (λb=>decide (b<W.heap.size)) true f.params.toList args.toList (s.fn H (ds++gs)).args pa)
 (hv:∀sp:Nat->Bool,(∀p∈before,sp p.block=true)->DataW.TrodVars enc P W' sp s.vars (s.fn H (ds++gs)).vars pv)
 (hp:before=pa++pv) (hb:Below W.heap.size W W'):s.post enc P f apart fresh handsOn false W args v W':=by
 have old:∀p∈before,(λb=>decide (b<W.heap.size)) p.block=true:=λp h=>decide_eq_true (hW.lt p h);exact⟨ds,gs,before,[],pa,pv,hW,hr _ _ _,ha,hv _ old,World.keptBut_mono (λp h=>⟨h,.inr (List.mem_append.1 (hp ▸ h))⟩) (hb.frame (·∈before)),λh=>by cases h⟩
end
theorem own:ownKnob Tryz.prog.godebug=none:=by kernel_rfl
set_option maxRecDepth 100000 in
theorem lifted(os:Os)(started:os.Started)(H:Type)(enc:TypeId × Value->H) :
 ReturnsInHanded {} Tryz.checked os 3 .any (λw args=>(Rows.brokerOverlapsSpec.pre enc Tryz.prog Tryz.f3 Rows.brokerOverlapsRow.domain false w args/\laidMetH Tryz.prog Rows.brokerOverlapsRow.laid w)/\sizedMet enc Tryz.prog Tryz.f3 (OpenSpec.ofChange Rows.brokerOverlapsSpec) false w args)
  (Rows.brokerOverlapsSpec.post enc Tryz.prog Tryz.f3 false true false false):=by
 refine returnsInHanded_of_change_and (C:=Tryz.checked) (X:=λw _=>laidMetH Tryz.prog Rows.brokerOverlapsRow.laid w) (λ_ _ _ hh h=>h.of_heap hh) own started (by kernel_rfl) Tryz.func3
  (ChangeSpec.witness_shaped (enc:=enc) (C:=Tryz.checked) (os:=os) (X:=λw _=>laidMetH Tryz.prog Rows.brokerOverlapsRow.laid w) false (World.laidAll Tryz.prog os Rows.brokerOverlapsRow.laid) #[.slice none 0 0,.int .i64 0] 8 (World.laidAll_os _ _ _)
    (World.shaped_of_ZipB (by kernel_rfl) (by kernel_rfl)) (by kernel_rfl) (by kernel_rfl) (by kernel_rfl)
    (by rw[MakeChecks.laidMetH_plain _ _ _ (by kernel_rfl)]; exact laidMet_laidAll _ (by kernel_rfl) (by kernel_rfl))) ?_
 intro W base args ds gs before hval0 hW hcnd _ hL _;have hval:∀(j:Nat) t v,Tryz.f3.params[j]? = some t->args[j]? = some v->Value.okWide Tryz.prog W .any base t v:=hval0;have hW':=hW;obtain⟨p,q,hA0,hV,rfl,hfz,hnd⟩:=hW;have hA:DataW.TrodAll enc Tryz.prog W 0 (λ_=>true) true Tryz.f3.params.toList args.toList ds p:=hA0;rw[Tryz.params3]at hA hval;obtain⟨v0,vs0,d0,ds0,p0,q0,hargs,rfl,rfl,h0,r0⟩:=trodAll_cons hA;obtain⟨v1,vs1,d1,ds1,p1,q1,rfl,rfl,rfl,h1,r1⟩:=trodAll_cons r0;obtain⟨rfl,rfl,rfl⟩:=trodAll_nil r1;obtain rfl:args=#[v0,v1]:=by cases args; simp_all
 obtain⟨rfl,rfl⟩:=trodVars_none hV;clear hA0 hval0;have hlt:=λx hx=>hW'.lt x hx;have k0:=λ(W':World) (hb:Below W.heap.size W W')=>Below.trod laidOut (by kernel_rfl) (of_decide_eq_true (by kernel_rfl)) h0 hb (λx hx=>hlt x (by simp[hx]));have k1:=λ(W':World) (hb:Below W.heap.size W W')=>Below.trod laidOut (by kernel_rfl) (of_decide_eq_true (by kernel_rfl)) h1 hb (λx hx=>hlt x (by simp[hx]));obtain⟨bs0,B0,x0,len0,cap0,sz0,ha0⟩:=Go.Ev.intArg_of Tryz.underlying22 Tryz.underlying3 (by kernel_rfl) (hval 0 22 v0 rfl rfl) h0 Go.Ev.wk0;have hl0:=Go.Ev.len_le Tryz.underlying22 (hval 0 22 v0 rfl rfl) ha0.val;obtain⟨a1,rfl,rfl,rfl,w1⟩:=open_int Tryz.underlying3 (hval 1 3 v1 rfl rfl) h1;have w1':=w1;simp only[Lit.wf,Bool.and_eq_true,decide_eq_true_eq]at w1';have b1 : -9223372036854775808<=a1:=w1'.1;have b2:a1<=9223372036854775807:=w1'.2;refine(Go.Ev.walkO (W:=W) (w0:=⟨Go.Ev.wk0,1,bs0,B0,x0,len0,cap0,sz0⟩) rfl rfl ha0 a1 b1 b2 hl0).mono λe W' ⟨he,hg⟩=>?_;subst he;exact⟨_,rfl,post_law (pa:=(p0++([]++[]))) (pv:=[]) hW' (λ_ _ _=>(trodAll_cons_mk (shut_bool Tryz.underlying4 _) trodAll_mk0)) (trodAll_cons_mk (k0 W' hg) (trodAll_cons_mk (k1 W' hg) trodAll_mk0)) (λ_ _=>rfl) rfl hg⟩
theorem over:Rows.brokerOverlapsRow.holds Tryz.pinned (OpenSpec.ofChange Rows.brokerOverlapsSpec):=
 OpenClaim.holds_of_wide 3 Tryz.f3 rfl rfl rfl rfl rfl rfl rfl ⟨rfl,rfl,rfl,rfl,rfl⟩ rfl rfl rfl rfl rfl (by kernel_rfl) Tryz.func3 closed
  (of_decide_eq_true (by kernel_rfl)) (by unfold Func.isWrapper; first |(rw[if_pos (by decide +kernel)]; kernel_rfl) |(rw[if_neg (by decide +kernel)]; exact⟨rfl,rfl⟩))
  (λos started H enc _=>lifted os started H enc)
theorem card_m:Tryz.pinned.checked.prog.mainIs=some (true, "7c5288924ee31d3bb6fcdc661ae64f1576b1366ebb694fb59e9ae5c04e2fc96f".toList):=by kernel_rfl
theorem proved:Rows.BrokerOverlapsCardSaid:=
 Claim7.holds_tied_plain_at .later [] [.data,.sentinel,.pinned] true (true, "7c5288924ee31d3bb6fcdc661ae64f1576b1366ebb694fb59e9ae5c04e2fc96f") true
  over (λ_ h=>by cases h) card_w (λ_ h=>by cases h) brokerOverlaps_row_tie rfl ⟨rfl,rfl⟩ card_m rfl
  (λf fn hf hfn=>by
    obtain rfl:f=3:=Option.some.inj ((show Tryz.prog.funcNamed Rows.brokerOverlapsRow.func=some 3 by kernel_rfl).symm.trans hf) |>.symm;obtain rfl:fn=Tryz.f3:=(Option.some.inj (Tryz.func3.symm.trans hfn)).symm;exact⟨card_l,λj t ht=>by
     rw[Tryz.params3]at ht;rcases j with _ |j
     . (have h:t=22:=by simpa using ht.symm); subst h; exact(show Tryz.prog.wantsStandIn 22=false by kernel_rfl)
     rcases j with _ |j
     . (have h:t=3:=by simpa using ht.symm); subst h; exact(show Tryz.prog.wantsStandIn 3=false by kernel_rfl)
     simp at ht⟩)
  card_g
#print axioms proved
end Go.Proofs.YtkolecenifiaaaaGreatDoor.brokerOverlaps
