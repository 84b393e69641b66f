/-
  BrokerNames hands back true for every input: by runs of a verified evaluator over the program's code; its loop by states that cover all that come to its head.
  Conditions: none but those of the given row.
-/
import Derived.Test.YtkolecenifiaaaaGreatDoorRows
import Derived.Test.YtkolecenifiaaaaGreatDoorCards
import Derived.Test.YtkolecenifiaaaaGreatDoorTie
import Derived.Test.YtkolecenifiaaaaGreatDoorFacts
import Derived.Test.YtkolecenifiaaaaGreatDoorLoop
import Derived.WalkKit
import Derived.ProofKit
import Derived.OpenShut
import Derived.LaidMore
import Derived.Lay
import Derived.Stop.Joined
import Derived.SevenTiedAt
namespace Go.Proofs.YtkolecenifiaaaaGreatDoor.brokerNames
open Go.ChangeShapes Go.WideShapes Go.ChangeAt Go.RowKit
set_option linter.unusedVariables false
section
variable {H:Type} {enc:TypeId × Value→H} {P:Program}
/-- what is left behind a call that has turned nothing that was there -/
theorem post_law {f:Func} {s:ChangeSpec} {apart fresh handsOn:Bool} {W W':World} {args:Array Value} {v:Value} {ds gs:List (DataW H)} {before pa pv:List MemPlace}
 (hW:DataW.Whole enc P f.params.toList s.vars apart W args.toList ds gs before)
 (hr:∀ (b:Nat) (sp:Nat→Bool) (hd:Bool),DataW.TrodAll enc P W' b sp hd f.resultTypes.toList (v.resultList f.resultTypes.size) (s.fn H (ds++gs)).results [])
 (ha:DataW.TrodAll enc P W' 0 (fun b=>decide (b<W.heap.size)) true f.params.toList args.toList (s.fn H (ds++gs)).args pa)
 (hv:∀ sp:Nat→Bool,(∀ p∈before,sp p.block=true)→DataW.TrodVars enc P W' sp s.vars (s.fn H (ds++gs)).vars pv)
 (hp:before=pa++pv) (hb:Below W.heap.size W W'):s.post enc P f apart fresh handsOn false W args v W':=by
 have old:∀ p∈before,(fun b=>decide (b<W.heap.size)) p.block=true:=fun p h=>decide_eq_true (hW.lt p h)
 exact ⟨ds,gs,before,[],pa,pv,hW,hr _ _ _,ha,hv _ old,World.keptBut_mono (fun p h=>⟨h,.inr (List.mem_append.1 (hp ▸ h))⟩) (hb.frame (·∈before)),fun h=>by cases h⟩
end
theorem own:ownKnob Tryz.prog.godebug=none:=by kernel_rfl
set_option maxRecDepth 100000 in
theorem lifted (os:Os) (started:os.Started) (H:Type) (enc:TypeId × Value→H) :
 ReturnsInHanded {} Tryz.checked os 4 .any (fun w args=>(Rows.brokerNamesSpec.pre enc Tryz.prog Tryz.f4 Rows.brokerNamesRow.domain false w args∧laidMetH Tryz.prog Rows.brokerNamesRow.laid w)∧sizedMet enc Tryz.prog Tryz.f4 (OpenSpec.ofChange Rows.brokerNamesSpec) false w args)
  (Rows.brokerNamesSpec.post enc Tryz.prog Tryz.f4 false true false false):=by
 refine returnsInHanded_of_change_and (C:=Tryz.checked) (X:=fun w _=>laidMetH Tryz.prog Rows.brokerNamesRow.laid w) (fun _ _ _ hh h=>h.of_heap hh) own started (by kernel_rfl) Tryz.func4
  (ChangeSpec.witness_shaped (enc:=enc) (C:=Tryz.checked) (os:=os) (X:=fun w _=>laidMetH Tryz.prog Rows.brokerNamesRow.laid w) false (World.laidAll Tryz.prog os Rows.brokerNamesRow.laid) #[.slice none 0 0] 8 (World.laidAll_os _ _ _)
    (World.shaped_of_ZipB (by kernel_rfl) (by kernel_rfl)) (by kernel_rfl) (by kernel_rfl) (by kernel_rfl)
    (by rw [MakeChecks.laidMetH_plain _ _ _ (by kernel_rfl)]; exact laidMet_laidAll _ (by kernel_rfl) (by kernel_rfl))) ?_
 intro W base args ds gs before hval0 hW hcnd _ hL _
 have hval:∀ (j:Nat) t v,Tryz.f4.params[j]? = some t→args[j]? = some v→Value.okWide Tryz.prog W .any base t v:=hval0
 have hW':=hW
 obtain ⟨p,q,hA0,hV,rfl,hfz,hnd⟩:=hW
 have hA:DataW.TrodAll enc Tryz.prog W 0 (fun _=>true) true Tryz.f4.params.toList args.toList ds p:=hA0
 rw [Tryz.params4] at hA hval
 obtain ⟨v0,vs0,d0,ds0,p0,q0,hargs,rfl,rfl,h0,r0⟩:=trodAll_cons hA
 obtain ⟨rfl,rfl,rfl⟩:=trodAll_nil r0
 obtain rfl:args=#[v0]:=by cases args; simp_all
 obtain ⟨rfl,rfl⟩:=trodVars_none hV
 clear hA0 hval0
 have hlt:=fun x hx=>hW'.lt x hx
 have k0:=fun (W':World) (hb:Below W.heap.size W W')=>Below.trod laidOut (by kernel_rfl) (of_decide_eq_true (by kernel_rfl)) h0 hb (fun x hx=>hlt x (by simp [hx]))
 obtain ⟨bs0,B0,x0,len0,cap0,sz0,ha0⟩:=Go.Ev.intArg_of Tryz.underlying22 Tryz.underlying3 (by kernel_rfl) (hval 0 22 v0 rfl rfl) h0 Go.Ev.wk0
 have hl0:=Go.Ev.len_le Tryz.underlying22 (hval 0 22 v0 rfl rfl) ha0.val
 refine (Go.Ev.walkW (W:=W) (w0:=⟨Go.Ev.wk0,1,bs0,B0,x0,len0,cap0,sz0⟩) rfl rfl ha0 hl0).mono fun e W' ⟨he,hg⟩=>?_
 subst he
 exact ⟨_,rfl,post_law (pa:=(p0++[])) (pv:=[]) hW' (fun _ _ _=>(trodAll_cons_mk (shut_bool Tryz.underlying4 _) trodAll_mk0)) (trodAll_cons_mk (k0 W' hg) trodAll_mk0) (fun _ _=>rfl) rfl hg⟩
theorem over:Rows.brokerNamesRow.holds Tryz.pinned (OpenSpec.ofChange Rows.brokerNamesSpec):=
 OpenClaim.holds_of_wide 4 Tryz.f4 rfl rfl rfl rfl rfl rfl rfl ⟨rfl,rfl,rfl,rfl,rfl⟩ rfl rfl rfl rfl rfl (by kernel_rfl) Tryz.func4 closed
  (of_decide_eq_true (by kernel_rfl)) (by unfold Func.isWrapper; first | (rw [if_pos (by decide +kernel)]; kernel_rfl) | (rw [if_neg (by decide +kernel)]; exact ⟨rfl,rfl⟩))
  (fun os started H enc _=>lifted os started H enc)
theorem card_m:Tryz.pinned.checked.prog.mainIs=some (true, "7c5288924ee31d3bb6fcdc661ae64f1576b1366ebb694fb59e9ae5c04e2fc96f".toList):=by kernel_rfl
theorem proved:Rows.BrokerNamesCardSaid:=
 Claim7.holds_tied_plain_at .later [] [.data,.sentinel,.pinned] true (true, "7c5288924ee31d3bb6fcdc661ae64f1576b1366ebb694fb59e9ae5c04e2fc96f") true
  over (fun _ h=>by cases h) card_w (fun _ h=>by cases h) brokerNames_row_tie rfl ⟨rfl,rfl⟩ card_m rfl
  (fun f fn hf hfn=>by
    obtain rfl:f=4:=Option.some.inj ((show Tryz.prog.funcNamed Rows.brokerNamesRow.func=some 4 by kernel_rfl).symm.trans hf) |>.symm
    obtain rfl:fn=Tryz.f4:=(Option.some.inj (Tryz.func4.symm.trans hfn)).symm
    exact ⟨card_l,fun j t ht=>by
     rw [Tryz.params4] at ht
     rcases j with _ | j
     · (have h:t=22:=by simpa using ht.symm); subst h; exact (show Tryz.prog.wantsStandIn 22=false by kernel_rfl)
     simp at ht⟩)
  card_g
#print axioms proved
end Go.Proofs.YtkolecenifiaaaaGreatDoor.brokerNames
