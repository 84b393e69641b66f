/- The closed facts of the row and of the card, one by one. -/
import Derived.Test.YtkolecenifiaaaaGreatDoorRows
import Derived.JoinedOf
import Derived.KernelRfl
import Derived.Carry
import GoSem.ClaimSeven
namespace Go.Proofs.YtkolecenifiaaaaGreatDoor.brokerOverlaps
open Go Go.WideShapes Go.RowKit
set_option maxRecDepth 100000
set_option linter.unusedVariables false
theorem fact0:(λ(P:Program) (f:FuncId) (fn:Func) (s:ChangeSpec) (c:OpenClaim)=>(c.wf (OpenSpec.ofChange s):Bool)) Tryz.pinned.checked.prog 3 Tryz.f3 Rows.brokerOverlapsSpec Rows.brokerOverlapsRow=true:=by kernel_rfl
theorem fact1:(λ(P:Program) (f:FuncId) (fn:Func) (s:ChangeSpec) (c:OpenClaim)=>(laidOutB P:Bool)) Tryz.pinned.checked.prog 3 Tryz.f3 Rows.brokerOverlapsSpec Rows.brokerOverlapsRow=true:=by kernel_rfl
theorem fact2:(λ(P:Program) (f:FuncId) (fn:Func) (s:ChangeSpec) (c:OpenClaim)=>(mapsRowed P:Bool)) Tryz.pinned.checked.prog 3 Tryz.f3 Rows.brokerOverlapsSpec Rows.brokerOverlapsRow=true:=by kernel_rfl
theorem fact3:(λ(P:Program) (f:FuncId) (fn:Func) (s:ChangeSpec) (c:OpenClaim)=>(fn.params.all (P.readableRec ·):Bool)) Tryz.pinned.checked.prog 3 Tryz.f3 Rows.brokerOverlapsSpec Rows.brokerOverlapsRow=true:=by kernel_rfl
theorem fact4:(λ(P:Program) (f:FuncId) (fn:Func) (s:ChangeSpec) (c:OpenClaim)=>(namedTie P c.named s.vars:Bool)) Tryz.pinned.checked.prog 3 Tryz.f3 Rows.brokerOverlapsSpec Rows.brokerOverlapsRow=true:=by kernel_rfl
theorem fact5:(λ(P:Program) (f:FuncId) (fn:Func) (s:ChangeSpec) (c:OpenClaim)=>((c.stops == []):Bool)) Tryz.pinned.checked.prog 3 Tryz.f3 Rows.brokerOverlapsSpec Rows.brokerOverlapsRow=true:=by kernel_rfl
theorem fact6:(λ(P:Program) (f:FuncId) (fn:Func) (s:ChangeSpec) (c:OpenClaim)=>((P.stops == []):Bool)) Tryz.pinned.checked.prog 3 Tryz.f3 Rows.brokerOverlapsSpec Rows.brokerOverlapsRow=true:=by kernel_rfl
theorem fact7:(λ(P:Program) (f:FuncId) (fn:Func) (s:ChangeSpec) (c:OpenClaim)=>((c.knobs == []):Bool)) Tryz.pinned.checked.prog 3 Tryz.f3 Rows.brokerOverlapsSpec Rows.brokerOverlapsRow=true:=by kernel_rfl
theorem fact8:(λ(P:Program) (f:FuncId) (fn:Func) (s:ChangeSpec) (c:OpenClaim)=>((P.stopKnobs == []):Bool)) Tryz.pinned.checked.prog 3 Tryz.f3 Rows.brokerOverlapsSpec Rows.brokerOverlapsRow=true:=by kernel_rfl
theorem fact9:(λ(P:Program) (f:FuncId) (fn:Func) (s:ChangeSpec) (c:OpenClaim)=>((c.inPlace == P.inPlace f):Bool)) Tryz.pinned.checked.prog 3 Tryz.f3 Rows.brokerOverlapsSpec Rows.brokerOverlapsRow=true:=by kernel_rfl
theorem fact10:(λ(P:Program) (f:FuncId) (fn:Func) (s:ChangeSpec) (c:OpenClaim)=>((c.unfollowed == P.unfollowed f):Bool)) Tryz.pinned.checked.prog 3 Tryz.f3 Rows.brokerOverlapsSpec Rows.brokerOverlapsRow=true:=by kernel_rfl
theorem fact11:(λ(P:Program) (f:FuncId) (fn:Func) (s:ChangeSpec) (c:OpenClaim)=>((c.recurses == P.recurses f):Bool)) Tryz.pinned.checked.prog 3 Tryz.f3 Rows.brokerOverlapsSpec Rows.brokerOverlapsRow=true:=by kernel_rfl
theorem fact12:(λ(P:Program) (f:FuncId) (fn:Func) (s:ChangeSpec) (c:OpenClaim)=>((c.named == P.varsNamed f):Bool)) Tryz.pinned.checked.prog 3 Tryz.f3 Rows.brokerOverlapsSpec Rows.brokerOverlapsRow=true:=by kernel_rfl
theorem fact13:(λ(P:Program) (f:FuncId) (fn:Func) (s:ChangeSpec) (c:OpenClaim)=>((c.maps == (fn.params.toList++s.plain.varTypes P).any (P.mapsRec ·)):Bool)) Tryz.pinned.checked.prog 3 Tryz.f3 Rows.brokerOverlapsSpec Rows.brokerOverlapsRow=true:=by kernel_rfl
theorem fact14:(λ(P:Program) (f:FuncId) (fn:Func) (s:ChangeSpec) (c:OpenClaim)=>((c.ifaces == (fn.params.toList++s.plain.varTypes P).any (P.ifacesRec ·)):Bool)) Tryz.pinned.checked.prog 3 Tryz.f3 Rows.brokerOverlapsSpec Rows.brokerOverlapsRow=true:=by kernel_rfl
theorem fact15:(λ(P:Program) (f:FuncId) (fn:Func) (s:ChangeSpec) (c:OpenClaim)=>((c.mapsOut == P.mapsAmong fn.resultTypes.toList):Bool)) Tryz.pinned.checked.prog 3 Tryz.f3 Rows.brokerOverlapsSpec Rows.brokerOverlapsRow=true:=by kernel_rfl
theorem fact16:(λ(P:Program) (f:FuncId) (fn:Func) (s:ChangeSpec) (c:OpenClaim)=>((c.loops == (fn.params.toList++s.plain.varTypes P).any (P.loopsFrom ·)):Bool)) Tryz.pinned.checked.prog 3 Tryz.f3 Rows.brokerOverlapsSpec Rows.brokerOverlapsRow=true:=by kernel_rfl
theorem fact17:(λ(P:Program) (f:FuncId) (fn:Func) (s:ChangeSpec) (c:OpenClaim)=>((c.wideKeys == (fn.params.toList++s.plain.varTypes P++fn.resultTypes.toList).any (P.wideKeysFrom ·)):Bool)) Tryz.pinned.checked.prog 3 Tryz.f3 Rows.brokerOverlapsSpec Rows.brokerOverlapsRow=true:=by kernel_rfl
theorem fact18:(λ(P:Program) (f:FuncId) (fn:Func) (s:ChangeSpec) (c:OpenClaim)=>(s.vars.all (P.varReadable ·):Bool)) Tryz.pinned.checked.prog 3 Tryz.f3 Rows.brokerOverlapsSpec Rows.brokerOverlapsRow=true:=by kernel_rfl
theorem fact19:(λ(P:Program) (f:FuncId) (fn:Func) (s:ChangeSpec) (c:OpenClaim)=>(fn.resultTypes.all (λt=>P.readableRec t&&decide (t<P.types.size)):Bool)) Tryz.pinned.checked.prog 3 Tryz.f3 Rows.brokerOverlapsSpec Rows.brokerOverlapsRow=true:=by kernel_rfl
theorem fact20:(λ(P:Program) (f:FuncId) (fn:Func) (s:ChangeSpec) (c:OpenClaim)=>((c.ifacesOut == fn.resultTypes.toList.any (P.ifacesRec ·)):Bool)) Tryz.pinned.checked.prog 3 Tryz.f3 Rows.brokerOverlapsSpec Rows.brokerOverlapsRow=true:=by kernel_rfl
theorem fact21:(λ(P:Program) (f:FuncId) (fn:Func) (s:ChangeSpec) (c:OpenClaim)=>((c.loopsOut == fn.resultTypes.toList.any (P.loopsFrom ·)):Bool)) Tryz.pinned.checked.prog 3 Tryz.f3 Rows.brokerOverlapsSpec Rows.brokerOverlapsRow=true:=by kernel_rfl
theorem fact22:(λ(P:Program) (f:FuncId) (fn:Func) (s:ChangeSpec) (c:OpenClaim)=>((c.plainKeys == P.plainKeys):Bool)) Tryz.pinned.checked.prog 3 Tryz.f3 Rows.brokerOverlapsSpec Rows.brokerOverlapsRow=true:=by kernel_rfl
theorem fact23:(λ(P:Program) (f:FuncId) (fn:Func) (s:ChangeSpec) (c:OpenClaim)=>(c.shortTexts.isNone:Bool)) Tryz.pinned.checked.prog 3 Tryz.f3 Rows.brokerOverlapsSpec Rows.brokerOverlapsRow=true:=by kernel_rfl
theorem fact24:(λ(P:Program) (f:FuncId) (fn:Func) (s:ChangeSpec) (c:OpenClaim)=>(P.stopsHeard:Bool)) Tryz.pinned.checked.prog 3 Tryz.f3 Rows.brokerOverlapsSpec Rows.brokerOverlapsRow=true:=by kernel_rfl
theorem fact25:(λ(P:Program) (f:FuncId) (fn:Func) (s:ChangeSpec) (c:OpenClaim)=>(P.mayEnter:Bool)) Tryz.pinned.checked.prog 3 Tryz.f3 Rows.brokerOverlapsSpec Rows.brokerOverlapsRow=true:=by kernel_rfl
theorem fact26:(λ(P:Program) (f:FuncId) (fn:Func) (s:ChangeSpec) (c:OpenClaim)=>((c.lifted == P.liftsFinal):Bool)) Tryz.pinned.checked.prog 3 Tryz.f3 Rows.brokerOverlapsSpec Rows.brokerOverlapsRow=true:=by kernel_rfl
theorem fact27:(λ(P:Program) (f:FuncId) (fn:Func) (s:ChangeSpec) (c:OpenClaim)=>((P.make == some c.make):Bool)) Tryz.pinned.checked.prog 3 Tryz.f3 Rows.brokerOverlapsSpec Rows.brokerOverlapsRow=true:=by kernel_rfl
theorem fact28:(λ(P:Program) (f:FuncId) (fn:Func) (s:ChangeSpec) (c:OpenClaim)=>((c.kinds == (if c.domain.isEmpty then []else fn.params.toList.map λt=>match P.underlying t with |some (.int k)=>some k |_=>none)):Bool)) Tryz.pinned.checked.prog 3 Tryz.f3 Rows.brokerOverlapsSpec Rows.brokerOverlapsRow=true:=by kernel_rfl
theorem fact29:(λ(P:Program) (f:FuncId) (fn:Func) (s:ChangeSpec) (c:OpenClaim)=>((c.pinned == c.pinnedBy):Bool)) Tryz.pinned.checked.prog 3 Tryz.f3 Rows.brokerOverlapsSpec Rows.brokerOverlapsRow=true:=by kernel_rfl
theorem fact30:(λ(P:Program) (f:FuncId) (fn:Func) (s:ChangeSpec) (c:OpenClaim)=>((c.veiled == (fn.params.toList++s.plain.varTypes P++fn.resultTypes.toList).any (P.veiledRec ·)):Bool)) Tryz.pinned.checked.prog 3 Tryz.f3 Rows.brokerOverlapsSpec Rows.brokerOverlapsRow=true:=by kernel_rfl
theorem fact31:(λ(P:Program) (f:FuncId) (fn:Func) (s:ChangeSpec) (c:OpenClaim)=>(c.veiledFits P fn.params.toList (fn.params.toList++s.plain.varTypes P++fn.resultTypes.toList):Bool)) Tryz.pinned.checked.prog 3 Tryz.f3 Rows.brokerOverlapsSpec Rows.brokerOverlapsRow=true:=by kernel_rfl
theorem both{a b:Bool}(h:a=true)(h2:b=true):(a&&b)=true:=by rw[h,h2]; rfl
set_option maxRecDepth 100000 in
theorem closed:joinedFacts Tryz.pinned.checked.prog 3 Tryz.f3 Rows.brokerOverlapsSpec Rows.brokerOverlapsRow=true:=by unfold joinedFacts;exact(both (both (both (both (both (both (both (both (both (both (both (both (both (both (both (both (both (both (both (both (both (both (both (both (both (both (both (both (both (both (both fact0 fact1) fact2) fact3) fact4) fact5) fact6) fact7) fact8) fact9) fact10) fact11) fact12) fact13) fact14) fact15) fact16) fact17) fact18) fact19) fact20) fact21) fact22) fact23) fact24) fact25) fact26) fact27) fact28) fact29) fact30) fact31)
/-- no function starts a goroutine -/
theorem no_go:Tryz.pinned.checked.prog.funcs.any Func.goes=false:=by kernel_rfl
theorem goes_none{P:Program}(h:P.funcs.any Func.goes=false)(f:FuncId):P.goes f=false:=by
 have one:∀g:FuncId,(P.funcs[g]?).any Func.goes=false:=by
  intro g;cases hg:P.funcs[g]? with
  |none=>rfl|some fn=>
   have hm:=Array.mem_of_getElem? hg;cases hf:Func.goes fn with
   |false=>exact hf|true=>
    have:P.funcs.any Func.goes=true:=Array.any_eq_true'.2 ⟨fn,hm,hf⟩
    rw[h]at this; cases this
 unfold Program.goes;rw[h,Bool.and_false,Bool.or_false];exact List.any_eq_false.2 λg _=>by rw[one g]; simp
theorem goes_any{P:Program}(h:P.funcs.any Func.goes=false)(o:Option FuncId):o.any P.goes=false:=by
 cases o with
 |none=>rfl|some f=>rw[Option.any_some]; exact goes_none h f
theorem card_g:false=Rows.brokerOverlapsRow.goesBy Tryz.pinned.checked.prog:=by have e:Rows.brokerOverlapsRow.goesBy Tryz.pinned.checked.prog=((Tryz.pinned.checked.prog.funcNamed Rows.brokerOverlapsRow.func).any Tryz.pinned.checked.prog.goes || false):=rfl;rw[e,Bool.or_false];exact(goes_any no_go _).symm
theorem card_w:Rows.brokerOverlapsRow.wfByText (OpenSpec.ofChange Rows.brokerOverlapsSpec)=true:=by kernel_rfl
theorem card_l:true=Tryz.prog.looks []:=by kernel_rfl
theorem laidOut:laidOutB Tryz.prog=true:=by kernel_rfl
end Go.Proofs.YtkolecenifiaaaaGreatDoor.brokerOverlaps
