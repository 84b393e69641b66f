/- Whether a mark stands among others: the library's own contract, at this program. -/
import Derived.Test.YteejciioplkoeaaGreatDoorIter
import Derived.Laws.StructEq
import Derived.Test.YteejciioplkoeaaGreatDoorTop
namespace Go.Ev
open Go.Proofs Go.Lib Go.Shelf
set_option maxRecDepth 1000000
theorem eqM:EqlAt Tryz.prog 153 (fun x=>.agg (encM x).toArray) (fun x y=>x.1 == y.1&&x.2 == y.2):=by
 refine ⟨fun x y w=>?_,GuardAt.agg _ (by kernel_rfl)⟩
 have u3:=Tryz.underlying3
 have a3:=Tryz.isAgg3
 have z3:=Tryz.sizeOf3
 have hS:Tryz.prog.underlying 153=some (.struct (Tryz.prog.fieldsOf 153)):=by kernel_rfl
 have hp:Tryz.prog.stoodInHeld 153=false:=by kernel_rfl
 simp only [encM]
 rw [run_eql_struct,show (10000:Nat)=9999+1 from rfl,run_equalIn_agg w 9999 153 _ _ hS hp]
 simp only [Program.fieldsOf,Tryz.underlying153]
 go_simp
 by_cases h1:x.fst=y.fst <;> by_cases h2:x.snd=y.snd <;> simp [h1,h2]
theorem has_fn:HasFn Tryz.prog 172:=
 ⟨fun args w=>run_callFunc_enter Tryz.func172 (by kernel_rfl) (show Tryz.f172.body=some _ from rfl) args w,
  fun b off n c zs x w hz hbig hc=>(AnyQ.slices_Contains Tryz.containsM 2 Tryz.isAgg153 Tryz.sizeOf153 encM (fun _=>rfl) _ eqM b off n c zs x w hz hbig hc).mono fun _ _ h=>⟨⟨_,h.1⟩,h.2⟩⟩
end Go.Ev
