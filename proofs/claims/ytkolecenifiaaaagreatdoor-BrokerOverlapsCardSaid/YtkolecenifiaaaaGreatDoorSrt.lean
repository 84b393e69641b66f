/- Sorting ints: the library's contract. -/
import Derived.Test.YtkolecenifiaaaaGreatDoorNames
import Derived.Test.YtkolecenifiaaaaGreatDoorEvRnd
namespace Go.Ev
open Go.Proofs Go.RowKit Go.Sort
theorem srt_fn:SrtFn Tryz.prog 233:=
 ⟨λargs w=>run_callFunc_enter Tryz.func233 (by kernel_rfl) (show Tryz.f233.body=some _ from rfl) args w,
  λg off cap zs w hH hg hl=>AnyM.slices_Sort_int Tryz.sortZ g off cap zs w hH hg (by omega)⟩
end Go.Ev
