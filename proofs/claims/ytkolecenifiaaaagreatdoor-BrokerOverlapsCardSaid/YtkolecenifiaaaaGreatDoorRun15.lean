/- Passes of the loops, rounds, ends. -/
import Derived.Test.YtkolecenifiaaaaGreatDoorSt
namespace Go.Ev
open Go.Proofs
set_option maxRecDepth 1000000
set_option linter.unusedVariables false
theorem rA60:RA 60 4:=by
 intro s A
 kernel_rfl
theorem rT53_0:RT 53 0 22:=by
 intro s A
 kernel_rfl
theorem rT77_0:RT 77 0 22:=by
 intro s A
 kernel_rfl
theorem rT206_0:RT 206 0 22:=by
 intro s A
 kernel_rfl
theorem rL31:RL 31 13:=by
 intro s A
 kernel_rfl
theorem rS95:RS 95 4:=by
 intro s A
 kernel_rfl
theorem rS108:RS 108 8:=by
 intro s A
 kernel_rfl
theorem rM28:RM 28 1:=by
 intro s A
 kernel_rfl
theorem rN55_0:RN 55 0 4:=by
 intro s A
 kernel_rfl
theorem rM78:RM 78 1:=by
 intro s A
 kernel_rfl
theorem rN95_4:RN 95 4 4:=by
 intro s A
 kernel_rfl
theorem rM124:RM 124 1:=by
 intro s A
 kernel_rfl
theorem rT239_9:RT 239 9 12:=by
 intro s A
 kernel_rfl
theorem rS177:RS 177 2:=by
 intro s A
 kernel_rfl
theorem rL115:RL 115 8:=by
 intro s A
 kernel_rfl
theorem rX83:RX 83 68:=by
 intro s A
 kernel_rfl
theorem rS22:RS 22 2:=by
 intro s A
 kernel_rfl
theorem rT188_21:RT 188 21 10:=by
 intro s A
 kernel_rfl
theorem rM74:RM 74 1:=by
 intro s A
 kernel_rfl
theorem rT223_22:RT 223 22 3:=by
 intro s A
 kernel_rfl
end Go.Ev
