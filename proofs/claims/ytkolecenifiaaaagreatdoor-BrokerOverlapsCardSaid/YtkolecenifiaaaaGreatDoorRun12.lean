/- Passes of the loops, rounds, ends. -/
import Derived.Test.YtkolecenifiaaaaGreatDoorSt
namespace Go.Ev
open Go.Proofs
set_option maxRecDepth 1000000
set_option linter.unusedVariables false
theorem rA48:RA 48 2:=by
 intro s A
 kernel_rfl
theorem rA50:RA 50 2:=by
 intro s A
 kernel_rfl
theorem rA120:RA 120 4:=by
 intro s A
 kernel_rfl
theorem rT186_0:RT 186 0 22:=by
 intro s A
 kernel_rfl
theorem rT237_0:RT 237 0 22:=by
 intro s A
 kernel_rfl
theorem rS41:RS 41 4:=by
 intro s A
 kernel_rfl
theorem rS135:RS 135 4:=by
 intro s A
 kernel_rfl
theorem rM13:RM 13 1:=by
 intro s A
 kernel_rfl
theorem rN30_4:RN 30 4 4:=by
 intro s A
 kernel_rfl
theorem rN59_0:RN 59 0 4:=by
 intro s A
 kernel_rfl
theorem rM85:RM 85 1:=by
 intro s A
 kernel_rfl
theorem rM107:RM 107 1:=by
 intro s A
 kernel_rfl
theorem rN126_4:RN 126 4 4:=by
 intro s A
 kernel_rfl
theorem rS105:RS 105 2:=by
 intro s A
 kernel_rfl
theorem rS219:RS 219 2:=by
 intro s A
 kernel_rfl
theorem rM40:RM 40 2:=by
 intro s A
 kernel_rfl
theorem rX351:RX 351 40:=by
 intro s A
 kernel_rfl
theorem rS148:RS 148 2:=by
 intro s A
 kernel_rfl
theorem rM42:RM 42 1:=by
 intro s A
 kernel_rfl
theorem rM120:RM 120 1:=by
 intro s A
 kernel_rfl
end Go.Ev
