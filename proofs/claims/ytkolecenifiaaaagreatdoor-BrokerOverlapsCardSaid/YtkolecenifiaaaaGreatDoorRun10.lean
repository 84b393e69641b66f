/- Passes of the loops, rounds, ends. -/
import Derived.Test.YtkolecenifiaaaaGreatDoorSt
namespace Go.Ev
open Go.Proofs
set_option maxRecDepth 1000000
set_option linter.unusedVariables false
theorem rA40:RA 40 2:=by
 intro s A
 kernel_rfl
theorem rA42:RA 42 2:=by
 intro s A
 kernel_rfl
theorem rA112:RA 112 2:=by
 intro s A
 kernel_rfl
theorem rA114:RA 114 2:=by
 intro s A
 kernel_rfl
theorem rT182_0:RT 182 0 22:=by
 intro s A
 kernel_rfl
theorem rT234_0:RT 234 0 22:=by
 intro s A
 kernel_rfl
theorem rS14:RS 14 4:=by
 intro s A
 kernel_rfl
theorem rS122:RS 122 4:=by
 intro s A
 kernel_rfl
theorem rM7:RM 7 1:=by
 intro s A
 kernel_rfl
theorem rN29_4:RN 29 4 4:=by
 intro s A
 kernel_rfl
theorem rM57:RM 57 1:=by
 intro s A
 kernel_rfl
theorem rN79_4:RN 79 4 4:=by
 intro s A
 kernel_rfl
theorem rN95_12:RN 95 12 4:=by
 intro s A
 kernel_rfl
theorem rN125_4:RN 125 4 4:=by
 intro s A
 kernel_rfl
theorem rS72:RS 72 2:=by
 intro s A
 kernel_rfl
theorem rS210:RS 210 2:=by
 intro s A
 kernel_rfl
theorem rM16:RM 16 2:=by
 intro s A
 kernel_rfl
theorem rX151:RX 151 48:=by
 intro s A
 kernel_rfl
theorem rS193:RS 193 2:=by
 intro s A
 kernel_rfl
theorem rM52:RM 52 1:=by
 intro s A
 kernel_rfl
theorem rT53_22:RT 53 22 3:=by
 intro s A
 kernel_rfl
theorem rT74_22:RT 74 22 3:=by
 intro s A
 kernel_rfl
theorem rT152_22:RT 152 22 3:=by
 intro s A
 kernel_rfl
theorem rT182_22:RT 182 22 3:=by
 intro s A
 kernel_rfl
theorem rT212_22:RT 212 22 3:=by
 intro s A
 kernel_rfl
theorem rT232_22:RT 232 22 3:=by
 intro s A
 kernel_rfl
end Go.Ev
