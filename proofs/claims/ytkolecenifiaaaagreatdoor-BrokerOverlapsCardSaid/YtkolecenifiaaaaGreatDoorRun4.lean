/- Passes of the loops, rounds, ends. -/
import Derived.Test.YtkolecenifiaaaaGreatDoorSt
namespace Go.Ev
open Go.Proofs
set_option maxRecDepth 1000000
set_option linter.unusedVariables false
theorem rA16:RA 16 2:=by
 intro s A
 kernel_rfl
theorem rA18:RA 18 2:=by
 intro s A
 kernel_rfl
theorem rA88:RA 88 4:=by
 intro s A
 kernel_rfl
theorem rT155_0:RT 155 0 22:=by
 intro s A
 kernel_rfl
theorem rT222_0:RT 222 0 22:=by
 intro s A
 kernel_rfl
theorem rT236_0:RT 236 0 9:=by
 intro s A
 kernel_rfl
theorem rM37:RM 37 2:=by
 intro s A
 kernel_rfl
theorem rM21:RM 21 1:=by
 intro s A
 kernel_rfl
theorem rM43:RM 43 1:=by
 intro s A
 kernel_rfl
theorem rN62_4:RN 62 4 4:=by
 intro s A
 kernel_rfl
theorem rN91_0:RN 91 0 4:=by
 intro s A
 kernel_rfl
theorem rM117:RM 117 1:=by
 intro s A
 kernel_rfl
theorem rL44:RL 44 11:=by
 intro s A
 kernel_rfl
theorem rL25:RL 25 6:=by
 intro s A
 kernel_rfl
theorem rS8:RS 8 6:=by
 intro s A
 kernel_rfl
theorem rM80:RM 80 2:=by
 intro s A
 kernel_rfl
theorem rX631:RX 631 36:=by
 intro s A
 kernel_rfl
theorem rM64:RM 64 3:=by
 intro s A
 kernel_rfl
theorem rT241_21:RT 241 21 10:=by
 intro s A
 kernel_rfl
theorem rT134_22:RT 134 22 3:=by
 intro s A
 kernel_rfl
theorem rT170_22:RT 170 22 3:=by
 intro s A
 kernel_rfl
theorem rT206_22:RT 206 22 3:=by
 intro s A
 kernel_rfl
theorem rT222_22:RT 222 22 3:=by
 intro s A
 kernel_rfl
theorem rS243:RS 243 1:=by
 intro s A
 kernel_rfl
end Go.Ev
