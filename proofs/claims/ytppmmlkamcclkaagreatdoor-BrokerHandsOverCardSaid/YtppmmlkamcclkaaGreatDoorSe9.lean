/- Summaries: each one is a run. -/
import Derived.Test.YtppmmlkamcclkaaGreatDoorMm
namespace Go.Ev
open Go.Proofs
set_option maxRecDepth 1000000
set_option linter.unusedVariables false
theorem dn1:∀ s,fsTrees Tryz.prog codeN nat0 1000 21 100 s (.pin 1 fun _=>.leaf) (dnA 1)=true:=fun s=>by kernel_rfl
theorem lo0_0_7_32:LO 0 0 7 32 32:=fun s=>by kernel_rfl
theorem lo1_0_6_0:LO 1 0 6 0 32:=fun s=>by kernel_rfl
theorem lo1_1_6_96:LO 1 1 6 96 32:=fun s=>by kernel_rfl
theorem lo2_1_4_0:LO 2 1 4 0 32:=fun s=>by kernel_rfl
theorem lo2_2_5_64:LO 2 2 5 64 32:=fun s=>by kernel_rfl
theorem lo3_1_5_0:LO 3 1 5 0 32:=fun s=>by kernel_rfl
theorem lo3_3_4_0:LO 3 3 4 0 32:=fun s=>by kernel_rfl
theorem lo4_1_4_0:LO 4 1 4 0 32:=fun s=>by kernel_rfl
theorem lo4_4_2_0:LO 4 4 2 0 32:=fun s=>by kernel_rfl
theorem lo4_4_4_192:LO 4 4 4 192 32:=fun s=>by kernel_rfl
theorem lo5_4_3_96:LO 5 4 3 96 32:=fun s=>by kernel_rfl
theorem lo5_5_3_128:LO 5 5 3 128 32:=fun s=>by kernel_rfl
theorem lo6_5_2_32:LO 6 5 2 32 32:=fun s=>by kernel_rfl
theorem lo6_6_2_96:LO 6 6 2 96 32:=fun s=>by kernel_rfl
theorem lo7_6_1_32:LO 7 6 1 32 32:=fun s=>by kernel_rfl
theorem lo7_7_1_160:LO 7 7 1 160 32:=fun s=>by kernel_rfl
theorem gt2_1:∀ s,fsChk Tryz.prog codeN nat0 1000 12 100 s (gtA 2 1)=true:=fun s=>by kernel_rfl
theorem lo1_0_4_0:LO 1 0 4 0 16:=fun s=>by kernel_rfl
theorem lo4_3_1_0:LO 4 3 1 0 16:=fun s=>by kernel_rfl
theorem gt1_1:∀ s,fsChk Tryz.prog codeN nat0 1000 12 100 s (gtA 1 1)=true:=fun s=>by kernel_rfl
theorem lo1_0_3_0:LO 1 0 3 0 8:=fun s=>by kernel_rfl
theorem lo4_3_0_0:LO 4 3 0 0 8:=fun s=>by kernel_rfl
theorem gt0_2:∀ s,fsChk Tryz.prog codeN nat0 1000 12 100 s (gtA 0 2)=true:=fun s=>by kernel_rfl
theorem lo3_0_2_0:LO 3 0 2 0 4:=fun s=>by kernel_rfl
theorem lo7_1_1_0:LO 7 1 1 0 4:=fun s=>by kernel_rfl
theorem lo0_0_0_0:LO 0 0 0 0 1:=fun s=>by kernel_rfl
theorem lo7_0_0_0:LO 7 0 0 0 1:=fun s=>by kernel_rfl
end Go.Ev
