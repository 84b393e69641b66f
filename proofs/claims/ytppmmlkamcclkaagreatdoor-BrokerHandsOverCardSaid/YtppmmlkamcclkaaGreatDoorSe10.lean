/- Summaries: each one is a run. -/
import Derived.Test.YtppmmlkamcclkaaGreatDoorMm
namespace Go.Ev
open Go.Proofs
set_option maxRecDepth 1000000
set_option linter.unusedVariables false
theorem lo0_0_5_0:LO 0 0 5 0 32:=fun s=>by kernel_rfl
theorem lo0_0_6_32:LO 0 0 6 32 32:=fun s=>by kernel_rfl
theorem lo0_0_8_224:LO 0 0 8 224 32:=fun s=>by kernel_rfl
theorem lo1_1_6_32:LO 1 1 6 32 32:=fun s=>by kernel_rfl
theorem lo2_0_6_0:LO 2 0 6 0 32:=fun s=>by kernel_rfl
theorem lo2_2_5_0:LO 2 2 5 0 32:=fun s=>by kernel_rfl
theorem lo3_0_5_0:LO 3 0 5 0 32:=fun s=>by kernel_rfl
theorem lo3_3_3_0:LO 3 3 3 0 32:=fun s=>by kernel_rfl
theorem lo3_3_5_192:LO 3 3 5 192 32:=fun s=>by kernel_rfl
theorem lo4_3_4_96:LO 4 3 4 96 32:=fun s=>by kernel_rfl
theorem lo4_4_4_128:LO 4 4 4 128 32:=fun s=>by kernel_rfl
theorem lo5_4_3_32:LO 5 4 3 32 32:=fun s=>by kernel_rfl
theorem lo5_5_3_64:LO 5 5 3 64 32:=fun s=>by kernel_rfl
theorem lo6_5_1_32:LO 6 5 1 32 32:=fun s=>by kernel_rfl
theorem lo6_6_2_32:LO 6 6 2 32 32:=fun s=>by kernel_rfl
theorem lo7_6_0_32:LO 7 6 0 32 32:=fun s=>by kernel_rfl
theorem lo7_7_1_96:LO 7 7 1 96 32:=fun s=>by kernel_rfl
theorem al6:∀ s,fsChk Tryz.prog codeN nat3 1000 14 100 s [alE 6]=true:=fun s=>by kernel_rfl
theorem lo2_1_3_0:LO 2 1 3 0 16:=fun s=>by kernel_rfl
theorem lo5_2_2_0:LO 5 2 2 0 16:=fun s=>by kernel_rfl
theorem gt1_4:∀ s,fsChk Tryz.prog codeN nat0 1000 12 100 s (gtA 1 4)=true:=fun s=>by kernel_rfl
theorem lo2_2_1_0:LO 2 2 1 0 8:=fun s=>by kernel_rfl
theorem lo5_3_0_0:LO 5 3 0 0 8:=fun s=>by kernel_rfl
theorem gt0_6:∀ s,fsChk Tryz.prog codeN nat0 1000 12 100 s (gtA 0 6)=true:=fun s=>by kernel_rfl
theorem lo4_1_1_0:LO 4 1 1 0 4:=fun s=>by kernel_rfl
theorem lo1_1_0_0:LO 1 1 0 0 2:=fun s=>by kernel_rfl
theorem lo4_0_1_0:LO 4 0 1 0 2:=fun s=>by kernel_rfl
theorem lo4_0_0_0:LO 4 0 0 0 1:=fun s=>by kernel_rfl
theorem gv7:∀ s,fsChk Tryz.prog codeN nat1 1000 102 100 s [gvE 7]=true:=fun s=>by kernel_rfl
end Go.Ev
