/- Summaries: each one is a run. -/
import Derived.Test.YtppmmlkamcclkaaGreatDoorMm
namespace Go.Ev
open Go.Proofs
set_option maxRecDepth 1000000
set_option linter.unusedVariables false
theorem gt4_2:∀ s,fsChk Tryz.prog codeN nat0 1000 12 100 s (gtA 4 2)=true:=fun s=>by kernel_rfl
theorem lo0_0_7_96:LO 0 0 7 96 32:=fun s=>by kernel_rfl
theorem lo1_0_7_0:LO 1 0 7 0 32:=fun s=>by kernel_rfl
theorem lo1_1_7_32:LO 1 1 7 32 32:=fun s=>by kernel_rfl
theorem lo2_1_5_32:LO 2 1 5 32 32:=fun s=>by kernel_rfl
theorem lo2_2_6_0:LO 2 2 6 0 32:=fun s=>by kernel_rfl
theorem lo3_2_3_0:LO 3 2 3 0 32:=fun s=>by kernel_rfl
theorem lo3_3_4_64:LO 3 3 4 64 32:=fun s=>by kernel_rfl
theorem lo4_2_4_0:LO 4 2 4 0 32:=fun s=>by kernel_rfl
theorem lo4_4_3_0:LO 4 4 3 0 32:=fun s=>by kernel_rfl
theorem lo5_2_3_0:LO 5 2 3 0 32:=fun s=>by kernel_rfl
theorem lo5_5_1_0:LO 5 5 1 0 32:=fun s=>by kernel_rfl
theorem lo5_5_3_192:LO 5 5 3 192 32:=fun s=>by kernel_rfl
theorem lo6_5_2_96:LO 6 5 2 96 32:=fun s=>by kernel_rfl
theorem lo6_6_2_160:LO 6 6 2 160 32:=fun s=>by kernel_rfl
theorem lo7_6_1_96:LO 7 6 1 96 32:=fun s=>by kernel_rfl
theorem lo7_7_1_224:LO 7 7 1 224 32:=fun s=>by kernel_rfl
theorem gt2_3:∀ s,fsChk Tryz.prog codeN nat0 1000 12 100 s (gtA 2 3)=true:=fun s=>by kernel_rfl
theorem lo2_0_4_0:LO 2 0 4 0 16:=fun s=>by kernel_rfl
theorem lo5_1_3_0:LO 5 1 3 0 16:=fun s=>by kernel_rfl
theorem gt1_3:∀ s,fsChk Tryz.prog codeN nat0 1000 12 100 s (gtA 1 3)=true:=fun s=>by kernel_rfl
theorem lo2_1_2_0:LO 2 1 2 0 8:=fun s=>by kernel_rfl
theorem lo5_2_1_0:LO 5 2 1 0 8:=fun s=>by kernel_rfl
theorem gt0_5:∀ s,fsChk Tryz.prog codeN nat0 1000 12 100 s (gtA 0 5)=true:=fun s=>by kernel_rfl
theorem lo4_0_2_0:LO 4 0 2 0 4:=fun s=>by kernel_rfl
theorem lo1_0_1_0:LO 1 0 1 0 2:=fun s=>by kernel_rfl
theorem lo3_1_0_0:LO 3 1 0 0 2:=fun s=>by kernel_rfl
theorem lo3_0_0_0:LO 3 0 0 0 1:=fun s=>by kernel_rfl
theorem gv6:∀ s,fsChk Tryz.prog codeN nat1 1000 102 100 s [gvE 6]=true:=fun s=>by kernel_rfl
end Go.Ev
