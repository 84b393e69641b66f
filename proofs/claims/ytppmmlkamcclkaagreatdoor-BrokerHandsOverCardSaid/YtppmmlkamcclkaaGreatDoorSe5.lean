/- Summaries: each one is a run. -/
import Derived.Test.YtppmmlkamcclkaaGreatDoorMm
namespace Go.Ev
open Go.Proofs
set_option maxRecDepth 1000000
set_option linter.unusedVariables false
theorem gt4_1:∀ s,fsChk Tryz.prog codeN nat0 1000 12 100 s (gtA 4 1)=true:=fun s=>by kernel_rfl
theorem lo0_0_7_64:LO 0 0 7 64 32:=fun s=>by kernel_rfl
theorem lo1_0_6_32:LO 1 0 6 32 32:=fun s=>by kernel_rfl
theorem lo1_1_7_0:LO 1 1 7 0 32:=fun s=>by kernel_rfl
theorem lo2_1_5_0:LO 2 1 5 0 32:=fun s=>by kernel_rfl
theorem lo2_2_5_96:LO 2 2 5 96 32:=fun s=>by kernel_rfl
theorem lo3_1_5_32:LO 3 1 5 32 32:=fun s=>by kernel_rfl
theorem lo3_3_4_32:LO 3 3 4 32 32:=fun s=>by kernel_rfl
theorem lo4_2_3_0:LO 4 2 3 0 32:=fun s=>by kernel_rfl
theorem lo4_4_2_32:LO 4 4 2 32 32:=fun s=>by kernel_rfl
theorem lo4_4_4_224:LO 4 4 4 224 32:=fun s=>by kernel_rfl
theorem lo5_5_0_0:LO 5 5 0 0 32:=fun s=>by kernel_rfl
theorem lo5_5_3_160:LO 5 5 3 160 32:=fun s=>by kernel_rfl
theorem lo6_5_2_64:LO 6 5 2 64 32:=fun s=>by kernel_rfl
theorem lo6_6_2_128:LO 6 6 2 128 32:=fun s=>by kernel_rfl
theorem lo7_6_1_64:LO 7 6 1 64 32:=fun s=>by kernel_rfl
theorem lo7_7_1_192:LO 7 7 1 192 32:=fun s=>by kernel_rfl
theorem gt2_2:∀ s,fsChk Tryz.prog codeN nat0 1000 12 100 s (gtA 2 2)=true:=fun s=>by kernel_rfl
theorem lo1_1_3_0:LO 1 1 3 0 16:=fun s=>by kernel_rfl
theorem lo4_4_0_0:LO 4 4 0 0 16:=fun s=>by kernel_rfl
theorem gt1_2:∀ s,fsChk Tryz.prog codeN nat0 1000 12 100 s (gtA 1 2)=true:=fun s=>by kernel_rfl
theorem lo2_0_3_0:LO 2 0 3 0 8:=fun s=>by kernel_rfl
theorem lo5_1_2_0:LO 5 1 2 0 8:=fun s=>by kernel_rfl
theorem gt0_4:∀ s,fsChk Tryz.prog codeN nat0 1000 12 100 s (gtA 0 4)=true:=fun s=>by kernel_rfl
theorem lo3_2_0_0:LO 3 2 0 0 4:=fun s=>by kernel_rfl
theorem lo0_0_1_0:LO 0 0 1 0 2:=fun s=>by kernel_rfl
theorem lo3_0_1_0:LO 3 0 1 0 2:=fun s=>by kernel_rfl
theorem lo2_0_0_0:LO 2 0 0 0 1:=fun s=>by kernel_rfl
theorem gv5:∀ s,fsChk Tryz.prog codeN nat1 1000 102 100 s [gvE 5]=true:=fun s=>by kernel_rfl
end Go.Ev
