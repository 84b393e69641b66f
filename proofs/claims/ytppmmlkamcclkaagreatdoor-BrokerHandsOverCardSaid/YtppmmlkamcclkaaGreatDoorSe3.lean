/- Summaries: each one is a run. -/
import Derived.Test.YtppmmlkamcclkaaGreatDoorMm
namespace Go.Ev
open Go.Proofs
set_option maxRecDepth 1000000
set_option linter.unusedVariables false
theorem gt5_2:∀ s,fsChk Tryz.prog codeN nat0 1000 12 100 s (gtA 5 2)=true:=fun s=>by kernel_rfl
theorem lo0_0_8_96:LO 0 0 8 96 32:=fun s=>by kernel_rfl
theorem lo1_1_4_0:LO 1 1 4 0 32:=fun s=>by kernel_rfl
theorem lo1_1_7_160:LO 1 1 7 160 32:=fun s=>by kernel_rfl
theorem lo2_1_6_96:LO 2 1 6 96 32:=fun s=>by kernel_rfl
theorem lo2_2_6_128:LO 2 2 6 128 32:=fun s=>by kernel_rfl
theorem lo3_2_5_32:LO 3 2 5 32 32:=fun s=>by kernel_rfl
theorem lo3_3_5_64:LO 3 3 5 64 32:=fun s=>by kernel_rfl
theorem lo4_3_3_32:LO 4 3 3 32 32:=fun s=>by kernel_rfl
theorem lo4_4_4_0:LO 4 4 4 0 32:=fun s=>by kernel_rfl
theorem lo5_4_1_0:LO 5 4 1 0 32:=fun s=>by kernel_rfl
theorem lo5_5_2_64:LO 5 5 2 64 32:=fun s=>by kernel_rfl
theorem lo6_4_2_0:LO 6 4 2 0 32:=fun s=>by kernel_rfl
theorem lo6_6_1_32:LO 6 6 1 32 32:=fun s=>by kernel_rfl
theorem lo7_5_0_0:LO 7 5 0 0 32:=fun s=>by kernel_rfl
theorem lo7_7_0_96:LO 7 7 0 96 32:=fun s=>by kernel_rfl
theorem gt3_2:∀ s,fsChk Tryz.prog codeN nat0 1000 12 100 s (gtA 3 2)=true:=fun s=>by kernel_rfl
theorem gt2_5:∀ s,fsChk Tryz.prog codeN nat0 1000 12 100 s (gtA 2 5)=true:=fun s=>by kernel_rfl
theorem lo3_0_4_0:LO 3 0 4 0 16:=fun s=>by kernel_rfl
theorem lo5_4_0_0:LO 5 4 0 0 16:=fun s=>by kernel_rfl
theorem gt1_6:∀ s,fsChk Tryz.prog codeN nat0 1000 12 100 s (gtA 1 6)=true:=fun s=>by kernel_rfl
theorem lo4_1_2_0:LO 4 1 2 0 8:=fun s=>by kernel_rfl
theorem al2:∀ s,fsChk Tryz.prog codeN nat3 1000 14 100 s [alE 2]=true:=fun s=>by kernel_rfl
theorem al1:∀ s,fsChk Tryz.prog codeN nat3 1000 14 100 s [alE 1]=true:=fun s=>by kernel_rfl
theorem lo2_1_1_0:LO 2 1 1 0 4:=fun s=>by kernel_rfl
theorem lo6_1_1_0:LO 6 1 1 0 4:=fun s=>by kernel_rfl
theorem lo7_0_1_0:LO 7 0 1 0 2:=fun s=>by kernel_rfl
theorem gv4:∀ s,fsChk Tryz.prog codeN nat1 1000 102 100 s [gvE 4]=true:=fun s=>by kernel_rfl
end Go.Ev
