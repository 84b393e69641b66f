/- Summaries: each one is a run. -/
import Derived.Test.YtppmmlkamcclkaaGreatDoorMm
namespace Go.Ev
open Go.Proofs
set_option maxRecDepth 1000000
set_option linter.unusedVariables false
theorem gt5_1:∀ s,fsChk Tryz.prog codeN nat0 1000 12 100 s (gtA 5 1)=true:=fun s=>by kernel_rfl
theorem lo0_0_8_64:LO 0 0 8 64 32:=fun s=>by kernel_rfl
theorem lo1_0_7_96:LO 1 0 7 96 32:=fun s=>by kernel_rfl
theorem lo1_1_7_128:LO 1 1 7 128 32:=fun s=>by kernel_rfl
theorem lo2_1_6_64:LO 2 1 6 64 32:=fun s=>by kernel_rfl
theorem lo2_2_6_96:LO 2 2 6 96 32:=fun s=>by kernel_rfl
theorem lo3_2_5_0:LO 3 2 5 0 32:=fun s=>by kernel_rfl
theorem lo3_3_5_32:LO 3 3 5 32 32:=fun s=>by kernel_rfl
theorem lo4_3_3_0:LO 4 3 3 0 32:=fun s=>by kernel_rfl
theorem lo4_4_3_96:LO 4 4 3 96 32:=fun s=>by kernel_rfl
theorem lo5_3_3_32:LO 5 3 3 32 32:=fun s=>by kernel_rfl
theorem lo5_5_2_32:LO 5 5 2 32 32:=fun s=>by kernel_rfl
theorem lo6_4_1_0:LO 6 4 1 0 32:=fun s=>by kernel_rfl
theorem lo6_6_1_0:LO 6 6 1 0 32:=fun s=>by kernel_rfl
theorem lo7_4_1_0:LO 7 4 1 0 32:=fun s=>by kernel_rfl
theorem lo7_7_0_64:LO 7 7 0 64 32:=fun s=>by kernel_rfl
theorem gt3_1:∀ s,fsChk Tryz.prog codeN nat0 1000 12 100 s (gtA 3 1)=true:=fun s=>by kernel_rfl
theorem gt2_4:∀ s,fsChk Tryz.prog codeN nat0 1000 12 100 s (gtA 2 4)=true:=fun s=>by kernel_rfl
theorem lo2_2_2_0:LO 2 2 2 0 16:=fun s=>by kernel_rfl
theorem lo5_3_1_0:LO 5 3 1 0 16:=fun s=>by kernel_rfl
theorem gt1_5:∀ s,fsChk Tryz.prog codeN nat0 1000 12 100 s (gtA 1 5)=true:=fun s=>by kernel_rfl
theorem lo4_0_3_0:LO 4 0 3 0 8:=fun s=>by kernel_rfl
theorem lo7_3_0_0:LO 7 3 0 0 8:=fun s=>by kernel_rfl
theorem lo0_0_2_0:LO 0 0 2 0 4:=fun s=>by kernel_rfl
theorem lo2_2_0_0:LO 2 2 0 0 4:=fun s=>by kernel_rfl
theorem lo6_2_0_0:LO 6 2 0 0 4:=fun s=>by kernel_rfl
theorem lo7_1_0_0:LO 7 1 0 0 2:=fun s=>by kernel_rfl
theorem al0:∀ s,fsChk Tryz.prog codeN nat3 1000 14 100 s [alE 0]=true:=fun s=>by kernel_rfl
end Go.Ev
