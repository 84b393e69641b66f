/- Summaries: each one is a run. -/
import Derived.Test.YtppmmlkamcclkaaGreatDoorMm
namespace Go.Ev
open Go.Proofs
set_option maxRecDepth 1000000
set_option linter.unusedVariables false
theorem gt5_3:∀ s,fsChk Tryz.prog codeN nat0 1000 12 100 s (gtA 5 3)=true:=fun s=>by kernel_rfl
theorem lo0_0_8_128:LO 0 0 8 128 32:=fun s=>by kernel_rfl
theorem lo1_1_5_0:LO 1 1 5 0 32:=fun s=>by kernel_rfl
theorem lo1_1_7_192:LO 1 1 7 192 32:=fun s=>by kernel_rfl
theorem lo2_2_3_0:LO 2 2 3 0 32:=fun s=>by kernel_rfl
theorem lo2_2_6_160:LO 2 2 6 160 32:=fun s=>by kernel_rfl
theorem lo3_2_5_64:LO 3 2 5 64 32:=fun s=>by kernel_rfl
theorem lo3_3_5_96:LO 3 3 5 96 32:=fun s=>by kernel_rfl
theorem lo4_3_4_0:LO 4 3 4 0 32:=fun s=>by kernel_rfl
theorem lo4_4_4_32:LO 4 4 4 32 32:=fun s=>by kernel_rfl
theorem lo5_4_2_0:LO 5 4 2 0 32:=fun s=>by kernel_rfl
theorem lo5_5_2_96:LO 5 5 2 96 32:=fun s=>by kernel_rfl
theorem lo6_4_2_32:LO 6 4 2 32 32:=fun s=>by kernel_rfl
theorem lo6_6_1_64:LO 6 6 1 64 32:=fun s=>by kernel_rfl
theorem lo7_5_1_0:LO 7 5 1 0 32:=fun s=>by kernel_rfl
theorem lo7_7_1_0:LO 7 7 1 0 32:=fun s=>by kernel_rfl
theorem gt3_3:∀ s,fsChk Tryz.prog codeN nat0 1000 12 100 s (gtA 3 3)=true:=fun s=>by kernel_rfl
theorem gt2_6:∀ s,fsChk Tryz.prog codeN nat0 1000 12 100 s (gtA 2 6)=true:=fun s=>by kernel_rfl
theorem lo3_1_3_0:LO 3 1 3 0 16:=fun s=>by kernel_rfl
theorem lo6_2_2_0:LO 6 2 2 0 16:=fun s=>by kernel_rfl
theorem gt1_7:∀ s,fsChk Tryz.prog codeN nat0 1000 12 100 s (gtA 1 7)=true:=fun s=>by kernel_rfl
theorem lo4_2_1_0:LO 4 2 1 0 8:=fun s=>by kernel_rfl
theorem gt0_1:∀ s,fsChk Tryz.prog codeN nat0 1000 12 100 s (gtA 0 1)=true:=fun s=>by kernel_rfl
theorem gt0_8:∀ s,fsChk Tryz.prog codeN nat0 1000 12 100 s (gtA 0 8)=true:=fun s=>by kernel_rfl
theorem lo5_0_2_0:LO 5 0 2 0 4:=fun s=>by kernel_rfl
theorem lo2_1_0_0:LO 2 1 0 0 2:=fun s=>by kernel_rfl
theorem lo5_1_0_0:LO 5 1 0 0 2:=fun s=>by kernel_rfl
theorem gv0:∀ s,fsChk Tryz.prog codeN nat1 1000 102 100 s [gvE 0]=true:=fun s=>by kernel_rfl
end Go.Ev
