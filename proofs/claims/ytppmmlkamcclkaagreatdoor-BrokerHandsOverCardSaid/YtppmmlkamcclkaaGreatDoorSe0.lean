/- Summaries: each one is a run. -/
import Derived.Test.YtppmmlkamcclkaaGreatDoorMm
namespace Go.Ev
open Go.Proofs
set_option maxRecDepth 1000000
set_option linter.unusedVariables false
theorem gt6_1:∀ s,fsChk Tryz.prog codeN nat0 1000 12 100 s (gtA 6 1)=true:=fun s=>by kernel_rfl
theorem lo0_0_8_160:LO 0 0 8 160 32:=fun s=>by kernel_rfl
theorem lo1_1_5_32:LO 1 1 5 32 32:=fun s=>by kernel_rfl
theorem lo1_1_7_224:LO 1 1 7 224 32:=fun s=>by kernel_rfl
theorem lo2_2_4_0:LO 2 2 4 0 32:=fun s=>by kernel_rfl
theorem lo2_2_6_192:LO 2 2 6 192 32:=fun s=>by kernel_rfl
theorem lo3_2_5_96:LO 3 2 5 96 32:=fun s=>by kernel_rfl
theorem lo3_3_5_128:LO 3 3 5 128 32:=fun s=>by kernel_rfl
theorem lo4_3_4_32:LO 4 3 4 32 32:=fun s=>by kernel_rfl
theorem lo4_4_4_64:LO 4 4 4 64 32:=fun s=>by kernel_rfl
theorem lo5_4_2_32:LO 5 4 2 32 32:=fun s=>by kernel_rfl
theorem lo5_5_3_0:LO 5 5 3 0 32:=fun s=>by kernel_rfl
theorem lo6_5_0_0:LO 6 5 0 0 32:=fun s=>by kernel_rfl
theorem lo6_6_1_96:LO 6 6 1 96 32:=fun s=>by kernel_rfl
theorem lo7_5_1_32:LO 7 5 1 32 32:=fun s=>by kernel_rfl
theorem lo7_7_1_32:LO 7 7 1 32 32:=fun s=>by kernel_rfl
theorem gt3_4:∀ s,fsChk Tryz.prog codeN nat0 1000 12 100 s (gtA 3 4)=true:=fun s=>by kernel_rfl
theorem al5:∀ s,fsChk Tryz.prog codeN nat3 1000 14 100 s [alE 5]=true:=fun s=>by kernel_rfl
theorem lo4_1_3_0:LO 4 1 3 0 16:=fun s=>by kernel_rfl
theorem lo7_4_0_0:LO 7 4 0 0 16:=fun s=>by kernel_rfl
theorem lo0_0_3_0:LO 0 0 3 0 8:=fun s=>by kernel_rfl
theorem lo3_3_0_0:LO 3 3 0 0 8:=fun s=>by kernel_rfl
theorem lo7_2_1_0:LO 7 2 1 0 8:=fun s=>by kernel_rfl
theorem dn8:∀ s,fsTrees Tryz.prog codeN nat0 1000 21 100 s (.pin 1 fun _=>.leaf) (dnA 8)=true:=fun s=>by kernel_rfl
theorem lo1_1_1_0:LO 1 1 1 0 4:=fun s=>by kernel_rfl
theorem lo5_2_0_0:LO 5 2 0 0 4:=fun s=>by kernel_rfl
theorem lo6_0_1_0:LO 6 0 1 0 2:=fun s=>by kernel_rfl
theorem gv2:∀ s,fsChk Tryz.prog codeN nat1 1000 102 100 s [gvE 2]=true:=fun s=>by kernel_rfl
end Go.Ev
