/- Summaries: each one is a run. -/
import Derived.Test.YtppmmlkamcclkaaGreatDoorMm
namespace Go.Ev
open Go.Proofs
set_option maxRecDepth 1000000
set_option linter.unusedVariables false
theorem gt6_2:∀ s,fsChk Tryz.prog codeN nat0 1000 12 100 s (gtA 6 2)=true:=fun s=>by kernel_rfl
theorem lo0_0_8_192:LO 0 0 8 192 32:=fun s=>by kernel_rfl
theorem lo1_1_6_0:LO 1 1 6 0 32:=fun s=>by kernel_rfl
theorem lo2_0_5_0:LO 2 0 5 0 32:=fun s=>by kernel_rfl
theorem lo2_2_4_32:LO 2 2 4 32 32:=fun s=>by kernel_rfl
theorem lo2_2_6_224:LO 2 2 6 224 32:=fun s=>by kernel_rfl
theorem lo3_3_2_0:LO 3 3 2 0 32:=fun s=>by kernel_rfl
theorem lo3_3_5_160:LO 3 3 5 160 32:=fun s=>by kernel_rfl
theorem lo4_3_4_64:LO 4 3 4 64 32:=fun s=>by kernel_rfl
theorem lo4_4_4_96:LO 4 4 4 96 32:=fun s=>by kernel_rfl
theorem lo5_4_3_0:LO 5 4 3 0 32:=fun s=>by kernel_rfl
theorem lo5_5_3_32:LO 5 5 3 32 32:=fun s=>by kernel_rfl
theorem lo6_5_1_0:LO 6 5 1 0 32:=fun s=>by kernel_rfl
theorem lo6_6_2_0:LO 6 6 2 0 32:=fun s=>by kernel_rfl
theorem lo7_6_0_0:LO 7 6 0 0 32:=fun s=>by kernel_rfl
theorem lo7_7_1_64:LO 7 7 1 64 32:=fun s=>by kernel_rfl
theorem gt3_5:∀ s,fsChk Tryz.prog codeN nat0 1000 12 100 s (gtA 3 5)=true:=fun s=>by kernel_rfl
theorem dn5:∀ s,fsTrees Tryz.prog codeN nat0 1000 21 100 s (.pin 1 fun _=>.leaf) (dnA 5)=true:=fun s=>by kernel_rfl
theorem lo4_0_4_0:LO 4 0 4 0 16:=fun s=>by kernel_rfl
theorem lo7_3_1_0:LO 7 3 1 0 16:=fun s=>by kernel_rfl
theorem dn7:∀ s,fsTrees Tryz.prog codeN nat0 1000 21 100 s (.pin 1 fun _=>.leaf) (dnA 7)=true:=fun s=>by kernel_rfl
theorem lo1_1_2_0:LO 1 1 2 0 8:=fun s=>by kernel_rfl
theorem lo5_0_3_0:LO 5 0 3 0 8:=fun s=>by kernel_rfl
theorem gt0_3:∀ s,fsChk Tryz.prog codeN nat0 1000 12 100 s (gtA 0 3)=true:=fun s=>by kernel_rfl
theorem lo3_1_1_0:LO 3 1 1 0 4:=fun s=>by kernel_rfl
theorem lo7_2_0_0:LO 7 2 0 0 4:=fun s=>by kernel_rfl
theorem lo1_0_0_0:LO 1 0 0 0 1:=fun s=>by kernel_rfl
theorem gv1:∀ s,fsChk Tryz.prog codeN nat1 1000 102 100 s [gvE 1]=true:=fun s=>by kernel_rfl
end Go.Ev
