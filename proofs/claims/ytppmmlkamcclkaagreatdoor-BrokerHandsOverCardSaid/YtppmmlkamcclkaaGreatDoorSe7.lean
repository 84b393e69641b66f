/- Summaries: each one is a run. -/
import Derived.Test.YtppmmlkamcclkaaGreatDoorMm
namespace Go.Ev
open Go.Proofs
set_option maxRecDepth 1000000
set_option linter.unusedVariables false
theorem gt4_3:∀ s,fsChk Tryz.prog codeN nat0 1000 12 100 s (gtA 4 3)=true:=fun s=>by kernel_rfl
theorem lo0_0_8_0:LO 0 0 8 0 32:=fun s=>by kernel_rfl
theorem lo1_0_7_32:LO 1 0 7 32 32:=fun s=>by kernel_rfl
theorem lo1_1_7_64:LO 1 1 7 64 32:=fun s=>by kernel_rfl
theorem lo2_1_6_0:LO 2 1 6 0 32:=fun s=>by kernel_rfl
theorem lo2_2_6_32:LO 2 2 6 32 32:=fun s=>by kernel_rfl
theorem lo3_2_4_0:LO 3 2 4 0 32:=fun s=>by kernel_rfl
theorem lo3_3_4_96:LO 3 3 4 96 32:=fun s=>by kernel_rfl
theorem lo4_2_4_32:LO 4 2 4 32 32:=fun s=>by kernel_rfl
theorem lo4_4_3_32:LO 4 4 3 32 32:=fun s=>by kernel_rfl
theorem lo5_3_2_0:LO 5 3 2 0 32:=fun s=>by kernel_rfl
theorem lo5_5_1_32:LO 5 5 1 32 32:=fun s=>by kernel_rfl
theorem lo5_5_3_224:LO 5 5 3 224 32:=fun s=>by kernel_rfl
theorem lo6_6_0_0:LO 6 6 0 0 32:=fun s=>by kernel_rfl
theorem lo6_6_2_192:LO 6 6 2 192 32:=fun s=>by kernel_rfl
theorem lo7_7_0_0:LO 7 7 0 0 32:=fun s=>by kernel_rfl
theorem al8:∀ s,fsChk Tryz.prog codeN nat3 1000 14 100 s [alE 8]=true:=fun s=>by kernel_rfl
theorem dn3:∀ s,fsTrees Tryz.prog codeN nat0 1000 21 100 s (.pin 1 fun _=>.leaf) (dnA 3)=true:=fun s=>by kernel_rfl
theorem lo3_2_2_0:LO 3 2 2 0 16:=fun s=>by kernel_rfl
theorem lo6_3_1_0:LO 6 3 1 0 16:=fun s=>by kernel_rfl
theorem dn6:∀ s,fsTrees Tryz.prog codeN nat0 1000 21 100 s (.pin 1 fun _=>.leaf) (dnA 6)=true:=fun s=>by kernel_rfl
theorem lo3_2_1_0:LO 3 2 1 0 8:=fun s=>by kernel_rfl
theorem lo6_3_0_0:LO 6 3 0 0 8:=fun s=>by kernel_rfl
theorem ls0:∀ s,fsChk Tryz.prog codeN nat0 1000 7 100 s [lsE]=true:=fun s=>by kernel_rfl
theorem lo2_0_2_0:LO 2 0 2 0 4:=fun s=>by kernel_rfl
theorem lo6_0_2_0:LO 6 0 2 0 4:=fun s=>by kernel_rfl
theorem lo6_1_0_0:LO 6 1 0 0 2:=fun s=>by kernel_rfl
theorem gv3:∀ s,fsChk Tryz.prog codeN nat1 1000 102 100 s [gvE 3]=true:=fun s=>by kernel_rfl
end Go.Ev
