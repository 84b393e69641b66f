/- Summaries: each one is a run. -/
import Derived.Test.YtppmmlkamcclkaaGreatDoorMm
namespace Go.Ev
open Go.Proofs
set_option maxRecDepth 1000000
set_option linter.unusedVariables false
theorem gt4_4:∀ s,fsChk Tryz.prog codeN nat0 1000 12 100 s (gtA 4 4)=true:=fun s=>by kernel_rfl
theorem lo0_0_8_32:LO 0 0 8 32 32:=fun s=>by kernel_rfl
theorem lo1_0_7_64:LO 1 0 7 64 32:=fun s=>by kernel_rfl
theorem lo1_1_7_96:LO 1 1 7 96 32:=fun s=>by kernel_rfl
theorem lo2_1_6_32:LO 2 1 6 32 32:=fun s=>by kernel_rfl
theorem lo2_2_6_64:LO 2 2 6 64 32:=fun s=>by kernel_rfl
theorem lo3_2_4_32:LO 3 2 4 32 32:=fun s=>by kernel_rfl
theorem lo3_3_5_0:LO 3 3 5 0 32:=fun s=>by kernel_rfl
theorem lo4_3_2_0:LO 4 3 2 0 32:=fun s=>by kernel_rfl
theorem lo4_4_3_64:LO 4 4 3 64 32:=fun s=>by kernel_rfl
theorem lo5_3_3_0:LO 5 3 3 0 32:=fun s=>by kernel_rfl
theorem lo5_5_2_0:LO 5 5 2 0 32:=fun s=>by kernel_rfl
theorem lo6_3_2_0:LO 6 3 2 0 32:=fun s=>by kernel_rfl
theorem lo6_6_0_32:LO 6 6 0 32 32:=fun s=>by kernel_rfl
theorem lo6_6_2_224:LO 6 6 2 224 32:=fun s=>by kernel_rfl
theorem lo7_7_0_32:LO 7 7 0 32 32:=fun s=>by kernel_rfl
theorem dn2:∀ s,fsTrees Tryz.prog codeN nat0 1000 21 100 s (.pin 1 fun _=>.leaf) (dnA 2)=true:=fun s=>by kernel_rfl
theorem al7:∀ s,fsChk Tryz.prog codeN nat3 1000 14 100 s [alE 7]=true:=fun s=>by kernel_rfl
theorem lo3_3_1_0:LO 3 3 1 0 16:=fun s=>by kernel_rfl
theorem lo6_4_0_0:LO 6 4 0 0 16:=fun s=>by kernel_rfl
theorem al3:∀ s,fsChk Tryz.prog codeN nat3 1000 14 100 s [alE 3]=true:=fun s=>by kernel_rfl
theorem lo3_1_2_0:LO 3 1 2 0 8:=fun s=>by kernel_rfl
theorem lo6_2_1_0:LO 6 2 1 0 8:=fun s=>by kernel_rfl
theorem cm0:∀ s,fsChk Tryz.prog codeN nat0 1000 5 100 s [cmE]=true:=fun s=>by kernel_rfl
theorem lo1_0_2_0:LO 1 0 2 0 4:=fun s=>by kernel_rfl
theorem lo5_1_1_0:LO 5 1 1 0 4:=fun s=>by kernel_rfl
theorem lo5_0_1_0:LO 5 0 1 0 2:=fun s=>by kernel_rfl
theorem lo6_0_0_0:LO 6 0 0 0 1:=fun s=>by kernel_rfl
end Go.Ev
