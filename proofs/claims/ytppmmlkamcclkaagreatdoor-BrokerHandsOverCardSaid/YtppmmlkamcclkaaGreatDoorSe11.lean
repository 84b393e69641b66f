/- Summaries: each one is a run. -/
import Derived.Test.YtppmmlkamcclkaaGreatDoorMm
namespace Go.Ev
open Go.Proofs
set_option maxRecDepth 1000000
set_option linter.unusedVariables false
theorem lo0_0_6_0:LO 0 0 6 0 32:=fun s=>by kernel_rfl
theorem lo0_0_7_0:LO 0 0 7 0 32:=fun s=>by kernel_rfl
theorem lo1_0_5_0:LO 1 0 5 0 32:=fun s=>by kernel_rfl
theorem lo1_1_6_64:LO 1 1 6 64 32:=fun s=>by kernel_rfl
theorem lo2_0_6_32:LO 2 0 6 32 32:=fun s=>by kernel_rfl
theorem lo2_2_5_32:LO 2 2 5 32 32:=fun s=>by kernel_rfl
theorem lo3_1_4_0:LO 3 1 4 0 32:=fun s=>by kernel_rfl
theorem lo3_3_3_32:LO 3 3 3 32 32:=fun s=>by kernel_rfl
theorem lo3_3_5_224:LO 3 3 5 224 32:=fun s=>by kernel_rfl
theorem lo4_4_1_0:LO 4 4 1 0 32:=fun s=>by kernel_rfl
theorem lo4_4_4_160:LO 4 4 4 160 32:=fun s=>by kernel_rfl
theorem lo5_4_3_64:LO 5 4 3 64 32:=fun s=>by kernel_rfl
theorem lo5_5_3_96:LO 5 5 3 96 32:=fun s=>by kernel_rfl
theorem lo6_5_2_0:LO 6 5 2 0 32:=fun s=>by kernel_rfl
theorem lo6_6_2_64:LO 6 6 2 64 32:=fun s=>by kernel_rfl
theorem lo7_6_1_0:LO 7 6 1 0 32:=fun s=>by kernel_rfl
theorem lo7_7_1_128:LO 7 7 1 128 32:=fun s=>by kernel_rfl
theorem dn4:∀ s,fsTrees Tryz.prog codeN nat0 1000 21 100 s (.pin 1 fun _=>.leaf) (dnA 4)=true:=fun s=>by kernel_rfl
theorem lo0_0_4_0:LO 0 0 4 0 16:=fun s=>by kernel_rfl
theorem lo4_2_2_0:LO 4 2 2 0 16:=fun s=>by kernel_rfl
theorem al4:∀ s,fsChk Tryz.prog codeN nat3 1000 14 100 s [alE 4]=true:=fun s=>by kernel_rfl
theorem lo3_0_3_0:LO 3 0 3 0 8:=fun s=>by kernel_rfl
theorem lo6_1_2_0:LO 6 1 2 0 8:=fun s=>by kernel_rfl
theorem gt0_7:∀ s,fsChk Tryz.prog codeN nat0 1000 12 100 s (gtA 0 7)=true:=fun s=>by kernel_rfl
theorem lo4_2_0_0:LO 4 2 0 0 4:=fun s=>by kernel_rfl
theorem lo2_0_1_0:LO 2 0 1 0 2:=fun s=>by kernel_rfl
theorem lo4_1_0_0:LO 4 1 0 0 2:=fun s=>by kernel_rfl
theorem lo5_0_0_0:LO 5 0 0 0 1:=fun s=>by kernel_rfl
theorem cp0:∀ s,fsChk Tryz.prog codeN nat0 1000 106 100 s [cpE]=true:=fun s=>by kernel_rfl
end Go.Ev
