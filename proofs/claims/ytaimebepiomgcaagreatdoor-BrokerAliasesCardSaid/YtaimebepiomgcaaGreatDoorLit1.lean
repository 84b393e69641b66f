/- The compact code of the program's functions, written out, and that it is what the compiler makes of them (1). -/
import Derived.Test.YtaimebepiomgcaaGreatDoorEvSym
import Derived.Test.YtaimebepiomgcaaGreatDoorProg
import Derived.KernelRfl
namespace Go.Ev
open Go.Proofs
set_option maxRecDepth 1000000
set_option maxHeartbeats 8000000
abbrev CL1 (n : Nat) : Type := {c : CFn // compFn Tryz.prog n = c}
def c110s : CL1 110 := ⟨_, by conv => lhs; reduce⟩
def c110 : CFn := c110s.1
theorem c110_ok : c110 = compFn Tryz.prog 110 := c110s.2.symm
def c111s : CL1 111 := ⟨_, by conv => lhs; reduce⟩
def c111 : CFn := c111s.1
theorem c111_ok : c111 = compFn Tryz.prog 111 := c111s.2.symm
def c112s : CL1 112 := ⟨_, by conv => lhs; reduce⟩
def c112 : CFn := c112s.1
theorem c112_ok : c112 = compFn Tryz.prog 112 := c112s.2.symm
def c113s : CL1 113 := ⟨_, by conv => lhs; reduce⟩
def c113 : CFn := c113s.1
theorem c113_ok : c113 = compFn Tryz.prog 113 := c113s.2.symm
def c114s : CL1 114 := ⟨_, by conv => lhs; reduce⟩
def c114 : CFn := c114s.1
theorem c114_ok : c114 = compFn Tryz.prog 114 := c114s.2.symm
def c115s : CL1 115 := ⟨_, by conv => lhs; reduce⟩
def c115 : CFn := c115s.1
theorem c115_ok : c115 = compFn Tryz.prog 115 := c115s.2.symm
def c116s : CL1 116 := ⟨_, by conv => lhs; reduce⟩
def c116 : CFn := c116s.1
theorem c116_ok : c116 = compFn Tryz.prog 116 := c116s.2.symm
def c117s : CL1 117 := ⟨_, by conv => lhs; reduce⟩
def c117 : CFn := c117s.1
theorem c117_ok : c117 = compFn Tryz.prog 117 := c117s.2.symm
def c118s : CL1 118 := ⟨_, by conv => lhs; reduce⟩
def c118 : CFn := c118s.1
theorem c118_ok : c118 = compFn Tryz.prog 118 := c118s.2.symm
def c119s : CL1 119 := ⟨_, by conv => lhs; reduce⟩
def c119 : CFn := c119s.1
theorem c119_ok : c119 = compFn Tryz.prog 119 := c119s.2.symm
def c120s : CL1 120 := ⟨_, by conv => lhs; reduce⟩
def c120 : CFn := c120s.1
theorem c120_ok : c120 = compFn Tryz.prog 120 := c120s.2.symm
def c121 : CFn := .mk (.seq (.region [.o (.mv (.k (.bool false))) (.s .d4)]) (.seq (.seq (.region [.i (.mv (.l (.s .d0))), .i (.lenSl (.e 0)), .i (.mv (.l (.s .d1))), .i (.lenSl (.e 0)), .o (.arith .neq (.e 2) (.e 0)) (.s .d10)]) (.cond (.l (.s .d10)) (.seq (.region [.o (.mv (.k (.bool false))) (.s .d4)]) .ret) .skip)) (.seq (.seq (.region [.o (.mv (.k (.nat 0))) (.s .d5)]) (.block 0 (.loop (.seq (.seq (.region [.i (.mv (.l (.s .d5))), .i (.mv (.l (.s .d0))), .i (.lenSl (.e 0)), .o (.arith .lss (.e 2) (.e 0)) (.s .d14)]) (.cond (.l (.s .d14)) .skip (.exit 0))) (.seq (.block 1 (.seq (.dregion [⟨.i (.mv (.l (.s .d0))), false, 0⟩, ⟨.i (.mv (.l (.s .d5))), false, 0⟩, ⟨.i (.ixSl 5 (.e 1) (.e 0)), false, 0⟩, ⟨.i (.loadN 5 (.e 0)), false, 0⟩, ⟨.i (.mv (.l (.s .d1))), false, 0⟩, ⟨.i (.mv (.l (.s .d5))), false, 0⟩, ⟨.i (.ixSl 5 (.e 1) (.e 0)), false, 0⟩, ⟨.i (.loadN 5 (.e 0)), false, 0⟩, ⟨.i (.call 160 [(.e 4), (.e 0)]), true, 0⟩, ⟨.o (.un .not (.e 0)) (.w .d0 .d10), false, 0⟩]) (.cond (.l (.w .d0 .d10)) (.seq (.region [.o (.mv (.k (.bool false))) (.s .d4)]) .ret) .skip))) (.region [.i (.mv (.l (.s .d5))), .i (.arith .add (.e 0) (.k (.nat 1))), .o (.mv (.e 0)) (.s .d5)])))))) (.seq (.region [.o (.mv (.k (.bool true))) (.s .d4)]) .ret)))) [(.tmp (.l (.s .d4)))]
theorem c121_ok : c121 = compFn Tryz.prog 121 := by kernel_rfl
def c122 : CFn := .bad 122
def c123s : CL1 123 := ⟨_, by conv => lhs; reduce⟩
def c123 : CFn := c123s.1
theorem c123_ok : c123 = compFn Tryz.prog 123 := c123s.2.symm
def c124s : CL1 124 := ⟨_, by conv => lhs; reduce⟩
def c124 : CFn := c124s.1
theorem c124_ok : c124 = compFn Tryz.prog 124 := c124s.2.symm
def c125 : CFn := .bad 125
def c126s : CL1 126 := ⟨_, by conv => lhs; reduce⟩
def c126 : CFn := c126s.1
theorem c126_ok : c126 = compFn Tryz.prog 126 := c126s.2.symm
def c127s : CL1 127 := ⟨_, by conv => lhs; reduce⟩
def c127 : CFn := c127s.1
theorem c127_ok : c127 = compFn Tryz.prog 127 := c127s.2.symm
def c128 : CFn := .bad 128
def c129 : CFn := .bad 129
def c130s : CL1 130 := ⟨_, by conv => lhs; reduce⟩
def c130 : CFn := c130s.1
theorem c130_ok : c130 = compFn Tryz.prog 130 := c130s.2.symm
def c131 : CFn := .bad 131
def c132 : CFn := .bad 132
def c133 : CFn := .bad 133
def c134s : CL1 134 := ⟨_, by conv => lhs; reduce⟩
def c134 : CFn := c134s.1
theorem c134_ok : c134 = compFn Tryz.prog 134 := c134s.2.symm
def c135 : CFn := .bad 135
def c136s : CL1 136 := ⟨_, by conv => lhs; reduce⟩
def c136 : CFn := c136s.1
theorem c136_ok : c136 = compFn Tryz.prog 136 := c136s.2.symm
def c137s : CL1 137 := ⟨_, by conv => lhs; reduce⟩
def c137 : CFn := c137s.1
theorem c137_ok : c137 = compFn Tryz.prog 137 := c137s.2.symm
def c138s : CL1 138 := ⟨_, by conv => lhs; reduce⟩
def c138 : CFn := c138s.1
theorem c138_ok : c138 = compFn Tryz.prog 138 := c138s.2.symm
def c139s : CL1 139 := ⟨_, by conv => lhs; reduce⟩
def c139 : CFn := c139s.1
theorem c139_ok : c139 = compFn Tryz.prog 139 := c139s.2.symm
def c140s : CL1 140 := ⟨_, by conv => lhs; reduce⟩
def c140 : CFn := c140s.1
theorem c140_ok : c140 = compFn Tryz.prog 140 := c140s.2.symm
def c141s : CL1 141 := ⟨_, by conv => lhs; reduce⟩
def c141 : CFn := c141s.1
theorem c141_ok : c141 = compFn Tryz.prog 141 := c141s.2.symm
def c142s : CL1 142 := ⟨_, by conv => lhs; reduce⟩
def c142 : CFn := c142s.1
theorem c142_ok : c142 = compFn Tryz.prog 142 := c142s.2.symm
def c143s : CL1 143 := ⟨_, by conv => lhs; reduce⟩
def c143 : CFn := c143s.1
theorem c143_ok : c143 = compFn Tryz.prog 143 := c143s.2.symm
def c144s : CL1 144 := ⟨_, by conv => lhs; reduce⟩
def c144 : CFn := c144s.1
theorem c144_ok : c144 = compFn Tryz.prog 144 := c144s.2.symm
def c145s : CL1 145 := ⟨_, by conv => lhs; reduce⟩
def c145 : CFn := c145s.1
theorem c145_ok : c145 = compFn Tryz.prog 145 := c145s.2.symm
def c146s : CL1 146 := ⟨_, by conv => lhs; reduce⟩
def c146 : CFn := c146s.1
theorem c146_ok : c146 = compFn Tryz.prog 146 := c146s.2.symm
def c147s : CL1 147 := ⟨_, by conv => lhs; reduce⟩
def c147 : CFn := c147s.1
theorem c147_ok : c147 = compFn Tryz.prog 147 := c147s.2.symm
def c148s : CL1 148 := ⟨_, by conv => lhs; reduce⟩
def c148 : CFn := c148s.1
theorem c148_ok : c148 = compFn Tryz.prog 148 := c148s.2.symm
def c149s : CL1 149 := ⟨_, by conv => lhs; reduce⟩
def c149 : CFn := c149s.1
theorem c149_ok : c149 = compFn Tryz.prog 149 := c149s.2.symm
def c150s : CL1 150 := ⟨_, by conv => lhs; reduce⟩
def c150 : CFn := c150s.1
theorem c150_ok : c150 = compFn Tryz.prog 150 := c150s.2.symm
def c151s : CL1 151 := ⟨_, by conv => lhs; reduce⟩
def c151 : CFn := c151s.1
theorem c151_ok : c151 = compFn Tryz.prog 151 := c151s.2.symm
def c152s : CL1 152 := ⟨_, by conv => lhs; reduce⟩
def c152 : CFn := c152s.1
theorem c152_ok : c152 = compFn Tryz.prog 152 := c152s.2.symm
def c153s : CL1 153 := ⟨_, by conv => lhs; reduce⟩
def c153 : CFn := c153s.1
theorem c153_ok : c153 = compFn Tryz.prog 153 := c153s.2.symm
def c154s : CL1 154 := ⟨_, by conv => lhs; reduce⟩
def c154 : CFn := c154s.1
theorem c154_ok : c154 = compFn Tryz.prog 154 := c154s.2.symm
def c155s : CL1 155 := ⟨_, by conv => lhs; reduce⟩
def c155 : CFn := c155s.1
theorem c155_ok : c155 = compFn Tryz.prog 155 := c155s.2.symm
def c156s : CL1 156 := ⟨_, by conv => lhs; reduce⟩
def c156 : CFn := c156s.1
theorem c156_ok : c156 = compFn Tryz.prog 156 := c156s.2.symm
def c157s : CL1 157 := ⟨_, by conv => lhs; reduce⟩
def c157 : CFn := c157s.1
theorem c157_ok : c157 = compFn Tryz.prog 157 := c157s.2.symm
def c158s : CL1 158 := ⟨_, by conv => lhs; reduce⟩
def c158 : CFn := c158s.1
theorem c158_ok : c158 = compFn Tryz.prog 158 := c158s.2.symm
def c159s : CL1 159 := ⟨_, by conv => lhs; reduce⟩
def c159 : CFn := c159s.1
theorem c159_ok : c159 = compFn Tryz.prog 159 := c159s.2.symm
def c160s : CL1 160 := ⟨_, by conv => lhs; reduce⟩
def c160 : CFn := c160s.1
theorem c160_ok : c160 = compFn Tryz.prog 160 := c160s.2.symm
def c161s : CL1 161 := ⟨_, by conv => lhs; reduce⟩
def c161 : CFn := c161s.1
theorem c161_ok : c161 = compFn Tryz.prog 161 := c161s.2.symm
def c162 : CFn := .bad 162
def c163 : CFn := .bad 163
def c164 : CFn := .bad 164
def c165 : CFn := .bad 165
def c166 : CFn := .bad 166
def c167 : CFn := .bad 167
def c168 : CFn := .bad 168
def c169 : CFn := .bad 169
def c170 : CFn := .bad 170
def c171s : CL1 171 := ⟨_, by conv => lhs; reduce⟩
def c171 : CFn := c171s.1
theorem c171_ok : c171 = compFn Tryz.prog 171 := c171s.2.symm
def c172 : CFn := .bad 172
def c173s : CL1 173 := ⟨_, by conv => lhs; reduce⟩
def c173 : CFn := c173s.1
theorem c173_ok : c173 = compFn Tryz.prog 173 := c173s.2.symm
def c174s : CL1 174 := ⟨_, by conv => lhs; reduce⟩
def c174 : CFn := c174s.1
theorem c174_ok : c174 = compFn Tryz.prog 174 := c174s.2.symm
def c175s : CL1 175 := ⟨_, by conv => lhs; reduce⟩
def c175 : CFn := c175s.1
theorem c175_ok : c175 = compFn Tryz.prog 175 := c175s.2.symm
def c176s : CL1 176 := ⟨_, by conv => lhs; reduce⟩
def c176 : CFn := c176s.1
theorem c176_ok : c176 = compFn Tryz.prog 176 := c176s.2.symm
def c177s : CL1 177 := ⟨_, by conv => lhs; reduce⟩
def c177 : CFn := c177s.1
theorem c177_ok : c177 = compFn Tryz.prog 177 := c177s.2.symm
def c178s : CL1 178 := ⟨_, by conv => lhs; reduce⟩
def c178 : CFn := c178s.1
theorem c178_ok : c178 = compFn Tryz.prog 178 := c178s.2.symm
def c179 : CFn := .bad 179
def c180 : CFn := .bad 180
def c181 : CFn := .bad 181
def c182 : CFn := .bad 182
def c183s : CL1 183 := ⟨_, by conv => lhs; reduce⟩
def c183 : CFn := c183s.1
theorem c183_ok : c183 = compFn Tryz.prog 183 := c183s.2.symm
def c184s : CL1 184 := ⟨_, by conv => lhs; reduce⟩
def c184 : CFn := c184s.1
theorem c184_ok : c184 = compFn Tryz.prog 184 := c184s.2.symm
def c185s : CL1 185 := ⟨_, by conv => lhs; reduce⟩
def c185 : CFn := c185s.1
theorem c185_ok : c185 = compFn Tryz.prog 185 := c185s.2.symm
def c186s : CL1 186 := ⟨_, by conv => lhs; reduce⟩
def c186 : CFn := c186s.1
theorem c186_ok : c186 = compFn Tryz.prog 186 := c186s.2.symm
def c187s : CL1 187 := ⟨_, by conv => lhs; reduce⟩
def c187 : CFn := c187s.1
theorem c187_ok : c187 = compFn Tryz.prog 187 := c187s.2.symm
def c188s : CL1 188 := ⟨_, by conv => lhs; reduce⟩
def c188 : CFn := c188s.1
theorem c188_ok : c188 = compFn Tryz.prog 188 := c188s.2.symm
def c189s : CL1 189 := ⟨_, by conv => lhs; reduce⟩
def c189 : CFn := c189s.1
theorem c189_ok : c189 = compFn Tryz.prog 189 := c189s.2.symm
def c190s : CL1 190 := ⟨_, by conv => lhs; reduce⟩
def c190 : CFn := c190s.1
theorem c190_ok : c190 = compFn Tryz.prog 190 := c190s.2.symm
def c191 : CFn := .mk (.seq (.region [.o (.box (.l (.s .d0))) (.s .d2), .o (.box (.l (.s .d1))) (.s .d3), .o (.mv (.k (.bool false))) (.s .d4)]) (.seq (.region [.i (.addOff 8 (.l (.s .d2))), .i (.load1 (.e 0)), .i (.addOff 8 (.l (.s .d3))), .i (.load1 (.e 0)), .i (.call 229 [(.e 2), (.e 0)]), .i (.mv (.e 0)), .g (.e 0) true (.addOff 10 (.l (.s .d2))) none, .g (.e 1) true (.load1 (.e 0)) none, .g (.e 2) true (.addOff 10 (.l (.s .d3))) none, .g (.e 3) true (.load1 (.e 0)) none, .g (.e 4) true (.call 230 [(.e 2), (.e 0)]) none, .i (.pick (.e 5) (.e 0) (.k (.bool false))), .i (.mv (.e 0)), .g (.e 0) true (.addOff 11 (.l (.s .d2))) none, .g (.e 1) true (.load1 (.e 0)) none, .g (.e 2) true (.addOff 11 (.l (.s .d3))) none, .g (.e 3) true (.load1 (.e 0)) none, .g (.e 4) true (.call 231 [(.e 2), (.e 0)]) none, .i (.pick (.e 5) (.e 0) (.k (.bool false))), .i (.mv (.e 0)), .g (.e 0) true (.addOff 9 (.l (.s .d2))) none, .g (.e 1) true (.load1 (.e 0)) none, .g (.e 2) true (.addOff 9 (.l (.s .d3))) none, .g (.e 3) true (.load1 (.e 0)) none, .g (.e 4) true (.call 232 [(.e 2), (.e 0)]) none, .i (.pick (.e 5) (.e 0) (.k (.bool false))), .i (.mv (.e 0)), .g (.e 0) true (.addOff 16 (.l (.s .d2))) none, .g (.e 1) true (.addOff 4 (.e 0)) none, .g (.e 2) true (.load1 (.e 0)) none, .g (.e 3) true (.addOff 16 (.l (.s .d3))) none, .g (.e 4) true (.addOff 4 (.e 0)) none, .g (.e 5) true (.load1 (.e 0)) none, .g (.e 6) true (.call 232 [(.e 3), (.e 0)]) none, .i (.pick (.e 7) (.e 0) (.k (.bool false))), .o (.mv (.e 0)) (.s .d5)]) (.seq (.region [.i (.addOff 6 (.l (.s .d2))), .i (.load1 (.e 0)), .i (.cvBS (.e 0)), .i (.addOff 6 (.l (.s .d3))), .i (.load1 (.e 0)), .i (.cvBS (.e 0)), .i (.arith .eql (.e 3) (.e 0)), .i (.mv (.e 0)), .g (.e 0) true (.addOff 24 (.l (.s .d2))) none, .g (.e 1) true (.load1 (.e 0)) none, .g (.e 2) true (.cvBS (.e 0)) none, .g (.e 3) true (.addOff 24 (.l (.s .d3))) none, .g (.e 4) true (.load1 (.e 0)) none, .g (.e 5) true (.cvBS (.e 0)) none, .g (.e 6) true (.arith .eql (.e 3) (.e 0)) none, .i (.pick (.e 7) (.e 0) (.k (.bool false))), .i (.mv (.e 0)), .g (.e 0) true (.addOff 16 (.l (.s .d2))) none, .g (.e 1) true (.addOff 1 (.e 0)) none, .g (.e 2) true (.load1 (.e 0)) none, .g (.e 3) true (.cvBS (.e 0)) none, .g (.e 4) true (.addOff 16 (.l (.s .d3))) none, .g (.e 5) true (.addOff 1 (.e 0)) none, .g (.e 6) true (.load1 (.e 0)) none, .g (.e 7) true (.cvBS (.e 0)) none, .g (.e 8) true (.arith .eql (.e 4) (.e 0)) none, .i (.pick (.e 9) (.e 0) (.k (.bool false))), .o (.mv (.e 0)) (.s .d6)]) (.seq (.region [.i (.addOff 16 (.l (.s .d2))), .i (.addOff 0 (.e 0)), .i (.load1 (.e 0)), .i (.addOff 16 (.l (.s .d3))), .i (.addOff 0 (.e 0)), .i (.load1 (.e 0)), .i (.arith .eql (.e 3) (.e 0)), .i (.mv (.e 0)), .g (.e 0) true (.addOff 16 (.l (.s .d2))) none, .g (.e 1) true (.addOff 2 (.e 0)) none, .g (.e 2) true (.load1 (.e 0)) none, .g (.e 3) true (.addOff 16 (.l (.s .d3))) none, .g (.e 4) true (.addOff 2 (.e 0)) none, .g (.e 5) true (.load1 (.e 0)) none, .g (.e 6) true (.arith .eql (.e 3) (.e 0)) none, .i (.pick (.e 7) (.e 0) (.k (.bool false))), .i (.mv (.e 0)), .g (.e 0) true (.addOff 16 (.l (.s .d2))) none, .g (.e 1) true (.addOff 3 (.e 0)) none, .g (.e 2) true (.load1 (.e 0)) none, .g (.e 3) true (.addOff 16 (.l (.s .d3))) none, .g (.e 4) true (.addOff 3 (.e 0)) none, .g (.e 5) true (.load1 (.e 0)) none, .g (.e 6) true (.eq false .bool false (.e 3) (.e 0)) none, .i (.pick (.e 7) (.e 0) (.k (.bool false))), .o (.mv (.e 0)) (.s .d7)]) (.seq (.region [.i (.addOff 1 (.l (.s .d2))), .i (.load1 (.e 0)), .i (.addOff 1 (.l (.s .d3))), .i (.load1 (.e 0)), .i (.eq false .bool false (.e 2) (.e 0)), .i (.mv (.e 0)), .g (.e 0) true (.addOff 3 (.l (.s .d2))) none, .g (.e 1) true (.load1 (.e 0)) none, .g (.e 2) true (.addOff 3 (.l (.s .d3))) none, .g (.e 3) true (.load1 (.e 0)) none, .g (.e 4) true (.eq false .bool false (.e 2) (.e 0)) none, .i (.pick (.e 5) (.e 0) (.k (.bool false))), .i (.mv (.e 0)), .g (.e 0) true (.addOff 12 (.l (.s .d2))) none, .g (.e 1) true (.load1 (.e 0)) none, .g (.e 2) true (.addOff 12 (.l (.s .d3))) none, .g (.e 3) true (.load1 (.e 0)) none, .g (.e 4) true (.eq false .bool false (.e 2) (.e 0)) none, .i (.pick (.e 5) (.e 0) (.k (.bool false))), .i (.mv (.e 0)), .g (.e 0) true (.addOff 15 (.l (.s .d2))) none, .g (.e 1) true (.load1 (.e 0)) none, .g (.e 2) true (.addOff 15 (.l (.s .d3))) none, .g (.e 3) true (.load1 (.e 0)) none, .g (.e 4) true (.eq false .bool false (.e 2) (.e 0)) none, .i (.pick (.e 5) (.e 0) (.k (.bool false))), .i (.mv (.e 0)), .g (.e 0) true (.addOff 21 (.l (.s .d2))) none, .g (.e 1) true (.load1 (.e 0)) none, .g (.e 2) true (.addOff 21 (.l (.s .d3))) none, .g (.e 3) true (.load1 (.e 0)) none, .g (.e 4) true (.eq false .bool false (.e 2) (.e 0)) none, .i (.pick (.e 5) (.e 0) (.k (.bool false))), .i (.mv (.e 0)), .g (.e 0) true (.addOff 23 (.l (.s .d2))) none, .g (.e 1) true (.load1 (.e 0)) none, .g (.e 2) true (.addOff 23 (.l (.s .d3))) none, .g (.e 3) true (.load1 (.e 0)) none, .g (.e 4) true (.eq false .bool false (.e 2) (.e 0)) none, .i (.pick (.e 5) (.e 0) (.k (.bool false))), .i (.mv (.e 0)), .g (.e 0) true (.addOff 25 (.l (.s .d2))) none, .g (.e 1) true (.load1 (.e 0)) none, .g (.e 2) true (.addOff 25 (.l (.s .d3))) none, .g (.e 3) true (.load1 (.e 0)) none, .g (.e 4) true (.eq false .bool false (.e 2) (.e 0)) none, .i (.pick (.e 5) (.e 0) (.k (.bool false))), .o (.mv (.e 0)) (.s .d8)]) (.seq (.region [.i (.mv (.l (.s .d5))), .i (.mv (.e 0)), .g (.e 0) true (.mv (.l (.s .d6))) none, .i (.pick (.e 1) (.e 0) (.k (.bool false))), .i (.mv (.e 0)), .g (.e 0) true (.mv (.l (.s .d7))) none, .i (.pick (.e 1) (.e 0) (.k (.bool false))), .i (.mv (.e 0)), .g (.e 0) true (.mv (.l (.s .d8))) none, .i (.pick (.e 1) (.e 0) (.k (.bool false))), .i (.mv (.e 0)), .g (.e 0) true (.addOff 0 (.l (.s .d2))) none, .g (.e 1) true (.load1 (.e 0)) none, .g (.e 2) true (.addOff 0 (.l (.s .d3))) none, .g (.e 3) true (.load1 (.e 0)) none, .g (.e 4) true (.arith .eql (.e 2) (.e 0)) none, .i (.pick (.e 5) (.e 0) (.k (.bool false))), .i (.mv (.e 0)), .g (.e 0) true (.addOff 2 (.l (.s .d2))) none, .g (.e 1) true (.load1 (.e 0)) none, .g (.e 2) true (.addOff 2 (.l (.s .d3))) none, .g (.e 3) true (.load1 (.e 0)) none, .g (.e 4) true (.arith .eql (.e 2) (.e 0)) none, .i (.pick (.e 5) (.e 0) (.k (.bool false))), .i (.mv (.e 0)), .g (.e 0) true (.addOff 4 (.l (.s .d2))) none, .g (.e 1) true (.load1 (.e 0)) none, .g (.e 2) true (.addOff 4 (.l (.s .d3))) none, .g (.e 3) true (.load1 (.e 0)) none, .g (.e 4) true (.arith .eql (.e 2) (.e 0)) none, .i (.pick (.e 5) (.e 0) (.k (.bool false))), .i (.mv (.e 0)), .g (.e 0) true (.addOff 5 (.l (.s .d2))) none, .g (.e 1) true (.load1 (.e 0)) none, .g (.e 2) true (.addOff 5 (.l (.s .d3))) none, .g (.e 3) true (.load1 (.e 0)) none, .g (.e 4) true (.arith .eql (.e 2) (.e 0)) none, .i (.pick (.e 5) (.e 0) (.k (.bool false))), .i (.mv (.e 0)), .g (.e 0) true (.addOff 7 (.l (.s .d2))) none, .g (.e 1) true (.load1 (.e 0)) none, .g (.e 2) true (.addOff 7 (.l (.s .d3))) none, .g (.e 3) true (.load1 (.e 0)) none, .g (.e 4) true (.arith .eql (.e 2) (.e 0)) none, .i (.pick (.e 5) (.e 0) (.k (.bool false))), .i (.mv (.e 0)), .g (.e 0) true (.addOff 13 (.l (.s .d2))) none, .g (.e 1) true (.load1 (.e 0)) none, .g (.e 2) true (.addOff 13 (.l (.s .d3))) none, .g (.e 3) true (.load1 (.e 0)) none, .g (.e 4) true (.arith .eql (.e 2) (.e 0)) none, .i (.pick (.e 5) (.e 0) (.k (.bool false))), .i (.mv (.e 0)), .g (.e 0) true (.addOff 14 (.l (.s .d2))) none, .g (.e 1) true (.load1 (.e 0)) none, .g (.e 2) true (.addOff 14 (.l (.s .d3))) none, .g (.e 3) true (.load1 (.e 0)) none, .g (.e 4) true (.arith .eql (.e 2) (.e 0)) none, .i (.pick (.e 5) (.e 0) (.k (.bool false))), .i (.mv (.e 0)), .g (.e 0) true (.addOff 22 (.l (.s .d2))) none, .g (.e 1) true (.load1 (.e 0)) none, .g (.e 2) true (.addOff 22 (.l (.s .d3))) none, .g (.e 3) true (.load1 (.e 0)) none, .g (.e 4) true (.arith .eql (.e 2) (.e 0)) none, .i (.pick (.e 5) (.e 0) (.k (.bool false))), .o (.mv (.e 0)) (.s .d4)]) .ret)))))) [(.tmp (.l (.s .d4)))]
theorem c191_ok : c191 = compFn Tryz.prog 191 := by kernel_rfl
def c192s : CL1 192 := ⟨_, by conv => lhs; reduce⟩
def c192 : CFn := c192s.1
theorem c192_ok : c192 = compFn Tryz.prog 192 := c192s.2.symm
def c193s : CL1 193 := ⟨_, by conv => lhs; reduce⟩
def c193 : CFn := c193s.1
theorem c193_ok : c193 = compFn Tryz.prog 193 := c193s.2.symm
def c194s : CL1 194 := ⟨_, by conv => lhs; reduce⟩
def c194 : CFn := c194s.1
theorem c194_ok : c194 = compFn Tryz.prog 194 := c194s.2.symm
def c195s : CL1 195 := ⟨_, by conv => lhs; reduce⟩
def c195 : CFn := c195s.1
theorem c195_ok : c195 = compFn Tryz.prog 195 := c195s.2.symm
def c196s : CL1 196 := ⟨_, by conv => lhs; reduce⟩
def c196 : CFn := c196s.1
theorem c196_ok : c196 = compFn Tryz.prog 196 := c196s.2.symm
def c197s : CL1 197 := ⟨_, by conv => lhs; reduce⟩
def c197 : CFn := c197s.1
theorem c197_ok : c197 = compFn Tryz.prog 197 := c197s.2.symm
def c198s : CL1 198 := ⟨_, by conv => lhs; reduce⟩
def c198 : CFn := c198s.1
theorem c198_ok : c198 = compFn Tryz.prog 198 := c198s.2.symm
def c199 : CFn := .bad 199
def c200 : CFn := .bad 200
def c201 : CFn := .bad 201
def c202 : CFn := .bad 202
def c203 : CFn := .bad 203
def c204 : CFn := .bad 204
def c205s : CL1 205 := ⟨_, by conv => lhs; reduce⟩
def c205 : CFn := c205s.1
theorem c205_ok : c205 = compFn Tryz.prog 205 := c205s.2.symm
def c206s : CL1 206 := ⟨_, by conv => lhs; reduce⟩
def c206 : CFn := c206s.1
theorem c206_ok : c206 = compFn Tryz.prog 206 := c206s.2.symm
def c207s : CL1 207 := ⟨_, by conv => lhs; reduce⟩
def c207 : CFn := c207s.1
theorem c207_ok : c207 = compFn Tryz.prog 207 := c207s.2.symm
def c208s : CL1 208 := ⟨_, by conv => lhs; reduce⟩
def c208 : CFn := c208s.1
theorem c208_ok : c208 = compFn Tryz.prog 208 := c208s.2.symm
def c209s : CL1 209 := ⟨_, by conv => lhs; reduce⟩
def c209 : CFn := c209s.1
theorem c209_ok : c209 = compFn Tryz.prog 209 := c209s.2.symm
def c210s : CL1 210 := ⟨_, by conv => lhs; reduce⟩
def c210 : CFn := c210s.1
theorem c210_ok : c210 = compFn Tryz.prog 210 := c210s.2.symm
def c211 : CFn := .bad 211
def c212 : CFn := .bad 212
def c213 : CFn := .bad 213
def c214 : CFn := .bad 214
def c215s : CL1 215 := ⟨_, by conv => lhs; reduce⟩
def c215 : CFn := c215s.1
theorem c215_ok : c215 = compFn Tryz.prog 215 := c215s.2.symm
def c216 : CFn := .bad 216
def c217s : CL1 217 := ⟨_, by conv => lhs; reduce⟩
def c217 : CFn := c217s.1
theorem c217_ok : c217 = compFn Tryz.prog 217 := c217s.2.symm
def c218s : CL1 218 := ⟨_, by conv => lhs; reduce⟩
def c218 : CFn := c218s.1
theorem c218_ok : c218 = compFn Tryz.prog 218 := c218s.2.symm
def c219 : CFn := .bad 219
def c220s : CL1 220 := ⟨_, by conv => lhs; reduce⟩
def c220 : CFn := c220s.1
theorem c220_ok : c220 = compFn Tryz.prog 220 := c220s.2.symm
def c221s : CL1 221 := ⟨_, by conv => lhs; reduce⟩
def c221 : CFn := c221s.1
theorem c221_ok : c221 = compFn Tryz.prog 221 := c221s.2.symm
def c222s : CL1 222 := ⟨_, by conv => lhs; reduce⟩
def c222 : CFn := c222s.1
theorem c222_ok : c222 = compFn Tryz.prog 222 := c222s.2.symm
def c223s : CL1 223 := ⟨_, by conv => lhs; reduce⟩
def c223 : CFn := c223s.1
theorem c223_ok : c223 = compFn Tryz.prog 223 := c223s.2.symm
def c224s : CL1 224 := ⟨_, by conv => lhs; reduce⟩
def c224 : CFn := c224s.1
theorem c224_ok : c224 = compFn Tryz.prog 224 := c224s.2.symm
def c225s : CL1 225 := ⟨_, by conv => lhs; reduce⟩
def c225 : CFn := c225s.1
theorem c225_ok : c225 = compFn Tryz.prog 225 := c225s.2.symm
def c226s : CL1 226 := ⟨_, by conv => lhs; reduce⟩
def c226 : CFn := c226s.1
theorem c226_ok : c226 = compFn Tryz.prog 226 := c226s.2.symm
def c227s : CL1 227 := ⟨_, by conv => lhs; reduce⟩
def c227 : CFn := c227s.1
theorem c227_ok : c227 = compFn Tryz.prog 227 := c227s.2.symm
def c228s : CL1 228 := ⟨_, by conv => lhs; reduce⟩
def c228 : CFn := c228s.1
theorem c228_ok : c228 = compFn Tryz.prog 228 := c228s.2.symm
def c229 : CFn := .mk (.seq (.region [.o (.mv (.k (.bool false))) (.s .d4)]) (.seq (.seq (.region [.i (.mv (.l (.s .d0))), .i (.lenSl (.e 0)), .i (.mv (.l (.s .d1))), .i (.lenSl (.e 0)), .o (.arith .neq (.e 2) (.e 0)) (.s .d10)]) (.cond (.l (.s .d10)) (.seq (.region [.o (.mv (.k (.bool false))) (.s .d4)]) .ret) .skip)) (.seq (.seq (.region [.i (.mv (.l (.s .d0))), .o (.lenSl (.e 0)) (.s .d12), .o (.mv (.k (.nat 0))) (.s .d13)]) (.block 0 (.loop (.seq (.region [.o (.arith .lss (.l (.s .d13)) (.l (.s .d12))) (.s .d14)]) (.seq (.cond (.l (.s .d14)) .skip (.exit 0)) (.seq (.block 1 (.seq (.region [.i (.mv (.l (.s .d13))), .o (.mv (.e 0)) (.s .d5)]) (.seq (.dregion [⟨.i (.mv (.l (.s .d0))), false, 0⟩, ⟨.i (.mv (.l (.s .d5))), false, 0⟩, ⟨.i (.ixSl 1 (.e 1) (.e 0)), false, 0⟩, ⟨.i (.load1 (.e 0)), false, 0⟩, ⟨.i (.mv (.l (.s .d1))), false, 0⟩, ⟨.i (.mv (.l (.s .d5))), false, 0⟩, ⟨.i (.ixSl 1 (.e 1) (.e 0)), false, 0⟩, ⟨.i (.load1 (.e 0)), false, 0⟩, ⟨.o (.arith .neq (.e 4) (.e 0)) (.w .d0 .d8), false, 0⟩]) (.cond (.l (.w .d0 .d8)) (.seq (.region [.o (.mv (.k (.bool false))) (.s .d4)]) .ret) .skip)))) (.region [.i (.arith .add (.l (.s .d13)) (.k (.nat 1))), .o (.mv (.e 0)) (.s .d13)]))))))) (.seq (.region [.o (.mv (.k (.bool true))) (.s .d4)]) .ret)))) [(.tmp (.l (.s .d4)))]
theorem c229_ok : c229 = compFn Tryz.prog 229 := by kernel_rfl
def c230 : CFn := .mk (.seq (.region [.o (.mv (.k (.bool false))) (.s .d4)]) (.seq (.seq (.region [.i (.mv (.l (.s .d0))), .i (.lenSl (.e 0)), .i (.mv (.l (.s .d1))), .i (.lenSl (.e 0)), .o (.arith .neq (.e 2) (.e 0)) (.s .d10)]) (.cond (.l (.s .d10)) (.seq (.region [.o (.mv (.k (.bool false))) (.s .d4)]) .ret) .skip)) (.seq (.seq (.region [.i (.mv (.l (.s .d0))), .o (.lenSl (.e 0)) (.s .d12), .o (.mv (.k (.nat 0))) (.s .d13)]) (.block 0 (.loop (.seq (.region [.o (.arith .lss (.l (.s .d13)) (.l (.s .d12))) (.s .d14)]) (.seq (.cond (.l (.s .d14)) .skip (.exit 0)) (.seq (.block 1 (.seq (.region [.i (.mv (.l (.s .d13))), .o (.mv (.e 0)) (.s .d5)]) (.seq (.dregion [⟨.i (.mv (.l (.s .d0))), false, 0⟩, ⟨.i (.mv (.l (.s .d5))), false, 0⟩, ⟨.i (.ixSl 6 (.e 1) (.e 0)), false, 0⟩, ⟨.i (.loadN 6 (.e 0)), false, 0⟩, ⟨.i (.mv (.l (.s .d1))), false, 0⟩, ⟨.i (.mv (.l (.s .d5))), false, 0⟩, ⟨.i (.ixSl 6 (.e 1) (.e 0)), false, 0⟩, ⟨.i (.loadN 6 (.e 0)), false, 0⟩, ⟨.o (.eq true (.struct [(0, .str), (1, .int), (2, .bool), (3, .bool), (4, .int), (5, .int)]) false (.e 4) (.e 0)) (.w .d0 .d8), false, 0⟩]) (.cond (.l (.w .d0 .d8)) (.seq (.region [.o (.mv (.k (.bool false))) (.s .d4)]) .ret) .skip)))) (.region [.i (.arith .add (.l (.s .d13)) (.k (.nat 1))), .o (.mv (.e 0)) (.s .d13)]))))))) (.seq (.region [.o (.mv (.k (.bool true))) (.s .d4)]) .ret)))) [(.tmp (.l (.s .d4)))]
theorem c230_ok : c230 = compFn Tryz.prog 230 := by kernel_rfl
def c231 : CFn := .mk (.seq (.region [.o (.mv (.k (.bool false))) (.s .d4)]) (.seq (.seq (.region [.i (.mv (.l (.s .d0))), .i (.lenSl (.e 0)), .i (.mv (.l (.s .d1))), .i (.lenSl (.e 0)), .o (.arith .neq (.e 2) (.e 0)) (.s .d10)]) (.cond (.l (.s .d10)) (.seq (.region [.o (.mv (.k (.bool false))) (.s .d4)]) .ret) .skip)) (.seq (.seq (.region [.i (.mv (.l (.s .d0))), .o (.lenSl (.e 0)) (.s .d12), .o (.mv (.k (.nat 0))) (.s .d13)]) (.block 0 (.loop (.seq (.region [.o (.arith .lss (.l (.s .d13)) (.l (.s .d12))) (.s .d14)]) (.seq (.cond (.l (.s .d14)) .skip (.exit 0)) (.seq (.block 1 (.seq (.region [.i (.mv (.l (.s .d13))), .o (.mv (.e 0)) (.s .d5)]) (.seq (.dregion [⟨.i (.mv (.l (.s .d0))), false, 0⟩, ⟨.i (.mv (.l (.s .d5))), false, 0⟩, ⟨.i (.ixSl 1 (.e 1) (.e 0)), false, 0⟩, ⟨.i (.load1 (.e 0)), false, 0⟩, ⟨.i (.mv (.l (.s .d1))), false, 0⟩, ⟨.i (.mv (.l (.s .d5))), false, 0⟩, ⟨.i (.ixSl 1 (.e 1) (.e 0)), false, 0⟩, ⟨.i (.load1 (.e 0)), false, 0⟩, ⟨.o (.arith .neq (.e 4) (.e 0)) (.w .d0 .d8), false, 0⟩]) (.cond (.l (.w .d0 .d8)) (.seq (.region [.o (.mv (.k (.bool false))) (.s .d4)]) .ret) .skip)))) (.region [.i (.arith .add (.l (.s .d13)) (.k (.nat 1))), .o (.mv (.e 0)) (.s .d13)]))))))) (.seq (.region [.o (.mv (.k (.bool true))) (.s .d4)]) .ret)))) [(.tmp (.l (.s .d4)))]
theorem c231_ok : c231 = compFn Tryz.prog 231 := by kernel_rfl
def c232 : CFn := .mk (.seq (.region [.o (.mv (.k (.bool false))) (.s .d4)]) (.seq (.region [.i (.mv (.l (.s .d0))), .i (.mv (.l (.s .d1))), .i (.call 263 [(.e 1), (.e 0), (.k (.func (.func 264) [] []))]), .o (.mv (.e 0)) (.s .d4)]) .ret)) [(.tmp (.l (.s .d4)))]
theorem c232_ok : c232 = compFn Tryz.prog 232 := by kernel_rfl
def c233 : CFn := .bad 233
def c234 : CFn := .bad 234
def c235s : CL1 235 := ⟨_, by conv => lhs; reduce⟩
def c235 : CFn := c235s.1
theorem c235_ok : c235 = compFn Tryz.prog 235 := c235s.2.symm
def c236s : CL1 236 := ⟨_, by conv => lhs; reduce⟩
def c236 : CFn := c236s.1
theorem c236_ok : c236 = compFn Tryz.prog 236 := c236s.2.symm
def c237s : CL1 237 := ⟨_, by conv => lhs; reduce⟩
def c237 : CFn := c237s.1
theorem c237_ok : c237 = compFn Tryz.prog 237 := c237s.2.symm
def c238s : CL1 238 := ⟨_, by conv => lhs; reduce⟩
def c238 : CFn := c238s.1
theorem c238_ok : c238 = compFn Tryz.prog 238 := c238s.2.symm
def c239s : CL1 239 := ⟨_, by conv => lhs; reduce⟩
def c239 : CFn := c239s.1
theorem c239_ok : c239 = compFn Tryz.prog 239 := c239s.2.symm
def c240 : CFn := .bad 240
def c241 : CFn := .bad 241
def c242 : CFn := .bad 242
def c243s : CL1 243 := ⟨_, by conv => lhs; reduce⟩
def c243 : CFn := c243s.1
theorem c243_ok : c243 = compFn Tryz.prog 243 := c243s.2.symm
def c244 : CFn := .bad 244
def c245s : CL1 245 := ⟨_, by conv => lhs; reduce⟩
def c245 : CFn := c245s.1
theorem c245_ok : c245 = compFn Tryz.prog 245 := c245s.2.symm
def c246s : CL1 246 := ⟨_, by conv => lhs; reduce⟩
def c246 : CFn := c246s.1
theorem c246_ok : c246 = compFn Tryz.prog 246 := c246s.2.symm
def c247s : CL1 247 := ⟨_, by conv => lhs; reduce⟩
def c247 : CFn := c247s.1
theorem c247_ok : c247 = compFn Tryz.prog 247 := c247s.2.symm
def c248s : CL1 248 := ⟨_, by conv => lhs; reduce⟩
def c248 : CFn := c248s.1
theorem c248_ok : c248 = compFn Tryz.prog 248 := c248s.2.symm
def c249s : CL1 249 := ⟨_, by conv => lhs; reduce⟩
def c249 : CFn := c249s.1
theorem c249_ok : c249 = compFn Tryz.prog 249 := c249s.2.symm
def c250s : CL1 250 := ⟨_, by conv => lhs; reduce⟩
def c250 : CFn := c250s.1
theorem c250_ok : c250 = compFn Tryz.prog 250 := c250s.2.symm
def c251s : CL1 251 := ⟨_, by conv => lhs; reduce⟩
def c251 : CFn := c251s.1
theorem c251_ok : c251 = compFn Tryz.prog 251 := c251s.2.symm
def c252s : CL1 252 := ⟨_, by conv => lhs; reduce⟩
def c252 : CFn := c252s.1
theorem c252_ok : c252 = compFn Tryz.prog 252 := c252s.2.symm
def c253s : CL1 253 := ⟨_, by conv => lhs; reduce⟩
def c253 : CFn := c253s.1
theorem c253_ok : c253 = compFn Tryz.prog 253 := c253s.2.symm
def c254s : CL1 254 := ⟨_, by conv => lhs; reduce⟩
def c254 : CFn := c254s.1
theorem c254_ok : c254 = compFn Tryz.prog 254 := c254s.2.symm
def c255s : CL1 255 := ⟨_, by conv => lhs; reduce⟩
def c255 : CFn := c255s.1
theorem c255_ok : c255 = compFn Tryz.prog 255 := c255s.2.symm
def c256s : CL1 256 := ⟨_, by conv => lhs; reduce⟩
def c256 : CFn := c256s.1
theorem c256_ok : c256 = compFn Tryz.prog 256 := c256s.2.symm
def c257s : CL1 257 := ⟨_, by conv => lhs; reduce⟩
def c257 : CFn := c257s.1
theorem c257_ok : c257 = compFn Tryz.prog 257 := c257s.2.symm
def c258s : CL1 258 := ⟨_, by conv => lhs; reduce⟩
def c258 : CFn := c258s.1
theorem c258_ok : c258 = compFn Tryz.prog 258 := c258s.2.symm
def c259s : CL1 259 := ⟨_, by conv => lhs; reduce⟩
def c259 : CFn := c259s.1
theorem c259_ok : c259 = compFn Tryz.prog 259 := c259s.2.symm
def c260 : CFn := .bad 260
def c261s : CL1 261 := ⟨_, by conv => lhs; reduce⟩
def c261 : CFn := c261s.1
theorem c261_ok : c261 = compFn Tryz.prog 261 := c261s.2.symm
def c262s : CL1 262 := ⟨_, by conv => lhs; reduce⟩
def c262 : CFn := c262s.1
theorem c262_ok : c262 = compFn Tryz.prog 262 := c262s.2.symm
def c263s : CL1 263 := ⟨_, by conv => lhs; reduce⟩
def c263 : CFn := c263s.1
theorem c263_ok : c263 = compFn Tryz.prog 263 := c263s.2.symm
def c264s : CL1 264 := ⟨_, by conv => lhs; reduce⟩
def c264 : CFn := c264s.1
theorem c264_ok : c264 = compFn Tryz.prog 264 := c264s.2.symm
def c265s : CL1 265 := ⟨_, by conv => lhs; reduce⟩
def c265 : CFn := c265s.1
theorem c265_ok : c265 = compFn Tryz.prog 265 := c265s.2.symm
end Go.Ev
