/- The compact code of the program's functions, written out, and that it is what the compiler makes of them (1). -/
import Derived.Test.YtkolecenifiaaaaGreatDoorEvSym
import Derived.Test.YtkolecenifiaaaaGreatDoorProg
import Derived.KernelRfl
namespace Go.Ev
open Go.Proofs
set_option maxRecDepth 1000000
set_option maxHeartbeats 8000000
abbrev CL1(n:Nat):Type:={c:CFn // compFn Tryz.prog n=c}
def c107s:CL1 107:=⟨_,by conv=>lhs; reduce⟩
def c108s:CL1 108:=⟨_,by conv=>lhs; reduce⟩
def c109s:CL1 109:=⟨_,by conv=>lhs; reduce⟩
def c110s:CL1 110:=⟨_,by conv=>lhs; reduce⟩
def c111s:CL1 111:=⟨_,by conv=>lhs; reduce⟩
def c112s:CL1 112:=⟨_,by conv=>lhs; reduce⟩
def c114s:CL1 114:=⟨_,by conv=>lhs; reduce⟩
def c115s:CL1 115:=⟨_,by conv=>lhs; reduce⟩
def c118s:CL1 118:=⟨_,by conv=>lhs; reduce⟩
def c119s:CL1 119:=⟨_,by conv=>lhs; reduce⟩
def c120s:CL1 120:=⟨_,by conv=>lhs; reduce⟩
def c122s:CL1 122:=⟨_,by conv=>lhs; reduce⟩
def c123s:CL1 123:=⟨_,by conv=>lhs; reduce⟩
def c124s:CL1 124:=⟨_,by conv=>lhs; reduce⟩
def c125s:CL1 125:=⟨_,by conv=>lhs; reduce⟩
def c126s:CL1 126:=⟨_,by conv=>lhs; reduce⟩
def c127s:CL1 127:=⟨_,by conv=>lhs; reduce⟩
def c128s:CL1 128:=⟨_,by conv=>lhs; reduce⟩
def c129s:CL1 129:=⟨_,by conv=>lhs; reduce⟩
def c130s:CL1 130:=⟨_,by conv=>lhs; reduce⟩
def c131s:CL1 131:=⟨_,by conv=>lhs; reduce⟩
def c132s:CL1 132:=⟨_,by conv=>lhs; reduce⟩
def c133s:CL1 133:=⟨_,by conv=>lhs; reduce⟩
def c134s:CL1 134:=⟨_,by conv=>lhs; reduce⟩
def c135s:CL1 135:=⟨_,by conv=>lhs; reduce⟩
def c136s:CL1 136:=⟨_,by conv=>lhs; reduce⟩
def c137s:CL1 137:=⟨_,by conv=>lhs; reduce⟩
def c138s:CL1 138:=⟨_,by conv=>lhs; reduce⟩
def c139s:CL1 139:=⟨_,by conv=>lhs; reduce⟩
def c140:CFn:=.mk (.seq (.region [.o (.mv (.k (.bool false))) (.s .d4)]) (.seq (.seq (.region [.i (.mv (.l (.s .d0))),.i (.lenSl (.e 0)),.i (.mv (.l (.s .d1))),.i (.lenSl (.e 0)),.o (.arith .neq (.e 2) (.e 0)) (.s .d10)]) (.cond (.l (.s .d10)) (.seq (.region [.o (.mv (.k (.bool false))) (.s .d4)]) .ret) .skip)) (.seq (.seq (.region [.o (.mv (.k (.nat 0))) (.s .d5)]) (.block 0 (.loop (.seq (.seq (.region [.i (.mv (.l (.s .d5))),.i (.mv (.l (.s .d0))),.i (.lenSl (.e 0)),.o (.arith .lss (.e 2) (.e 0)) (.s .d14)]) (.cond (.l (.s .d14)) .skip (.exit 0))) (.seq (.block 1 (.seq (.dregion [⟨.i (.mv (.l (.s .d0))),false,0⟩,⟨.i (.mv (.l (.s .d5))),false,0⟩,⟨.i (.ixSl 5 (.e 1) (.e 0)),false,0⟩,⟨.i (.loadN 5 (.e 0)),false,0⟩,⟨.i (.mv (.l (.s .d1))),false,0⟩,⟨.i (.mv (.l (.s .d5))),false,0⟩,⟨.i (.ixSl 5 (.e 1) (.e 0)),false,0⟩,⟨.i (.loadN 5 (.e 0)),false,0⟩,⟨.i (.call 186 [(.e 4),(.e 0)]),true,0⟩,⟨.o (.un .not (.e 0)) (.w .d0 .d10),false,0⟩]) (.cond (.l (.w .d0 .d10)) (.seq (.region [.o (.mv (.k (.bool false))) (.s .d4)]) .ret) .skip))) (.region [.i (.mv (.l (.s .d5))),.i (.arith .add (.e 0) (.k (.nat 1))),.o (.mv (.e 0)) (.s .d5)])))))) (.seq (.region [.o (.mv (.k (.bool true))) (.s .d4)]) .ret)))) [(.tmp (.l (.s .d4)))]
theorem c140_ok:c140=compFn Tryz.prog 140:=by kernel_rfl
def c141s:CL1 141:=⟨_,by conv=>lhs; reduce⟩
def c142s:CL1 142:=⟨_,by conv=>lhs; reduce⟩
def c143s:CL1 143:=⟨_,by conv=>lhs; reduce⟩
def c144s:CL1 144:=⟨_,by conv=>lhs; reduce⟩
def c145s:CL1 145:=⟨_,by conv=>lhs; reduce⟩
def c146s:CL1 146:=⟨_,by conv=>lhs; reduce⟩
def c147s:CL1 147:=⟨_,by conv=>lhs; reduce⟩
def c148s:CL1 148:=⟨_,by conv=>lhs; reduce⟩
def c158s:CL1 158:=⟨_,by conv=>lhs; reduce⟩
def c160s:CL1 160:=⟨_,by conv=>lhs; reduce⟩
def c161s:CL1 161:=⟨_,by conv=>lhs; reduce⟩
def c164s:CL1 164:=⟨_,by conv=>lhs; reduce⟩
def c168s:CL1 168:=⟨_,by conv=>lhs; reduce⟩
def c170s:CL1 170:=⟨_,by conv=>lhs; reduce⟩
def c171s:CL1 171:=⟨_,by conv=>lhs; reduce⟩
def c172s:CL1 172:=⟨_,by conv=>lhs; reduce⟩
def c173s:CL1 173:=⟨_,by conv=>lhs; reduce⟩
def c174s:CL1 174:=⟨_,by conv=>lhs; reduce⟩
def c175s:CL1 175:=⟨_,by conv=>lhs; reduce⟩
def c176s:CL1 176:=⟨_,by conv=>lhs; reduce⟩
def c177s:CL1 177:=⟨_,by conv=>lhs; reduce⟩
def c178s:CL1 178:=⟨_,by conv=>lhs; reduce⟩
def c179s:CL1 179:=⟨_,by conv=>lhs; reduce⟩
def c180s:CL1 180:=⟨_,by conv=>lhs; reduce⟩
def c181s:CL1 181:=⟨_,by conv=>lhs; reduce⟩
def c182s:CL1 182:=⟨_,by conv=>lhs; reduce⟩
def c183s:CL1 183:=⟨_,by conv=>lhs; reduce⟩
def c184s:CL1 184:=⟨_,by conv=>lhs; reduce⟩
def c185s:CL1 185:=⟨_,by conv=>lhs; reduce⟩
def c186s:CL1 186:=⟨_,by conv=>lhs; reduce⟩
def c187s:CL1 187:=⟨_,by conv=>lhs; reduce⟩
def c188s:CL1 188:=⟨_,by conv=>lhs; reduce⟩
def c196s:CL1 196:=⟨_,by conv=>lhs; reduce⟩
def c197s:CL1 197:=⟨_,by conv=>lhs; reduce⟩
def c198s:CL1 198:=⟨_,by conv=>lhs; reduce⟩
def c199s:CL1 199:=⟨_,by conv=>lhs; reduce⟩
def c200s:CL1 200:=⟨_,by conv=>lhs; reduce⟩
def c201s:CL1 201:=⟨_,by conv=>lhs; reduce⟩
def c206s:CL1 206:=⟨_,by conv=>lhs; reduce⟩
def c207s:CL1 207:=⟨_,by conv=>lhs; reduce⟩
def c208s:CL1 208:=⟨_,by conv=>lhs; reduce⟩
def c209s:CL1 209:=⟨_,by conv=>lhs; reduce⟩
def c210s:CL1 210:=⟨_,by conv=>lhs; reduce⟩
def c211s:CL1 211:=⟨_,by conv=>lhs; reduce⟩
def c212s:CL1 212:=⟨_,by conv=>lhs; reduce⟩
def c213s:CL1 213:=⟨_,by conv=>lhs; reduce⟩
def c214:CFn:=.mk (.seq (.region [.o (.box (.l (.s .d0))) (.s .d2),.o (.box (.l (.s .d1))) (.s .d3),.o (.mv (.k (.bool false))) (.s .d4)]) (.seq (.region [.i (.addOff 8 (.l (.s .d2))),.i (.load1 (.e 0)),.i (.addOff 8 (.l (.s .d3))),.i (.load1 (.e 0)),.i (.call 244 [(.e 2),(.e 0)]),.i (.mv (.e 0)),.g (.e 0) true (.addOff 10 (.l (.s .d2))) none,.g (.e 1) true (.load1 (.e 0)) none,.g (.e 2) true (.addOff 10 (.l (.s .d3))) none,.g (.e 3) true (.load1 (.e 0)) none,.g (.e 4) true (.call 245 [(.e 2),(.e 0)]) none,.i (.pick (.e 5) (.e 0) (.k (.bool false))),.i (.mv (.e 0)),.g (.e 0) true (.addOff 11 (.l (.s .d2))) none,.g (.e 1) true (.load1 (.e 0)) none,.g (.e 2) true (.addOff 11 (.l (.s .d3))) none,.g (.e 3) true (.load1 (.e 0)) none,.g (.e 4) true (.call 246 [(.e 2),(.e 0)]) none,.i (.pick (.e 5) (.e 0) (.k (.bool false))),.i (.mv (.e 0)),.g (.e 0) true (.addOff 9 (.l (.s .d2))) none,.g (.e 1) true (.load1 (.e 0)) none,.g (.e 2) true (.addOff 9 (.l (.s .d3))) none,.g (.e 3) true (.load1 (.e 0)) none,.g (.e 4) true (.call 247 [(.e 2),(.e 0)]) none,.i (.pick (.e 5) (.e 0) (.k (.bool false))),.i (.mv (.e 0)),.g (.e 0) true (.addOff 16 (.l (.s .d2))) none,.g (.e 1) true (.addOff 4 (.e 0)) none,.g (.e 2) true (.load1 (.e 0)) none,.g (.e 3) true (.addOff 16 (.l (.s .d3))) none,.g (.e 4) true (.addOff 4 (.e 0)) none,.g (.e 5) true (.load1 (.e 0)) none,.g (.e 6) true (.call 247 [(.e 3),(.e 0)]) none,.i (.pick (.e 7) (.e 0) (.k (.bool false))),.o (.mv (.e 0)) (.s .d5)]) (.seq (.region [.i (.addOff 6 (.l (.s .d2))),.i (.load1 (.e 0)),.i (.cvBS (.e 0)),.i (.addOff 6 (.l (.s .d3))),.i (.load1 (.e 0)),.i (.cvBS (.e 0)),.i (.arith .eql (.e 3) (.e 0)),.i (.mv (.e 0)),.g (.e 0) true (.addOff 24 (.l (.s .d2))) none,.g (.e 1) true (.load1 (.e 0)) none,.g (.e 2) true (.cvBS (.e 0)) none,.g (.e 3) true (.addOff 24 (.l (.s .d3))) none,.g (.e 4) true (.load1 (.e 0)) none,.g (.e 5) true (.cvBS (.e 0)) none,.g (.e 6) true (.arith .eql (.e 3) (.e 0)) none,.i (.pick (.e 7) (.e 0) (.k (.bool false))),.i (.mv (.e 0)),.g (.e 0) true (.addOff 16 (.l (.s .d2))) none,.g (.e 1) true (.addOff 1 (.e 0)) none,.g (.e 2) true (.load1 (.e 0)) none,.g (.e 3) true (.cvBS (.e 0)) none,.g (.e 4) true (.addOff 16 (.l (.s .d3))) none,.g (.e 5) true (.addOff 1 (.e 0)) none,.g (.e 6) true (.load1 (.e 0)) none,.g (.e 7) true (.cvBS (.e 0)) none,.g (.e 8) true (.arith .eql (.e 4) (.e 0)) none,.i (.pick (.e 9) (.e 0) (.k (.bool false))),.o (.mv (.e 0)) (.s .d6)]) (.seq (.region [.i (.addOff 16 (.l (.s .d2))),.i (.addOff 0 (.e 0)),.i (.load1 (.e 0)),.i (.addOff 16 (.l (.s .d3))),.i (.addOff 0 (.e 0)),.i (.load1 (.e 0)),.i (.arith .eql (.e 3) (.e 0)),.i (.mv (.e 0)),.g (.e 0) true (.addOff 16 (.l (.s .d2))) none,.g (.e 1) true (.addOff 2 (.e 0)) none,.g (.e 2) true (.load1 (.e 0)) none,.g (.e 3) true (.addOff 16 (.l (.s .d3))) none,.g (.e 4) true (.addOff 2 (.e 0)) none,.g (.e 5) true (.load1 (.e 0)) none,.g (.e 6) true (.arith .eql (.e 3) (.e 0)) none,.i (.pick (.e 7) (.e 0) (.k (.bool false))),.i (.mv (.e 0)),.g (.e 0) true (.addOff 16 (.l (.s .d2))) none,.g (.e 1) true (.addOff 3 (.e 0)) none,.g (.e 2) true (.load1 (.e 0)) none,.g (.e 3) true (.addOff 16 (.l (.s .d3))) none,.g (.e 4) true (.addOff 3 (.e 0)) none,.g (.e 5) true (.load1 (.e 0)) none,.g (.e 6) true (.eq false .bool false (.e 3) (.e 0)) none,.i (.pick (.e 7) (.e 0) (.k (.bool false))),.o (.mv (.e 0)) (.s .d7)]) (.seq (.region [.i (.addOff 1 (.l (.s .d2))),.i (.load1 (.e 0)),.i (.addOff 1 (.l (.s .d3))),.i (.load1 (.e 0)),.i (.eq false .bool false (.e 2) (.e 0)),.i (.mv (.e 0)),.g (.e 0) true (.addOff 3 (.l (.s .d2))) none,.g (.e 1) true (.load1 (.e 0)) none,.g (.e 2) true (.addOff 3 (.l (.s .d3))) none,.g (.e 3) true (.load1 (.e 0)) none,.g (.e 4) true (.eq false .bool false (.e 2) (.e 0)) none,.i (.pick (.e 5) (.e 0) (.k (.bool false))),.i (.mv (.e 0)),.g (.e 0) true (.addOff 12 (.l (.s .d2))) none,.g (.e 1) true (.load1 (.e 0)) none,.g (.e 2) true (.addOff 12 (.l (.s .d3))) none,.g (.e 3) true (.load1 (.e 0)) none,.g (.e 4) true (.eq false .bool false (.e 2) (.e 0)) none,.i (.pick (.e 5) (.e 0) (.k (.bool false))),.i (.mv (.e 0)),.g (.e 0) true (.addOff 15 (.l (.s .d2))) none,.g (.e 1) true (.load1 (.e 0)) none,.g (.e 2) true (.addOff 15 (.l (.s .d3))) none,.g (.e 3) true (.load1 (.e 0)) none,.g (.e 4) true (.eq false .bool false (.e 2) (.e 0)) none,.i (.pick (.e 5) (.e 0) (.k (.bool false))),.i (.mv (.e 0)),.g (.e 0) true (.addOff 21 (.l (.s .d2))) none,.g (.e 1) true (.load1 (.e 0)) none,.g (.e 2) true (.addOff 21 (.l (.s .d3))) none,.g (.e 3) true (.load1 (.e 0)) none,.g (.e 4) true (.eq false .bool false (.e 2) (.e 0)) none,.i (.pick (.e 5) (.e 0) (.k (.bool false))),.i (.mv (.e 0)),.g (.e 0) true (.addOff 23 (.l (.s .d2))) none,.g (.e 1) true (.load1 (.e 0)) none,.g (.e 2) true (.addOff 23 (.l (.s .d3))) none,.g (.e 3) true (.load1 (.e 0)) none,.g (.e 4) true (.eq false .bool false (.e 2) (.e 0)) none,.i (.pick (.e 5) (.e 0) (.k (.bool false))),.i (.mv (.e 0)),.g (.e 0) true (.addOff 25 (.l (.s .d2))) none,.g (.e 1) true (.load1 (.e 0)) none,.g (.e 2) true (.addOff 25 (.l (.s .d3))) none,.g (.e 3) true (.load1 (.e 0)) none,.g (.e 4) true (.eq false .bool false (.e 2) (.e 0)) none,.i (.pick (.e 5) (.e 0) (.k (.bool false))),.o (.mv (.e 0)) (.s .d8)]) (.seq (.region [.i (.mv (.l (.s .d5))),.i (.mv (.e 0)),.g (.e 0) true (.mv (.l (.s .d6))) none,.i (.pick (.e 1) (.e 0) (.k (.bool false))),.i (.mv (.e 0)),.g (.e 0) true (.mv (.l (.s .d7))) none,.i (.pick (.e 1) (.e 0) (.k (.bool false))),.i (.mv (.e 0)),.g (.e 0) true (.mv (.l (.s .d8))) none,.i (.pick (.e 1) (.e 0) (.k (.bool false))),.i (.mv (.e 0)),.g (.e 0) true (.addOff 0 (.l (.s .d2))) none,.g (.e 1) true (.load1 (.e 0)) none,.g (.e 2) true (.addOff 0 (.l (.s .d3))) none,.g (.e 3) true (.load1 (.e 0)) none,.g (.e 4) true (.arith .eql (.e 2) (.e 0)) none,.i (.pick (.e 5) (.e 0) (.k (.bool false))),.i (.mv (.e 0)),.g (.e 0) true (.addOff 2 (.l (.s .d2))) none,.g (.e 1) true (.load1 (.e 0)) none,.g (.e 2) true (.addOff 2 (.l (.s .d3))) none,.g (.e 3) true (.load1 (.e 0)) none,.g (.e 4) true (.arith .eql (.e 2) (.e 0)) none,.i (.pick (.e 5) (.e 0) (.k (.bool false))),.i (.mv (.e 0)),.g (.e 0) true (.addOff 4 (.l (.s .d2))) none,.g (.e 1) true (.load1 (.e 0)) none,.g (.e 2) true (.addOff 4 (.l (.s .d3))) none,.g (.e 3) true (.load1 (.e 0)) none,.g (.e 4) true (.arith .eql (.e 2) (.e 0)) none,.i (.pick (.e 5) (.e 0) (.k (.bool false))),.i (.mv (.e 0)),.g (.e 0) true (.addOff 5 (.l (.s .d2))) none,.g (.e 1) true (.load1 (.e 0)) none,.g (.e 2) true (.addOff 5 (.l (.s .d3))) none,.g (.e 3) true (.load1 (.e 0)) none,.g (.e 4) true (.arith .eql (.e 2) (.e 0)) none,.i (.pick (.e 5) (.e 0) (.k (.bool false))),.i (.mv (.e 0)),.g (.e 0) true (.addOff 7 (.l (.s .d2))) none,.g (.e 1) true (.load1 (.e 0)) none,.g (.e 2) true (.addOff 7 (.l (.s .d3))) none,.g (.e 3) true (.load1 (.e 0)) none,.g (.e 4) true (.arith .eql (.e 2) (.e 0)) none,.i (.pick (.e 5) (.e 0) (.k (.bool false))),.i (.mv (.e 0)),.g (.e 0) true (.addOff 13 (.l (.s .d2))) none,.g (.e 1) true (.load1 (.e 0)) none,.g (.e 2) true (.addOff 13 (.l (.s .d3))) none,.g (.e 3) true (.load1 (.e 0)) none,.g (.e 4) true (.arith .eql (.e 2) (.e 0)) none,.i (.pick (.e 5) (.e 0) (.k (.bool false))),.i (.mv (.e 0)),.g (.e 0) true (.addOff 14 (.l (.s .d2))) none,.g (.e 1) true (.load1 (.e 0)) none,.g (.e 2) true (.addOff 14 (.l (.s .d3))) none,.g (.e 3) true (.load1 (.e 0)) none,.g (.e 4) true (.arith .eql (.e 2) (.e 0)) none,.i (.pick (.e 5) (.e 0) (.k (.bool false))),.i (.mv (.e 0)),.g (.e 0) true (.addOff 22 (.l (.s .d2))) none,.g (.e 1) true (.load1 (.e 0)) none,.g (.e 2) true (.addOff 22 (.l (.s .d3))) none,.g (.e 3) true (.load1 (.e 0)) none,.g (.e 4) true (.arith .eql (.e 2) (.e 0)) none,.i (.pick (.e 5) (.e 0) (.k (.bool false))),.o (.mv (.e 0)) (.s .d4)]) .ret)))))) [(.tmp (.l (.s .d4)))]
theorem c214_ok:c214=compFn Tryz.prog 214:=by kernel_rfl
def c215s:CL1 215:=⟨_,by conv=>lhs; reduce⟩
def c216s:CL1 216:=⟨_,by conv=>lhs; reduce⟩
def c217s:CL1 217:=⟨_,by conv=>lhs; reduce⟩
def c218s:CL1 218:=⟨_,by conv=>lhs; reduce⟩
def c220s:CL1 220:=⟨_,by conv=>lhs; reduce⟩
def c221s:CL1 221:=⟨_,by conv=>lhs; reduce⟩
def c222s:CL1 222:=⟨_,by conv=>lhs; reduce⟩
def c223s:CL1 223:=⟨_,by conv=>lhs; reduce⟩
def c224s:CL1 224:=⟨_,by conv=>lhs; reduce⟩
def c225s:CL1 225:=⟨_,by conv=>lhs; reduce⟩
def c227s:CL1 227:=⟨_,by conv=>lhs; reduce⟩
def c230s:CL1 230:=⟨_,by conv=>lhs; reduce⟩
def c231s:CL1 231:=⟨_,by conv=>lhs; reduce⟩
def c232s:CL1 232:=⟨_,by conv=>lhs; reduce⟩
def c233s:CL1 233:=⟨_,by conv=>lhs; reduce⟩
def c235s:CL1 235:=⟨_,by conv=>lhs; reduce⟩
def c236s:CL1 236:=⟨_,by conv=>lhs; reduce⟩
def c237s:CL1 237:=⟨_,by conv=>lhs; reduce⟩
def c238s:CL1 238:=⟨_,by conv=>lhs; reduce⟩
def c239s:CL1 239:=⟨_,by conv=>lhs; reduce⟩
def c240s:CL1 240:=⟨_,by conv=>lhs; reduce⟩
def c241s:CL1 241:=⟨_,by conv=>lhs; reduce⟩
def c242s:CL1 242:=⟨_,by conv=>lhs; reduce⟩
def c243s:CL1 243:=⟨_,by conv=>lhs; reduce⟩
def c244:CFn:=.mk (.seq (.region [.o (.mv (.k (.bool false))) (.s .d4)]) (.seq (.seq (.region [.i (.mv (.l (.s .d0))),.i (.lenSl (.e 0)),.i (.mv (.l (.s .d1))),.i (.lenSl (.e 0)),.o (.arith .neq (.e 2) (.e 0)) (.s .d10)]) (.cond (.l (.s .d10)) (.seq (.region [.o (.mv (.k (.bool false))) (.s .d4)]) .ret) .skip)) (.seq (.seq (.region [.i (.mv (.l (.s .d0))),.o (.lenSl (.e 0)) (.s .d12),.o (.mv (.k (.nat 0))) (.s .d13)]) (.block 0 (.loop (.seq (.region [.o (.arith .lss (.l (.s .d13)) (.l (.s .d12))) (.s .d14)]) (.seq (.cond (.l (.s .d14)) .skip (.exit 0)) (.seq (.block 1 (.seq (.region [.i (.mv (.l (.s .d13))),.o (.mv (.e 0)) (.s .d5)]) (.seq (.dregion [⟨.i (.mv (.l (.s .d0))),false,0⟩,⟨.i (.mv (.l (.s .d5))),false,0⟩,⟨.i (.ixSl 1 (.e 1) (.e 0)),false,0⟩,⟨.i (.load1 (.e 0)),false,0⟩,⟨.i (.mv (.l (.s .d1))),false,0⟩,⟨.i (.mv (.l (.s .d5))),false,0⟩,⟨.i (.ixSl 1 (.e 1) (.e 0)),false,0⟩,⟨.i (.load1 (.e 0)),false,0⟩,⟨.o (.arith .neq (.e 4) (.e 0)) (.w .d0 .d8),false,0⟩]) (.cond (.l (.w .d0 .d8)) (.seq (.region [.o (.mv (.k (.bool false))) (.s .d4)]) .ret) .skip)))) (.region [.i (.arith .add (.l (.s .d13)) (.k (.nat 1))),.o (.mv (.e 0)) (.s .d13)]))))))) (.seq (.region [.o (.mv (.k (.bool true))) (.s .d4)]) .ret)))) [(.tmp (.l (.s .d4)))]
theorem c244_ok:c244=compFn Tryz.prog 244:=by kernel_rfl
def c245:CFn:=.mk (.seq (.region [.o (.mv (.k (.bool false))) (.s .d4)]) (.seq (.seq (.region [.i (.mv (.l (.s .d0))),.i (.lenSl (.e 0)),.i (.mv (.l (.s .d1))),.i (.lenSl (.e 0)),.o (.arith .neq (.e 2) (.e 0)) (.s .d10)]) (.cond (.l (.s .d10)) (.seq (.region [.o (.mv (.k (.bool false))) (.s .d4)]) .ret) .skip)) (.seq (.seq (.region [.i (.mv (.l (.s .d0))),.o (.lenSl (.e 0)) (.s .d12),.o (.mv (.k (.nat 0))) (.s .d13)]) (.block 0 (.loop (.seq (.region [.o (.arith .lss (.l (.s .d13)) (.l (.s .d12))) (.s .d14)]) (.seq (.cond (.l (.s .d14)) .skip (.exit 0)) (.seq (.block 1 (.seq (.region [.i (.mv (.l (.s .d13))),.o (.mv (.e 0)) (.s .d5)]) (.seq (.dregion [⟨.i (.mv (.l (.s .d0))),false,0⟩,⟨.i (.mv (.l (.s .d5))),false,0⟩,⟨.i (.ixSl 6 (.e 1) (.e 0)),false,0⟩,⟨.i (.loadN 6 (.e 0)),false,0⟩,⟨.i (.mv (.l (.s .d1))),false,0⟩,⟨.i (.mv (.l (.s .d5))),false,0⟩,⟨.i (.ixSl 6 (.e 1) (.e 0)),false,0⟩,⟨.i (.loadN 6 (.e 0)),false,0⟩,⟨.o (.eq true (.struct [(0,.str),(1,.int),(2,.bool),(3,.bool),(4,.int),(5,.int)]) false (.e 4) (.e 0)) (.w .d0 .d8),false,0⟩]) (.cond (.l (.w .d0 .d8)) (.seq (.region [.o (.mv (.k (.bool false))) (.s .d4)]) .ret) .skip)))) (.region [.i (.arith .add (.l (.s .d13)) (.k (.nat 1))),.o (.mv (.e 0)) (.s .d13)]))))))) (.seq (.region [.o (.mv (.k (.bool true))) (.s .d4)]) .ret)))) [(.tmp (.l (.s .d4)))]
theorem c245_ok:c245=compFn Tryz.prog 245:=by kernel_rfl
def c246:CFn:=.mk (.seq (.region [.o (.mv (.k (.bool false))) (.s .d4)]) (.seq (.seq (.region [.i (.mv (.l (.s .d0))),.i (.lenSl (.e 0)),.i (.mv (.l (.s .d1))),.i (.lenSl (.e 0)),.o (.arith .neq (.e 2) (.e 0)) (.s .d10)]) (.cond (.l (.s .d10)) (.seq (.region [.o (.mv (.k (.bool false))) (.s .d4)]) .ret) .skip)) (.seq (.seq (.region [.i (.mv (.l (.s .d0))),.o (.lenSl (.e 0)) (.s .d12),.o (.mv (.k (.nat 0))) (.s .d13)]) (.block 0 (.loop (.seq (.region [.o (.arith .lss (.l (.s .d13)) (.l (.s .d12))) (.s .d14)]) (.seq (.cond (.l (.s .d14)) .skip (.exit 0)) (.seq (.block 1 (.seq (.region [.i (.mv (.l (.s .d13))),.o (.mv (.e 0)) (.s .d5)]) (.seq (.dregion [⟨.i (.mv (.l (.s .d0))),false,0⟩,⟨.i (.mv (.l (.s .d5))),false,0⟩,⟨.i (.ixSl 1 (.e 1) (.e 0)),false,0⟩,⟨.i (.load1 (.e 0)),false,0⟩,⟨.i (.mv (.l (.s .d1))),false,0⟩,⟨.i (.mv (.l (.s .d5))),false,0⟩,⟨.i (.ixSl 1 (.e 1) (.e 0)),false,0⟩,⟨.i (.load1 (.e 0)),false,0⟩,⟨.o (.arith .neq (.e 4) (.e 0)) (.w .d0 .d8),false,0⟩]) (.cond (.l (.w .d0 .d8)) (.seq (.region [.o (.mv (.k (.bool false))) (.s .d4)]) .ret) .skip)))) (.region [.i (.arith .add (.l (.s .d13)) (.k (.nat 1))),.o (.mv (.e 0)) (.s .d13)]))))))) (.seq (.region [.o (.mv (.k (.bool true))) (.s .d4)]) .ret)))) [(.tmp (.l (.s .d4)))]
theorem c246_ok:c246=compFn Tryz.prog 246:=by kernel_rfl
def c247:CFn:=.mk (.seq (.region [.o (.mv (.k (.bool false))) (.s .d4)]) (.seq (.region [.i (.mv (.l (.s .d0))),.i (.mv (.l (.s .d1))),.i (.call 277 [(.e 1),(.e 0),(.k (.func (.func 278) [] []))]),.o (.mv (.e 0)) (.s .d4)]) .ret)) [(.tmp (.l (.s .d4)))]
theorem c247_ok:c247=compFn Tryz.prog 247:=by kernel_rfl
def c249s:CL1 249:=⟨_,by conv=>lhs; reduce⟩
def c250s:CL1 250:=⟨_,by conv=>lhs; reduce⟩
def c251s:CL1 251:=⟨_,by conv=>lhs; reduce⟩
def c252s:CL1 252:=⟨_,by conv=>lhs; reduce⟩
def c253s:CL1 253:=⟨_,by conv=>lhs; reduce⟩
def c254s:CL1 254:=⟨_,by conv=>lhs; reduce⟩
def c257s:CL1 257:=⟨_,by conv=>lhs; reduce⟩
def c259s:CL1 259:=⟨_,by conv=>lhs; reduce⟩
def c260s:CL1 260:=⟨_,by conv=>lhs; reduce⟩
def c261s:CL1 261:=⟨_,by conv=>lhs; reduce⟩
def c262s:CL1 262:=⟨_,by conv=>lhs; reduce⟩
def c263s:CL1 263:=⟨_,by conv=>lhs; reduce⟩
def c264s:CL1 264:=⟨_,by conv=>lhs; reduce⟩
def c265s:CL1 265:=⟨_,by conv=>lhs; reduce⟩
def c266s:CL1 266:=⟨_,by conv=>lhs; reduce⟩
def c267s:CL1 267:=⟨_,by conv=>lhs; reduce⟩
def c268s:CL1 268:=⟨_,by conv=>lhs; reduce⟩
def c269s:CL1 269:=⟨_,by conv=>lhs; reduce⟩
def c270s:CL1 270:=⟨_,by conv=>lhs; reduce⟩
def c271s:CL1 271:=⟨_,by conv=>lhs; reduce⟩
def c272s:CL1 272:=⟨_,by conv=>lhs; reduce⟩
def c273s:CL1 273:=⟨_,by conv=>lhs; reduce⟩
def c275s:CL1 275:=⟨_,by conv=>lhs; reduce⟩
def c276s:CL1 276:=⟨_,by conv=>lhs; reduce⟩
def c277s:CL1 277:=⟨_,by conv=>lhs; reduce⟩
end Go.Ev
