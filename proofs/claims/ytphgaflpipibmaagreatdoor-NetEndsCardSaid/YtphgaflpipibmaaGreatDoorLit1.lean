/- The compact code of the program's functions, written out, and that it is what the compiler makes of them (1). -/
import Derived.Test.YtphgaflpipibmaaGreatDoorEvSym
import Derived.Test.YtphgaflpipibmaaGreatDoorProg
import Derived.KernelRfl
namespace Go.Ev
open Go.Proofs
set_option maxRecDepth 1000000
set_option maxHeartbeats 8000000
abbrev CL1 (n : Nat) : Type := {c : CFn // compFn Tryz.prog n = c}
def c193s : CL1 193 := ⟨_, by conv => lhs; reduce⟩
def c193 : CFn := c193s.1
theorem c193_ok : c193 = compFn Tryz.prog 193 := c193s.2.symm
def c194s : CL1 194 := ⟨_, by conv => lhs; reduce⟩
def c194 : CFn := c194s.1
theorem c194_ok : c194 = compFn Tryz.prog 194 := c194s.2.symm
def c195s : CL1 195 := ⟨_, by conv => lhs; reduce⟩
def c195 : CFn := c195s.1
theorem c195_ok : c195 = compFn Tryz.prog 195 := c195s.2.symm
def c196s : CL1 196 := ⟨_, by conv => lhs; reduce⟩
def c196 : CFn := c196s.1
theorem c196_ok : c196 = compFn Tryz.prog 196 := c196s.2.symm
def c197s : CL1 197 := ⟨_, by conv => lhs; reduce⟩
def c197 : CFn := c197s.1
theorem c197_ok : c197 = compFn Tryz.prog 197 := c197s.2.symm
def c198s : CL1 198 := ⟨_, by conv => lhs; reduce⟩
def c198 : CFn := c198s.1
theorem c198_ok : c198 = compFn Tryz.prog 198 := c198s.2.symm
def c199s : CL1 199 := ⟨_, by conv => lhs; reduce⟩
def c199 : CFn := c199s.1
theorem c199_ok : c199 = compFn Tryz.prog 199 := c199s.2.symm
def c200s : CL1 200 := ⟨_, by conv => lhs; reduce⟩
def c200 : CFn := c200s.1
theorem c200_ok : c200 = compFn Tryz.prog 200 := c200s.2.symm
def c201s : CL1 201 := ⟨_, by conv => lhs; reduce⟩
def c201 : CFn := c201s.1
theorem c201_ok : c201 = compFn Tryz.prog 201 := c201s.2.symm
def c202s : CL1 202 := ⟨_, by conv => lhs; reduce⟩
def c202 : CFn := c202s.1
theorem c202_ok : c202 = compFn Tryz.prog 202 := c202s.2.symm
def c203 : CFn := .mk (.seq (.region [.o (.mv (.k (.bool false))) (.s .d4)]) (.seq (.seq (.region [.i (.mv (.l (.s .d0))), .i (.lenSl (.e 0)), .i (.mv (.l (.s .d1))), .i (.lenSl (.e 0)), .o (.arith .neq (.e 2) (.e 0)) (.s .d10)]) (.cond (.l (.s .d10)) (.seq (.region [.o (.mv (.k (.bool false))) (.s .d4)]) .ret) .skip)) (.seq (.seq (.region [.o (.mv (.k (.nat 0))) (.s .d5)]) (.block 0 (.loop (.seq (.seq (.region [.i (.mv (.l (.s .d5))), .i (.mv (.l (.s .d0))), .i (.lenSl (.e 0)), .o (.arith .lss (.e 2) (.e 0)) (.s .d14)]) (.cond (.l (.s .d14)) .skip (.exit 0))) (.seq (.block 1 (.seq (.dregion [⟨.i (.mv (.l (.s .d0))), false, 0⟩, ⟨.i (.mv (.l (.s .d5))), false, 0⟩, ⟨.i (.ixSl 5 (.e 1) (.e 0)), false, 0⟩, ⟨.i (.loadN 5 (.e 0)), false, 0⟩, ⟨.i (.mv (.l (.s .d1))), false, 0⟩, ⟨.i (.mv (.l (.s .d5))), false, 0⟩, ⟨.i (.ixSl 5 (.e 1) (.e 0)), false, 0⟩, ⟨.i (.loadN 5 (.e 0)), false, 0⟩, ⟨.i (.call 302 [(.e 4), (.e 0)]), true, 0⟩, ⟨.o (.un .not (.e 0)) (.w .d0 .d10), false, 0⟩]) (.cond (.l (.w .d0 .d10)) (.seq (.region [.o (.mv (.k (.bool false))) (.s .d4)]) .ret) .skip))) (.region [.i (.mv (.l (.s .d5))), .i (.arith .add (.e 0) (.k (.nat 1))), .o (.mv (.e 0)) (.s .d5)])))))) (.seq (.region [.o (.mv (.k (.bool true))) (.s .d4)]) .ret)))) [(.tmp (.l (.s .d4)))]
theorem c203_ok : c203 = compFn Tryz.prog 203 := by kernel_rfl
def c204s : CL1 204 := ⟨_, by conv => lhs; reduce⟩
def c204 : CFn := c204s.1
theorem c204_ok : c204 = compFn Tryz.prog 204 := c204s.2.symm
def c205s : CL1 205 := ⟨_, by conv => lhs; reduce⟩
def c205 : CFn := c205s.1
theorem c205_ok : c205 = compFn Tryz.prog 205 := c205s.2.symm
def c206s : CL1 206 := ⟨_, by conv => lhs; reduce⟩
def c206 : CFn := c206s.1
theorem c206_ok : c206 = compFn Tryz.prog 206 := c206s.2.symm
def c207s : CL1 207 := ⟨_, by conv => lhs; reduce⟩
def c207 : CFn := c207s.1
theorem c207_ok : c207 = compFn Tryz.prog 207 := c207s.2.symm
def c208s : CL1 208 := ⟨_, by conv => lhs; reduce⟩
def c208 : CFn := c208s.1
theorem c208_ok : c208 = compFn Tryz.prog 208 := c208s.2.symm
def c209s : CL1 209 := ⟨_, by conv => lhs; reduce⟩
def c209 : CFn := c209s.1
theorem c209_ok : c209 = compFn Tryz.prog 209 := c209s.2.symm
def c210s : CL1 210 := ⟨_, by conv => lhs; reduce⟩
def c210 : CFn := c210s.1
theorem c210_ok : c210 = compFn Tryz.prog 210 := c210s.2.symm
def c211s : CL1 211 := ⟨_, by conv => lhs; reduce⟩
def c211 : CFn := c211s.1
theorem c211_ok : c211 = compFn Tryz.prog 211 := c211s.2.symm
def c212s : CL1 212 := ⟨_, by conv => lhs; reduce⟩
def c212 : CFn := c212s.1
theorem c212_ok : c212 = compFn Tryz.prog 212 := c212s.2.symm
def c213s : CL1 213 := ⟨_, by conv => lhs; reduce⟩
def c213 : CFn := c213s.1
theorem c213_ok : c213 = compFn Tryz.prog 213 := c213s.2.symm
def c214s : CL1 214 := ⟨_, by conv => lhs; reduce⟩
def c214 : CFn := c214s.1
theorem c214_ok : c214 = compFn Tryz.prog 214 := c214s.2.symm
def c215s : CL1 215 := ⟨_, by conv => lhs; reduce⟩
def c215 : CFn := c215s.1
theorem c215_ok : c215 = compFn Tryz.prog 215 := c215s.2.symm
def c216s : CL1 216 := ⟨_, by conv => lhs; reduce⟩
def c216 : CFn := c216s.1
theorem c216_ok : c216 = compFn Tryz.prog 216 := c216s.2.symm
def c217s : CL1 217 := ⟨_, by conv => lhs; reduce⟩
def c217 : CFn := c217s.1
theorem c217_ok : c217 = compFn Tryz.prog 217 := c217s.2.symm
def c218s : CL1 218 := ⟨_, by conv => lhs; reduce⟩
def c218 : CFn := c218s.1
theorem c218_ok : c218 = compFn Tryz.prog 218 := c218s.2.symm
def c219s : CL1 219 := ⟨_, by conv => lhs; reduce⟩
def c219 : CFn := c219s.1
theorem c219_ok : c219 = compFn Tryz.prog 219 := c219s.2.symm
def c220s : CL1 220 := ⟨_, by conv => lhs; reduce⟩
def c220 : CFn := c220s.1
theorem c220_ok : c220 = compFn Tryz.prog 220 := c220s.2.symm
def c221s : CL1 221 := ⟨_, by conv => lhs; reduce⟩
def c221 : CFn := c221s.1
theorem c221_ok : c221 = compFn Tryz.prog 221 := c221s.2.symm
def c222s : CL1 222 := ⟨_, by conv => lhs; reduce⟩
def c222 : CFn := c222s.1
theorem c222_ok : c222 = compFn Tryz.prog 222 := c222s.2.symm
def c223s : CL1 223 := ⟨_, by conv => lhs; reduce⟩
def c223 : CFn := c223s.1
theorem c223_ok : c223 = compFn Tryz.prog 223 := c223s.2.symm
def c224s : CL1 224 := ⟨_, by conv => lhs; reduce⟩
def c224 : CFn := c224s.1
theorem c224_ok : c224 = compFn Tryz.prog 224 := c224s.2.symm
def c225s : CL1 225 := ⟨_, by conv => lhs; reduce⟩
def c225 : CFn := c225s.1
theorem c225_ok : c225 = compFn Tryz.prog 225 := c225s.2.symm
def c226s : CL1 226 := ⟨_, by conv => lhs; reduce⟩
def c226 : CFn := c226s.1
theorem c226_ok : c226 = compFn Tryz.prog 226 := c226s.2.symm
def c227 : CFn := .bad 227
def c228 : CFn := .bad 228
def c229s : CL1 229 := ⟨_, by conv => lhs; reduce⟩
def c229 : CFn := c229s.1
theorem c229_ok : c229 = compFn Tryz.prog 229 := c229s.2.symm
def c230s : CL1 230 := ⟨_, by conv => lhs; reduce⟩
def c230 : CFn := c230s.1
theorem c230_ok : c230 = compFn Tryz.prog 230 := c230s.2.symm
def c231s : CL1 231 := ⟨_, by conv => lhs; reduce⟩
def c231 : CFn := c231s.1
theorem c231_ok : c231 = compFn Tryz.prog 231 := c231s.2.symm
def c232 : CFn := .bad 232
def c233s : CL1 233 := ⟨_, by conv => lhs; reduce⟩
def c233 : CFn := c233s.1
theorem c233_ok : c233 = compFn Tryz.prog 233 := c233s.2.symm
def c234s : CL1 234 := ⟨_, by conv => lhs; reduce⟩
def c234 : CFn := c234s.1
theorem c234_ok : c234 = compFn Tryz.prog 234 := c234s.2.symm
def c235s : CL1 235 := ⟨_, by conv => lhs; reduce⟩
def c235 : CFn := c235s.1
theorem c235_ok : c235 = compFn Tryz.prog 235 := c235s.2.symm
def c236s : CL1 236 := ⟨_, by conv => lhs; reduce⟩
def c236 : CFn := c236s.1
theorem c236_ok : c236 = compFn Tryz.prog 236 := c236s.2.symm
def c237s : CL1 237 := ⟨_, by conv => lhs; reduce⟩
def c237 : CFn := c237s.1
theorem c237_ok : c237 = compFn Tryz.prog 237 := c237s.2.symm
def c238 : CFn := .bad 238
def c239s : CL1 239 := ⟨_, by conv => lhs; reduce⟩
def c239 : CFn := c239s.1
theorem c239_ok : c239 = compFn Tryz.prog 239 := c239s.2.symm
def c240s : CL1 240 := ⟨_, by conv => lhs; reduce⟩
def c240 : CFn := c240s.1
theorem c240_ok : c240 = compFn Tryz.prog 240 := c240s.2.symm
def c241s : CL1 241 := ⟨_, by conv => lhs; reduce⟩
def c241 : CFn := c241s.1
theorem c241_ok : c241 = compFn Tryz.prog 241 := c241s.2.symm
def c242s : CL1 242 := ⟨_, by conv => lhs; reduce⟩
def c242 : CFn := c242s.1
theorem c242_ok : c242 = compFn Tryz.prog 242 := c242s.2.symm
def c243s : CL1 243 := ⟨_, by conv => lhs; reduce⟩
def c243 : CFn := c243s.1
theorem c243_ok : c243 = compFn Tryz.prog 243 := c243s.2.symm
def c244s : CL1 244 := ⟨_, by conv => lhs; reduce⟩
def c244 : CFn := c244s.1
theorem c244_ok : c244 = compFn Tryz.prog 244 := c244s.2.symm
def c245s : CL1 245 := ⟨_, by conv => lhs; reduce⟩
def c245 : CFn := c245s.1
theorem c245_ok : c245 = compFn Tryz.prog 245 := c245s.2.symm
def c246s : CL1 246 := ⟨_, by conv => lhs; reduce⟩
def c246 : CFn := c246s.1
theorem c246_ok : c246 = compFn Tryz.prog 246 := c246s.2.symm
def c247s : CL1 247 := ⟨_, by conv => lhs; reduce⟩
def c247 : CFn := c247s.1
theorem c247_ok : c247 = compFn Tryz.prog 247 := c247s.2.symm
def c248s : CL1 248 := ⟨_, by conv => lhs; reduce⟩
def c248 : CFn := c248s.1
theorem c248_ok : c248 = compFn Tryz.prog 248 := c248s.2.symm
def c249s : CL1 249 := ⟨_, by conv => lhs; reduce⟩
def c249 : CFn := c249s.1
theorem c249_ok : c249 = compFn Tryz.prog 249 := c249s.2.symm
def c250 : CFn := .bad 250
def c251s : CL1 251 := ⟨_, by conv => lhs; reduce⟩
def c251 : CFn := c251s.1
theorem c251_ok : c251 = compFn Tryz.prog 251 := c251s.2.symm
def c252s : CL1 252 := ⟨_, by conv => lhs; reduce⟩
def c252 : CFn := c252s.1
theorem c252_ok : c252 = compFn Tryz.prog 252 := c252s.2.symm
def c253s : CL1 253 := ⟨_, by conv => lhs; reduce⟩
def c253 : CFn := c253s.1
theorem c253_ok : c253 = compFn Tryz.prog 253 := c253s.2.symm
def c254s : CL1 254 := ⟨_, by conv => lhs; reduce⟩
def c254 : CFn := c254s.1
theorem c254_ok : c254 = compFn Tryz.prog 254 := c254s.2.symm
def c255s : CL1 255 := ⟨_, by conv => lhs; reduce⟩
def c255 : CFn := c255s.1
theorem c255_ok : c255 = compFn Tryz.prog 255 := c255s.2.symm
def c256 : CFn := .bad 256
def c257s : CL1 257 := ⟨_, by conv => lhs; reduce⟩
def c257 : CFn := c257s.1
theorem c257_ok : c257 = compFn Tryz.prog 257 := c257s.2.symm
def c258s : CL1 258 := ⟨_, by conv => lhs; reduce⟩
def c258 : CFn := c258s.1
theorem c258_ok : c258 = compFn Tryz.prog 258 := c258s.2.symm
def c259s : CL1 259 := ⟨_, by conv => lhs; reduce⟩
def c259 : CFn := c259s.1
theorem c259_ok : c259 = compFn Tryz.prog 259 := c259s.2.symm
def c260s : CL1 260 := ⟨_, by conv => lhs; reduce⟩
def c260 : CFn := c260s.1
theorem c260_ok : c260 = compFn Tryz.prog 260 := c260s.2.symm
def c261s : CL1 261 := ⟨_, by conv => lhs; reduce⟩
def c261 : CFn := c261s.1
theorem c261_ok : c261 = compFn Tryz.prog 261 := c261s.2.symm
def c262s : CL1 262 := ⟨_, by conv => lhs; reduce⟩
def c262 : CFn := c262s.1
theorem c262_ok : c262 = compFn Tryz.prog 262 := c262s.2.symm
def c263s : CL1 263 := ⟨_, by conv => lhs; reduce⟩
def c263 : CFn := c263s.1
theorem c263_ok : c263 = compFn Tryz.prog 263 := c263s.2.symm
def c264s : CL1 264 := ⟨_, by conv => lhs; reduce⟩
def c264 : CFn := c264s.1
theorem c264_ok : c264 = compFn Tryz.prog 264 := c264s.2.symm
def c265s : CL1 265 := ⟨_, by conv => lhs; reduce⟩
def c265 : CFn := c265s.1
theorem c265_ok : c265 = compFn Tryz.prog 265 := c265s.2.symm
def c266s : CL1 266 := ⟨_, by conv => lhs; reduce⟩
def c266 : CFn := c266s.1
theorem c266_ok : c266 = compFn Tryz.prog 266 := c266s.2.symm
def c267s : CL1 267 := ⟨_, by conv => lhs; reduce⟩
def c267 : CFn := c267s.1
theorem c267_ok : c267 = compFn Tryz.prog 267 := c267s.2.symm
def c268s : CL1 268 := ⟨_, by conv => lhs; reduce⟩
def c268 : CFn := c268s.1
theorem c268_ok : c268 = compFn Tryz.prog 268 := c268s.2.symm
def c269s : CL1 269 := ⟨_, by conv => lhs; reduce⟩
def c269 : CFn := c269s.1
theorem c269_ok : c269 = compFn Tryz.prog 269 := c269s.2.symm
def c270s : CL1 270 := ⟨_, by conv => lhs; reduce⟩
def c270 : CFn := c270s.1
theorem c270_ok : c270 = compFn Tryz.prog 270 := c270s.2.symm
def c271s : CL1 271 := ⟨_, by conv => lhs; reduce⟩
def c271 : CFn := c271s.1
theorem c271_ok : c271 = compFn Tryz.prog 271 := c271s.2.symm
def c272s : CL1 272 := ⟨_, by conv => lhs; reduce⟩
def c272 : CFn := c272s.1
theorem c272_ok : c272 = compFn Tryz.prog 272 := c272s.2.symm
def c273s : CL1 273 := ⟨_, by conv => lhs; reduce⟩
def c273 : CFn := c273s.1
theorem c273_ok : c273 = compFn Tryz.prog 273 := c273s.2.symm
def c274s : CL1 274 := ⟨_, by conv => lhs; reduce⟩
def c274 : CFn := c274s.1
theorem c274_ok : c274 = compFn Tryz.prog 274 := c274s.2.symm
def c275s : CL1 275 := ⟨_, by conv => lhs; reduce⟩
def c275 : CFn := c275s.1
theorem c275_ok : c275 = compFn Tryz.prog 275 := c275s.2.symm
def c276s : CL1 276 := ⟨_, by conv => lhs; reduce⟩
def c276 : CFn := c276s.1
theorem c276_ok : c276 = compFn Tryz.prog 276 := c276s.2.symm
def c277s : CL1 277 := ⟨_, by conv => lhs; reduce⟩
def c277 : CFn := c277s.1
theorem c277_ok : c277 = compFn Tryz.prog 277 := c277s.2.symm
def c278s : CL1 278 := ⟨_, by conv => lhs; reduce⟩
def c278 : CFn := c278s.1
theorem c278_ok : c278 = compFn Tryz.prog 278 := c278s.2.symm
def c279 : CFn := .mk (.seq (.region [.o (.box (.l (.s .d0))) (.s .d2), .o (.box (.l (.s .d1))) (.s .d3), .o (.mv (.k (.bool false))) (.s .d4)]) (.seq (.region [.i (.addOff 8 (.l (.s .d2))), .i (.load1 (.e 0)), .i (.addOff 8 (.l (.s .d3))), .i (.load1 (.e 0)), .i (.call 385 [(.e 2), (.e 0)]), .i (.mv (.e 0)), .g (.e 0) true (.addOff 10 (.l (.s .d2))) none, .g (.e 1) true (.load1 (.e 0)) none, .g (.e 2) true (.addOff 10 (.l (.s .d3))) none, .g (.e 3) true (.load1 (.e 0)) none, .g (.e 4) true (.call 386 [(.e 2), (.e 0)]) none, .i (.pick (.e 5) (.e 0) (.k (.bool false))), .i (.mv (.e 0)), .g (.e 0) true (.addOff 11 (.l (.s .d2))) none, .g (.e 1) true (.load1 (.e 0)) none, .g (.e 2) true (.addOff 11 (.l (.s .d3))) none, .g (.e 3) true (.load1 (.e 0)) none, .g (.e 4) true (.call 387 [(.e 2), (.e 0)]) none, .i (.pick (.e 5) (.e 0) (.k (.bool false))), .i (.mv (.e 0)), .g (.e 0) true (.addOff 9 (.l (.s .d2))) none, .g (.e 1) true (.load1 (.e 0)) none, .g (.e 2) true (.addOff 9 (.l (.s .d3))) none, .g (.e 3) true (.load1 (.e 0)) none, .g (.e 4) true (.call 346 [(.e 2), (.e 0)]) none, .i (.pick (.e 5) (.e 0) (.k (.bool false))), .i (.mv (.e 0)), .g (.e 0) true (.addOff 16 (.l (.s .d2))) none, .g (.e 1) true (.addOff 4 (.e 0)) none, .g (.e 2) true (.load1 (.e 0)) none, .g (.e 3) true (.addOff 16 (.l (.s .d3))) none, .g (.e 4) true (.addOff 4 (.e 0)) none, .g (.e 5) true (.load1 (.e 0)) none, .g (.e 6) true (.call 346 [(.e 3), (.e 0)]) none, .i (.pick (.e 7) (.e 0) (.k (.bool false))), .o (.mv (.e 0)) (.s .d5)]) (.seq (.region [.i (.addOff 6 (.l (.s .d2))), .i (.load1 (.e 0)), .i (.cvBS (.e 0)), .i (.addOff 6 (.l (.s .d3))), .i (.load1 (.e 0)), .i (.cvBS (.e 0)), .i (.arith .eql (.e 3) (.e 0)), .i (.mv (.e 0)), .g (.e 0) true (.addOff 24 (.l (.s .d2))) none, .g (.e 1) true (.load1 (.e 0)) none, .g (.e 2) true (.cvBS (.e 0)) none, .g (.e 3) true (.addOff 24 (.l (.s .d3))) none, .g (.e 4) true (.load1 (.e 0)) none, .g (.e 5) true (.cvBS (.e 0)) none, .g (.e 6) true (.arith .eql (.e 3) (.e 0)) none, .i (.pick (.e 7) (.e 0) (.k (.bool false))), .i (.mv (.e 0)), .g (.e 0) true (.addOff 16 (.l (.s .d2))) none, .g (.e 1) true (.addOff 1 (.e 0)) none, .g (.e 2) true (.load1 (.e 0)) none, .g (.e 3) true (.cvBS (.e 0)) none, .g (.e 4) true (.addOff 16 (.l (.s .d3))) none, .g (.e 5) true (.addOff 1 (.e 0)) none, .g (.e 6) true (.load1 (.e 0)) none, .g (.e 7) true (.cvBS (.e 0)) none, .g (.e 8) true (.arith .eql (.e 4) (.e 0)) none, .i (.pick (.e 9) (.e 0) (.k (.bool false))), .o (.mv (.e 0)) (.s .d6)]) (.seq (.region [.i (.addOff 16 (.l (.s .d2))), .i (.addOff 0 (.e 0)), .i (.load1 (.e 0)), .i (.addOff 16 (.l (.s .d3))), .i (.addOff 0 (.e 0)), .i (.load1 (.e 0)), .i (.arith .eql (.e 3) (.e 0)), .i (.mv (.e 0)), .g (.e 0) true (.addOff 16 (.l (.s .d2))) none, .g (.e 1) true (.addOff 2 (.e 0)) none, .g (.e 2) true (.load1 (.e 0)) none, .g (.e 3) true (.addOff 16 (.l (.s .d3))) none, .g (.e 4) true (.addOff 2 (.e 0)) none, .g (.e 5) true (.load1 (.e 0)) none, .g (.e 6) true (.arith .eql (.e 3) (.e 0)) none, .i (.pick (.e 7) (.e 0) (.k (.bool false))), .i (.mv (.e 0)), .g (.e 0) true (.addOff 16 (.l (.s .d2))) none, .g (.e 1) true (.addOff 3 (.e 0)) none, .g (.e 2) true (.load1 (.e 0)) none, .g (.e 3) true (.addOff 16 (.l (.s .d3))) none, .g (.e 4) true (.addOff 3 (.e 0)) none, .g (.e 5) true (.load1 (.e 0)) none, .g (.e 6) true (.eq false .bool false (.e 3) (.e 0)) none, .i (.pick (.e 7) (.e 0) (.k (.bool false))), .o (.mv (.e 0)) (.s .d7)]) (.seq (.region [.i (.addOff 1 (.l (.s .d2))), .i (.load1 (.e 0)), .i (.addOff 1 (.l (.s .d3))), .i (.load1 (.e 0)), .i (.eq false .bool false (.e 2) (.e 0)), .i (.mv (.e 0)), .g (.e 0) true (.addOff 3 (.l (.s .d2))) none, .g (.e 1) true (.load1 (.e 0)) none, .g (.e 2) true (.addOff 3 (.l (.s .d3))) none, .g (.e 3) true (.load1 (.e 0)) none, .g (.e 4) true (.eq false .bool false (.e 2) (.e 0)) none, .i (.pick (.e 5) (.e 0) (.k (.bool false))), .i (.mv (.e 0)), .g (.e 0) true (.addOff 12 (.l (.s .d2))) none, .g (.e 1) true (.load1 (.e 0)) none, .g (.e 2) true (.addOff 12 (.l (.s .d3))) none, .g (.e 3) true (.load1 (.e 0)) none, .g (.e 4) true (.eq false .bool false (.e 2) (.e 0)) none, .i (.pick (.e 5) (.e 0) (.k (.bool false))), .i (.mv (.e 0)), .g (.e 0) true (.addOff 15 (.l (.s .d2))) none, .g (.e 1) true (.load1 (.e 0)) none, .g (.e 2) true (.addOff 15 (.l (.s .d3))) none, .g (.e 3) true (.load1 (.e 0)) none, .g (.e 4) true (.eq false .bool false (.e 2) (.e 0)) none, .i (.pick (.e 5) (.e 0) (.k (.bool false))), .i (.mv (.e 0)), .g (.e 0) true (.addOff 21 (.l (.s .d2))) none, .g (.e 1) true (.load1 (.e 0)) none, .g (.e 2) true (.addOff 21 (.l (.s .d3))) none, .g (.e 3) true (.load1 (.e 0)) none, .g (.e 4) true (.eq false .bool false (.e 2) (.e 0)) none, .i (.pick (.e 5) (.e 0) (.k (.bool false))), .i (.mv (.e 0)), .g (.e 0) true (.addOff 23 (.l (.s .d2))) none, .g (.e 1) true (.load1 (.e 0)) none, .g (.e 2) true (.addOff 23 (.l (.s .d3))) none, .g (.e 3) true (.load1 (.e 0)) none, .g (.e 4) true (.eq false .bool false (.e 2) (.e 0)) none, .i (.pick (.e 5) (.e 0) (.k (.bool false))), .i (.mv (.e 0)), .g (.e 0) true (.addOff 25 (.l (.s .d2))) none, .g (.e 1) true (.load1 (.e 0)) none, .g (.e 2) true (.addOff 25 (.l (.s .d3))) none, .g (.e 3) true (.load1 (.e 0)) none, .g (.e 4) true (.eq false .bool false (.e 2) (.e 0)) none, .i (.pick (.e 5) (.e 0) (.k (.bool false))), .o (.mv (.e 0)) (.s .d8)]) (.seq (.region [.i (.mv (.l (.s .d5))), .i (.mv (.e 0)), .g (.e 0) true (.mv (.l (.s .d6))) none, .i (.pick (.e 1) (.e 0) (.k (.bool false))), .i (.mv (.e 0)), .g (.e 0) true (.mv (.l (.s .d7))) none, .i (.pick (.e 1) (.e 0) (.k (.bool false))), .i (.mv (.e 0)), .g (.e 0) true (.mv (.l (.s .d8))) none, .i (.pick (.e 1) (.e 0) (.k (.bool false))), .i (.mv (.e 0)), .g (.e 0) true (.addOff 0 (.l (.s .d2))) none, .g (.e 1) true (.load1 (.e 0)) none, .g (.e 2) true (.addOff 0 (.l (.s .d3))) none, .g (.e 3) true (.load1 (.e 0)) none, .g (.e 4) true (.arith .eql (.e 2) (.e 0)) none, .i (.pick (.e 5) (.e 0) (.k (.bool false))), .i (.mv (.e 0)), .g (.e 0) true (.addOff 2 (.l (.s .d2))) none, .g (.e 1) true (.load1 (.e 0)) none, .g (.e 2) true (.addOff 2 (.l (.s .d3))) none, .g (.e 3) true (.load1 (.e 0)) none, .g (.e 4) true (.arith .eql (.e 2) (.e 0)) none, .i (.pick (.e 5) (.e 0) (.k (.bool false))), .i (.mv (.e 0)), .g (.e 0) true (.addOff 4 (.l (.s .d2))) none, .g (.e 1) true (.load1 (.e 0)) none, .g (.e 2) true (.addOff 4 (.l (.s .d3))) none, .g (.e 3) true (.load1 (.e 0)) none, .g (.e 4) true (.arith .eql (.e 2) (.e 0)) none, .i (.pick (.e 5) (.e 0) (.k (.bool false))), .i (.mv (.e 0)), .g (.e 0) true (.addOff 5 (.l (.s .d2))) none, .g (.e 1) true (.load1 (.e 0)) none, .g (.e 2) true (.addOff 5 (.l (.s .d3))) none, .g (.e 3) true (.load1 (.e 0)) none, .g (.e 4) true (.arith .eql (.e 2) (.e 0)) none, .i (.pick (.e 5) (.e 0) (.k (.bool false))), .i (.mv (.e 0)), .g (.e 0) true (.addOff 7 (.l (.s .d2))) none, .g (.e 1) true (.load1 (.e 0)) none, .g (.e 2) true (.addOff 7 (.l (.s .d3))) none, .g (.e 3) true (.load1 (.e 0)) none, .g (.e 4) true (.arith .eql (.e 2) (.e 0)) none, .i (.pick (.e 5) (.e 0) (.k (.bool false))), .i (.mv (.e 0)), .g (.e 0) true (.addOff 13 (.l (.s .d2))) none, .g (.e 1) true (.load1 (.e 0)) none, .g (.e 2) true (.addOff 13 (.l (.s .d3))) none, .g (.e 3) true (.load1 (.e 0)) none, .g (.e 4) true (.arith .eql (.e 2) (.e 0)) none, .i (.pick (.e 5) (.e 0) (.k (.bool false))), .i (.mv (.e 0)), .g (.e 0) true (.addOff 14 (.l (.s .d2))) none, .g (.e 1) true (.load1 (.e 0)) none, .g (.e 2) true (.addOff 14 (.l (.s .d3))) none, .g (.e 3) true (.load1 (.e 0)) none, .g (.e 4) true (.arith .eql (.e 2) (.e 0)) none, .i (.pick (.e 5) (.e 0) (.k (.bool false))), .i (.mv (.e 0)), .g (.e 0) true (.addOff 22 (.l (.s .d2))) none, .g (.e 1) true (.load1 (.e 0)) none, .g (.e 2) true (.addOff 22 (.l (.s .d3))) none, .g (.e 3) true (.load1 (.e 0)) none, .g (.e 4) true (.arith .eql (.e 2) (.e 0)) none, .i (.pick (.e 5) (.e 0) (.k (.bool false))), .o (.mv (.e 0)) (.s .d4)]) .ret)))))) [(.tmp (.l (.s .d4)))]
theorem c279_ok : c279 = compFn Tryz.prog 279 := by kernel_rfl
def c280s : CL1 280 := ⟨_, by conv => lhs; reduce⟩
def c280 : CFn := c280s.1
theorem c280_ok : c280 = compFn Tryz.prog 280 := c280s.2.symm
def c281s : CL1 281 := ⟨_, by conv => lhs; reduce⟩
def c281 : CFn := c281s.1
theorem c281_ok : c281 = compFn Tryz.prog 281 := c281s.2.symm
def c282s : CL1 282 := ⟨_, by conv => lhs; reduce⟩
def c282 : CFn := c282s.1
theorem c282_ok : c282 = compFn Tryz.prog 282 := c282s.2.symm
def c283s : CL1 283 := ⟨_, by conv => lhs; reduce⟩
def c283 : CFn := c283s.1
theorem c283_ok : c283 = compFn Tryz.prog 283 := c283s.2.symm
def c284s : CL1 284 := ⟨_, by conv => lhs; reduce⟩
def c284 : CFn := c284s.1
theorem c284_ok : c284 = compFn Tryz.prog 284 := c284s.2.symm
def c285s : CL1 285 := ⟨_, by conv => lhs; reduce⟩
def c285 : CFn := c285s.1
theorem c285_ok : c285 = compFn Tryz.prog 285 := c285s.2.symm
def c286s : CL1 286 := ⟨_, by conv => lhs; reduce⟩
def c286 : CFn := c286s.1
theorem c286_ok : c286 = compFn Tryz.prog 286 := c286s.2.symm
def c287s : CL1 287 := ⟨_, by conv => lhs; reduce⟩
def c287 : CFn := c287s.1
theorem c287_ok : c287 = compFn Tryz.prog 287 := c287s.2.symm
def c288s : CL1 288 := ⟨_, by conv => lhs; reduce⟩
def c288 : CFn := c288s.1
theorem c288_ok : c288 = compFn Tryz.prog 288 := c288s.2.symm
def c289s : CL1 289 := ⟨_, by conv => lhs; reduce⟩
def c289 : CFn := c289s.1
theorem c289_ok : c289 = compFn Tryz.prog 289 := c289s.2.symm
def c290s : CL1 290 := ⟨_, by conv => lhs; reduce⟩
def c290 : CFn := c290s.1
theorem c290_ok : c290 = compFn Tryz.prog 290 := c290s.2.symm
def c291s : CL1 291 := ⟨_, by conv => lhs; reduce⟩
def c291 : CFn := c291s.1
theorem c291_ok : c291 = compFn Tryz.prog 291 := c291s.2.symm
def c292s : CL1 292 := ⟨_, by conv => lhs; reduce⟩
def c292 : CFn := c292s.1
theorem c292_ok : c292 = compFn Tryz.prog 292 := c292s.2.symm
def c293s : CL1 293 := ⟨_, by conv => lhs; reduce⟩
def c293 : CFn := c293s.1
theorem c293_ok : c293 = compFn Tryz.prog 293 := c293s.2.symm
def c294s : CL1 294 := ⟨_, by conv => lhs; reduce⟩
def c294 : CFn := c294s.1
theorem c294_ok : c294 = compFn Tryz.prog 294 := c294s.2.symm
def c295s : CL1 295 := ⟨_, by conv => lhs; reduce⟩
def c295 : CFn := c295s.1
theorem c295_ok : c295 = compFn Tryz.prog 295 := c295s.2.symm
def c296s : CL1 296 := ⟨_, by conv => lhs; reduce⟩
def c296 : CFn := c296s.1
theorem c296_ok : c296 = compFn Tryz.prog 296 := c296s.2.symm
def c297s : CL1 297 := ⟨_, by conv => lhs; reduce⟩
def c297 : CFn := c297s.1
theorem c297_ok : c297 = compFn Tryz.prog 297 := c297s.2.symm
def c298s : CL1 298 := ⟨_, by conv => lhs; reduce⟩
def c298 : CFn := c298s.1
theorem c298_ok : c298 = compFn Tryz.prog 298 := c298s.2.symm
def c299s : CL1 299 := ⟨_, by conv => lhs; reduce⟩
def c299 : CFn := c299s.1
theorem c299_ok : c299 = compFn Tryz.prog 299 := c299s.2.symm
def c300s : CL1 300 := ⟨_, by conv => lhs; reduce⟩
def c300 : CFn := c300s.1
theorem c300_ok : c300 = compFn Tryz.prog 300 := c300s.2.symm
def c301s : CL1 301 := ⟨_, by conv => lhs; reduce⟩
def c301 : CFn := c301s.1
theorem c301_ok : c301 = compFn Tryz.prog 301 := c301s.2.symm
def c302s : CL1 302 := ⟨_, by conv => lhs; reduce⟩
def c302 : CFn := c302s.1
theorem c302_ok : c302 = compFn Tryz.prog 302 := c302s.2.symm
def c303s : CL1 303 := ⟨_, by conv => lhs; reduce⟩
def c303 : CFn := c303s.1
theorem c303_ok : c303 = compFn Tryz.prog 303 := c303s.2.symm
def c304s : CL1 304 := ⟨_, by conv => lhs; reduce⟩
def c304 : CFn := c304s.1
theorem c304_ok : c304 = compFn Tryz.prog 304 := c304s.2.symm
def c305s : CL1 305 := ⟨_, by conv => lhs; reduce⟩
def c305 : CFn := c305s.1
theorem c305_ok : c305 = compFn Tryz.prog 305 := c305s.2.symm
def c306s : CL1 306 := ⟨_, by conv => lhs; reduce⟩
def c306 : CFn := c306s.1
theorem c306_ok : c306 = compFn Tryz.prog 306 := c306s.2.symm
def c307s : CL1 307 := ⟨_, by conv => lhs; reduce⟩
def c307 : CFn := c307s.1
theorem c307_ok : c307 = compFn Tryz.prog 307 := c307s.2.symm
def c308s : CL1 308 := ⟨_, by conv => lhs; reduce⟩
def c308 : CFn := c308s.1
theorem c308_ok : c308 = compFn Tryz.prog 308 := c308s.2.symm
def c309s : CL1 309 := ⟨_, by conv => lhs; reduce⟩
def c309 : CFn := c309s.1
theorem c309_ok : c309 = compFn Tryz.prog 309 := c309s.2.symm
def c310s : CL1 310 := ⟨_, by conv => lhs; reduce⟩
def c310 : CFn := c310s.1
theorem c310_ok : c310 = compFn Tryz.prog 310 := c310s.2.symm
def c311s : CL1 311 := ⟨_, by conv => lhs; reduce⟩
def c311 : CFn := c311s.1
theorem c311_ok : c311 = compFn Tryz.prog 311 := c311s.2.symm
def c312s : CL1 312 := ⟨_, by conv => lhs; reduce⟩
def c312 : CFn := c312s.1
theorem c312_ok : c312 = compFn Tryz.prog 312 := c312s.2.symm
def c313s : CL1 313 := ⟨_, by conv => lhs; reduce⟩
def c313 : CFn := c313s.1
theorem c313_ok : c313 = compFn Tryz.prog 313 := c313s.2.symm
def c314s : CL1 314 := ⟨_, by conv => lhs; reduce⟩
def c314 : CFn := c314s.1
theorem c314_ok : c314 = compFn Tryz.prog 314 := c314s.2.symm
def c315s : CL1 315 := ⟨_, by conv => lhs; reduce⟩
def c315 : CFn := c315s.1
theorem c315_ok : c315 = compFn Tryz.prog 315 := c315s.2.symm
def c316s : CL1 316 := ⟨_, by conv => lhs; reduce⟩
def c316 : CFn := c316s.1
theorem c316_ok : c316 = compFn Tryz.prog 316 := c316s.2.symm
def c317s : CL1 317 := ⟨_, by conv => lhs; reduce⟩
def c317 : CFn := c317s.1
theorem c317_ok : c317 = compFn Tryz.prog 317 := c317s.2.symm
def c318s : CL1 318 := ⟨_, by conv => lhs; reduce⟩
def c318 : CFn := c318s.1
theorem c318_ok : c318 = compFn Tryz.prog 318 := c318s.2.symm
def c319s : CL1 319 := ⟨_, by conv => lhs; reduce⟩
def c319 : CFn := c319s.1
theorem c319_ok : c319 = compFn Tryz.prog 319 := c319s.2.symm
def c320s : CL1 320 := ⟨_, by conv => lhs; reduce⟩
def c320 : CFn := c320s.1
theorem c320_ok : c320 = compFn Tryz.prog 320 := c320s.2.symm
def c321s : CL1 321 := ⟨_, by conv => lhs; reduce⟩
def c321 : CFn := c321s.1
theorem c321_ok : c321 = compFn Tryz.prog 321 := c321s.2.symm
def c322s : CL1 322 := ⟨_, by conv => lhs; reduce⟩
def c322 : CFn := c322s.1
theorem c322_ok : c322 = compFn Tryz.prog 322 := c322s.2.symm
def c323s : CL1 323 := ⟨_, by conv => lhs; reduce⟩
def c323 : CFn := c323s.1
theorem c323_ok : c323 = compFn Tryz.prog 323 := c323s.2.symm
def c324s : CL1 324 := ⟨_, by conv => lhs; reduce⟩
def c324 : CFn := c324s.1
theorem c324_ok : c324 = compFn Tryz.prog 324 := c324s.2.symm
def c325s : CL1 325 := ⟨_, by conv => lhs; reduce⟩
def c325 : CFn := c325s.1
theorem c325_ok : c325 = compFn Tryz.prog 325 := c325s.2.symm
def c326s : CL1 326 := ⟨_, by conv => lhs; reduce⟩
def c326 : CFn := c326s.1
theorem c326_ok : c326 = compFn Tryz.prog 326 := c326s.2.symm
def c327s : CL1 327 := ⟨_, by conv => lhs; reduce⟩
def c327 : CFn := c327s.1
theorem c327_ok : c327 = compFn Tryz.prog 327 := c327s.2.symm
def c328s : CL1 328 := ⟨_, by conv => lhs; reduce⟩
def c328 : CFn := c328s.1
theorem c328_ok : c328 = compFn Tryz.prog 328 := c328s.2.symm
def c329s : CL1 329 := ⟨_, by conv => lhs; reduce⟩
def c329 : CFn := c329s.1
theorem c329_ok : c329 = compFn Tryz.prog 329 := c329s.2.symm
def c330s : CL1 330 := ⟨_, by conv => lhs; reduce⟩
def c330 : CFn := c330s.1
theorem c330_ok : c330 = compFn Tryz.prog 330 := c330s.2.symm
def c331s : CL1 331 := ⟨_, by conv => lhs; reduce⟩
def c331 : CFn := c331s.1
theorem c331_ok : c331 = compFn Tryz.prog 331 := c331s.2.symm
def c332s : CL1 332 := ⟨_, by conv => lhs; reduce⟩
def c332 : CFn := c332s.1
theorem c332_ok : c332 = compFn Tryz.prog 332 := c332s.2.symm
def c333s : CL1 333 := ⟨_, by conv => lhs; reduce⟩
def c333 : CFn := c333s.1
theorem c333_ok : c333 = compFn Tryz.prog 333 := c333s.2.symm
def c334s : CL1 334 := ⟨_, by conv => lhs; reduce⟩
def c334 : CFn := c334s.1
theorem c334_ok : c334 = compFn Tryz.prog 334 := c334s.2.symm
def c335s : CL1 335 := ⟨_, by conv => lhs; reduce⟩
def c335 : CFn := c335s.1
theorem c335_ok : c335 = compFn Tryz.prog 335 := c335s.2.symm
def c336s : CL1 336 := ⟨_, by conv => lhs; reduce⟩
def c336 : CFn := c336s.1
theorem c336_ok : c336 = compFn Tryz.prog 336 := c336s.2.symm
def c337s : CL1 337 := ⟨_, by conv => lhs; reduce⟩
def c337 : CFn := c337s.1
theorem c337_ok : c337 = compFn Tryz.prog 337 := c337s.2.symm
def c338s : CL1 338 := ⟨_, by conv => lhs; reduce⟩
def c338 : CFn := c338s.1
theorem c338_ok : c338 = compFn Tryz.prog 338 := c338s.2.symm
def c339s : CL1 339 := ⟨_, by conv => lhs; reduce⟩
def c339 : CFn := c339s.1
theorem c339_ok : c339 = compFn Tryz.prog 339 := c339s.2.symm
def c340s : CL1 340 := ⟨_, by conv => lhs; reduce⟩
def c340 : CFn := c340s.1
theorem c340_ok : c340 = compFn Tryz.prog 340 := c340s.2.symm
def c341s : CL1 341 := ⟨_, by conv => lhs; reduce⟩
def c341 : CFn := c341s.1
theorem c341_ok : c341 = compFn Tryz.prog 341 := c341s.2.symm
def c342 : CFn := .bad 342
def c343 : CFn := .bad 343
def c344s : CL1 344 := ⟨_, by conv => lhs; reduce⟩
def c344 : CFn := c344s.1
theorem c344_ok : c344 = compFn Tryz.prog 344 := c344s.2.symm
def c345s : CL1 345 := ⟨_, by conv => lhs; reduce⟩
def c345 : CFn := c345s.1
theorem c345_ok : c345 = compFn Tryz.prog 345 := c345s.2.symm
def c346 : CFn := .mk (.seq (.region [.o (.mv (.k (.bool false))) (.s .d4)]) (.seq (.region [.i (.mv (.l (.s .d0))), .i (.mv (.l (.s .d1))), .i (.call 419 [(.e 1), (.e 0), (.k (.func (.func 420) [] []))]), .o (.mv (.e 0)) (.s .d4)]) .ret)) [(.tmp (.l (.s .d4)))]
theorem c346_ok : c346 = compFn Tryz.prog 346 := by kernel_rfl
def c347 : CFn := .bad 347
def c348 : CFn := .bad 348
def c349s : CL1 349 := ⟨_, by conv => lhs; reduce⟩
def c349 : CFn := c349s.1
theorem c349_ok : c349 = compFn Tryz.prog 349 := c349s.2.symm
def c350s : CL1 350 := ⟨_, by conv => lhs; reduce⟩
def c350 : CFn := c350s.1
theorem c350_ok : c350 = compFn Tryz.prog 350 := c350s.2.symm
def c351s : CL1 351 := ⟨_, by conv => lhs; reduce⟩
def c351 : CFn := c351s.1
theorem c351_ok : c351 = compFn Tryz.prog 351 := c351s.2.symm
def c352s : CL1 352 := ⟨_, by conv => lhs; reduce⟩
def c352 : CFn := c352s.1
theorem c352_ok : c352 = compFn Tryz.prog 352 := c352s.2.symm
def c353s : CL1 353 := ⟨_, by conv => lhs; reduce⟩
def c353 : CFn := c353s.1
theorem c353_ok : c353 = compFn Tryz.prog 353 := c353s.2.symm
def c354s : CL1 354 := ⟨_, by conv => lhs; reduce⟩
def c354 : CFn := c354s.1
theorem c354_ok : c354 = compFn Tryz.prog 354 := c354s.2.symm
def c355s : CL1 355 := ⟨_, by conv => lhs; reduce⟩
def c355 : CFn := c355s.1
theorem c355_ok : c355 = compFn Tryz.prog 355 := c355s.2.symm
def c356s : CL1 356 := ⟨_, by conv => lhs; reduce⟩
def c356 : CFn := c356s.1
theorem c356_ok : c356 = compFn Tryz.prog 356 := c356s.2.symm
def c357s : CL1 357 := ⟨_, by conv => lhs; reduce⟩
def c357 : CFn := c357s.1
theorem c357_ok : c357 = compFn Tryz.prog 357 := c357s.2.symm
def c358s : CL1 358 := ⟨_, by conv => lhs; reduce⟩
def c358 : CFn := c358s.1
theorem c358_ok : c358 = compFn Tryz.prog 358 := c358s.2.symm
def c359s : CL1 359 := ⟨_, by conv => lhs; reduce⟩
def c359 : CFn := c359s.1
theorem c359_ok : c359 = compFn Tryz.prog 359 := c359s.2.symm
def c360s : CL1 360 := ⟨_, by conv => lhs; reduce⟩
def c360 : CFn := c360s.1
theorem c360_ok : c360 = compFn Tryz.prog 360 := c360s.2.symm
def c361s : CL1 361 := ⟨_, by conv => lhs; reduce⟩
def c361 : CFn := c361s.1
theorem c361_ok : c361 = compFn Tryz.prog 361 := c361s.2.symm
def c362s : CL1 362 := ⟨_, by conv => lhs; reduce⟩
def c362 : CFn := c362s.1
theorem c362_ok : c362 = compFn Tryz.prog 362 := c362s.2.symm
def c363s : CL1 363 := ⟨_, by conv => lhs; reduce⟩
def c363 : CFn := c363s.1
theorem c363_ok : c363 = compFn Tryz.prog 363 := c363s.2.symm
def c364s : CL1 364 := ⟨_, by conv => lhs; reduce⟩
def c364 : CFn := c364s.1
theorem c364_ok : c364 = compFn Tryz.prog 364 := c364s.2.symm
def c365s : CL1 365 := ⟨_, by conv => lhs; reduce⟩
def c365 : CFn := c365s.1
theorem c365_ok : c365 = compFn Tryz.prog 365 := c365s.2.symm
def c366s : CL1 366 := ⟨_, by conv => lhs; reduce⟩
def c366 : CFn := c366s.1
theorem c366_ok : c366 = compFn Tryz.prog 366 := c366s.2.symm
def c367s : CL1 367 := ⟨_, by conv => lhs; reduce⟩
def c367 : CFn := c367s.1
theorem c367_ok : c367 = compFn Tryz.prog 367 := c367s.2.symm
def c368s : CL1 368 := ⟨_, by conv => lhs; reduce⟩
def c368 : CFn := c368s.1
theorem c368_ok : c368 = compFn Tryz.prog 368 := c368s.2.symm
def c369s : CL1 369 := ⟨_, by conv => lhs; reduce⟩
def c369 : CFn := c369s.1
theorem c369_ok : c369 = compFn Tryz.prog 369 := c369s.2.symm
def c370s : CL1 370 := ⟨_, by conv => lhs; reduce⟩
def c370 : CFn := c370s.1
theorem c370_ok : c370 = compFn Tryz.prog 370 := c370s.2.symm
def c371s : CL1 371 := ⟨_, by conv => lhs; reduce⟩
def c371 : CFn := c371s.1
theorem c371_ok : c371 = compFn Tryz.prog 371 := c371s.2.symm
def c372s : CL1 372 := ⟨_, by conv => lhs; reduce⟩
def c372 : CFn := c372s.1
theorem c372_ok : c372 = compFn Tryz.prog 372 := c372s.2.symm
def c373s : CL1 373 := ⟨_, by conv => lhs; reduce⟩
def c373 : CFn := c373s.1
theorem c373_ok : c373 = compFn Tryz.prog 373 := c373s.2.symm
def c374s : CL1 374 := ⟨_, by conv => lhs; reduce⟩
def c374 : CFn := c374s.1
theorem c374_ok : c374 = compFn Tryz.prog 374 := c374s.2.symm
def c375s : CL1 375 := ⟨_, by conv => lhs; reduce⟩
def c375 : CFn := c375s.1
theorem c375_ok : c375 = compFn Tryz.prog 375 := c375s.2.symm
def c376s : CL1 376 := ⟨_, by conv => lhs; reduce⟩
def c376 : CFn := c376s.1
theorem c376_ok : c376 = compFn Tryz.prog 376 := c376s.2.symm
def c377 : CFn := .mk (.seq (.region [.o (.box (.l (.s .d1))) (.s .d3), .o (.mv (.k (.nat 0))) (.s .d4)]) (.seq (.seq (.region [.i (.mv (.l (.s .d0))), .o (.lenSl (.e 0)) (.s .d7), .o (.mv (.k (.nat 0))) (.s .d8)]) (.block 0 (.loop (.seq (.region [.o (.arith .lss (.l (.s .d8)) (.l (.s .d7))) (.s .d9)]) (.seq (.cond (.l (.s .d9)) .skip (.exit 0)) (.seq (.block 1 (.seq (.region [.i (.mv (.l (.s .d8))), .o (.mv (.e 0)) (.s .d5)]) (.seq (.dregion [⟨.i (.loadN 2 (.l (.s .d3))), false, 0⟩, ⟨.i (.mv (.l (.s .d0))), false, 0⟩, ⟨.i (.mv (.l (.s .d5))), false, 0⟩, ⟨.i (.ixSl 2 (.e 1) (.e 0)), false, 0⟩, ⟨.i (.loadN 2 (.e 0)), false, 0⟩, ⟨.o (.eq false (.struct [(0, .int), (1, .int)]) false (.e 4) (.e 0)) (.w .d0 .d0), false, 0⟩]) (.cond (.l (.w .d0 .d0)) (.seq (.region [.i (.mv (.l (.s .d5))), .o (.mv (.e 0)) (.s .d4)]) .ret) .skip)))) (.region [.i (.arith .add (.l (.s .d8)) (.k (.nat 1))), .o (.mv (.e 0)) (.s .d8)]))))))) (.seq (.region [.o (.mv (.k (.int .i64 (.negSucc 0)))) (.s .d4)]) .ret))) [(.tmp (.l (.s .d4)))]
theorem c377_ok : c377 = compFn Tryz.prog 377 := by kernel_rfl
def c378s : CL1 378 := ⟨_, by conv => lhs; reduce⟩
def c378 : CFn := c378s.1
theorem c378_ok : c378 = compFn Tryz.prog 378 := c378s.2.symm
def c379s : CL1 379 := ⟨_, by conv => lhs; reduce⟩
def c379 : CFn := c379s.1
theorem c379_ok : c379 = compFn Tryz.prog 379 := c379s.2.symm
def c380s : CL1 380 := ⟨_, by conv => lhs; reduce⟩
def c380 : CFn := c380s.1
theorem c380_ok : c380 = compFn Tryz.prog 380 := c380s.2.symm
def c381s : CL1 381 := ⟨_, by conv => lhs; reduce⟩
def c381 : CFn := c381s.1
theorem c381_ok : c381 = compFn Tryz.prog 381 := c381s.2.symm
def c382s : CL1 382 := ⟨_, by conv => lhs; reduce⟩
def c382 : CFn := c382s.1
theorem c382_ok : c382 = compFn Tryz.prog 382 := c382s.2.symm
def c383s : CL1 383 := ⟨_, by conv => lhs; reduce⟩
def c383 : CFn := c383s.1
theorem c383_ok : c383 = compFn Tryz.prog 383 := c383s.2.symm
def c384s : CL1 384 := ⟨_, by conv => lhs; reduce⟩
def c384 : CFn := c384s.1
theorem c384_ok : c384 = compFn Tryz.prog 384 := c384s.2.symm
def c385 : CFn := .mk (.seq (.region [.o (.mv (.k (.bool false))) (.s .d4)]) (.seq (.seq (.region [.i (.mv (.l (.s .d0))), .i (.lenSl (.e 0)), .i (.mv (.l (.s .d1))), .i (.lenSl (.e 0)), .o (.arith .neq (.e 2) (.e 0)) (.s .d10)]) (.cond (.l (.s .d10)) (.seq (.region [.o (.mv (.k (.bool false))) (.s .d4)]) .ret) .skip)) (.seq (.seq (.region [.i (.mv (.l (.s .d0))), .o (.lenSl (.e 0)) (.s .d12), .o (.mv (.k (.nat 0))) (.s .d13)]) (.block 0 (.loop (.seq (.region [.o (.arith .lss (.l (.s .d13)) (.l (.s .d12))) (.s .d14)]) (.seq (.cond (.l (.s .d14)) .skip (.exit 0)) (.seq (.block 1 (.seq (.region [.i (.mv (.l (.s .d13))), .o (.mv (.e 0)) (.s .d5)]) (.seq (.dregion [⟨.i (.mv (.l (.s .d0))), false, 0⟩, ⟨.i (.mv (.l (.s .d5))), false, 0⟩, ⟨.i (.ixSl 1 (.e 1) (.e 0)), false, 0⟩, ⟨.i (.load1 (.e 0)), false, 0⟩, ⟨.i (.mv (.l (.s .d1))), false, 0⟩, ⟨.i (.mv (.l (.s .d5))), false, 0⟩, ⟨.i (.ixSl 1 (.e 1) (.e 0)), false, 0⟩, ⟨.i (.load1 (.e 0)), false, 0⟩, ⟨.o (.arith .neq (.e 4) (.e 0)) (.w .d0 .d8), false, 0⟩]) (.cond (.l (.w .d0 .d8)) (.seq (.region [.o (.mv (.k (.bool false))) (.s .d4)]) .ret) .skip)))) (.region [.i (.arith .add (.l (.s .d13)) (.k (.nat 1))), .o (.mv (.e 0)) (.s .d13)]))))))) (.seq (.region [.o (.mv (.k (.bool true))) (.s .d4)]) .ret)))) [(.tmp (.l (.s .d4)))]
theorem c385_ok : c385 = compFn Tryz.prog 385 := by kernel_rfl
def c386 : CFn := .mk (.seq (.region [.o (.mv (.k (.bool false))) (.s .d4)]) (.seq (.seq (.region [.i (.mv (.l (.s .d0))), .i (.lenSl (.e 0)), .i (.mv (.l (.s .d1))), .i (.lenSl (.e 0)), .o (.arith .neq (.e 2) (.e 0)) (.s .d10)]) (.cond (.l (.s .d10)) (.seq (.region [.o (.mv (.k (.bool false))) (.s .d4)]) .ret) .skip)) (.seq (.seq (.region [.i (.mv (.l (.s .d0))), .o (.lenSl (.e 0)) (.s .d12), .o (.mv (.k (.nat 0))) (.s .d13)]) (.block 0 (.loop (.seq (.region [.o (.arith .lss (.l (.s .d13)) (.l (.s .d12))) (.s .d14)]) (.seq (.cond (.l (.s .d14)) .skip (.exit 0)) (.seq (.block 1 (.seq (.region [.i (.mv (.l (.s .d13))), .o (.mv (.e 0)) (.s .d5)]) (.seq (.dregion [⟨.i (.mv (.l (.s .d0))), false, 0⟩, ⟨.i (.mv (.l (.s .d5))), false, 0⟩, ⟨.i (.ixSl 6 (.e 1) (.e 0)), false, 0⟩, ⟨.i (.loadN 6 (.e 0)), false, 0⟩, ⟨.i (.mv (.l (.s .d1))), false, 0⟩, ⟨.i (.mv (.l (.s .d5))), false, 0⟩, ⟨.i (.ixSl 6 (.e 1) (.e 0)), false, 0⟩, ⟨.i (.loadN 6 (.e 0)), false, 0⟩, ⟨.o (.eq true (.struct [(0, .str), (1, .int), (2, .bool), (3, .bool), (4, .int), (5, .int)]) false (.e 4) (.e 0)) (.w .d0 .d8), false, 0⟩]) (.cond (.l (.w .d0 .d8)) (.seq (.region [.o (.mv (.k (.bool false))) (.s .d4)]) .ret) .skip)))) (.region [.i (.arith .add (.l (.s .d13)) (.k (.nat 1))), .o (.mv (.e 0)) (.s .d13)]))))))) (.seq (.region [.o (.mv (.k (.bool true))) (.s .d4)]) .ret)))) [(.tmp (.l (.s .d4)))]
theorem c386_ok : c386 = compFn Tryz.prog 386 := by kernel_rfl
def c387 : CFn := .mk (.seq (.region [.o (.mv (.k (.bool false))) (.s .d4)]) (.seq (.seq (.region [.i (.mv (.l (.s .d0))), .i (.lenSl (.e 0)), .i (.mv (.l (.s .d1))), .i (.lenSl (.e 0)), .o (.arith .neq (.e 2) (.e 0)) (.s .d10)]) (.cond (.l (.s .d10)) (.seq (.region [.o (.mv (.k (.bool false))) (.s .d4)]) .ret) .skip)) (.seq (.seq (.region [.i (.mv (.l (.s .d0))), .o (.lenSl (.e 0)) (.s .d12), .o (.mv (.k (.nat 0))) (.s .d13)]) (.block 0 (.loop (.seq (.region [.o (.arith .lss (.l (.s .d13)) (.l (.s .d12))) (.s .d14)]) (.seq (.cond (.l (.s .d14)) .skip (.exit 0)) (.seq (.block 1 (.seq (.region [.i (.mv (.l (.s .d13))), .o (.mv (.e 0)) (.s .d5)]) (.seq (.dregion [⟨.i (.mv (.l (.s .d0))), false, 0⟩, ⟨.i (.mv (.l (.s .d5))), false, 0⟩, ⟨.i (.ixSl 1 (.e 1) (.e 0)), false, 0⟩, ⟨.i (.load1 (.e 0)), false, 0⟩, ⟨.i (.mv (.l (.s .d1))), false, 0⟩, ⟨.i (.mv (.l (.s .d5))), false, 0⟩, ⟨.i (.ixSl 1 (.e 1) (.e 0)), false, 0⟩, ⟨.i (.load1 (.e 0)), false, 0⟩, ⟨.o (.arith .neq (.e 4) (.e 0)) (.w .d0 .d8), false, 0⟩]) (.cond (.l (.w .d0 .d8)) (.seq (.region [.o (.mv (.k (.bool false))) (.s .d4)]) .ret) .skip)))) (.region [.i (.arith .add (.l (.s .d13)) (.k (.nat 1))), .o (.mv (.e 0)) (.s .d13)]))))))) (.seq (.region [.o (.mv (.k (.bool true))) (.s .d4)]) .ret)))) [(.tmp (.l (.s .d4)))]
theorem c387_ok : c387 = compFn Tryz.prog 387 := by kernel_rfl
def c388s : CL1 388 := ⟨_, by conv => lhs; reduce⟩
def c388 : CFn := c388s.1
theorem c388_ok : c388 = compFn Tryz.prog 388 := c388s.2.symm
def c389s : CL1 389 := ⟨_, by conv => lhs; reduce⟩
def c389 : CFn := c389s.1
theorem c389_ok : c389 = compFn Tryz.prog 389 := c389s.2.symm
def c390s : CL1 390 := ⟨_, by conv => lhs; reduce⟩
def c390 : CFn := c390s.1
theorem c390_ok : c390 = compFn Tryz.prog 390 := c390s.2.symm
def c391s : CL1 391 := ⟨_, by conv => lhs; reduce⟩
def c391 : CFn := c391s.1
theorem c391_ok : c391 = compFn Tryz.prog 391 := c391s.2.symm
def c392s : CL1 392 := ⟨_, by conv => lhs; reduce⟩
def c392 : CFn := c392s.1
theorem c392_ok : c392 = compFn Tryz.prog 392 := c392s.2.symm
def c393s : CL1 393 := ⟨_, by conv => lhs; reduce⟩
def c393 : CFn := c393s.1
theorem c393_ok : c393 = compFn Tryz.prog 393 := c393s.2.symm
def c394s : CL1 394 := ⟨_, by conv => lhs; reduce⟩
def c394 : CFn := c394s.1
theorem c394_ok : c394 = compFn Tryz.prog 394 := c394s.2.symm
def c395s : CL1 395 := ⟨_, by conv => lhs; reduce⟩
def c395 : CFn := c395s.1
theorem c395_ok : c395 = compFn Tryz.prog 395 := c395s.2.symm
def c396s : CL1 396 := ⟨_, by conv => lhs; reduce⟩
def c396 : CFn := c396s.1
theorem c396_ok : c396 = compFn Tryz.prog 396 := c396s.2.symm
def c397s : CL1 397 := ⟨_, by conv => lhs; reduce⟩
def c397 : CFn := c397s.1
theorem c397_ok : c397 = compFn Tryz.prog 397 := c397s.2.symm
def c398s : CL1 398 := ⟨_, by conv => lhs; reduce⟩
def c398 : CFn := c398s.1
theorem c398_ok : c398 = compFn Tryz.prog 398 := c398s.2.symm
def c399s : CL1 399 := ⟨_, by conv => lhs; reduce⟩
def c399 : CFn := c399s.1
theorem c399_ok : c399 = compFn Tryz.prog 399 := c399s.2.symm
def c400s : CL1 400 := ⟨_, by conv => lhs; reduce⟩
def c400 : CFn := c400s.1
theorem c400_ok : c400 = compFn Tryz.prog 400 := c400s.2.symm
def c401s : CL1 401 := ⟨_, by conv => lhs; reduce⟩
def c401 : CFn := c401s.1
theorem c401_ok : c401 = compFn Tryz.prog 401 := c401s.2.symm
def c402s : CL1 402 := ⟨_, by conv => lhs; reduce⟩
def c402 : CFn := c402s.1
theorem c402_ok : c402 = compFn Tryz.prog 402 := c402s.2.symm
def c403s : CL1 403 := ⟨_, by conv => lhs; reduce⟩
def c403 : CFn := c403s.1
theorem c403_ok : c403 = compFn Tryz.prog 403 := c403s.2.symm
def c404s : CL1 404 := ⟨_, by conv => lhs; reduce⟩
def c404 : CFn := c404s.1
theorem c404_ok : c404 = compFn Tryz.prog 404 := c404s.2.symm
def c405s : CL1 405 := ⟨_, by conv => lhs; reduce⟩
def c405 : CFn := c405s.1
theorem c405_ok : c405 = compFn Tryz.prog 405 := c405s.2.symm
def c406s : CL1 406 := ⟨_, by conv => lhs; reduce⟩
def c406 : CFn := c406s.1
theorem c406_ok : c406 = compFn Tryz.prog 406 := c406s.2.symm
def c407s : CL1 407 := ⟨_, by conv => lhs; reduce⟩
def c407 : CFn := c407s.1
theorem c407_ok : c407 = compFn Tryz.prog 407 := c407s.2.symm
def c408s : CL1 408 := ⟨_, by conv => lhs; reduce⟩
def c408 : CFn := c408s.1
theorem c408_ok : c408 = compFn Tryz.prog 408 := c408s.2.symm
def c409s : CL1 409 := ⟨_, by conv => lhs; reduce⟩
def c409 : CFn := c409s.1
theorem c409_ok : c409 = compFn Tryz.prog 409 := c409s.2.symm
def c410s : CL1 410 := ⟨_, by conv => lhs; reduce⟩
def c410 : CFn := c410s.1
theorem c410_ok : c410 = compFn Tryz.prog 410 := c410s.2.symm
def c411s : CL1 411 := ⟨_, by conv => lhs; reduce⟩
def c411 : CFn := c411s.1
theorem c411_ok : c411 = compFn Tryz.prog 411 := c411s.2.symm
def c412s : CL1 412 := ⟨_, by conv => lhs; reduce⟩
def c412 : CFn := c412s.1
theorem c412_ok : c412 = compFn Tryz.prog 412 := c412s.2.symm
end Go.Ev
