/- The compact code of the program's functions, written out, and that it is what the compiler makes of them (0). -/
import Derived.Test.YtkolecenifiaaaaGreatDoorEvSym
import Derived.Test.YtkolecenifiaaaaGreatDoorProg
import Derived.KernelRfl
namespace Go.Ev
open Go.Proofs
set_option maxRecDepth 1000000
set_option maxHeartbeats 8000000
abbrev CL(n:Nat):Type:={c:CFn // compFn Tryz.prog n=c}
def c3s:CL 3:=⟨_,by conv=>lhs; reduce⟩
def c3:CFn:=c3s.1
theorem c3_ok:c3=compFn Tryz.prog 3:=c3s.2.symm
def c5s:CL 5:=⟨_,by conv=>lhs; reduce⟩
def c6s:CL 6:=⟨_,by conv=>lhs; reduce⟩
def c7s:CL 7:=⟨_,by conv=>lhs; reduce⟩
def c8s:CL 8:=⟨_,by conv=>lhs; reduce⟩
def c9s:CL 9:=⟨_,by conv=>lhs; reduce⟩
def c10s:CL 10:=⟨_,by conv=>lhs; reduce⟩
def c11s:CL 11:=⟨_,by conv=>lhs; reduce⟩
def c12s:CL 12:=⟨_,by conv=>lhs; reduce⟩
def c13s:CL 13:=⟨_,by conv=>lhs; reduce⟩
def c13:CFn:=c13s.1
theorem c13_ok:c13=compFn Tryz.prog 13:=c13s.2.symm
def c14s:CL 14:=⟨_,by conv=>lhs; reduce⟩
def c15s:CL 15:=⟨_,by conv=>lhs; reduce⟩
def c16s:CL 16:=⟨_,by conv=>lhs; reduce⟩
def c19s:CL 19:=⟨_,by conv=>lhs; reduce⟩
def c20s:CL 20:=⟨_,by conv=>lhs; reduce⟩
def c21s:CL 21:=⟨_,by conv=>lhs; reduce⟩
def c22s:CL 22:=⟨_,by conv=>lhs; reduce⟩
def c23s:CL 23:=⟨_,by conv=>lhs; reduce⟩
def c24s:CL 24:=⟨_,by conv=>lhs; reduce⟩
def c25s:CL 25:=⟨_,by conv=>lhs; reduce⟩
def c26s:CL 26:=⟨_,by conv=>lhs; reduce⟩
def c27s:CL 27:=⟨_,by conv=>lhs; reduce⟩
def c28s:CL 28:=⟨_,by conv=>lhs; reduce⟩
def c29s:CL 29:=⟨_,by conv=>lhs; reduce⟩
def c30s:CL 30:=⟨_,by conv=>lhs; reduce⟩
def c31:CFn:=.mk (.seq (.region [.o (.mv (.k (.bool false))) (.s .d4)]) (.seq (.region [.i (.mv (.l (.s .d0))),.i (.cvBS (.e 0)),.i (.mv (.l (.s .d1))),.i (.cvBS (.e 0)),.i (.arith .eql (.e 2) (.e 0)),.o (.mv (.e 0)) (.s .d4)]) .ret)) [(.tmp (.l (.s .d4)))]
theorem c31_ok:c31=compFn Tryz.prog 31:=by kernel_rfl
def c32:CFn:=.mk (.seq (.region [.o (.mv (.k (.bool false))) (.s .d4)]) (.seq (.seq (.region [.i (.mv (.l (.s .d0))),.i (.lenSl (.e 0)),.i (.mv (.l (.s .d1))),.i (.lenSl (.e 0)),.o (.arith .neq (.e 2) (.e 0)) (.s .d10)]) (.cond (.l (.s .d10)) (.seq (.region [.o (.mv (.k (.bool false))) (.s .d4)]) .ret) .skip)) (.seq (.seq (.region [.o (.mv (.k (.nat 0))) (.s .d5)]) (.block 0 (.loop (.seq (.seq (.region [.i (.mv (.l (.s .d5))),.i (.mv (.l (.s .d0))),.i (.lenSl (.e 0)),.o (.arith .lss (.e 2) (.e 0)) (.s .d14)]) (.cond (.l (.s .d14)) .skip (.exit 0))) (.seq (.block 1 (.seq (.dregion [⟨.i (.mv (.l (.s .d0))),false,0⟩,⟨.i (.mv (.l (.s .d5))),false,0⟩,⟨.i (.ixSl 1 (.e 1) (.e 0)),false,0⟩,⟨.i (.load1 (.e 0)),false,0⟩,⟨.i (.mv (.l (.s .d1))),false,0⟩,⟨.i (.mv (.l (.s .d5))),false,0⟩,⟨.i (.ixSl 1 (.e 1) (.e 0)),false,0⟩,⟨.i (.load1 (.e 0)),false,0⟩,⟨.o (.arith .neq (.e 4) (.e 0)) (.w .d0 .d9),false,0⟩]) (.cond (.l (.w .d0 .d9)) (.seq (.region [.o (.mv (.k (.bool false))) (.s .d4)]) .ret) .skip))) (.region [.i (.mv (.l (.s .d5))),.i (.arith .add (.e 0) (.k (.nat 1))),.o (.mv (.e 0)) (.s .d5)])))))) (.seq (.region [.o (.mv (.k (.bool true))) (.s .d4)]) .ret)))) [(.tmp (.l (.s .d4)))]
theorem c32_ok:c32=compFn Tryz.prog 32:=by kernel_rfl
def c33s:CL 33:=⟨_,by conv=>lhs; reduce⟩
def c34s:CL 34:=⟨_,by conv=>lhs; reduce⟩
def c35s:CL 35:=⟨_,by conv=>lhs; reduce⟩
def c37s:CL 37:=⟨_,by conv=>lhs; reduce⟩
def c38s:CL 38:=⟨_,by conv=>lhs; reduce⟩
def c39s:CL 39:=⟨_,by conv=>lhs; reduce⟩
def c40s:CL 40:=⟨_,by conv=>lhs; reduce⟩
def c41s:CL 41:=⟨_,by conv=>lhs; reduce⟩
def c42s:CL 42:=⟨_,by conv=>lhs; reduce⟩
def c43s:CL 43:=⟨_,by conv=>lhs; reduce⟩
def c44s:CL 44:=⟨_,by conv=>lhs; reduce⟩
def c45s:CL 45:=⟨_,by conv=>lhs; reduce⟩
def c47s:CL 47:=⟨_,by conv=>lhs; reduce⟩
def c48s:CL 48:=⟨_,by conv=>lhs; reduce⟩
def c49s:CL 49:=⟨_,by conv=>lhs; reduce⟩
def c50s:CL 50:=⟨_,by conv=>lhs; reduce⟩
def c51s:CL 51:=⟨_,by conv=>lhs; reduce⟩
def c55s:CL 55:=⟨_,by conv=>lhs; reduce⟩
def c57s:CL 57:=⟨_,by conv=>lhs; reduce⟩
def c58s:CL 58:=⟨_,by conv=>lhs; reduce⟩
def c59s:CL 59:=⟨_,by conv=>lhs; reduce⟩
def c60s:CL 60:=⟨_,by conv=>lhs; reduce⟩
def c61s:CL 61:=⟨_,by conv=>lhs; reduce⟩
def c62s:CL 62:=⟨_,by conv=>lhs; reduce⟩
def c63s:CL 63:=⟨_,by conv=>lhs; reduce⟩
def c64s:CL 64:=⟨_,by conv=>lhs; reduce⟩
def c65s:CL 65:=⟨_,by conv=>lhs; reduce⟩
def c66s:CL 66:=⟨_,by conv=>lhs; reduce⟩
def c67s:CL 67:=⟨_,by conv=>lhs; reduce⟩
def c68s:CL 68:=⟨_,by conv=>lhs; reduce⟩
def c69s:CL 69:=⟨_,by conv=>lhs; reduce⟩
def c70s:CL 70:=⟨_,by conv=>lhs; reduce⟩
def c71s:CL 71:=⟨_,by conv=>lhs; reduce⟩
def c72s:CL 72:=⟨_,by conv=>lhs; reduce⟩
def c73s:CL 73:=⟨_,by conv=>lhs; reduce⟩
def c74s:CL 74:=⟨_,by conv=>lhs; reduce⟩
def c75s:CL 75:=⟨_,by conv=>lhs; reduce⟩
def c76s:CL 76:=⟨_,by conv=>lhs; reduce⟩
def c77s:CL 77:=⟨_,by conv=>lhs; reduce⟩
def c78s:CL 78:=⟨_,by conv=>lhs; reduce⟩
def c80s:CL 80:=⟨_,by conv=>lhs; reduce⟩
def c82s:CL 82:=⟨_,by conv=>lhs; reduce⟩
def c83s:CL 83:=⟨_,by conv=>lhs; reduce⟩
def c84s:CL 84:=⟨_,by conv=>lhs; reduce⟩
def c85s:CL 85:=⟨_,by conv=>lhs; reduce⟩
def c86s:CL 86:=⟨_,by conv=>lhs; reduce⟩
def c88s:CL 88:=⟨_,by conv=>lhs; reduce⟩
def c89s:CL 89:=⟨_,by conv=>lhs; reduce⟩
def c90s:CL 90:=⟨_,by conv=>lhs; reduce⟩
def c91s:CL 91:=⟨_,by conv=>lhs; reduce⟩
def c92s:CL 92:=⟨_,by conv=>lhs; reduce⟩
def c93s:CL 93:=⟨_,by conv=>lhs; reduce⟩
def c94s:CL 94:=⟨_,by conv=>lhs; reduce⟩
def c96s:CL 96:=⟨_,by conv=>lhs; reduce⟩
def c97s:CL 97:=⟨_,by conv=>lhs; reduce⟩
def c98s:CL 98:=⟨_,by conv=>lhs; reduce⟩
def c99s:CL 99:=⟨_,by conv=>lhs; reduce⟩
def c101s:CL 101:=⟨_,by conv=>lhs; reduce⟩
def c102s:CL 102:=⟨_,by conv=>lhs; reduce⟩
def c103s:CL 103:=⟨_,by conv=>lhs; reduce⟩
def c104s:CL 104:=⟨_,by conv=>lhs; reduce⟩
def c105s:CL 105:=⟨_,by conv=>lhs; reduce⟩
def c106:CFn:=.mk (.seq (.region [.o (.box (.l (.s .d0))) (.s .d2),.o (.box (.l (.s .d1))) (.s .d3),.o (.mv (.k (.bool false))) (.s .d4)]) (.seq (.seq (.region [.i (.addOff 0 (.l (.s .d2))),.i (.load1 (.e 0)),.i (.addOff 0 (.l (.s .d3))),.i (.load1 (.e 0)),.i (.arith .neq (.e 2) (.e 0)),.i (.mv (.e 0)),.g (.e 0) false (.addOff 1 (.l (.s .d2))) none,.g (.e 1) false (.load1 (.e 0)) none,.g (.e 2) false (.addOff 1 (.l (.s .d3))) none,.g (.e 3) false (.load1 (.e 0)) none,.g (.e 4) false (.eq true .bool false (.e 2) (.e 0)) none,.i (.pick (.e 5) (.k (.bool true)) (.e 0)),.i (.mv (.e 0)),.g (.e 0) false (.addOff 2 (.l (.s .d2))) none,.g (.e 1) false (.load1 (.e 0)) none,.g (.e 2) false (.addOff 2 (.l (.s .d3))) none,.g (.e 3) false (.load1 (.e 0)) none,.g (.e 4) false (.arith .neq (.e 2) (.e 0)) none,.i (.pick (.e 5) (.k (.bool true)) (.e 0)),.i (.mv (.e 0)),.g (.e 0) false (.addOff 3 (.l (.s .d2))) none,.g (.e 1) false (.load1 (.e 0)) none,.g (.e 2) false (.addOff 3 (.l (.s .d3))) none,.g (.e 3) false (.load1 (.e 0)) none,.g (.e 4) false (.eq true .bool false (.e 2) (.e 0)) none,.i (.pick (.e 5) (.k (.bool true)) (.e 0)),.i (.mv (.e 0)),.g (.e 0) false (.addOff 4 (.l (.s .d2))) none,.g (.e 1) false (.load1 (.e 0)) none,.g (.e 2) false (.addOff 4 (.l (.s .d3))) none,.g (.e 3) false (.load1 (.e 0)) none,.g (.e 4) false (.arith .neq (.e 2) (.e 0)) none,.i (.pick (.e 5) (.k (.bool true)) (.e 0)),.i (.mv (.e 0)),.g (.e 0) false (.addOff 5 (.l (.s .d2))) none,.g (.e 1) false (.load1 (.e 0)) none,.g (.e 2) false (.addOff 5 (.l (.s .d3))) none,.g (.e 3) false (.load1 (.e 0)) none,.g (.e 4) false (.arith .neq (.e 2) (.e 0)) none,.i (.pick (.e 5) (.k (.bool true)) (.e 0)),.i (.mv (.e 0)),.g (.e 0) false (.addOff 7 (.l (.s .d2))) none,.g (.e 1) false (.load1 (.e 0)) none,.g (.e 2) false (.addOff 7 (.l (.s .d3))) none,.g (.e 3) false (.load1 (.e 0)) none,.g (.e 4) false (.arith .neq (.e 2) (.e 0)) none,.i (.pick (.e 5) (.k (.bool true)) (.e 0)),.i (.mv (.e 0)),.g (.e 0) false (.addOff 12 (.l (.s .d2))) none,.g (.e 1) false (.load1 (.e 0)) none,.g (.e 2) false (.addOff 12 (.l (.s .d3))) none,.g (.e 3) false (.load1 (.e 0)) none,.g (.e 4) false (.eq true .bool false (.e 2) (.e 0)) none,.i (.pick (.e 5) (.k (.bool true)) (.e 0)),.i (.mv (.e 0)),.g (.e 0) false (.addOff 13 (.l (.s .d2))) none,.g (.e 1) false (.load1 (.e 0)) none,.g (.e 2) false (.addOff 13 (.l (.s .d3))) none,.g (.e 3) false (.load1 (.e 0)) none,.g (.e 4) false (.arith .neq (.e 2) (.e 0)) none,.i (.pick (.e 5) (.k (.bool true)) (.e 0)),.i (.mv (.e 0)),.g (.e 0) false (.addOff 14 (.l (.s .d2))) none,.g (.e 1) false (.load1 (.e 0)) none,.g (.e 2) false (.addOff 14 (.l (.s .d3))) none,.g (.e 3) false (.load1 (.e 0)) none,.g (.e 4) false (.arith .neq (.e 2) (.e 0)) none,.i (.pick (.e 5) (.k (.bool true)) (.e 0)),.i (.mv (.e 0)),.g (.e 0) false (.addOff 15 (.l (.s .d2))) none,.g (.e 1) false (.load1 (.e 0)) none,.g (.e 2) false (.addOff 15 (.l (.s .d3))) none,.g (.e 3) false (.load1 (.e 0)) none,.g (.e 4) false (.eq true .bool false (.e 2) (.e 0)) none,.i (.pick (.e 5) (.k (.bool true)) (.e 0)),.i (.mv (.e 0)),.g (.e 0) false (.addOff 21 (.l (.s .d2))) none,.g (.e 1) false (.load1 (.e 0)) none,.g (.e 2) false (.addOff 21 (.l (.s .d3))) none,.g (.e 3) false (.load1 (.e 0)) none,.g (.e 4) false (.eq true .bool false (.e 2) (.e 0)) none,.i (.pick (.e 5) (.k (.bool true)) (.e 0)),.i (.mv (.e 0)),.g (.e 0) false (.addOff 22 (.l (.s .d2))) none,.g (.e 1) false (.load1 (.e 0)) none,.g (.e 2) false (.addOff 22 (.l (.s .d3))) none,.g (.e 3) false (.load1 (.e 0)) none,.g (.e 4) false (.arith .neq (.e 2) (.e 0)) none,.i (.pick (.e 5) (.k (.bool true)) (.e 0)),.i (.mv (.e 0)),.g (.e 0) false (.addOff 23 (.l (.s .d2))) none,.g (.e 1) false (.load1 (.e 0)) none,.g (.e 2) false (.addOff 23 (.l (.s .d3))) none,.g (.e 3) false (.load1 (.e 0)) none,.g (.e 4) false (.eq true .bool false (.e 2) (.e 0)) none,.i (.pick (.e 5) (.k (.bool true)) (.e 0)),.i (.mv (.e 0)),.g (.e 0) false (.addOff 25 (.l (.s .d2))) none,.g (.e 1) false (.load1 (.e 0)) none,.g (.e 2) false (.addOff 25 (.l (.s .d3))) none,.g (.e 3) false (.load1 (.e 0)) none,.g (.e 4) false (.eq true .bool false (.e 2) (.e 0)) none,.o (.pick (.e 5) (.k (.bool true)) (.e 0)) (.w .d6 .d0)]) (.cond (.l (.w .d6 .d0)) (.seq (.region [.o (.mv (.k (.bool false))) (.s .d4)]) .ret) .skip)) (.seq (.seq (.region [.i (.addOff 6 (.l (.s .d2))),.i (.load1 (.e 0)),.i (.cvBS (.e 0)),.i (.addOff 6 (.l (.s .d3))),.i (.load1 (.e 0)),.i (.cvBS (.e 0)),.i (.arith .neq (.e 3) (.e 0)),.i (.mv (.e 0)),.g (.e 0) false (.addOff 24 (.l (.s .d2))) none,.g (.e 1) false (.load1 (.e 0)) none,.g (.e 2) false (.cvBS (.e 0)) none,.g (.e 3) false (.addOff 24 (.l (.s .d3))) none,.g (.e 4) false (.load1 (.e 0)) none,.g (.e 5) false (.cvBS (.e 0)) none,.g (.e 6) false (.arith .neq (.e 3) (.e 0)) none,.i (.pick (.e 7) (.k (.bool true)) (.e 0)),.i (.mv (.e 0)),.g (.e 0) false (.addOff 9 (.l (.s .d2))) none,.g (.e 1) false (.load1 (.e 0)) none,.g (.e 2) false (.addOff 9 (.l (.s .d3))) none,.g (.e 3) false (.load1 (.e 0)) none,.g (.e 4) false (.call 140 [(.e 2),(.e 0)]) none,.g (.e 5) false (.un .not (.e 0)) none,.i (.pick (.e 6) (.k (.bool true)) (.e 0)),.i (.mv (.e 0)),.g (.e 0) false (.addOff 8 (.l (.s .d2))) none,.g (.e 1) false (.load1 (.e 0)) none,.g (.e 2) false (.lenSl (.e 0)) none,.g (.e 3) false (.addOff 8 (.l (.s .d3))) none,.g (.e 4) false (.load1 (.e 0)) none,.g (.e 5) false (.lenSl (.e 0)) none,.g (.e 6) false (.arith .neq (.e 3) (.e 0)) none,.i (.pick (.e 7) (.k (.bool true)) (.e 0)),.i (.mv (.e 0)),.g (.e 0) false (.addOff 10 (.l (.s .d2))) none,.g (.e 1) false (.load1 (.e 0)) none,.g (.e 2) false (.lenSl (.e 0)) none,.g (.e 3) false (.addOff 10 (.l (.s .d3))) none,.g (.e 4) false (.load1 (.e 0)) none,.g (.e 5) false (.lenSl (.e 0)) none,.g (.e 6) false (.arith .neq (.e 3) (.e 0)) none,.i (.pick (.e 7) (.k (.bool true)) (.e 0)),.i (.mv (.e 0)),.g (.e 0) false (.addOff 11 (.l (.s .d2))) none,.g (.e 1) false (.load1 (.e 0)) none,.g (.e 2) false (.lenSl (.e 0)) none,.g (.e 3) false (.addOff 11 (.l (.s .d3))) none,.g (.e 4) false (.load1 (.e 0)) none,.g (.e 5) false (.lenSl (.e 0)) none,.g (.e 6) false (.arith .neq (.e 3) (.e 0)) none,.o (.pick (.e 7) (.k (.bool true)) (.e 0)) (.w .d9 .d3)]) (.cond (.l (.w .d9 .d3)) (.seq (.region [.o (.mv (.k (.bool false))) (.s .d4)]) .ret) .skip)) (.seq (.seq (.region [.o (.mv (.k (.nat 0))) (.s .d5)]) (.block 0 (.loop (.seq (.seq (.region [.i (.mv (.l (.s .d5))),.i (.addOff 8 (.l (.s .d2))),.i (.load1 (.e 0)),.i (.lenSl (.e 0)),.o (.arith .lss (.e 3) (.e 0)) (.w .d9 .d8)]) (.cond (.l (.w .d9 .d8)) .skip (.exit 0))) (.seq (.block 1 (.seq (.dregion [⟨.i (.addOff 8 (.l (.s .d2))),false,0⟩,⟨.i (.load1 (.e 0)),false,0⟩,⟨.i (.mv (.l (.s .d5))),false,0⟩,⟨.i (.ixSl 1 (.e 1) (.e 0)),false,0⟩,⟨.i (.load1 (.e 0)),false,0⟩,⟨.i (.addOff 8 (.l (.s .d3))),false,0⟩,⟨.i (.load1 (.e 0)),false,0⟩,⟨.i (.mv (.l (.s .d5))),false,0⟩,⟨.i (.ixSl 1 (.e 1) (.e 0)),false,0⟩,⟨.i (.load1 (.e 0)),false,0⟩,⟨.o (.arith .neq (.e 5) (.e 0)) (.w .d10 .d5),false,0⟩]) (.cond (.l (.w .d10 .d5)) (.seq (.region [.o (.mv (.k (.bool false))) (.s .d4)]) .ret) .skip))) (.region [.i (.mv (.l (.s .d5))),.i (.arith .add (.e 0) (.k (.nat 1))),.o (.mv (.e 0)) (.s .d5)])))))) (.seq (.seq (.region [.o (.mv (.k (.nat 0))) (.s .d6)]) (.block 2 (.loop (.seq (.seq (.region [.i (.mv (.l (.s .d6))),.i (.addOff 10 (.l (.s .d2))),.i (.load1 (.e 0)),.i (.lenSl (.e 0)),.o (.arith .lss (.e 3) (.e 0)) (.w .d10 .d10)]) (.cond (.l (.w .d10 .d10)) .skip (.exit 2))) (.seq (.block 3 (.seq (.dregion [⟨.i (.addOff 10 (.l (.s .d2))),false,0⟩,⟨.i (.load1 (.e 0)),false,0⟩,⟨.i (.mv (.l (.s .d6))),false,0⟩,⟨.i (.ixSl 6 (.e 1) (.e 0)),false,0⟩,⟨.i (.loadN 6 (.e 0)),false,0⟩,⟨.i (.addOff 10 (.l (.s .d3))),false,0⟩,⟨.i (.load1 (.e 0)),false,0⟩,⟨.i (.mv (.l (.s .d6))),false,0⟩,⟨.i (.ixSl 6 (.e 1) (.e 0)),false,0⟩,⟨.i (.loadN 6 (.e 0)),false,0⟩,⟨.o (.eq true (.struct [(0,.str),(1,.int),(2,.bool),(3,.bool),(4,.int),(5,.int)]) false (.e 5) (.e 0)) (.w .d11 .d7),false,0⟩]) (.cond (.l (.w .d11 .d7)) (.seq (.region [.o (.mv (.k (.bool false))) (.s .d4)]) .ret) .skip))) (.region [.i (.mv (.l (.s .d6))),.i (.arith .add (.e 0) (.k (.nat 1))),.o (.mv (.e 0)) (.s .d6)])))))) (.seq (.seq (.region [.o (.mv (.k (.nat 0))) (.s .d7)]) (.block 4 (.loop (.seq (.seq (.region [.i (.mv (.l (.s .d7))),.i (.addOff 11 (.l (.s .d2))),.i (.load1 (.e 0)),.i (.lenSl (.e 0)),.o (.arith .lss (.e 3) (.e 0)) (.w .d11 .d12)]) (.cond (.l (.w .d11 .d12)) .skip (.exit 4))) (.seq (.block 5 (.seq (.dregion [⟨.i (.addOff 11 (.l (.s .d2))),false,0⟩,⟨.i (.load1 (.e 0)),false,0⟩,⟨.i (.mv (.l (.s .d7))),false,0⟩,⟨.i (.ixSl 1 (.e 1) (.e 0)),false,0⟩,⟨.i (.load1 (.e 0)),false,0⟩,⟨.i (.addOff 11 (.l (.s .d3))),false,0⟩,⟨.i (.load1 (.e 0)),false,0⟩,⟨.i (.mv (.l (.s .d7))),false,0⟩,⟨.i (.ixSl 1 (.e 1) (.e 0)),false,0⟩,⟨.i (.load1 (.e 0)),false,0⟩,⟨.o (.arith .neq (.e 5) (.e 0)) (.w .d12 .d9),false,0⟩]) (.cond (.l (.w .d12 .d9)) (.seq (.region [.o (.mv (.k (.bool false))) (.s .d4)]) .ret) .skip))) (.region [.i (.mv (.l (.s .d7))),.i (.arith .add (.e 0) (.k (.nat 1))),.o (.mv (.e 0)) (.s .d7)])))))) (.seq (.dregion [⟨.i (.addOff 16 (.l (.s .d2))),false,0⟩,⟨.i (.loadN 5 (.e 0)),false,0⟩,⟨.o (.alloc [(.str []),.nilsl,(.nat 0),(.bool false),.nilsl]) (.s .d8),false,0⟩,⟨.o (.alloc [(.str []),.nilsl,(.nat 0),(.bool false),.nilsl]) (.s .d9),false,0⟩,⟨.i (.store 5 (.e 1) (.e 2)),true,0⟩,⟨.i (.addOff 16 (.l (.s .d3))),false,1⟩,⟨.i (.loadN 5 (.e 0)),false,1⟩,⟨.i (.store 5 (.e 3) (.e 0)),true,0⟩]) (.seq (.region [.i (.addOff 0 (.l (.s .d8))),.i (.load1 (.e 0)),.i (.addOff 0 (.l (.s .d9))),.i (.load1 (.e 0)),.i (.arith .eql (.e 2) (.e 0)),.i (.mv (.e 0)),.g (.e 0) true (.addOff 1 (.l (.s .d8))) none,.g (.e 1) true (.load1 (.e 0)) none,.g (.e 2) true (.cvBS (.e 0)) none,.g (.e 3) true (.addOff 1 (.l (.s .d9))) none,.g (.e 4) true (.load1 (.e 0)) none,.g (.e 5) true (.cvBS (.e 0)) none,.g (.e 6) true (.arith .eql (.e 3) (.e 0)) none,.i (.pick (.e 7) (.e 0) (.k (.bool false))),.i (.mv (.e 0)),.g (.e 0) true (.addOff 2 (.l (.s .d8))) none,.g (.e 1) true (.load1 (.e 0)) none,.g (.e 2) true (.addOff 2 (.l (.s .d9))) none,.g (.e 3) true (.load1 (.e 0)) none,.g (.e 4) true (.arith .eql (.e 2) (.e 0)) none,.i (.pick (.e 5) (.e 0) (.k (.bool false))),.i (.mv (.e 0)),.g (.e 0) true (.addOff 3 (.l (.s .d8))) none,.g (.e 1) true (.load1 (.e 0)) none,.g (.e 2) true (.addOff 3 (.l (.s .d9))) none,.g (.e 3) true (.load1 (.e 0)) none,.g (.e 4) true (.eq false .bool false (.e 2) (.e 0)) none,.i (.pick (.e 5) (.e 0) (.k (.bool false))),.i (.mv (.e 0)),.g (.e 0) true (.addOff 4 (.l (.s .d8))) none,.g (.e 1) true (.load1 (.e 0)) none,.g (.e 2) true (.addOff 4 (.l (.s .d9))) none,.g (.e 3) true (.load1 (.e 0)) none,.g (.e 4) true (.call 140 [(.e 2),(.e 0)]) none,.i (.pick (.e 5) (.e 0) (.k (.bool false))),.o (.mv (.e 0)) (.s .d4)]) .ret)))))))) [(.tmp (.l (.s .d4)))]
theorem c106_ok:c106=compFn Tryz.prog 106:=by kernel_rfl
end Go.Ev
