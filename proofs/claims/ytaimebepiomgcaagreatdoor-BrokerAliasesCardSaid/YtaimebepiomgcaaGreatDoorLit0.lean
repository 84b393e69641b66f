/- The compact code of the program's functions, written out, and that it is what the compiler makes of them (0). -/
import Derived.Test.YtaimebepiomgcaaGreatDoorEvSym
import Derived.Test.YtaimebepiomgcaaGreatDoorProg
import Derived.KernelRfl
namespace Go.Ev
open Go.Proofs
set_option maxRecDepth 1000000
set_option maxHeartbeats 8000000
abbrev CL (n : Nat) : Type := {c : CFn // compFn Tryz.prog n = c}
def c0 : CFn := .bad 0
def c1 : CFn := .bad 1
def c2 : CFn := .bad 2
def c3s : CL 3 := ⟨_, by conv => lhs; reduce⟩
def c3 : CFn := c3s.1
theorem c3_ok : c3 = compFn Tryz.prog 3 := c3s.2.symm
def c4s : CL 4 := ⟨_, by conv => lhs; reduce⟩
def c4 : CFn := c4s.1
theorem c4_ok : c4 = compFn Tryz.prog 4 := c4s.2.symm
def c5s : CL 5 := ⟨_, by conv => lhs; reduce⟩
def c5 : CFn := c5s.1
theorem c5_ok : c5 = compFn Tryz.prog 5 := c5s.2.symm
def c6s : CL 6 := ⟨_, by conv => lhs; reduce⟩
def c6 : CFn := c6s.1
theorem c6_ok : c6 = compFn Tryz.prog 6 := c6s.2.symm
def c7s : CL 7 := ⟨_, by conv => lhs; reduce⟩
def c7 : CFn := c7s.1
theorem c7_ok : c7 = compFn Tryz.prog 7 := c7s.2.symm
def c8s : CL 8 := ⟨_, by conv => lhs; reduce⟩
def c8 : CFn := c8s.1
theorem c8_ok : c8 = compFn Tryz.prog 8 := c8s.2.symm
def c9s : CL 9 := ⟨_, by conv => lhs; reduce⟩
def c9 : CFn := c9s.1
theorem c9_ok : c9 = compFn Tryz.prog 9 := c9s.2.symm
def c10s : CL 10 := ⟨_, by conv => lhs; reduce⟩
def c10 : CFn := c10s.1
theorem c10_ok : c10 = compFn Tryz.prog 10 := c10s.2.symm
def c11s : CL 11 := ⟨_, by conv => lhs; reduce⟩
def c11 : CFn := c11s.1
theorem c11_ok : c11 = compFn Tryz.prog 11 := c11s.2.symm
def c12s : CL 12 := ⟨_, by conv => lhs; reduce⟩
def c12 : CFn := c12s.1
theorem c12_ok : c12 = compFn Tryz.prog 12 := c12s.2.symm
def c13s : CL 13 := ⟨_, by conv => lhs; reduce⟩
def c13 : CFn := c13s.1
theorem c13_ok : c13 = compFn Tryz.prog 13 := c13s.2.symm
def c14s : CL 14 := ⟨_, by conv => lhs; reduce⟩
def c14 : CFn := c14s.1
theorem c14_ok : c14 = compFn Tryz.prog 14 := c14s.2.symm
def c15s : CL 15 := ⟨_, by conv => lhs; reduce⟩
def c15 : CFn := c15s.1
theorem c15_ok : c15 = compFn Tryz.prog 15 := c15s.2.symm
def c16s : CL 16 := ⟨_, by conv => lhs; reduce⟩
def c16 : CFn := c16s.1
theorem c16_ok : c16 = compFn Tryz.prog 16 := c16s.2.symm
def c17s : CL 17 := ⟨_, by conv => lhs; reduce⟩
def c17 : CFn := c17s.1
theorem c17_ok : c17 = compFn Tryz.prog 17 := c17s.2.symm
def c18 : CFn := .mk (.seq (.region [.o (.mv (.k (.bool false))) (.s .d4)]) (.seq (.region [.i (.mv (.l (.s .d0))), .i (.cvBS (.e 0)), .i (.mv (.l (.s .d1))), .i (.cvBS (.e 0)), .i (.arith .eql (.e 2) (.e 0)), .o (.mv (.e 0)) (.s .d4)]) .ret)) [(.tmp (.l (.s .d4)))]
theorem c18_ok : c18 = compFn Tryz.prog 18 := by kernel_rfl
def c19 : CFn := .mk (.seq (.region [.o (.mv (.k (.bool false))) (.s .d4)]) (.seq (.seq (.region [.i (.mv (.l (.s .d0))), .i (.lenSl (.e 0)), .i (.mv (.l (.s .d1))), .i (.lenSl (.e 0)), .o (.arith .neq (.e 2) (.e 0)) (.s .d10)]) (.cond (.l (.s .d10)) (.seq (.region [.o (.mv (.k (.bool false))) (.s .d4)]) .ret) .skip)) (.seq (.seq (.region [.o (.mv (.k (.nat 0))) (.s .d5)]) (.block 0 (.loop (.seq (.seq (.region [.i (.mv (.l (.s .d5))), .i (.mv (.l (.s .d0))), .i (.lenSl (.e 0)), .o (.arith .lss (.e 2) (.e 0)) (.s .d14)]) (.cond (.l (.s .d14)) .skip (.exit 0))) (.seq (.block 1 (.seq (.dregion [⟨.i (.mv (.l (.s .d0))), false, 0⟩, ⟨.i (.mv (.l (.s .d5))), false, 0⟩, ⟨.i (.ixSl 1 (.e 1) (.e 0)), false, 0⟩, ⟨.i (.load1 (.e 0)), false, 0⟩, ⟨.i (.mv (.l (.s .d1))), false, 0⟩, ⟨.i (.mv (.l (.s .d5))), false, 0⟩, ⟨.i (.ixSl 1 (.e 1) (.e 0)), false, 0⟩, ⟨.i (.load1 (.e 0)), false, 0⟩, ⟨.o (.arith .neq (.e 4) (.e 0)) (.w .d0 .d9), false, 0⟩]) (.cond (.l (.w .d0 .d9)) (.seq (.region [.o (.mv (.k (.bool false))) (.s .d4)]) .ret) .skip))) (.region [.i (.mv (.l (.s .d5))), .i (.arith .add (.e 0) (.k (.nat 1))), .o (.mv (.e 0)) (.s .d5)])))))) (.seq (.region [.o (.mv (.k (.bool true))) (.s .d4)]) .ret)))) [(.tmp (.l (.s .d4)))]
theorem c19_ok : c19 = compFn Tryz.prog 19 := by kernel_rfl
def c20s : CL 20 := ⟨_, by conv => lhs; reduce⟩
def c20 : CFn := c20s.1
theorem c20_ok : c20 = compFn Tryz.prog 20 := c20s.2.symm
def c21s : CL 21 := ⟨_, by conv => lhs; reduce⟩
def c21 : CFn := c21s.1
theorem c21_ok : c21 = compFn Tryz.prog 21 := c21s.2.symm
def c22s : CL 22 := ⟨_, by conv => lhs; reduce⟩
def c22 : CFn := c22s.1
theorem c22_ok : c22 = compFn Tryz.prog 22 := c22s.2.symm
def c23s : CL 23 := ⟨_, by conv => lhs; reduce⟩
def c23 : CFn := c23s.1
theorem c23_ok : c23 = compFn Tryz.prog 23 := c23s.2.symm
def c24s : CL 24 := ⟨_, by conv => lhs; reduce⟩
def c24 : CFn := c24s.1
theorem c24_ok : c24 = compFn Tryz.prog 24 := c24s.2.symm
def c25s : CL 25 := ⟨_, by conv => lhs; reduce⟩
def c25 : CFn := c25s.1
theorem c25_ok : c25 = compFn Tryz.prog 25 := c25s.2.symm
def c26s : CL 26 := ⟨_, by conv => lhs; reduce⟩
def c26 : CFn := c26s.1
theorem c26_ok : c26 = compFn Tryz.prog 26 := c26s.2.symm
def c27s : CL 27 := ⟨_, by conv => lhs; reduce⟩
def c27 : CFn := c27s.1
theorem c27_ok : c27 = compFn Tryz.prog 27 := c27s.2.symm
def c28s : CL 28 := ⟨_, by conv => lhs; reduce⟩
def c28 : CFn := c28s.1
theorem c28_ok : c28 = compFn Tryz.prog 28 := c28s.2.symm
def c29s : CL 29 := ⟨_, by conv => lhs; reduce⟩
def c29 : CFn := c29s.1
theorem c29_ok : c29 = compFn Tryz.prog 29 := c29s.2.symm
def c30 : CFn := .bad 30
def c31s : CL 31 := ⟨_, by conv => lhs; reduce⟩
def c31 : CFn := c31s.1
theorem c31_ok : c31 = compFn Tryz.prog 31 := c31s.2.symm
def c32s : CL 32 := ⟨_, by conv => lhs; reduce⟩
def c32 : CFn := c32s.1
theorem c32_ok : c32 = compFn Tryz.prog 32 := c32s.2.symm
def c33s : CL 33 := ⟨_, by conv => lhs; reduce⟩
def c33 : CFn := c33s.1
theorem c33_ok : c33 = compFn Tryz.prog 33 := c33s.2.symm
def c34 : CFn := .bad 34
def c35s : CL 35 := ⟨_, by conv => lhs; reduce⟩
def c35 : CFn := c35s.1
theorem c35_ok : c35 = compFn Tryz.prog 35 := c35s.2.symm
def c36 : CFn := .bad 36
def c37s : CL 37 := ⟨_, by conv => lhs; reduce⟩
def c37 : CFn := c37s.1
theorem c37_ok : c37 = compFn Tryz.prog 37 := c37s.2.symm
def c38s : CL 38 := ⟨_, by conv => lhs; reduce⟩
def c38 : CFn := c38s.1
theorem c38_ok : c38 = compFn Tryz.prog 38 := c38s.2.symm
def c39s : CL 39 := ⟨_, by conv => lhs; reduce⟩
def c39 : CFn := c39s.1
theorem c39_ok : c39 = compFn Tryz.prog 39 := c39s.2.symm
def c40s : CL 40 := ⟨_, by conv => lhs; reduce⟩
def c40 : CFn := c40s.1
theorem c40_ok : c40 = compFn Tryz.prog 40 := c40s.2.symm
def c41s : CL 41 := ⟨_, by conv => lhs; reduce⟩
def c41 : CFn := c41s.1
theorem c41_ok : c41 = compFn Tryz.prog 41 := c41s.2.symm
def c42s : CL 42 := ⟨_, by conv => lhs; reduce⟩
def c42 : CFn := c42s.1
theorem c42_ok : c42 = compFn Tryz.prog 42 := c42s.2.symm
def c43s : CL 43 := ⟨_, by conv => lhs; reduce⟩
def c43 : CFn := c43s.1
theorem c43_ok : c43 = compFn Tryz.prog 43 := c43s.2.symm
def c44s : CL 44 := ⟨_, by conv => lhs; reduce⟩
def c44 : CFn := c44s.1
theorem c44_ok : c44 = compFn Tryz.prog 44 := c44s.2.symm
def c45s : CL 45 := ⟨_, by conv => lhs; reduce⟩
def c45 : CFn := c45s.1
theorem c45_ok : c45 = compFn Tryz.prog 45 := c45s.2.symm
def c46s : CL 46 := ⟨_, by conv => lhs; reduce⟩
def c46 : CFn := c46s.1
theorem c46_ok : c46 = compFn Tryz.prog 46 := c46s.2.symm
def c47s : CL 47 := ⟨_, by conv => lhs; reduce⟩
def c47 : CFn := c47s.1
theorem c47_ok : c47 = compFn Tryz.prog 47 := c47s.2.symm
def c48s : CL 48 := ⟨_, by conv => lhs; reduce⟩
def c48 : CFn := c48s.1
theorem c48_ok : c48 = compFn Tryz.prog 48 := c48s.2.symm
def c49s : CL 49 := ⟨_, by conv => lhs; reduce⟩
def c49 : CFn := c49s.1
theorem c49_ok : c49 = compFn Tryz.prog 49 := c49s.2.symm
def c50 : CFn := .bad 50
def c51s : CL 51 := ⟨_, by conv => lhs; reduce⟩
def c51 : CFn := c51s.1
theorem c51_ok : c51 = compFn Tryz.prog 51 := c51s.2.symm
def c52s : CL 52 := ⟨_, by conv => lhs; reduce⟩
def c52 : CFn := c52s.1
theorem c52_ok : c52 = compFn Tryz.prog 52 := c52s.2.symm
def c53 : CFn := .bad 53
def c54 : CFn := .bad 54
def c55s : CL 55 := ⟨_, by conv => lhs; reduce⟩
def c55 : CFn := c55s.1
theorem c55_ok : c55 = compFn Tryz.prog 55 := c55s.2.symm
def c56s : CL 56 := ⟨_, by conv => lhs; reduce⟩
def c56 : CFn := c56s.1
theorem c56_ok : c56 = compFn Tryz.prog 56 := c56s.2.symm
def c57s : CL 57 := ⟨_, by conv => lhs; reduce⟩
def c57 : CFn := c57s.1
theorem c57_ok : c57 = compFn Tryz.prog 57 := c57s.2.symm
def c58s : CL 58 := ⟨_, by conv => lhs; reduce⟩
def c58 : CFn := c58s.1
theorem c58_ok : c58 = compFn Tryz.prog 58 := c58s.2.symm
def c59s : CL 59 := ⟨_, by conv => lhs; reduce⟩
def c59 : CFn := c59s.1
theorem c59_ok : c59 = compFn Tryz.prog 59 := c59s.2.symm
def c60 : CFn := .bad 60
def c61s : CL 61 := ⟨_, by conv => lhs; reduce⟩
def c61 : CFn := c61s.1
theorem c61_ok : c61 = compFn Tryz.prog 61 := c61s.2.symm
def c62s : CL 62 := ⟨_, by conv => lhs; reduce⟩
def c62 : CFn := c62s.1
theorem c62_ok : c62 = compFn Tryz.prog 62 := c62s.2.symm
def c63s : CL 63 := ⟨_, by conv => lhs; reduce⟩
def c63 : CFn := c63s.1
theorem c63_ok : c63 = compFn Tryz.prog 63 := c63s.2.symm
def c64s : CL 64 := ⟨_, by conv => lhs; reduce⟩
def c64 : CFn := c64s.1
theorem c64_ok : c64 = compFn Tryz.prog 64 := c64s.2.symm
def c65s : CL 65 := ⟨_, by conv => lhs; reduce⟩
def c65 : CFn := c65s.1
theorem c65_ok : c65 = compFn Tryz.prog 65 := c65s.2.symm
def c66s : CL 66 := ⟨_, by conv => lhs; reduce⟩
def c66 : CFn := c66s.1
theorem c66_ok : c66 = compFn Tryz.prog 66 := c66s.2.symm
def c67s : CL 67 := ⟨_, by conv => lhs; reduce⟩
def c67 : CFn := c67s.1
theorem c67_ok : c67 = compFn Tryz.prog 67 := c67s.2.symm
def c68 : CFn := .bad 68
def c69s : CL 69 := ⟨_, by conv => lhs; reduce⟩
def c69 : CFn := c69s.1
theorem c69_ok : c69 = compFn Tryz.prog 69 := c69s.2.symm
def c70s : CL 70 := ⟨_, by conv => lhs; reduce⟩
def c70 : CFn := c70s.1
theorem c70_ok : c70 = compFn Tryz.prog 70 := c70s.2.symm
def c71s : CL 71 := ⟨_, by conv => lhs; reduce⟩
def c71 : CFn := c71s.1
theorem c71_ok : c71 = compFn Tryz.prog 71 := c71s.2.symm
def c72s : CL 72 := ⟨_, by conv => lhs; reduce⟩
def c72 : CFn := c72s.1
theorem c72_ok : c72 = compFn Tryz.prog 72 := c72s.2.symm
def c73 : CFn := .bad 73
def c74s : CL 74 := ⟨_, by conv => lhs; reduce⟩
def c74 : CFn := c74s.1
theorem c74_ok : c74 = compFn Tryz.prog 74 := c74s.2.symm
def c75s : CL 75 := ⟨_, by conv => lhs; reduce⟩
def c75 : CFn := c75s.1
theorem c75_ok : c75 = compFn Tryz.prog 75 := c75s.2.symm
def c76s : CL 76 := ⟨_, by conv => lhs; reduce⟩
def c76 : CFn := c76s.1
theorem c76_ok : c76 = compFn Tryz.prog 76 := c76s.2.symm
def c77s : CL 77 := ⟨_, by conv => lhs; reduce⟩
def c77 : CFn := c77s.1
theorem c77_ok : c77 = compFn Tryz.prog 77 := c77s.2.symm
def c78s : CL 78 := ⟨_, by conv => lhs; reduce⟩
def c78 : CFn := c78s.1
theorem c78_ok : c78 = compFn Tryz.prog 78 := c78s.2.symm
def c79s : CL 79 := ⟨_, by conv => lhs; reduce⟩
def c79 : CFn := c79s.1
theorem c79_ok : c79 = compFn Tryz.prog 79 := c79s.2.symm
def c80s : CL 80 := ⟨_, by conv => lhs; reduce⟩
def c80 : CFn := c80s.1
theorem c80_ok : c80 = compFn Tryz.prog 80 := c80s.2.symm
def c81s : CL 81 := ⟨_, by conv => lhs; reduce⟩
def c81 : CFn := c81s.1
theorem c81_ok : c81 = compFn Tryz.prog 81 := c81s.2.symm
def c82s : CL 82 := ⟨_, by conv => lhs; reduce⟩
def c82 : CFn := c82s.1
theorem c82_ok : c82 = compFn Tryz.prog 82 := c82s.2.symm
def c83s : CL 83 := ⟨_, by conv => lhs; reduce⟩
def c83 : CFn := c83s.1
theorem c83_ok : c83 = compFn Tryz.prog 83 := c83s.2.symm
def c84s : CL 84 := ⟨_, by conv => lhs; reduce⟩
def c84 : CFn := c84s.1
theorem c84_ok : c84 = compFn Tryz.prog 84 := c84s.2.symm
def c85s : CL 85 := ⟨_, by conv => lhs; reduce⟩
def c85 : CFn := c85s.1
theorem c85_ok : c85 = compFn Tryz.prog 85 := c85s.2.symm
def c86s : CL 86 := ⟨_, by conv => lhs; reduce⟩
def c86 : CFn := c86s.1
theorem c86_ok : c86 = compFn Tryz.prog 86 := c86s.2.symm
def c87 : CFn := .mk (.seq (.region [.o (.box (.l (.s .d0))) (.s .d2), .o (.box (.l (.s .d1))) (.s .d3), .o (.mv (.k (.bool false))) (.s .d4)]) (.seq (.seq (.region [.i (.addOff 0 (.l (.s .d2))), .i (.load1 (.e 0)), .i (.addOff 0 (.l (.s .d3))), .i (.load1 (.e 0)), .i (.arith .neq (.e 2) (.e 0)), .i (.mv (.e 0)), .g (.e 0) false (.addOff 1 (.l (.s .d2))) none, .g (.e 1) false (.load1 (.e 0)) none, .g (.e 2) false (.addOff 1 (.l (.s .d3))) none, .g (.e 3) false (.load1 (.e 0)) none, .g (.e 4) false (.eq true .bool false (.e 2) (.e 0)) none, .i (.pick (.e 5) (.k (.bool true)) (.e 0)), .i (.mv (.e 0)), .g (.e 0) false (.addOff 2 (.l (.s .d2))) none, .g (.e 1) false (.load1 (.e 0)) none, .g (.e 2) false (.addOff 2 (.l (.s .d3))) none, .g (.e 3) false (.load1 (.e 0)) none, .g (.e 4) false (.arith .neq (.e 2) (.e 0)) none, .i (.pick (.e 5) (.k (.bool true)) (.e 0)), .i (.mv (.e 0)), .g (.e 0) false (.addOff 3 (.l (.s .d2))) none, .g (.e 1) false (.load1 (.e 0)) none, .g (.e 2) false (.addOff 3 (.l (.s .d3))) none, .g (.e 3) false (.load1 (.e 0)) none, .g (.e 4) false (.eq true .bool false (.e 2) (.e 0)) none, .i (.pick (.e 5) (.k (.bool true)) (.e 0)), .i (.mv (.e 0)), .g (.e 0) false (.addOff 4 (.l (.s .d2))) none, .g (.e 1) false (.load1 (.e 0)) none, .g (.e 2) false (.addOff 4 (.l (.s .d3))) none, .g (.e 3) false (.load1 (.e 0)) none, .g (.e 4) false (.arith .neq (.e 2) (.e 0)) none, .i (.pick (.e 5) (.k (.bool true)) (.e 0)), .i (.mv (.e 0)), .g (.e 0) false (.addOff 5 (.l (.s .d2))) none, .g (.e 1) false (.load1 (.e 0)) none, .g (.e 2) false (.addOff 5 (.l (.s .d3))) none, .g (.e 3) false (.load1 (.e 0)) none, .g (.e 4) false (.arith .neq (.e 2) (.e 0)) none, .i (.pick (.e 5) (.k (.bool true)) (.e 0)), .i (.mv (.e 0)), .g (.e 0) false (.addOff 7 (.l (.s .d2))) none, .g (.e 1) false (.load1 (.e 0)) none, .g (.e 2) false (.addOff 7 (.l (.s .d3))) none, .g (.e 3) false (.load1 (.e 0)) none, .g (.e 4) false (.arith .neq (.e 2) (.e 0)) none, .i (.pick (.e 5) (.k (.bool true)) (.e 0)), .i (.mv (.e 0)), .g (.e 0) false (.addOff 12 (.l (.s .d2))) none, .g (.e 1) false (.load1 (.e 0)) none, .g (.e 2) false (.addOff 12 (.l (.s .d3))) none, .g (.e 3) false (.load1 (.e 0)) none, .g (.e 4) false (.eq true .bool false (.e 2) (.e 0)) none, .i (.pick (.e 5) (.k (.bool true)) (.e 0)), .i (.mv (.e 0)), .g (.e 0) false (.addOff 13 (.l (.s .d2))) none, .g (.e 1) false (.load1 (.e 0)) none, .g (.e 2) false (.addOff 13 (.l (.s .d3))) none, .g (.e 3) false (.load1 (.e 0)) none, .g (.e 4) false (.arith .neq (.e 2) (.e 0)) none, .i (.pick (.e 5) (.k (.bool true)) (.e 0)), .i (.mv (.e 0)), .g (.e 0) false (.addOff 14 (.l (.s .d2))) none, .g (.e 1) false (.load1 (.e 0)) none, .g (.e 2) false (.addOff 14 (.l (.s .d3))) none, .g (.e 3) false (.load1 (.e 0)) none, .g (.e 4) false (.arith .neq (.e 2) (.e 0)) none, .i (.pick (.e 5) (.k (.bool true)) (.e 0)), .i (.mv (.e 0)), .g (.e 0) false (.addOff 15 (.l (.s .d2))) none, .g (.e 1) false (.load1 (.e 0)) none, .g (.e 2) false (.addOff 15 (.l (.s .d3))) none, .g (.e 3) false (.load1 (.e 0)) none, .g (.e 4) false (.eq true .bool false (.e 2) (.e 0)) none, .i (.pick (.e 5) (.k (.bool true)) (.e 0)), .i (.mv (.e 0)), .g (.e 0) false (.addOff 21 (.l (.s .d2))) none, .g (.e 1) false (.load1 (.e 0)) none, .g (.e 2) false (.addOff 21 (.l (.s .d3))) none, .g (.e 3) false (.load1 (.e 0)) none, .g (.e 4) false (.eq true .bool false (.e 2) (.e 0)) none, .i (.pick (.e 5) (.k (.bool true)) (.e 0)), .i (.mv (.e 0)), .g (.e 0) false (.addOff 22 (.l (.s .d2))) none, .g (.e 1) false (.load1 (.e 0)) none, .g (.e 2) false (.addOff 22 (.l (.s .d3))) none, .g (.e 3) false (.load1 (.e 0)) none, .g (.e 4) false (.arith .neq (.e 2) (.e 0)) none, .i (.pick (.e 5) (.k (.bool true)) (.e 0)), .i (.mv (.e 0)), .g (.e 0) false (.addOff 23 (.l (.s .d2))) none, .g (.e 1) false (.load1 (.e 0)) none, .g (.e 2) false (.addOff 23 (.l (.s .d3))) none, .g (.e 3) false (.load1 (.e 0)) none, .g (.e 4) false (.eq true .bool false (.e 2) (.e 0)) none, .i (.pick (.e 5) (.k (.bool true)) (.e 0)), .i (.mv (.e 0)), .g (.e 0) false (.addOff 25 (.l (.s .d2))) none, .g (.e 1) false (.load1 (.e 0)) none, .g (.e 2) false (.addOff 25 (.l (.s .d3))) none, .g (.e 3) false (.load1 (.e 0)) none, .g (.e 4) false (.eq true .bool false (.e 2) (.e 0)) none, .o (.pick (.e 5) (.k (.bool true)) (.e 0)) (.w .d6 .d0)]) (.cond (.l (.w .d6 .d0)) (.seq (.region [.o (.mv (.k (.bool false))) (.s .d4)]) .ret) .skip)) (.seq (.seq (.region [.i (.addOff 6 (.l (.s .d2))), .i (.load1 (.e 0)), .i (.cvBS (.e 0)), .i (.addOff 6 (.l (.s .d3))), .i (.load1 (.e 0)), .i (.cvBS (.e 0)), .i (.arith .neq (.e 3) (.e 0)), .i (.mv (.e 0)), .g (.e 0) false (.addOff 24 (.l (.s .d2))) none, .g (.e 1) false (.load1 (.e 0)) none, .g (.e 2) false (.cvBS (.e 0)) none, .g (.e 3) false (.addOff 24 (.l (.s .d3))) none, .g (.e 4) false (.load1 (.e 0)) none, .g (.e 5) false (.cvBS (.e 0)) none, .g (.e 6) false (.arith .neq (.e 3) (.e 0)) none, .i (.pick (.e 7) (.k (.bool true)) (.e 0)), .i (.mv (.e 0)), .g (.e 0) false (.addOff 9 (.l (.s .d2))) none, .g (.e 1) false (.load1 (.e 0)) none, .g (.e 2) false (.addOff 9 (.l (.s .d3))) none, .g (.e 3) false (.load1 (.e 0)) none, .g (.e 4) false (.call 121 [(.e 2), (.e 0)]) none, .g (.e 5) false (.un .not (.e 0)) none, .i (.pick (.e 6) (.k (.bool true)) (.e 0)), .i (.mv (.e 0)), .g (.e 0) false (.addOff 8 (.l (.s .d2))) none, .g (.e 1) false (.load1 (.e 0)) none, .g (.e 2) false (.lenSl (.e 0)) none, .g (.e 3) false (.addOff 8 (.l (.s .d3))) none, .g (.e 4) false (.load1 (.e 0)) none, .g (.e 5) false (.lenSl (.e 0)) none, .g (.e 6) false (.arith .neq (.e 3) (.e 0)) none, .i (.pick (.e 7) (.k (.bool true)) (.e 0)), .i (.mv (.e 0)), .g (.e 0) false (.addOff 10 (.l (.s .d2))) none, .g (.e 1) false (.load1 (.e 0)) none, .g (.e 2) false (.lenSl (.e 0)) none, .g (.e 3) false (.addOff 10 (.l (.s .d3))) none, .g (.e 4) false (.load1 (.e 0)) none, .g (.e 5) false (.lenSl (.e 0)) none, .g (.e 6) false (.arith .neq (.e 3) (.e 0)) none, .i (.pick (.e 7) (.k (.bool true)) (.e 0)), .i (.mv (.e 0)), .g (.e 0) false (.addOff 11 (.l (.s .d2))) none, .g (.e 1) false (.load1 (.e 0)) none, .g (.e 2) false (.lenSl (.e 0)) none, .g (.e 3) false (.addOff 11 (.l (.s .d3))) none, .g (.e 4) false (.load1 (.e 0)) none, .g (.e 5) false (.lenSl (.e 0)) none, .g (.e 6) false (.arith .neq (.e 3) (.e 0)) none, .o (.pick (.e 7) (.k (.bool true)) (.e 0)) (.w .d9 .d3)]) (.cond (.l (.w .d9 .d3)) (.seq (.region [.o (.mv (.k (.bool false))) (.s .d4)]) .ret) .skip)) (.seq (.seq (.region [.o (.mv (.k (.nat 0))) (.s .d5)]) (.block 0 (.loop (.seq (.seq (.region [.i (.mv (.l (.s .d5))), .i (.addOff 8 (.l (.s .d2))), .i (.load1 (.e 0)), .i (.lenSl (.e 0)), .o (.arith .lss (.e 3) (.e 0)) (.w .d9 .d8)]) (.cond (.l (.w .d9 .d8)) .skip (.exit 0))) (.seq (.block 1 (.seq (.dregion [⟨.i (.addOff 8 (.l (.s .d2))), false, 0⟩, ⟨.i (.load1 (.e 0)), false, 0⟩, ⟨.i (.mv (.l (.s .d5))), false, 0⟩, ⟨.i (.ixSl 1 (.e 1) (.e 0)), false, 0⟩, ⟨.i (.load1 (.e 0)), false, 0⟩, ⟨.i (.addOff 8 (.l (.s .d3))), false, 0⟩, ⟨.i (.load1 (.e 0)), false, 0⟩, ⟨.i (.mv (.l (.s .d5))), false, 0⟩, ⟨.i (.ixSl 1 (.e 1) (.e 0)), false, 0⟩, ⟨.i (.load1 (.e 0)), false, 0⟩, ⟨.o (.arith .neq (.e 5) (.e 0)) (.w .d10 .d5), false, 0⟩]) (.cond (.l (.w .d10 .d5)) (.seq (.region [.o (.mv (.k (.bool false))) (.s .d4)]) .ret) .skip))) (.region [.i (.mv (.l (.s .d5))), .i (.arith .add (.e 0) (.k (.nat 1))), .o (.mv (.e 0)) (.s .d5)])))))) (.seq (.seq (.region [.o (.mv (.k (.nat 0))) (.s .d6)]) (.block 2 (.loop (.seq (.seq (.region [.i (.mv (.l (.s .d6))), .i (.addOff 10 (.l (.s .d2))), .i (.load1 (.e 0)), .i (.lenSl (.e 0)), .o (.arith .lss (.e 3) (.e 0)) (.w .d10 .d10)]) (.cond (.l (.w .d10 .d10)) .skip (.exit 2))) (.seq (.block 3 (.seq (.dregion [⟨.i (.addOff 10 (.l (.s .d2))), false, 0⟩, ⟨.i (.load1 (.e 0)), false, 0⟩, ⟨.i (.mv (.l (.s .d6))), false, 0⟩, ⟨.i (.ixSl 6 (.e 1) (.e 0)), false, 0⟩, ⟨.i (.loadN 6 (.e 0)), false, 0⟩, ⟨.i (.addOff 10 (.l (.s .d3))), false, 0⟩, ⟨.i (.load1 (.e 0)), false, 0⟩, ⟨.i (.mv (.l (.s .d6))), false, 0⟩, ⟨.i (.ixSl 6 (.e 1) (.e 0)), false, 0⟩, ⟨.i (.loadN 6 (.e 0)), false, 0⟩, ⟨.o (.eq true (.struct [(0, .str), (1, .int), (2, .bool), (3, .bool), (4, .int), (5, .int)]) false (.e 5) (.e 0)) (.w .d11 .d7), false, 0⟩]) (.cond (.l (.w .d11 .d7)) (.seq (.region [.o (.mv (.k (.bool false))) (.s .d4)]) .ret) .skip))) (.region [.i (.mv (.l (.s .d6))), .i (.arith .add (.e 0) (.k (.nat 1))), .o (.mv (.e 0)) (.s .d6)])))))) (.seq (.seq (.region [.o (.mv (.k (.nat 0))) (.s .d7)]) (.block 4 (.loop (.seq (.seq (.region [.i (.mv (.l (.s .d7))), .i (.addOff 11 (.l (.s .d2))), .i (.load1 (.e 0)), .i (.lenSl (.e 0)), .o (.arith .lss (.e 3) (.e 0)) (.w .d11 .d12)]) (.cond (.l (.w .d11 .d12)) .skip (.exit 4))) (.seq (.block 5 (.seq (.dregion [⟨.i (.addOff 11 (.l (.s .d2))), false, 0⟩, ⟨.i (.load1 (.e 0)), false, 0⟩, ⟨.i (.mv (.l (.s .d7))), false, 0⟩, ⟨.i (.ixSl 1 (.e 1) (.e 0)), false, 0⟩, ⟨.i (.load1 (.e 0)), false, 0⟩, ⟨.i (.addOff 11 (.l (.s .d3))), false, 0⟩, ⟨.i (.load1 (.e 0)), false, 0⟩, ⟨.i (.mv (.l (.s .d7))), false, 0⟩, ⟨.i (.ixSl 1 (.e 1) (.e 0)), false, 0⟩, ⟨.i (.load1 (.e 0)), false, 0⟩, ⟨.o (.arith .neq (.e 5) (.e 0)) (.w .d12 .d9), false, 0⟩]) (.cond (.l (.w .d12 .d9)) (.seq (.region [.o (.mv (.k (.bool false))) (.s .d4)]) .ret) .skip))) (.region [.i (.mv (.l (.s .d7))), .i (.arith .add (.e 0) (.k (.nat 1))), .o (.mv (.e 0)) (.s .d7)])))))) (.seq (.dregion [⟨.i (.addOff 16 (.l (.s .d2))), false, 0⟩, ⟨.i (.loadN 5 (.e 0)), false, 0⟩, ⟨.o (.alloc [(.str []), .nilsl, (.nat 0), (.bool false), .nilsl]) (.s .d8), false, 0⟩, ⟨.o (.alloc [(.str []), .nilsl, (.nat 0), (.bool false), .nilsl]) (.s .d9), false, 0⟩, ⟨.i (.store 5 (.e 1) (.e 2)), true, 0⟩, ⟨.i (.addOff 16 (.l (.s .d3))), false, 1⟩, ⟨.i (.loadN 5 (.e 0)), false, 1⟩, ⟨.i (.store 5 (.e 3) (.e 0)), true, 0⟩]) (.seq (.region [.i (.addOff 0 (.l (.s .d8))), .i (.load1 (.e 0)), .i (.addOff 0 (.l (.s .d9))), .i (.load1 (.e 0)), .i (.arith .eql (.e 2) (.e 0)), .i (.mv (.e 0)), .g (.e 0) true (.addOff 1 (.l (.s .d8))) none, .g (.e 1) true (.load1 (.e 0)) none, .g (.e 2) true (.cvBS (.e 0)) none, .g (.e 3) true (.addOff 1 (.l (.s .d9))) none, .g (.e 4) true (.load1 (.e 0)) none, .g (.e 5) true (.cvBS (.e 0)) none, .g (.e 6) true (.arith .eql (.e 3) (.e 0)) none, .i (.pick (.e 7) (.e 0) (.k (.bool false))), .i (.mv (.e 0)), .g (.e 0) true (.addOff 2 (.l (.s .d8))) none, .g (.e 1) true (.load1 (.e 0)) none, .g (.e 2) true (.addOff 2 (.l (.s .d9))) none, .g (.e 3) true (.load1 (.e 0)) none, .g (.e 4) true (.arith .eql (.e 2) (.e 0)) none, .i (.pick (.e 5) (.e 0) (.k (.bool false))), .i (.mv (.e 0)), .g (.e 0) true (.addOff 3 (.l (.s .d8))) none, .g (.e 1) true (.load1 (.e 0)) none, .g (.e 2) true (.addOff 3 (.l (.s .d9))) none, .g (.e 3) true (.load1 (.e 0)) none, .g (.e 4) true (.eq false .bool false (.e 2) (.e 0)) none, .i (.pick (.e 5) (.e 0) (.k (.bool false))), .i (.mv (.e 0)), .g (.e 0) true (.addOff 4 (.l (.s .d8))) none, .g (.e 1) true (.load1 (.e 0)) none, .g (.e 2) true (.addOff 4 (.l (.s .d9))) none, .g (.e 3) true (.load1 (.e 0)) none, .g (.e 4) true (.call 121 [(.e 2), (.e 0)]) none, .i (.pick (.e 5) (.e 0) (.k (.bool false))), .o (.mv (.e 0)) (.s .d4)]) .ret)))))))) [(.tmp (.l (.s .d4)))]
theorem c87_ok : c87 = compFn Tryz.prog 87 := by kernel_rfl
def c88 : CFn := .bad 88
def c89s : CL 89 := ⟨_, by conv => lhs; reduce⟩
def c89 : CFn := c89s.1
theorem c89_ok : c89 = compFn Tryz.prog 89 := c89s.2.symm
def c90 : CFn := .bad 90
def c91 : CFn := .bad 91
def c92 : CFn := .bad 92
def c93s : CL 93 := ⟨_, by conv => lhs; reduce⟩
def c93 : CFn := c93s.1
theorem c93_ok : c93 = compFn Tryz.prog 93 := c93s.2.symm
def c94s : CL 94 := ⟨_, by conv => lhs; reduce⟩
def c94 : CFn := c94s.1
theorem c94_ok : c94 = compFn Tryz.prog 94 := c94s.2.symm
def c95s : CL 95 := ⟨_, by conv => lhs; reduce⟩
def c95 : CFn := c95s.1
theorem c95_ok : c95 = compFn Tryz.prog 95 := c95s.2.symm
def c96 : CFn := .bad 96
def c97s : CL 97 := ⟨_, by conv => lhs; reduce⟩
def c97 : CFn := c97s.1
theorem c97_ok : c97 = compFn Tryz.prog 97 := c97s.2.symm
def c98s : CL 98 := ⟨_, by conv => lhs; reduce⟩
def c98 : CFn := c98s.1
theorem c98_ok : c98 = compFn Tryz.prog 98 := c98s.2.symm
def c99s : CL 99 := ⟨_, by conv => lhs; reduce⟩
def c99 : CFn := c99s.1
theorem c99_ok : c99 = compFn Tryz.prog 99 := c99s.2.symm
def c100s : CL 100 := ⟨_, by conv => lhs; reduce⟩
def c100 : CFn := c100s.1
theorem c100_ok : c100 = compFn Tryz.prog 100 := c100s.2.symm
def c101s : CL 101 := ⟨_, by conv => lhs; reduce⟩
def c101 : CFn := c101s.1
theorem c101_ok : c101 = compFn Tryz.prog 101 := c101s.2.symm
def c102s : CL 102 := ⟨_, by conv => lhs; reduce⟩
def c102 : CFn := c102s.1
theorem c102_ok : c102 = compFn Tryz.prog 102 := c102s.2.symm
def c103s : CL 103 := ⟨_, by conv => lhs; reduce⟩
def c103 : CFn := c103s.1
theorem c103_ok : c103 = compFn Tryz.prog 103 := c103s.2.symm
def c104s : CL 104 := ⟨_, by conv => lhs; reduce⟩
def c104 : CFn := c104s.1
theorem c104_ok : c104 = compFn Tryz.prog 104 := c104s.2.symm
def c105s : CL 105 := ⟨_, by conv => lhs; reduce⟩
def c105 : CFn := c105s.1
theorem c105_ok : c105 = compFn Tryz.prog 105 := c105s.2.symm
def c106s : CL 106 := ⟨_, by conv => lhs; reduce⟩
def c106 : CFn := c106s.1
theorem c106_ok : c106 = compFn Tryz.prog 106 := c106s.2.symm
def c107s : CL 107 := ⟨_, by conv => lhs; reduce⟩
def c107 : CFn := c107s.1
theorem c107_ok : c107 = compFn Tryz.prog 107 := c107s.2.symm
def c108s : CL 108 := ⟨_, by conv => lhs; reduce⟩
def c108 : CFn := c108s.1
theorem c108_ok : c108 = compFn Tryz.prog 108 := c108s.2.symm
def c109s : CL 109 := ⟨_, by conv => lhs; reduce⟩
def c109 : CFn := c109s.1
theorem c109_ok : c109 = compFn Tryz.prog 109 := c109s.2.symm
end Go.Ev
