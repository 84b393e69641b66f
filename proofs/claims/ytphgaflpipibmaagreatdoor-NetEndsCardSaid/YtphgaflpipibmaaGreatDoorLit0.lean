/- The compact code of the program's functions, written out, and that it is what the compiler makes of them (0). -/
import Derived.Test.YtphgaflpipibmaaGreatDoorEvSym
import Derived.Test.YtphgaflpipibmaaGreatDoorProg
import Derived.KernelRfl
namespace Go.Ev
open Go.Proofs
set_option maxRecDepth 1000000
set_option maxHeartbeats 8000000
abbrev CL (n : Nat) : Type := {c : CFn // compFn Tryz.prog n = c}
def c0 : CFn := .bad 0
def c1 : CFn := .bad 1
def c2 : CFn := .bad 2
def c3s : CL 3 := ⟨_, by conv => lhs; reduce⟩
def c3 : CFn := c3s.1
theorem c3_ok : c3 = compFn Tryz.prog 3 := c3s.2.symm
def c4s : CL 4 := ⟨_, by conv => lhs; reduce⟩
def c4 : CFn := c4s.1
theorem c4_ok : c4 = compFn Tryz.prog 4 := c4s.2.symm
def c5s : CL 5 := ⟨_, by conv => lhs; reduce⟩
def c5 : CFn := c5s.1
theorem c5_ok : c5 = compFn Tryz.prog 5 := c5s.2.symm
def c6s : CL 6 := ⟨_, by conv => lhs; reduce⟩
def c6 : CFn := c6s.1
theorem c6_ok : c6 = compFn Tryz.prog 6 := c6s.2.symm
def c7s : CL 7 := ⟨_, by conv => lhs; reduce⟩
def c7 : CFn := c7s.1
theorem c7_ok : c7 = compFn Tryz.prog 7 := c7s.2.symm
def c8s : CL 8 := ⟨_, by conv => lhs; reduce⟩
def c8 : CFn := c8s.1
theorem c8_ok : c8 = compFn Tryz.prog 8 := c8s.2.symm
def c9s : CL 9 := ⟨_, by conv => lhs; reduce⟩
def c9 : CFn := c9s.1
theorem c9_ok : c9 = compFn Tryz.prog 9 := c9s.2.symm
def c10s : CL 10 := ⟨_, by conv => lhs; reduce⟩
def c10 : CFn := c10s.1
theorem c10_ok : c10 = compFn Tryz.prog 10 := c10s.2.symm
def c11s : CL 11 := ⟨_, by conv => lhs; reduce⟩
def c11 : CFn := c11s.1
theorem c11_ok : c11 = compFn Tryz.prog 11 := c11s.2.symm
def c12s : CL 12 := ⟨_, by conv => lhs; reduce⟩
def c12 : CFn := c12s.1
theorem c12_ok : c12 = compFn Tryz.prog 12 := c12s.2.symm
def c13s : CL 13 := ⟨_, by conv => lhs; reduce⟩
def c13 : CFn := c13s.1
theorem c13_ok : c13 = compFn Tryz.prog 13 := c13s.2.symm
def c14s : CL 14 := ⟨_, by conv => lhs; reduce⟩
def c14 : CFn := c14s.1
theorem c14_ok : c14 = compFn Tryz.prog 14 := c14s.2.symm
def c15s : CL 15 := ⟨_, by conv => lhs; reduce⟩
def c15 : CFn := c15s.1
theorem c15_ok : c15 = compFn Tryz.prog 15 := c15s.2.symm
def c16s : CL 16 := ⟨_, by conv => lhs; reduce⟩
def c16 : CFn := c16s.1
theorem c16_ok : c16 = compFn Tryz.prog 16 := c16s.2.symm
def c17s : CL 17 := ⟨_, by conv => lhs; reduce⟩
def c17 : CFn := c17s.1
theorem c17_ok : c17 = compFn Tryz.prog 17 := c17s.2.symm
def c18s : CL 18 := ⟨_, by conv => lhs; reduce⟩
def c18 : CFn := c18s.1
theorem c18_ok : c18 = compFn Tryz.prog 18 := c18s.2.symm
def c19s : CL 19 := ⟨_, by conv => lhs; reduce⟩
def c19 : CFn := c19s.1
theorem c19_ok : c19 = compFn Tryz.prog 19 := c19s.2.symm
def c20s : CL 20 := ⟨_, by conv => lhs; reduce⟩
def c20 : CFn := c20s.1
theorem c20_ok : c20 = compFn Tryz.prog 20 := c20s.2.symm
def c21s : CL 21 := ⟨_, by conv => lhs; reduce⟩
def c21 : CFn := c21s.1
theorem c21_ok : c21 = compFn Tryz.prog 21 := c21s.2.symm
def c22s : CL 22 := ⟨_, by conv => lhs; reduce⟩
def c22 : CFn := c22s.1
theorem c22_ok : c22 = compFn Tryz.prog 22 := c22s.2.symm
def c23s : CL 23 := ⟨_, by conv => lhs; reduce⟩
def c23 : CFn := c23s.1
theorem c23_ok : c23 = compFn Tryz.prog 23 := c23s.2.symm
def c24s : CL 24 := ⟨_, by conv => lhs; reduce⟩
def c24 : CFn := c24s.1
theorem c24_ok : c24 = compFn Tryz.prog 24 := c24s.2.symm
def c25s : CL 25 := ⟨_, by conv => lhs; reduce⟩
def c25 : CFn := c25s.1
theorem c25_ok : c25 = compFn Tryz.prog 25 := c25s.2.symm
def c26s : CL 26 := ⟨_, by conv => lhs; reduce⟩
def c26 : CFn := c26s.1
theorem c26_ok : c26 = compFn Tryz.prog 26 := c26s.2.symm
def c27s : CL 27 := ⟨_, by conv => lhs; reduce⟩
def c27 : CFn := c27s.1
theorem c27_ok : c27 = compFn Tryz.prog 27 := c27s.2.symm
def c28s : CL 28 := ⟨_, by conv => lhs; reduce⟩
def c28 : CFn := c28s.1
theorem c28_ok : c28 = compFn Tryz.prog 28 := c28s.2.symm
def c29s : CL 29 := ⟨_, by conv => lhs; reduce⟩
def c29 : CFn := c29s.1
theorem c29_ok : c29 = compFn Tryz.prog 29 := c29s.2.symm
def c30s : CL 30 := ⟨_, by conv => lhs; reduce⟩
def c30 : CFn := c30s.1
theorem c30_ok : c30 = compFn Tryz.prog 30 := c30s.2.symm
def c31s : CL 31 := ⟨_, by conv => lhs; reduce⟩
def c31 : CFn := c31s.1
theorem c31_ok : c31 = compFn Tryz.prog 31 := c31s.2.symm
def c32s : CL 32 := ⟨_, by conv => lhs; reduce⟩
def c32 : CFn := c32s.1
theorem c32_ok : c32 = compFn Tryz.prog 32 := c32s.2.symm
def c33s : CL 33 := ⟨_, by conv => lhs; reduce⟩
def c33 : CFn := c33s.1
theorem c33_ok : c33 = compFn Tryz.prog 33 := c33s.2.symm
def c34s : CL 34 := ⟨_, by conv => lhs; reduce⟩
def c34 : CFn := c34s.1
theorem c34_ok : c34 = compFn Tryz.prog 34 := c34s.2.symm
def c35s : CL 35 := ⟨_, by conv => lhs; reduce⟩
def c35 : CFn := c35s.1
theorem c35_ok : c35 = compFn Tryz.prog 35 := c35s.2.symm
def c36s : CL 36 := ⟨_, by conv => lhs; reduce⟩
def c36 : CFn := c36s.1
theorem c36_ok : c36 = compFn Tryz.prog 36 := c36s.2.symm
def c37s : CL 37 := ⟨_, by conv => lhs; reduce⟩
def c37 : CFn := c37s.1
theorem c37_ok : c37 = compFn Tryz.prog 37 := c37s.2.symm
def c38s : CL 38 := ⟨_, by conv => lhs; reduce⟩
def c38 : CFn := c38s.1
theorem c38_ok : c38 = compFn Tryz.prog 38 := c38s.2.symm
def c39s : CL 39 := ⟨_, by conv => lhs; reduce⟩
def c39 : CFn := c39s.1
theorem c39_ok : c39 = compFn Tryz.prog 39 := c39s.2.symm
def c40 : CFn := .mk (.seq (.region [.o (.box (.l (.s .d1))) (.s .d3), .o (.mv (.k .nilsl)) (.s .d4)]) (.seq (.dregion [⟨.i (.mv (.l (.s .d0))), false, 0⟩, ⟨.i (.nilck (.e 0)), false, 0⟩, ⟨.i (.addOff 3 (.e 0)), false, 0⟩, ⟨.i (.load1 (.e 0)), false, 0⟩, ⟨.i (.loadN 2 (.l (.s .d3))), false, 0⟩, ⟨.i (.lookup (.ints 2) .nilmap false (.e 1) (.e 0)), false, 0⟩, ⟨.i (.mv (.l (.s .d0))), false, 0⟩, ⟨.i (.nilck (.e 0)), false, 0⟩, ⟨.i (.addOff 0 (.e 0)), false, 0⟩, ⟨.i (.load1 (.e 0)), false, 0⟩, ⟨.i (.lenSl (.e 0)), false, 0⟩, ⟨.i (.call 89 [(.e 5), (.e 0)]), true, 0⟩, ⟨.o (.mv (.e 0)) (.s .d4), false, 0⟩]) .ret)) [(.tmp (.l (.s .d4)))]
theorem c40_ok : c40 = compFn Tryz.prog 40 := by kernel_rfl
def c41 : CFn := .mk (.seq (.region [.o (.box (.l (.s .d1))) (.s .d3), .o (.mv (.k .nilsl)) (.s .d4)]) (.seq (.dregion [⟨.i (.mv (.l (.s .d0))), false, 0⟩, ⟨.i (.nilck (.e 0)), false, 0⟩, ⟨.i (.addOff 2 (.e 0)), false, 0⟩, ⟨.i (.load1 (.e 0)), false, 0⟩, ⟨.i (.loadN 2 (.l (.s .d3))), false, 0⟩, ⟨.i (.lookup (.ints 2) .nilmap false (.e 1) (.e 0)), false, 0⟩, ⟨.i (.mv (.l (.s .d0))), false, 0⟩, ⟨.i (.nilck (.e 0)), false, 0⟩, ⟨.i (.addOff 1 (.e 0)), false, 0⟩, ⟨.i (.load1 (.e 0)), false, 0⟩, ⟨.i (.lenSl (.e 0)), false, 0⟩, ⟨.i (.call 89 [(.e 5), (.e 0)]), true, 0⟩, ⟨.o (.mv (.e 0)) (.s .d4), false, 0⟩]) .ret)) [(.tmp (.l (.s .d4)))]
theorem c41_ok : c41 = compFn Tryz.prog 41 := by kernel_rfl
def c42s : CL 42 := ⟨_, by conv => lhs; reduce⟩
def c42 : CFn := c42s.1
theorem c42_ok : c42 = compFn Tryz.prog 42 := c42s.2.symm
def c43s : CL 43 := ⟨_, by conv => lhs; reduce⟩
def c43 : CFn := c43s.1
theorem c43_ok : c43 = compFn Tryz.prog 43 := c43s.2.symm
def c44s : CL 44 := ⟨_, by conv => lhs; reduce⟩
def c44 : CFn := c44s.1
theorem c44_ok : c44 = compFn Tryz.prog 44 := c44s.2.symm
def c45s : CL 45 := ⟨_, by conv => lhs; reduce⟩
def c45 : CFn := c45s.1
theorem c45_ok : c45 = compFn Tryz.prog 45 := c45s.2.symm
def c46s : CL 46 := ⟨_, by conv => lhs; reduce⟩
def c46 : CFn := c46s.1
theorem c46_ok : c46 = compFn Tryz.prog 46 := c46s.2.symm
def c47s : CL 47 := ⟨_, by conv => lhs; reduce⟩
def c47 : CFn := c47s.1
theorem c47_ok : c47 = compFn Tryz.prog 47 := c47s.2.symm
def c48s : CL 48 := ⟨_, by conv => lhs; reduce⟩
def c48 : CFn := c48s.1
theorem c48_ok : c48 = compFn Tryz.prog 48 := c48s.2.symm
def c49s : CL 49 := ⟨_, by conv => lhs; reduce⟩
def c49 : CFn := c49s.1
theorem c49_ok : c49 = compFn Tryz.prog 49 := c49s.2.symm
def c50s : CL 50 := ⟨_, by conv => lhs; reduce⟩
def c50 : CFn := c50s.1
theorem c50_ok : c50 = compFn Tryz.prog 50 := c50s.2.symm
def c51s : CL 51 := ⟨_, by conv => lhs; reduce⟩
def c51 : CFn := c51s.1
theorem c51_ok : c51 = compFn Tryz.prog 51 := c51s.2.symm
def c52s : CL 52 := ⟨_, by conv => lhs; reduce⟩
def c52 : CFn := c52s.1
theorem c52_ok : c52 = compFn Tryz.prog 52 := c52s.2.symm
def c53s : CL 53 := ⟨_, by conv => lhs; reduce⟩
def c53 : CFn := c53s.1
theorem c53_ok : c53 = compFn Tryz.prog 53 := c53s.2.symm
def c54s : CL 54 := ⟨_, by conv => lhs; reduce⟩
def c54 : CFn := c54s.1
theorem c54_ok : c54 = compFn Tryz.prog 54 := c54s.2.symm
def c55s : CL 55 := ⟨_, by conv => lhs; reduce⟩
def c55 : CFn := c55s.1
theorem c55_ok : c55 = compFn Tryz.prog 55 := c55s.2.symm
def c56s : CL 56 := ⟨_, by conv => lhs; reduce⟩
def c56 : CFn := c56s.1
theorem c56_ok : c56 = compFn Tryz.prog 56 := c56s.2.symm
def c57s : CL 57 := ⟨_, by conv => lhs; reduce⟩
def c57 : CFn := c57s.1
theorem c57_ok : c57 = compFn Tryz.prog 57 := c57s.2.symm
def c58s : CL 58 := ⟨_, by conv => lhs; reduce⟩
def c58 : CFn := c58s.1
theorem c58_ok : c58 = compFn Tryz.prog 58 := c58s.2.symm
def c59s : CL 59 := ⟨_, by conv => lhs; reduce⟩
def c59 : CFn := c59s.1
theorem c59_ok : c59 = compFn Tryz.prog 59 := c59s.2.symm
def c60s : CL 60 := ⟨_, by conv => lhs; reduce⟩
def c60 : CFn := c60s.1
theorem c60_ok : c60 = compFn Tryz.prog 60 := c60s.2.symm
def c61s : CL 61 := ⟨_, by conv => lhs; reduce⟩
def c61 : CFn := c61s.1
theorem c61_ok : c61 = compFn Tryz.prog 61 := c61s.2.symm
def c62s : CL 62 := ⟨_, by conv => lhs; reduce⟩
def c62 : CFn := c62s.1
theorem c62_ok : c62 = compFn Tryz.prog 62 := c62s.2.symm
def c63s : CL 63 := ⟨_, by conv => lhs; reduce⟩
def c63 : CFn := c63s.1
theorem c63_ok : c63 = compFn Tryz.prog 63 := c63s.2.symm
def c64s : CL 64 := ⟨_, by conv => lhs; reduce⟩
def c64 : CFn := c64s.1
theorem c64_ok : c64 = compFn Tryz.prog 64 := c64s.2.symm
def c65s : CL 65 := ⟨_, by conv => lhs; reduce⟩
def c65 : CFn := c65s.1
theorem c65_ok : c65 = compFn Tryz.prog 65 := c65s.2.symm
def c66s : CL 66 := ⟨_, by conv => lhs; reduce⟩
def c66 : CFn := c66s.1
theorem c66_ok : c66 = compFn Tryz.prog 66 := c66s.2.symm
def c67s : CL 67 := ⟨_, by conv => lhs; reduce⟩
def c67 : CFn := c67s.1
theorem c67_ok : c67 = compFn Tryz.prog 67 := c67s.2.symm
def c68s : CL 68 := ⟨_, by conv => lhs; reduce⟩
def c68 : CFn := c68s.1
theorem c68_ok : c68 = compFn Tryz.prog 68 := c68s.2.symm
def c69s : CL 69 := ⟨_, by conv => lhs; reduce⟩
def c69 : CFn := c69s.1
theorem c69_ok : c69 = compFn Tryz.prog 69 := c69s.2.symm
def c70s : CL 70 := ⟨_, by conv => lhs; reduce⟩
def c70 : CFn := c70s.1
theorem c70_ok : c70 = compFn Tryz.prog 70 := c70s.2.symm
def c71s : CL 71 := ⟨_, by conv => lhs; reduce⟩
def c71 : CFn := c71s.1
theorem c71_ok : c71 = compFn Tryz.prog 71 := c71s.2.symm
def c72s : CL 72 := ⟨_, by conv => lhs; reduce⟩
def c72 : CFn := c72s.1
theorem c72_ok : c72 = compFn Tryz.prog 72 := c72s.2.symm
def c73 : CFn := .mk (.seq (.region [.o (.box (.l (.s .d1))) (.s .d4)]) (.seq (.seq (.region [.i (.mv (.l (.s .d0))), .i (.loadN 2 (.l (.s .d4))), .i (.lookup (.ints 2) .nilmap false (.e 1) (.e 0)), .o (.eq false .map true (.e 0) (.k .nilmap)) (.s .d9)]) (.cond (.l (.s .d9)) (.region [.i (.mv (.l (.s .d0))), .i (.loadN 2 (.l (.s .d4))), .i .mkmap, .i (.mapupd (.ints 2) (.e 2) (.e 1) (.e 0))]) .skip)) (.region [.i (.mv (.l (.s .d0))), .i (.loadN 2 (.l (.s .d4))), .i (.lookup (.ints 2) .nilmap false (.e 1) (.e 0)), .i (.mv (.l (.s .d2))), .i (.lookup .int (.nat 0) false (.e 1) (.e 0)), .i (.arith .add (.e 0) (.k (.nat 1))), .i (.mapupd .int (.e 3) (.e 2) (.e 0))]))) []
theorem c73_ok : c73 = compFn Tryz.prog 73 := by kernel_rfl
def c74s : CL 74 := ⟨_, by conv => lhs; reduce⟩
def c74 : CFn := c74s.1
theorem c74_ok : c74 = compFn Tryz.prog 74 := c74s.2.symm
def c75s : CL 75 := ⟨_, by conv => lhs; reduce⟩
def c75 : CFn := c75s.1
theorem c75_ok : c75 = compFn Tryz.prog 75 := c75s.2.symm
def c76s : CL 76 := ⟨_, by conv => lhs; reduce⟩
def c76 : CFn := c76s.1
theorem c76_ok : c76 = compFn Tryz.prog 76 := c76s.2.symm
def c77s : CL 77 := ⟨_, by conv => lhs; reduce⟩
def c77 : CFn := c77s.1
theorem c77_ok : c77 = compFn Tryz.prog 77 := c77s.2.symm
def c78s : CL 78 := ⟨_, by conv => lhs; reduce⟩
def c78 : CFn := c78s.1
theorem c78_ok : c78 = compFn Tryz.prog 78 := c78s.2.symm
def c79s : CL 79 := ⟨_, by conv => lhs; reduce⟩
def c79 : CFn := c79s.1
theorem c79_ok : c79 = compFn Tryz.prog 79 := c79s.2.symm
def c80s : CL 80 := ⟨_, by conv => lhs; reduce⟩
def c80 : CFn := c80s.1
theorem c80_ok : c80 = compFn Tryz.prog 80 := c80s.2.symm
def c81s : CL 81 := ⟨_, by conv => lhs; reduce⟩
def c81 : CFn := c81s.1
theorem c81_ok : c81 = compFn Tryz.prog 81 := c81s.2.symm
def c82s : CL 82 := ⟨_, by conv => lhs; reduce⟩
def c82 : CFn := c82s.1
theorem c82_ok : c82 = compFn Tryz.prog 82 := c82s.2.symm
def c83s : CL 83 := ⟨_, by conv => lhs; reduce⟩
def c83 : CFn := c83s.1
theorem c83_ok : c83 = compFn Tryz.prog 83 := c83s.2.symm
def c84s : CL 84 := ⟨_, by conv => lhs; reduce⟩
def c84 : CFn := c84s.1
theorem c84_ok : c84 = compFn Tryz.prog 84 := c84s.2.symm
def c85s : CL 85 := ⟨_, by conv => lhs; reduce⟩
def c85 : CFn := c85s.1
theorem c85_ok : c85 = compFn Tryz.prog 85 := c85s.2.symm
def c86s : CL 86 := ⟨_, by conv => lhs; reduce⟩
def c86 : CFn := c86s.1
theorem c86_ok : c86 = compFn Tryz.prog 86 := c86s.2.symm
def c87s : CL 87 := ⟨_, by conv => lhs; reduce⟩
def c87 : CFn := c87s.1
theorem c87_ok : c87 = compFn Tryz.prog 87 := c87s.2.symm
def c88s : CL 88 := ⟨_, by conv => lhs; reduce⟩
def c88 : CFn := c88s.1
theorem c88_ok : c88 = compFn Tryz.prog 88 := c88s.2.symm
def c89 : CFn := .bad 89
def c90s : CL 90 := ⟨_, by conv => lhs; reduce⟩
def c90 : CFn := c90s.1
theorem c90_ok : c90 = compFn Tryz.prog 90 := c90s.2.symm
def c91s : CL 91 := ⟨_, by conv => lhs; reduce⟩
def c91 : CFn := c91s.1
theorem c91_ok : c91 = compFn Tryz.prog 91 := c91s.2.symm
def c92s : CL 92 := ⟨_, by conv => lhs; reduce⟩
def c92 : CFn := c92s.1
theorem c92_ok : c92 = compFn Tryz.prog 92 := c92s.2.symm
def c93s : CL 93 := ⟨_, by conv => lhs; reduce⟩
def c93 : CFn := c93s.1
theorem c93_ok : c93 = compFn Tryz.prog 93 := c93s.2.symm
def c94s : CL 94 := ⟨_, by conv => lhs; reduce⟩
def c94 : CFn := c94s.1
theorem c94_ok : c94 = compFn Tryz.prog 94 := c94s.2.symm
def c95s : CL 95 := ⟨_, by conv => lhs; reduce⟩
def c95 : CFn := c95s.1
theorem c95_ok : c95 = compFn Tryz.prog 95 := c95s.2.symm
def c96s : CL 96 := ⟨_, by conv => lhs; reduce⟩
def c96 : CFn := c96s.1
theorem c96_ok : c96 = compFn Tryz.prog 96 := c96s.2.symm
def c97s : CL 97 := ⟨_, by conv => lhs; reduce⟩
def c97 : CFn := c97s.1
theorem c97_ok : c97 = compFn Tryz.prog 97 := c97s.2.symm
def c98s : CL 98 := ⟨_, by conv => lhs; reduce⟩
def c98 : CFn := c98s.1
theorem c98_ok : c98 = compFn Tryz.prog 98 := c98s.2.symm
def c99s : CL 99 := ⟨_, by conv => lhs; reduce⟩
def c99 : CFn := c99s.1
theorem c99_ok : c99 = compFn Tryz.prog 99 := c99s.2.symm
def c100s : CL 100 := ⟨_, by conv => lhs; reduce⟩
def c100 : CFn := c100s.1
theorem c100_ok : c100 = compFn Tryz.prog 100 := c100s.2.symm
def c101s : CL 101 := ⟨_, by conv => lhs; reduce⟩
def c101 : CFn := c101s.1
theorem c101_ok : c101 = compFn Tryz.prog 101 := c101s.2.symm
def c102s : CL 102 := ⟨_, by conv => lhs; reduce⟩
def c102 : CFn := c102s.1
theorem c102_ok : c102 = compFn Tryz.prog 102 := c102s.2.symm
def c103s : CL 103 := ⟨_, by conv => lhs; reduce⟩
def c103 : CFn := c103s.1
theorem c103_ok : c103 = compFn Tryz.prog 103 := c103s.2.symm
def c104s : CL 104 := ⟨_, by conv => lhs; reduce⟩
def c104 : CFn := c104s.1
theorem c104_ok : c104 = compFn Tryz.prog 104 := c104s.2.symm
def c105s : CL 105 := ⟨_, by conv => lhs; reduce⟩
def c105 : CFn := c105s.1
theorem c105_ok : c105 = compFn Tryz.prog 105 := c105s.2.symm
def c106s : CL 106 := ⟨_, by conv => lhs; reduce⟩
def c106 : CFn := c106s.1
theorem c106_ok : c106 = compFn Tryz.prog 106 := c106s.2.symm
def c107s : CL 107 := ⟨_, by conv => lhs; reduce⟩
def c107 : CFn := c107s.1
theorem c107_ok : c107 = compFn Tryz.prog 107 := c107s.2.symm
def c108s : CL 108 := ⟨_, by conv => lhs; reduce⟩
def c108 : CFn := c108s.1
theorem c108_ok : c108 = compFn Tryz.prog 108 := c108s.2.symm
def c109s : CL 109 := ⟨_, by conv => lhs; reduce⟩
def c109 : CFn := c109s.1
theorem c109_ok : c109 = compFn Tryz.prog 109 := c109s.2.symm
def c110s : CL 110 := ⟨_, by conv => lhs; reduce⟩
def c110 : CFn := c110s.1
theorem c110_ok : c110 = compFn Tryz.prog 110 := c110s.2.symm
def c111s : CL 111 := ⟨_, by conv => lhs; reduce⟩
def c111 : CFn := c111s.1
theorem c111_ok : c111 = compFn Tryz.prog 111 := c111s.2.symm
def c112s : CL 112 := ⟨_, by conv => lhs; reduce⟩
def c112 : CFn := c112s.1
theorem c112_ok : c112 = compFn Tryz.prog 112 := c112s.2.symm
def c113s : CL 113 := ⟨_, by conv => lhs; reduce⟩
def c113 : CFn := c113s.1
theorem c113_ok : c113 = compFn Tryz.prog 113 := c113s.2.symm
def c114s : CL 114 := ⟨_, by conv => lhs; reduce⟩
def c114 : CFn := c114s.1
theorem c114_ok : c114 = compFn Tryz.prog 114 := c114s.2.symm
def c115s : CL 115 := ⟨_, by conv => lhs; reduce⟩
def c115 : CFn := c115s.1
theorem c115_ok : c115 = compFn Tryz.prog 115 := c115s.2.symm
def c116s : CL 116 := ⟨_, by conv => lhs; reduce⟩
def c116 : CFn := c116s.1
theorem c116_ok : c116 = compFn Tryz.prog 116 := c116s.2.symm
def c117s : CL 117 := ⟨_, by conv => lhs; reduce⟩
def c117 : CFn := c117s.1
theorem c117_ok : c117 = compFn Tryz.prog 117 := c117s.2.symm
def c118s : CL 118 := ⟨_, by conv => lhs; reduce⟩
def c118 : CFn := c118s.1
theorem c118_ok : c118 = compFn Tryz.prog 118 := c118s.2.symm
def c119s : CL 119 := ⟨_, by conv => lhs; reduce⟩
def c119 : CFn := c119s.1
theorem c119_ok : c119 = compFn Tryz.prog 119 := c119s.2.symm
def c120s : CL 120 := ⟨_, by conv => lhs; reduce⟩
def c120 : CFn := c120s.1
theorem c120_ok : c120 = compFn Tryz.prog 120 := c120s.2.symm
def c121s : CL 121 := ⟨_, by conv => lhs; reduce⟩
def c121 : CFn := c121s.1
theorem c121_ok : c121 = compFn Tryz.prog 121 := c121s.2.symm
def c122s : CL 122 := ⟨_, by conv => lhs; reduce⟩
def c122 : CFn := c122s.1
theorem c122_ok : c122 = compFn Tryz.prog 122 := c122s.2.symm
def c123 : CFn := .mk (.seq (.region [.o (.box (.l (.s .d0))) (.s .d2), .o (.box (.l (.s .d1))) (.s .d3), .o (.mv (.k (.bool false))) (.s .d4)]) (.seq (.seq (.region [.i (.addOff 0 (.l (.s .d2))), .i (.load1 (.e 0)), .i (.addOff 0 (.l (.s .d3))), .i (.load1 (.e 0)), .i (.arith .neq (.e 2) (.e 0)), .i (.mv (.e 0)), .g (.e 0) false (.addOff 1 (.l (.s .d2))) none, .g (.e 1) false (.load1 (.e 0)) none, .g (.e 2) false (.addOff 1 (.l (.s .d3))) none, .g (.e 3) false (.load1 (.e 0)) none, .g (.e 4) false (.eq true .bool false (.e 2) (.e 0)) none, .i (.pick (.e 5) (.k (.bool true)) (.e 0)), .i (.mv (.e 0)), .g (.e 0) false (.addOff 2 (.l (.s .d2))) none, .g (.e 1) false (.load1 (.e 0)) none, .g (.e 2) false (.addOff 2 (.l (.s .d3))) none, .g (.e 3) false (.load1 (.e 0)) none, .g (.e 4) false (.arith .neq (.e 2) (.e 0)) none, .i (.pick (.e 5) (.k (.bool true)) (.e 0)), .i (.mv (.e 0)), .g (.e 0) false (.addOff 3 (.l (.s .d2))) none, .g (.e 1) false (.load1 (.e 0)) none, .g (.e 2) false (.addOff 3 (.l (.s .d3))) none, .g (.e 3) false (.load1 (.e 0)) none, .g (.e 4) false (.eq true .bool false (.e 2) (.e 0)) none, .i (.pick (.e 5) (.k (.bool true)) (.e 0)), .i (.mv (.e 0)), .g (.e 0) false (.addOff 4 (.l (.s .d2))) none, .g (.e 1) false (.load1 (.e 0)) none, .g (.e 2) false (.addOff 4 (.l (.s .d3))) none, .g (.e 3) false (.load1 (.e 0)) none, .g (.e 4) false (.arith .neq (.e 2) (.e 0)) none, .i (.pick (.e 5) (.k (.bool true)) (.e 0)), .i (.mv (.e 0)), .g (.e 0) false (.addOff 5 (.l (.s .d2))) none, .g (.e 1) false (.load1 (.e 0)) none, .g (.e 2) false (.addOff 5 (.l (.s .d3))) none, .g (.e 3) false (.load1 (.e 0)) none, .g (.e 4) false (.arith .neq (.e 2) (.e 0)) none, .i (.pick (.e 5) (.k (.bool true)) (.e 0)), .i (.mv (.e 0)), .g (.e 0) false (.addOff 7 (.l (.s .d2))) none, .g (.e 1) false (.load1 (.e 0)) none, .g (.e 2) false (.addOff 7 (.l (.s .d3))) none, .g (.e 3) false (.load1 (.e 0)) none, .g (.e 4) false (.arith .neq (.e 2) (.e 0)) none, .i (.pick (.e 5) (.k (.bool true)) (.e 0)), .i (.mv (.e 0)), .g (.e 0) false (.addOff 12 (.l (.s .d2))) none, .g (.e 1) false (.load1 (.e 0)) none, .g (.e 2) false (.addOff 12 (.l (.s .d3))) none, .g (.e 3) false (.load1 (.e 0)) none, .g (.e 4) false (.eq true .bool false (.e 2) (.e 0)) none, .i (.pick (.e 5) (.k (.bool true)) (.e 0)), .i (.mv (.e 0)), .g (.e 0) false (.addOff 13 (.l (.s .d2))) none, .g (.e 1) false (.load1 (.e 0)) none, .g (.e 2) false (.addOff 13 (.l (.s .d3))) none, .g (.e 3) false (.load1 (.e 0)) none, .g (.e 4) false (.arith .neq (.e 2) (.e 0)) none, .i (.pick (.e 5) (.k (.bool true)) (.e 0)), .i (.mv (.e 0)), .g (.e 0) false (.addOff 14 (.l (.s .d2))) none, .g (.e 1) false (.load1 (.e 0)) none, .g (.e 2) false (.addOff 14 (.l (.s .d3))) none, .g (.e 3) false (.load1 (.e 0)) none, .g (.e 4) false (.arith .neq (.e 2) (.e 0)) none, .i (.pick (.e 5) (.k (.bool true)) (.e 0)), .i (.mv (.e 0)), .g (.e 0) false (.addOff 15 (.l (.s .d2))) none, .g (.e 1) false (.load1 (.e 0)) none, .g (.e 2) false (.addOff 15 (.l (.s .d3))) none, .g (.e 3) false (.load1 (.e 0)) none, .g (.e 4) false (.eq true .bool false (.e 2) (.e 0)) none, .i (.pick (.e 5) (.k (.bool true)) (.e 0)), .i (.mv (.e 0)), .g (.e 0) false (.addOff 21 (.l (.s .d2))) none, .g (.e 1) false (.load1 (.e 0)) none, .g (.e 2) false (.addOff 21 (.l (.s .d3))) none, .g (.e 3) false (.load1 (.e 0)) none, .g (.e 4) false (.eq true .bool false (.e 2) (.e 0)) none, .i (.pick (.e 5) (.k (.bool true)) (.e 0)), .i (.mv (.e 0)), .g (.e 0) false (.addOff 22 (.l (.s .d2))) none, .g (.e 1) false (.load1 (.e 0)) none, .g (.e 2) false (.addOff 22 (.l (.s .d3))) none, .g (.e 3) false (.load1 (.e 0)) none, .g (.e 4) false (.arith .neq (.e 2) (.e 0)) none, .i (.pick (.e 5) (.k (.bool true)) (.e 0)), .i (.mv (.e 0)), .g (.e 0) false (.addOff 23 (.l (.s .d2))) none, .g (.e 1) false (.load1 (.e 0)) none, .g (.e 2) false (.addOff 23 (.l (.s .d3))) none, .g (.e 3) false (.load1 (.e 0)) none, .g (.e 4) false (.eq true .bool false (.e 2) (.e 0)) none, .i (.pick (.e 5) (.k (.bool true)) (.e 0)), .i (.mv (.e 0)), .g (.e 0) false (.addOff 25 (.l (.s .d2))) none, .g (.e 1) false (.load1 (.e 0)) none, .g (.e 2) false (.addOff 25 (.l (.s .d3))) none, .g (.e 3) false (.load1 (.e 0)) none, .g (.e 4) false (.eq true .bool false (.e 2) (.e 0)) none, .o (.pick (.e 5) (.k (.bool true)) (.e 0)) (.w .d6 .d0)]) (.cond (.l (.w .d6 .d0)) (.seq (.region [.o (.mv (.k (.bool false))) (.s .d4)]) .ret) .skip)) (.seq (.seq (.region [.i (.addOff 6 (.l (.s .d2))), .i (.load1 (.e 0)), .i (.cvBS (.e 0)), .i (.addOff 6 (.l (.s .d3))), .i (.load1 (.e 0)), .i (.cvBS (.e 0)), .i (.arith .neq (.e 3) (.e 0)), .i (.mv (.e 0)), .g (.e 0) false (.addOff 24 (.l (.s .d2))) none, .g (.e 1) false (.load1 (.e 0)) none, .g (.e 2) false (.cvBS (.e 0)) none, .g (.e 3) false (.addOff 24 (.l (.s .d3))) none, .g (.e 4) false (.load1 (.e 0)) none, .g (.e 5) false (.cvBS (.e 0)) none, .g (.e 6) false (.arith .neq (.e 3) (.e 0)) none, .i (.pick (.e 7) (.k (.bool true)) (.e 0)), .i (.mv (.e 0)), .g (.e 0) false (.addOff 9 (.l (.s .d2))) none, .g (.e 1) false (.load1 (.e 0)) none, .g (.e 2) false (.addOff 9 (.l (.s .d3))) none, .g (.e 3) false (.load1 (.e 0)) none, .g (.e 4) false (.call 203 [(.e 2), (.e 0)]) none, .g (.e 5) false (.un .not (.e 0)) none, .i (.pick (.e 6) (.k (.bool true)) (.e 0)), .i (.mv (.e 0)), .g (.e 0) false (.addOff 8 (.l (.s .d2))) none, .g (.e 1) false (.load1 (.e 0)) none, .g (.e 2) false (.lenSl (.e 0)) none, .g (.e 3) false (.addOff 8 (.l (.s .d3))) none, .g (.e 4) false (.load1 (.e 0)) none, .g (.e 5) false (.lenSl (.e 0)) none, .g (.e 6) false (.arith .neq (.e 3) (.e 0)) none, .i (.pick (.e 7) (.k (.bool true)) (.e 0)), .i (.mv (.e 0)), .g (.e 0) false (.addOff 10 (.l (.s .d2))) none, .g (.e 1) false (.load1 (.e 0)) none, .g (.e 2) false (.lenSl (.e 0)) none, .g (.e 3) false (.addOff 10 (.l (.s .d3))) none, .g (.e 4) false (.load1 (.e 0)) none, .g (.e 5) false (.lenSl (.e 0)) none, .g (.e 6) false (.arith .neq (.e 3) (.e 0)) none, .i (.pick (.e 7) (.k (.bool true)) (.e 0)), .i (.mv (.e 0)), .g (.e 0) false (.addOff 11 (.l (.s .d2))) none, .g (.e 1) false (.load1 (.e 0)) none, .g (.e 2) false (.lenSl (.e 0)) none, .g (.e 3) false (.addOff 11 (.l (.s .d3))) none, .g (.e 4) false (.load1 (.e 0)) none, .g (.e 5) false (.lenSl (.e 0)) none, .g (.e 6) false (.arith .neq (.e 3) (.e 0)) none, .o (.pick (.e 7) (.k (.bool true)) (.e 0)) (.w .d9 .d3)]) (.cond (.l (.w .d9 .d3)) (.seq (.region [.o (.mv (.k (.bool false))) (.s .d4)]) .ret) .skip)) (.seq (.seq (.region [.o (.mv (.k (.nat 0))) (.s .d5)]) (.block 0 (.loop (.seq (.seq (.region [.i (.mv (.l (.s .d5))), .i (.addOff 8 (.l (.s .d2))), .i (.load1 (.e 0)), .i (.lenSl (.e 0)), .o (.arith .lss (.e 3) (.e 0)) (.w .d9 .d8)]) (.cond (.l (.w .d9 .d8)) .skip (.exit 0))) (.seq (.block 1 (.seq (.dregion [⟨.i (.addOff 8 (.l (.s .d2))), false, 0⟩, ⟨.i (.load1 (.e 0)), false, 0⟩, ⟨.i (.mv (.l (.s .d5))), false, 0⟩, ⟨.i (.ixSl 1 (.e 1) (.e 0)), false, 0⟩, ⟨.i (.load1 (.e 0)), false, 0⟩, ⟨.i (.addOff 8 (.l (.s .d3))), false, 0⟩, ⟨.i (.load1 (.e 0)), false, 0⟩, ⟨.i (.mv (.l (.s .d5))), false, 0⟩, ⟨.i (.ixSl 1 (.e 1) (.e 0)), false, 0⟩, ⟨.i (.load1 (.e 0)), false, 0⟩, ⟨.o (.arith .neq (.e 5) (.e 0)) (.w .d10 .d5), false, 0⟩]) (.cond (.l (.w .d10 .d5)) (.seq (.region [.o (.mv (.k (.bool false))) (.s .d4)]) .ret) .skip))) (.region [.i (.mv (.l (.s .d5))), .i (.arith .add (.e 0) (.k (.nat 1))), .o (.mv (.e 0)) (.s .d5)])))))) (.seq (.seq (.region [.o (.mv (.k (.nat 0))) (.s .d6)]) (.block 2 (.loop (.seq (.seq (.region [.i (.mv (.l (.s .d6))), .i (.addOff 10 (.l (.s .d2))), .i (.load1 (.e 0)), .i (.lenSl (.e 0)), .o (.arith .lss (.e 3) (.e 0)) (.w .d10 .d10)]) (.cond (.l (.w .d10 .d10)) .skip (.exit 2))) (.seq (.block 3 (.seq (.dregion [⟨.i (.addOff 10 (.l (.s .d2))), false, 0⟩, ⟨.i (.load1 (.e 0)), false, 0⟩, ⟨.i (.mv (.l (.s .d6))), false, 0⟩, ⟨.i (.ixSl 6 (.e 1) (.e 0)), false, 0⟩, ⟨.i (.loadN 6 (.e 0)), false, 0⟩, ⟨.i (.addOff 10 (.l (.s .d3))), false, 0⟩, ⟨.i (.load1 (.e 0)), false, 0⟩, ⟨.i (.mv (.l (.s .d6))), false, 0⟩, ⟨.i (.ixSl 6 (.e 1) (.e 0)), false, 0⟩, ⟨.i (.loadN 6 (.e 0)), false, 0⟩, ⟨.o (.eq true (.struct [(0, .str), (1, .int), (2, .bool), (3, .bool), (4, .int), (5, .int)]) false (.e 5) (.e 0)) (.w .d11 .d7), false, 0⟩]) (.cond (.l (.w .d11 .d7)) (.seq (.region [.o (.mv (.k (.bool false))) (.s .d4)]) .ret) .skip))) (.region [.i (.mv (.l (.s .d6))), .i (.arith .add (.e 0) (.k (.nat 1))), .o (.mv (.e 0)) (.s .d6)])))))) (.seq (.seq (.region [.o (.mv (.k (.nat 0))) (.s .d7)]) (.block 4 (.loop (.seq (.seq (.region [.i (.mv (.l (.s .d7))), .i (.addOff 11 (.l (.s .d2))), .i (.load1 (.e 0)), .i (.lenSl (.e 0)), .o (.arith .lss (.e 3) (.e 0)) (.w .d11 .d12)]) (.cond (.l (.w .d11 .d12)) .skip (.exit 4))) (.seq (.block 5 (.seq (.dregion [⟨.i (.addOff 11 (.l (.s .d2))), false, 0⟩, ⟨.i (.load1 (.e 0)), false, 0⟩, ⟨.i (.mv (.l (.s .d7))), false, 0⟩, ⟨.i (.ixSl 1 (.e 1) (.e 0)), false, 0⟩, ⟨.i (.load1 (.e 0)), false, 0⟩, ⟨.i (.addOff 11 (.l (.s .d3))), false, 0⟩, ⟨.i (.load1 (.e 0)), false, 0⟩, ⟨.i (.mv (.l (.s .d7))), false, 0⟩, ⟨.i (.ixSl 1 (.e 1) (.e 0)), false, 0⟩, ⟨.i (.load1 (.e 0)), false, 0⟩, ⟨.o (.arith .neq (.e 5) (.e 0)) (.w .d12 .d9), false, 0⟩]) (.cond (.l (.w .d12 .d9)) (.seq (.region [.o (.mv (.k (.bool false))) (.s .d4)]) .ret) .skip))) (.region [.i (.mv (.l (.s .d7))), .i (.arith .add (.e 0) (.k (.nat 1))), .o (.mv (.e 0)) (.s .d7)])))))) (.seq (.dregion [⟨.i (.addOff 16 (.l (.s .d2))), false, 0⟩, ⟨.i (.loadN 5 (.e 0)), false, 0⟩, ⟨.o (.alloc [(.str []), .nilsl, (.nat 0), (.bool false), .nilsl]) (.s .d8), false, 0⟩, ⟨.o (.alloc [(.str []), .nilsl, (.nat 0), (.bool false), .nilsl]) (.s .d9), false, 0⟩, ⟨.i (.store 5 (.e 1) (.e 2)), true, 0⟩, ⟨.i (.addOff 16 (.l (.s .d3))), false, 1⟩, ⟨.i (.loadN 5 (.e 0)), false, 1⟩, ⟨.i (.store 5 (.e 3) (.e 0)), true, 0⟩]) (.seq (.region [.i (.addOff 0 (.l (.s .d8))), .i (.load1 (.e 0)), .i (.addOff 0 (.l (.s .d9))), .i (.load1 (.e 0)), .i (.arith .eql (.e 2) (.e 0)), .i (.mv (.e 0)), .g (.e 0) true (.addOff 1 (.l (.s .d8))) none, .g (.e 1) true (.load1 (.e 0)) none, .g (.e 2) true (.cvBS (.e 0)) none, .g (.e 3) true (.addOff 1 (.l (.s .d9))) none, .g (.e 4) true (.load1 (.e 0)) none, .g (.e 5) true (.cvBS (.e 0)) none, .g (.e 6) true (.arith .eql (.e 3) (.e 0)) none, .i (.pick (.e 7) (.e 0) (.k (.bool false))), .i (.mv (.e 0)), .g (.e 0) true (.addOff 2 (.l (.s .d8))) none, .g (.e 1) true (.load1 (.e 0)) none, .g (.e 2) true (.addOff 2 (.l (.s .d9))) none, .g (.e 3) true (.load1 (.e 0)) none, .g (.e 4) true (.arith .eql (.e 2) (.e 0)) none, .i (.pick (.e 5) (.e 0) (.k (.bool false))), .i (.mv (.e 0)), .g (.e 0) true (.addOff 3 (.l (.s .d8))) none, .g (.e 1) true (.load1 (.e 0)) none, .g (.e 2) true (.addOff 3 (.l (.s .d9))) none, .g (.e 3) true (.load1 (.e 0)) none, .g (.e 4) true (.eq false .bool false (.e 2) (.e 0)) none, .i (.pick (.e 5) (.e 0) (.k (.bool false))), .i (.mv (.e 0)), .g (.e 0) true (.addOff 4 (.l (.s .d8))) none, .g (.e 1) true (.load1 (.e 0)) none, .g (.e 2) true (.addOff 4 (.l (.s .d9))) none, .g (.e 3) true (.load1 (.e 0)) none, .g (.e 4) true (.call 203 [(.e 2), (.e 0)]) none, .i (.pick (.e 5) (.e 0) (.k (.bool false))), .o (.mv (.e 0)) (.s .d4)]) .ret)))))))) [(.tmp (.l (.s .d4)))]
theorem c123_ok : c123 = compFn Tryz.prog 123 := by kernel_rfl
def c124s : CL 124 := ⟨_, by conv => lhs; reduce⟩
def c124 : CFn := c124s.1
theorem c124_ok : c124 = compFn Tryz.prog 124 := c124s.2.symm
def c125s : CL 125 := ⟨_, by conv => lhs; reduce⟩
def c125 : CFn := c125s.1
theorem c125_ok : c125 = compFn Tryz.prog 125 := c125s.2.symm
def c126s : CL 126 := ⟨_, by conv => lhs; reduce⟩
def c126 : CFn := c126s.1
theorem c126_ok : c126 = compFn Tryz.prog 126 := c126s.2.symm
def c127s : CL 127 := ⟨_, by conv => lhs; reduce⟩
def c127 : CFn := c127s.1
theorem c127_ok : c127 = compFn Tryz.prog 127 := c127s.2.symm
def c128s : CL 128 := ⟨_, by conv => lhs; reduce⟩
def c128 : CFn := c128s.1
theorem c128_ok : c128 = compFn Tryz.prog 128 := c128s.2.symm
def c129s : CL 129 := ⟨_, by conv => lhs; reduce⟩
def c129 : CFn := c129s.1
theorem c129_ok : c129 = compFn Tryz.prog 129 := c129s.2.symm
def c130s : CL 130 := ⟨_, by conv => lhs; reduce⟩
def c130 : CFn := c130s.1
theorem c130_ok : c130 = compFn Tryz.prog 130 := c130s.2.symm
def c131s : CL 131 := ⟨_, by conv => lhs; reduce⟩
def c131 : CFn := c131s.1
theorem c131_ok : c131 = compFn Tryz.prog 131 := c131s.2.symm
def c132s : CL 132 := ⟨_, by conv => lhs; reduce⟩
def c132 : CFn := c132s.1
theorem c132_ok : c132 = compFn Tryz.prog 132 := c132s.2.symm
def c133s : CL 133 := ⟨_, by conv => lhs; reduce⟩
def c133 : CFn := c133s.1
theorem c133_ok : c133 = compFn Tryz.prog 133 := c133s.2.symm
def c134s : CL 134 := ⟨_, by conv => lhs; reduce⟩
def c134 : CFn := c134s.1
theorem c134_ok : c134 = compFn Tryz.prog 134 := c134s.2.symm
def c135s : CL 135 := ⟨_, by conv => lhs; reduce⟩
def c135 : CFn := c135s.1
theorem c135_ok : c135 = compFn Tryz.prog 135 := c135s.2.symm
def c136s : CL 136 := ⟨_, by conv => lhs; reduce⟩
def c136 : CFn := c136s.1
theorem c136_ok : c136 = compFn Tryz.prog 136 := c136s.2.symm
def c137s : CL 137 := ⟨_, by conv => lhs; reduce⟩
def c137 : CFn := c137s.1
theorem c137_ok : c137 = compFn Tryz.prog 137 := c137s.2.symm
def c138s : CL 138 := ⟨_, by conv => lhs; reduce⟩
def c138 : CFn := c138s.1
theorem c138_ok : c138 = compFn Tryz.prog 138 := c138s.2.symm
def c139s : CL 139 := ⟨_, by conv => lhs; reduce⟩
def c139 : CFn := c139s.1
theorem c139_ok : c139 = compFn Tryz.prog 139 := c139s.2.symm
def c140s : CL 140 := ⟨_, by conv => lhs; reduce⟩
def c140 : CFn := c140s.1
theorem c140_ok : c140 = compFn Tryz.prog 140 := c140s.2.symm
def c141 : CFn := .bad 141
def c142s : CL 142 := ⟨_, by conv => lhs; reduce⟩
def c142 : CFn := c142s.1
theorem c142_ok : c142 = compFn Tryz.prog 142 := c142s.2.symm
def c143 : CFn := .bad 143
def c144s : CL 144 := ⟨_, by conv => lhs; reduce⟩
def c144 : CFn := c144s.1
theorem c144_ok : c144 = compFn Tryz.prog 144 := c144s.2.symm
def c145 : CFn := .bad 145
def c146s : CL 146 := ⟨_, by conv => lhs; reduce⟩
def c146 : CFn := c146s.1
theorem c146_ok : c146 = compFn Tryz.prog 146 := c146s.2.symm
def c147s : CL 147 := ⟨_, by conv => lhs; reduce⟩
def c147 : CFn := c147s.1
theorem c147_ok : c147 = compFn Tryz.prog 147 := c147s.2.symm
def c148s : CL 148 := ⟨_, by conv => lhs; reduce⟩
def c148 : CFn := c148s.1
theorem c148_ok : c148 = compFn Tryz.prog 148 := c148s.2.symm
def c149s : CL 149 := ⟨_, by conv => lhs; reduce⟩
def c149 : CFn := c149s.1
theorem c149_ok : c149 = compFn Tryz.prog 149 := c149s.2.symm
def c150s : CL 150 := ⟨_, by conv => lhs; reduce⟩
def c150 : CFn := c150s.1
theorem c150_ok : c150 = compFn Tryz.prog 150 := c150s.2.symm
def c151s : CL 151 := ⟨_, by conv => lhs; reduce⟩
def c151 : CFn := c151s.1
theorem c151_ok : c151 = compFn Tryz.prog 151 := c151s.2.symm
def c152s : CL 152 := ⟨_, by conv => lhs; reduce⟩
def c152 : CFn := c152s.1
theorem c152_ok : c152 = compFn Tryz.prog 152 := c152s.2.symm
def c153s : CL 153 := ⟨_, by conv => lhs; reduce⟩
def c153 : CFn := c153s.1
theorem c153_ok : c153 = compFn Tryz.prog 153 := c153s.2.symm
def c154s : CL 154 := ⟨_, by conv => lhs; reduce⟩
def c154 : CFn := c154s.1
theorem c154_ok : c154 = compFn Tryz.prog 154 := c154s.2.symm
def c155s : CL 155 := ⟨_, by conv => lhs; reduce⟩
def c155 : CFn := c155s.1
theorem c155_ok : c155 = compFn Tryz.prog 155 := c155s.2.symm
def c156s : CL 156 := ⟨_, by conv => lhs; reduce⟩
def c156 : CFn := c156s.1
theorem c156_ok : c156 = compFn Tryz.prog 156 := c156s.2.symm
def c157 : CFn := .bad 157
def c158s : CL 158 := ⟨_, by conv => lhs; reduce⟩
def c158 : CFn := c158s.1
theorem c158_ok : c158 = compFn Tryz.prog 158 := c158s.2.symm
def c159s : CL 159 := ⟨_, by conv => lhs; reduce⟩
def c159 : CFn := c159s.1
theorem c159_ok : c159 = compFn Tryz.prog 159 := c159s.2.symm
def c160s : CL 160 := ⟨_, by conv => lhs; reduce⟩
def c160 : CFn := c160s.1
theorem c160_ok : c160 = compFn Tryz.prog 160 := c160s.2.symm
def c161s : CL 161 := ⟨_, by conv => lhs; reduce⟩
def c161 : CFn := c161s.1
theorem c161_ok : c161 = compFn Tryz.prog 161 := c161s.2.symm
def c162s : CL 162 := ⟨_, by conv => lhs; reduce⟩
def c162 : CFn := c162s.1
theorem c162_ok : c162 = compFn Tryz.prog 162 := c162s.2.symm
def c163s : CL 163 := ⟨_, by conv => lhs; reduce⟩
def c163 : CFn := c163s.1
theorem c163_ok : c163 = compFn Tryz.prog 163 := c163s.2.symm
def c164s : CL 164 := ⟨_, by conv => lhs; reduce⟩
def c164 : CFn := c164s.1
theorem c164_ok : c164 = compFn Tryz.prog 164 := c164s.2.symm
def c165s : CL 165 := ⟨_, by conv => lhs; reduce⟩
def c165 : CFn := c165s.1
theorem c165_ok : c165 = compFn Tryz.prog 165 := c165s.2.symm
def c166s : CL 166 := ⟨_, by conv => lhs; reduce⟩
def c166 : CFn := c166s.1
theorem c166_ok : c166 = compFn Tryz.prog 166 := c166s.2.symm
def c167s : CL 167 := ⟨_, by conv => lhs; reduce⟩
def c167 : CFn := c167s.1
theorem c167_ok : c167 = compFn Tryz.prog 167 := c167s.2.symm
def c168s : CL 168 := ⟨_, by conv => lhs; reduce⟩
def c168 : CFn := c168s.1
theorem c168_ok : c168 = compFn Tryz.prog 168 := c168s.2.symm
def c169s : CL 169 := ⟨_, by conv => lhs; reduce⟩
def c169 : CFn := c169s.1
theorem c169_ok : c169 = compFn Tryz.prog 169 := c169s.2.symm
def c170s : CL 170 := ⟨_, by conv => lhs; reduce⟩
def c170 : CFn := c170s.1
theorem c170_ok : c170 = compFn Tryz.prog 170 := c170s.2.symm
def c171s : CL 171 := ⟨_, by conv => lhs; reduce⟩
def c171 : CFn := c171s.1
theorem c171_ok : c171 = compFn Tryz.prog 171 := c171s.2.symm
def c172s : CL 172 := ⟨_, by conv => lhs; reduce⟩
def c172 : CFn := c172s.1
theorem c172_ok : c172 = compFn Tryz.prog 172 := c172s.2.symm
def c173s : CL 173 := ⟨_, by conv => lhs; reduce⟩
def c173 : CFn := c173s.1
theorem c173_ok : c173 = compFn Tryz.prog 173 := c173s.2.symm
def c174s : CL 174 := ⟨_, by conv => lhs; reduce⟩
def c174 : CFn := c174s.1
theorem c174_ok : c174 = compFn Tryz.prog 174 := c174s.2.symm
def c175s : CL 175 := ⟨_, by conv => lhs; reduce⟩
def c175 : CFn := c175s.1
theorem c175_ok : c175 = compFn Tryz.prog 175 := c175s.2.symm
def c176s : CL 176 := ⟨_, by conv => lhs; reduce⟩
def c176 : CFn := c176s.1
theorem c176_ok : c176 = compFn Tryz.prog 176 := c176s.2.symm
def c177s : CL 177 := ⟨_, by conv => lhs; reduce⟩
def c177 : CFn := c177s.1
theorem c177_ok : c177 = compFn Tryz.prog 177 := c177s.2.symm
def c178s : CL 178 := ⟨_, by conv => lhs; reduce⟩
def c178 : CFn := c178s.1
theorem c178_ok : c178 = compFn Tryz.prog 178 := c178s.2.symm
def c179s : CL 179 := ⟨_, by conv => lhs; reduce⟩
def c179 : CFn := c179s.1
theorem c179_ok : c179 = compFn Tryz.prog 179 := c179s.2.symm
def c180s : CL 180 := ⟨_, by conv => lhs; reduce⟩
def c180 : CFn := c180s.1
theorem c180_ok : c180 = compFn Tryz.prog 180 := c180s.2.symm
def c181s : CL 181 := ⟨_, by conv => lhs; reduce⟩
def c181 : CFn := c181s.1
theorem c181_ok : c181 = compFn Tryz.prog 181 := c181s.2.symm
def c182s : CL 182 := ⟨_, by conv => lhs; reduce⟩
def c182 : CFn := c182s.1
theorem c182_ok : c182 = compFn Tryz.prog 182 := c182s.2.symm
def c183s : CL 183 := ⟨_, by conv => lhs; reduce⟩
def c183 : CFn := c183s.1
theorem c183_ok : c183 = compFn Tryz.prog 183 := c183s.2.symm
def c184s : CL 184 := ⟨_, by conv => lhs; reduce⟩
def c184 : CFn := c184s.1
theorem c184_ok : c184 = compFn Tryz.prog 184 := c184s.2.symm
def c185s : CL 185 := ⟨_, by conv => lhs; reduce⟩
def c185 : CFn := c185s.1
theorem c185_ok : c185 = compFn Tryz.prog 185 := c185s.2.symm
def c186s : CL 186 := ⟨_, by conv => lhs; reduce⟩
def c186 : CFn := c186s.1
theorem c186_ok : c186 = compFn Tryz.prog 186 := c186s.2.symm
def c187s : CL 187 := ⟨_, by conv => lhs; reduce⟩
def c187 : CFn := c187s.1
theorem c187_ok : c187 = compFn Tryz.prog 187 := c187s.2.symm
def c188s : CL 188 := ⟨_, by conv => lhs; reduce⟩
def c188 : CFn := c188s.1
theorem c188_ok : c188 = compFn Tryz.prog 188 := c188s.2.symm
def c189s : CL 189 := ⟨_, by conv => lhs; reduce⟩
def c189 : CFn := c189s.1
theorem c189_ok : c189 = compFn Tryz.prog 189 := c189s.2.symm
def c190s : CL 190 := ⟨_, by conv => lhs; reduce⟩
def c190 : CFn := c190s.1
theorem c190_ok : c190 = compFn Tryz.prog 190 := c190s.2.symm
def c191s : CL 191 := ⟨_, by conv => lhs; reduce⟩
def c191 : CFn := c191s.1
theorem c191_ok : c191 = compFn Tryz.prog 191 := c191s.2.symm
def c192s : CL 192 := ⟨_, by conv => lhs; reduce⟩
def c192 : CFn := c192s.1
theorem c192_ok : c192 = compFn Tryz.prog 192 := c192s.2.symm
end Go.Ev
