/- The loops, one behind the other: each state is right, by the runs over stretches of states. -/
import Derived.Test.YtppmmlkamcclkaaGreatDoorSe0
import Derived.Test.YtppmmlkamcclkaaGreatDoorSe1
import Derived.Test.YtppmmlkamcclkaaGreatDoorSe2
import Derived.Test.YtppmmlkamcclkaaGreatDoorSe3
import Derived.Test.YtppmmlkamcclkaaGreatDoorSe4
import Derived.Test.YtppmmlkamcclkaaGreatDoorSe5
import Derived.Test.YtppmmlkamcclkaaGreatDoorSe6
import Derived.Test.YtppmmlkamcclkaaGreatDoorSe7
import Derived.Test.YtppmmlkamcclkaaGreatDoorSe8
import Derived.Test.YtppmmlkamcclkaaGreatDoorSe9
import Derived.Test.YtppmmlkamcclkaaGreatDoorSe10
import Derived.Test.YtppmmlkamcclkaaGreatDoorSe11
import Derived.Test.YtppmmlkamcclkaaGreatDoorRun0
import Derived.Test.YtppmmlkamcclkaaGreatDoorRun1
import Derived.Test.YtppmmlkamcclkaaGreatDoorRun2
import Derived.Test.YtppmmlkamcclkaaGreatDoorRun3
import Derived.Test.YtppmmlkamcclkaaGreatDoorRun4
import Derived.Test.YtppmmlkamcclkaaGreatDoorRun5
import Derived.Test.YtppmmlkamcclkaaGreatDoorRun6
import Derived.Test.YtppmmlkamcclkaaGreatDoorRun7
import Derived.Test.YtppmmlkamcclkaaGreatDoorRun8
import Derived.Test.YtppmmlkamcclkaaGreatDoorRun9
import Derived.Test.YtppmmlkamcclkaaGreatDoorRun10
import Derived.Test.YtppmmlkamcclkaaGreatDoorRun11
import Derived.Test.YtppmmlkamcclkaaGreatDoorRun12
import Derived.Test.YtppmmlkamcclkaaGreatDoorRun13
import Derived.Test.YtppmmlkamcclkaaGreatDoorRun14
namespace Go.Ev
open Go.Proofs
set_option maxRecDepth 1000000
set_option linter.unusedVariables false
open Go.RowKit
noncomputable section
/-! ## the summaries -/
theorem fsA {Q:Fs→Prop} {a b:List Fs} (h:∀ s∈a,Q s) (t:∀ s∈b,Q s):∀ s∈a++b,Q s:=fun s hs=>(List.mem_append.1 hs).elim (h s) (t s)
theorem lg {P:Prop} (c a:Nat) (h1:c<a→P) (h2:a≤c→P):P:=(Nat.lt_or_ge c a).elim h1 h2
theorem fsN {Q:Fs→Prop} {i:Nat} {f:Nat→List Fs}:∀ s∈rowN f i 0,Q s:=fun s hs=>by cases hs
theorem rowN_mem {f:Nat→List Fs} {s:Fs}:∀ {n i j:Nat},i≤j→j<i+n→s∈f j→s∈rowN f i n
 | 0,i,j,h1,h2,_=>by omega
 | n+1,i,j,h1,h2,h3=>by
  show s∈f i++rowN f (i+1) n
  by_cases e:i=j
  · subst e; exact List.mem_append.2 (.inl h3)
  · exact List.mem_append.2 (.inr (rowN_mem (by omega) (by omega) h3))
abbrev fsK (nat:Nats) (f:FuncId) (hn:∀ s K,KnownOk s K→@NatsOk (linSym s K) Tryz.prog nat) {l:List Fs} (h:∀ s,fsChk Tryz.prog codeN nat 1000 f 100 s l=true):∀ s∈l,FsOk Tryz.prog f s:=fsChk_ok mixedN codeN_ok hn h
theorem nat1_ok:∀ s K,KnownOk s K→@NatsOk (linSym s K) Tryz.prog nat1:=natF_ok mixedN codeN_ok globN (fsK nat0 106 nat0_ok cp0) nat0_ok
theorem gv_ok:∀ s∈gvL,FsOk Tryz.prog 102 s:=(fsA (fsK nat1 102 nat1_ok gv0) (fsA (fsK nat1 102 nat1_ok gv1) (fsA (fsK nat1 102 nat1_ok gv2) (fsA (fsK nat1 102 nat1_ok gv3) (fsA (fsK nat1 102 nat1_ok gv4) (fsA (fsK nat1 102 nat1_ok gv5) (fsA (fsK nat1 102 nat1_ok gv6) (fsA (fsK nat1 102 nat1_ok gv7) fsN))))))))
theorem nat2_ok:∀ s K,KnownOk s K→@NatsOk (linSym s K) Tryz.prog nat2:=natF_ok mixedN codeN_ok globN gv_ok nat1_ok
theorem dnO1:∀ s∈dnA 1,FsOk Tryz.prog 21 s:=fsTrees_ok mixedN codeN_ok nat0_ok dn1
theorem dnO2:∀ s∈dnA 2,FsOk Tryz.prog 21 s:=fsTrees_ok mixedN codeN_ok nat0_ok dn2
theorem dnO3:∀ s∈dnA 3,FsOk Tryz.prog 21 s:=fsTrees_ok mixedN codeN_ok nat0_ok dn3
theorem dnO4:∀ s∈dnA 4,FsOk Tryz.prog 21 s:=fsTrees_ok mixedN codeN_ok nat0_ok dn4
theorem dnO5:∀ s∈dnA 5,FsOk Tryz.prog 21 s:=fsTrees_ok mixedN codeN_ok nat0_ok dn5
theorem dnO6:∀ s∈dnA 6,FsOk Tryz.prog 21 s:=fsTrees_ok mixedN codeN_ok nat0_ok dn6
theorem dnO7:∀ s∈dnA 7,FsOk Tryz.prog 21 s:=fsTrees_ok mixedN codeN_ok nat0_ok dn7
theorem dnO8:∀ s∈dnA 8,FsOk Tryz.prog 21 s:=fsTrees_ok mixedN codeN_ok nat0_ok dn8
theorem dn_ok:∀ s∈dnL,FsOk Tryz.prog 21 s:=(fsA dnO1 (fsA dnO2 (fsA dnO3 (fsA dnO4 (fsA dnO5 (fsA dnO6 (fsA dnO7 dnO8)))))))
theorem nat3_ok:∀ s K,KnownOk s K→@NatsOk (linSym s K) Tryz.prog nat3:=natF_ok mixedN codeN_ok globN dn_ok nat0_ok
theorem gt_ok:∀ s∈gtL,FsOk Tryz.prog 12 s:=(fsA (fsK nat0 12 nat0_ok gt0_1) (fsA (fsK nat0 12 nat0_ok gt0_2) (fsA (fsK nat0 12 nat0_ok gt0_3) (fsA (fsK nat0 12 nat0_ok gt0_4) (fsA (fsK nat0 12 nat0_ok gt0_5) (fsA (fsK nat0 12 nat0_ok gt0_6) (fsA (fsK nat0 12 nat0_ok gt0_7) (fsA (fsK nat0 12 nat0_ok gt0_8) (fsA (fsK nat0 12 nat0_ok gt1_1) (fsA (fsK nat0 12 nat0_ok gt1_2) (fsA (fsK nat0 12 nat0_ok gt1_3) (fsA (fsK nat0 12 nat0_ok gt1_4) (fsA (fsK nat0 12 nat0_ok gt1_5) (fsA (fsK nat0 12 nat0_ok gt1_6) (fsA (fsK nat0 12 nat0_ok gt1_7) (fsA (fsK nat0 12 nat0_ok gt2_1) (fsA (fsK nat0 12 nat0_ok gt2_2) (fsA (fsK nat0 12 nat0_ok gt2_3) (fsA (fsK nat0 12 nat0_ok gt2_4) (fsA (fsK nat0 12 nat0_ok gt2_5) (fsA (fsK nat0 12 nat0_ok gt2_6) (fsA (fsK nat0 12 nat0_ok gt3_1) (fsA (fsK nat0 12 nat0_ok gt3_2) (fsA (fsK nat0 12 nat0_ok gt3_3) (fsA (fsK nat0 12 nat0_ok gt3_4) (fsA (fsK nat0 12 nat0_ok gt3_5) (fsA (fsK nat0 12 nat0_ok gt4_1) (fsA (fsK nat0 12 nat0_ok gt4_2) (fsA (fsK nat0 12 nat0_ok gt4_3) (fsA (fsK nat0 12 nat0_ok gt4_4) (fsA (fsK nat0 12 nat0_ok gt5_1) (fsA (fsK nat0 12 nat0_ok gt5_2) (fsA (fsK nat0 12 nat0_ok gt5_3) (fsA (fsK nat0 12 nat0_ok gt6_1) (fsK nat0 12 nat0_ok gt6_2)))))))))))))))))))))))))))))))))))
theorem natB_ok:∀ s K,KnownOk s K→@NatsOk (linSym s K) Tryz.prog natB:=natF_ok mixedN codeN_ok globN gt_ok nat0_ok
theorem nat4_ok:∀ s K,KnownOk s K→@NatsOk (linSym s K) Tryz.prog nat4:=natF_ok mixedN codeN_ok globN (fsK nat0 5 nat0_ok cm0) nat0_ok
theorem nat5_ok:∀ s K,KnownOk s K→@NatsOk (linSym s K) Tryz.prog nat5:=natF_ok mixedN codeN_ok globN (fsK nat0 7 nat0_ok ls0) nat4_ok
theorem al_ok:∀ s∈alL,FsOk Tryz.prog 14 s:=(fsA (fsK nat3 14 nat3_ok al0) (fsA (fsK nat3 14 nat3_ok al1) (fsA (fsK nat3 14 nat3_ok al2) (fsA (fsK nat3 14 nat3_ok al3) (fsA (fsK nat3 14 nat3_ok al4) (fsA (fsK nat3 14 nat3_ok al5) (fsA (fsK nat3 14 nat3_ok al6) (fsA (fsK nat3 14 nat3_ok al7) (fsA (fsK nat3 14 nat3_ok al8) fsN)))))))))
theorem nat6_ok:∀ s K,KnownOk s K→@NatsOk (linSym s K) Tryz.prog nat6:=natF_ok mixedN codeN_ok globN al_ok nat5_ok
abbrev LoK (a m r:Nat):Prop:=∀ c,c<2 ^ (m+r)→FsOk Tryz.prog 13 (loE a m r c)
theorem hlK {a m r c0 w c:Nat} (h:LO a m r c0 w) (h1:c0≤c) (h2:c<c0+w):FsOk Tryz.prog 13 (loE a m r c):=
 fsK nat2 13 nat2_ok h _ (rowN_mem h1 h2 (List.mem_singleton.2 rfl))
theorem loK0_0_0:LoK 0 0 0:=fun c (hc:c<1)=>hlK lo0_0_0_0 (by omega) (by omega)
theorem loK0_0_1:LoK 0 0 1:=fun c (hc:c<2)=>hlK lo0_0_1_0 (by omega) (by omega)
theorem loK0_0_2:LoK 0 0 2:=fun c (hc:c<4)=>hlK lo0_0_2_0 (by omega) (by omega)
theorem loK0_0_3:LoK 0 0 3:=fun c (hc:c<8)=>hlK lo0_0_3_0 (by omega) (by omega)
theorem loK0_0_4:LoK 0 0 4:=fun c (hc:c<16)=>hlK lo0_0_4_0 (by omega) (by omega)
theorem loK0_0_5:LoK 0 0 5:=fun c (hc:c<32)=>hlK lo0_0_5_0 (by omega) (by omega)
theorem loK0_0_6:LoK 0 0 6:=fun c (hc:c<64)=>lg c 32 (fun _=>hlK lo0_0_6_0 (by omega) (by omega)) fun _=>hlK lo0_0_6_32 (by omega) (by omega)
theorem loK0_0_7:LoK 0 0 7:=fun c (hc:c<128)=>lg c 64 (fun _=>lg c 32 (fun _=>hlK lo0_0_7_0 (by omega) (by omega)) fun _=>hlK lo0_0_7_32 (by omega) (by omega)) fun _=>lg c 96 (fun _=>hlK lo0_0_7_64 (by omega) (by omega)) fun _=>hlK lo0_0_7_96 (by omega) (by omega)
theorem loK0_0_8:LoK 0 0 8:=fun c (hc:c<256)=>lg c 128 (fun _=>lg c 64 (fun _=>lg c 32 (fun _=>hlK lo0_0_8_0 (by omega) (by omega)) fun _=>hlK lo0_0_8_32 (by omega) (by omega)) fun _=>lg c 96 (fun _=>hlK lo0_0_8_64 (by omega) (by omega)) fun _=>hlK lo0_0_8_96 (by omega) (by omega)) fun _=>lg c 192 (fun _=>lg c 160 (fun _=>hlK lo0_0_8_128 (by omega) (by omega)) fun _=>hlK lo0_0_8_160 (by omega) (by omega)) fun _=>lg c 224 (fun _=>hlK lo0_0_8_192 (by omega) (by omega)) fun _=>hlK lo0_0_8_224 (by omega) (by omega)
theorem loK1_0_0:LoK 1 0 0:=fun c (hc:c<1)=>hlK lo1_0_0_0 (by omega) (by omega)
theorem loK1_0_1:LoK 1 0 1:=fun c (hc:c<2)=>hlK lo1_0_1_0 (by omega) (by omega)
theorem loK1_0_2:LoK 1 0 2:=fun c (hc:c<4)=>hlK lo1_0_2_0 (by omega) (by omega)
theorem loK1_0_3:LoK 1 0 3:=fun c (hc:c<8)=>hlK lo1_0_3_0 (by omega) (by omega)
theorem loK1_0_4:LoK 1 0 4:=fun c (hc:c<16)=>hlK lo1_0_4_0 (by omega) (by omega)
theorem loK1_0_5:LoK 1 0 5:=fun c (hc:c<32)=>hlK lo1_0_5_0 (by omega) (by omega)
theorem loK1_0_6:LoK 1 0 6:=fun c (hc:c<64)=>lg c 32 (fun _=>hlK lo1_0_6_0 (by omega) (by omega)) fun _=>hlK lo1_0_6_32 (by omega) (by omega)
theorem loK1_0_7:LoK 1 0 7:=fun c (hc:c<128)=>lg c 64 (fun _=>lg c 32 (fun _=>hlK lo1_0_7_0 (by omega) (by omega)) fun _=>hlK lo1_0_7_32 (by omega) (by omega)) fun _=>lg c 96 (fun _=>hlK lo1_0_7_64 (by omega) (by omega)) fun _=>hlK lo1_0_7_96 (by omega) (by omega)
theorem loK1_1_0:LoK 1 1 0:=fun c (hc:c<2)=>hlK lo1_1_0_0 (by omega) (by omega)
theorem loK1_1_1:LoK 1 1 1:=fun c (hc:c<4)=>hlK lo1_1_1_0 (by omega) (by omega)
theorem loK1_1_2:LoK 1 1 2:=fun c (hc:c<8)=>hlK lo1_1_2_0 (by omega) (by omega)
theorem loK1_1_3:LoK 1 1 3:=fun c (hc:c<16)=>hlK lo1_1_3_0 (by omega) (by omega)
theorem loK1_1_4:LoK 1 1 4:=fun c (hc:c<32)=>hlK lo1_1_4_0 (by omega) (by omega)
theorem loK1_1_5:LoK 1 1 5:=fun c (hc:c<64)=>lg c 32 (fun _=>hlK lo1_1_5_0 (by omega) (by omega)) fun _=>hlK lo1_1_5_32 (by omega) (by omega)
theorem loK1_1_6:LoK 1 1 6:=fun c (hc:c<128)=>lg c 64 (fun _=>lg c 32 (fun _=>hlK lo1_1_6_0 (by omega) (by omega)) fun _=>hlK lo1_1_6_32 (by omega) (by omega)) fun _=>lg c 96 (fun _=>hlK lo1_1_6_64 (by omega) (by omega)) fun _=>hlK lo1_1_6_96 (by omega) (by omega)
theorem loK1_1_7:LoK 1 1 7:=fun c (hc:c<256)=>lg c 128 (fun _=>lg c 64 (fun _=>lg c 32 (fun _=>hlK lo1_1_7_0 (by omega) (by omega)) fun _=>hlK lo1_1_7_32 (by omega) (by omega)) fun _=>lg c 96 (fun _=>hlK lo1_1_7_64 (by omega) (by omega)) fun _=>hlK lo1_1_7_96 (by omega) (by omega)) fun _=>lg c 192 (fun _=>lg c 160 (fun _=>hlK lo1_1_7_128 (by omega) (by omega)) fun _=>hlK lo1_1_7_160 (by omega) (by omega)) fun _=>lg c 224 (fun _=>hlK lo1_1_7_192 (by omega) (by omega)) fun _=>hlK lo1_1_7_224 (by omega) (by omega)
theorem loK2_0_0:LoK 2 0 0:=fun c (hc:c<1)=>hlK lo2_0_0_0 (by omega) (by omega)
theorem loK2_0_1:LoK 2 0 1:=fun c (hc:c<2)=>hlK lo2_0_1_0 (by omega) (by omega)
theorem loK2_0_2:LoK 2 0 2:=fun c (hc:c<4)=>hlK lo2_0_2_0 (by omega) (by omega)
theorem loK2_0_3:LoK 2 0 3:=fun c (hc:c<8)=>hlK lo2_0_3_0 (by omega) (by omega)
theorem loK2_0_4:LoK 2 0 4:=fun c (hc:c<16)=>hlK lo2_0_4_0 (by omega) (by omega)
theorem loK2_0_5:LoK 2 0 5:=fun c (hc:c<32)=>hlK lo2_0_5_0 (by omega) (by omega)
theorem loK2_0_6:LoK 2 0 6:=fun c (hc:c<64)=>lg c 32 (fun _=>hlK lo2_0_6_0 (by omega) (by omega)) fun _=>hlK lo2_0_6_32 (by omega) (by omega)
theorem loK2_1_0:LoK 2 1 0:=fun c (hc:c<2)=>hlK lo2_1_0_0 (by omega) (by omega)
theorem loK2_1_1:LoK 2 1 1:=fun c (hc:c<4)=>hlK lo2_1_1_0 (by omega) (by omega)
theorem loK2_1_2:LoK 2 1 2:=fun c (hc:c<8)=>hlK lo2_1_2_0 (by omega) (by omega)
theorem loK2_1_3:LoK 2 1 3:=fun c (hc:c<16)=>hlK lo2_1_3_0 (by omega) (by omega)
theorem loK2_1_4:LoK 2 1 4:=fun c (hc:c<32)=>hlK lo2_1_4_0 (by omega) (by omega)
theorem loK2_1_5:LoK 2 1 5:=fun c (hc:c<64)=>lg c 32 (fun _=>hlK lo2_1_5_0 (by omega) (by omega)) fun _=>hlK lo2_1_5_32 (by omega) (by omega)
theorem loK2_1_6:LoK 2 1 6:=fun c (hc:c<128)=>lg c 64 (fun _=>lg c 32 (fun _=>hlK lo2_1_6_0 (by omega) (by omega)) fun _=>hlK lo2_1_6_32 (by omega) (by omega)) fun _=>lg c 96 (fun _=>hlK lo2_1_6_64 (by omega) (by omega)) fun _=>hlK lo2_1_6_96 (by omega) (by omega)
theorem loK2_2_0:LoK 2 2 0:=fun c (hc:c<4)=>hlK lo2_2_0_0 (by omega) (by omega)
theorem loK2_2_1:LoK 2 2 1:=fun c (hc:c<8)=>hlK lo2_2_1_0 (by omega) (by omega)
theorem loK2_2_2:LoK 2 2 2:=fun c (hc:c<16)=>hlK lo2_2_2_0 (by omega) (by omega)
theorem loK2_2_3:LoK 2 2 3:=fun c (hc:c<32)=>hlK lo2_2_3_0 (by omega) (by omega)
theorem loK2_2_4:LoK 2 2 4:=fun c (hc:c<64)=>lg c 32 (fun _=>hlK lo2_2_4_0 (by omega) (by omega)) fun _=>hlK lo2_2_4_32 (by omega) (by omega)
theorem loK2_2_5:LoK 2 2 5:=fun c (hc:c<128)=>lg c 64 (fun _=>lg c 32 (fun _=>hlK lo2_2_5_0 (by omega) (by omega)) fun _=>hlK lo2_2_5_32 (by omega) (by omega)) fun _=>lg c 96 (fun _=>hlK lo2_2_5_64 (by omega) (by omega)) fun _=>hlK lo2_2_5_96 (by omega) (by omega)
theorem loK2_2_6:LoK 2 2 6:=fun c (hc:c<256)=>lg c 128 (fun _=>lg c 64 (fun _=>lg c 32 (fun _=>hlK lo2_2_6_0 (by omega) (by omega)) fun _=>hlK lo2_2_6_32 (by omega) (by omega)) fun _=>lg c 96 (fun _=>hlK lo2_2_6_64 (by omega) (by omega)) fun _=>hlK lo2_2_6_96 (by omega) (by omega)) fun _=>lg c 192 (fun _=>lg c 160 (fun _=>hlK lo2_2_6_128 (by omega) (by omega)) fun _=>hlK lo2_2_6_160 (by omega) (by omega)) fun _=>lg c 224 (fun _=>hlK lo2_2_6_192 (by omega) (by omega)) fun _=>hlK lo2_2_6_224 (by omega) (by omega)
theorem loK3_0_0:LoK 3 0 0:=fun c (hc:c<1)=>hlK lo3_0_0_0 (by omega) (by omega)
theorem loK3_0_1:LoK 3 0 1:=fun c (hc:c<2)=>hlK lo3_0_1_0 (by omega) (by omega)
theorem loK3_0_2:LoK 3 0 2:=fun c (hc:c<4)=>hlK lo3_0_2_0 (by omega) (by omega)
theorem loK3_0_3:LoK 3 0 3:=fun c (hc:c<8)=>hlK lo3_0_3_0 (by omega) (by omega)
theorem loK3_0_4:LoK 3 0 4:=fun c (hc:c<16)=>hlK lo3_0_4_0 (by omega) (by omega)
theorem loK3_0_5:LoK 3 0 5:=fun c (hc:c<32)=>hlK lo3_0_5_0 (by omega) (by omega)
theorem loK3_1_0:LoK 3 1 0:=fun c (hc:c<2)=>hlK lo3_1_0_0 (by omega) (by omega)
theorem loK3_1_1:LoK 3 1 1:=fun c (hc:c<4)=>hlK lo3_1_1_0 (by omega) (by omega)
theorem loK3_1_2:LoK 3 1 2:=fun c (hc:c<8)=>hlK lo3_1_2_0 (by omega) (by omega)
theorem loK3_1_3:LoK 3 1 3:=fun c (hc:c<16)=>hlK lo3_1_3_0 (by omega) (by omega)
theorem loK3_1_4:LoK 3 1 4:=fun c (hc:c<32)=>hlK lo3_1_4_0 (by omega) (by omega)
theorem loK3_1_5:LoK 3 1 5:=fun c (hc:c<64)=>lg c 32 (fun _=>hlK lo3_1_5_0 (by omega) (by omega)) fun _=>hlK lo3_1_5_32 (by omega) (by omega)
theorem loK3_2_0:LoK 3 2 0:=fun c (hc:c<4)=>hlK lo3_2_0_0 (by omega) (by omega)
theorem loK3_2_1:LoK 3 2 1:=fun c (hc:c<8)=>hlK lo3_2_1_0 (by omega) (by omega)
theorem loK3_2_2:LoK 3 2 2:=fun c (hc:c<16)=>hlK lo3_2_2_0 (by omega) (by omega)
theorem loK3_2_3:LoK 3 2 3:=fun c (hc:c<32)=>hlK lo3_2_3_0 (by omega) (by omega)
theorem loK3_2_4:LoK 3 2 4:=fun c (hc:c<64)=>lg c 32 (fun _=>hlK lo3_2_4_0 (by omega) (by omega)) fun _=>hlK lo3_2_4_32 (by omega) (by omega)
theorem loK3_2_5:LoK 3 2 5:=fun c (hc:c<128)=>lg c 64 (fun _=>lg c 32 (fun _=>hlK lo3_2_5_0 (by omega) (by omega)) fun _=>hlK lo3_2_5_32 (by omega) (by omega)) fun _=>lg c 96 (fun _=>hlK lo3_2_5_64 (by omega) (by omega)) fun _=>hlK lo3_2_5_96 (by omega) (by omega)
theorem loK3_3_0:LoK 3 3 0:=fun c (hc:c<8)=>hlK lo3_3_0_0 (by omega) (by omega)
theorem loK3_3_1:LoK 3 3 1:=fun c (hc:c<16)=>hlK lo3_3_1_0 (by omega) (by omega)
theorem loK3_3_2:LoK 3 3 2:=fun c (hc:c<32)=>hlK lo3_3_2_0 (by omega) (by omega)
theorem loK3_3_3:LoK 3 3 3:=fun c (hc:c<64)=>lg c 32 (fun _=>hlK lo3_3_3_0 (by omega) (by omega)) fun _=>hlK lo3_3_3_32 (by omega) (by omega)
theorem loK3_3_4:LoK 3 3 4:=fun c (hc:c<128)=>lg c 64 (fun _=>lg c 32 (fun _=>hlK lo3_3_4_0 (by omega) (by omega)) fun _=>hlK lo3_3_4_32 (by omega) (by omega)) fun _=>lg c 96 (fun _=>hlK lo3_3_4_64 (by omega) (by omega)) fun _=>hlK lo3_3_4_96 (by omega) (by omega)
theorem loK3_3_5:LoK 3 3 5:=fun c (hc:c<256)=>lg c 128 (fun _=>lg c 64 (fun _=>lg c 32 (fun _=>hlK lo3_3_5_0 (by omega) (by omega)) fun _=>hlK lo3_3_5_32 (by omega) (by omega)) fun _=>lg c 96 (fun _=>hlK lo3_3_5_64 (by omega) (by omega)) fun _=>hlK lo3_3_5_96 (by omega) (by omega)) fun _=>lg c 192 (fun _=>lg c 160 (fun _=>hlK lo3_3_5_128 (by omega) (by omega)) fun _=>hlK lo3_3_5_160 (by omega) (by omega)) fun _=>lg c 224 (fun _=>hlK lo3_3_5_192 (by omega) (by omega)) fun _=>hlK lo3_3_5_224 (by omega) (by omega)
theorem loK4_0_0:LoK 4 0 0:=fun c (hc:c<1)=>hlK lo4_0_0_0 (by omega) (by omega)
theorem loK4_0_1:LoK 4 0 1:=fun c (hc:c<2)=>hlK lo4_0_1_0 (by omega) (by omega)
theorem loK4_0_2:LoK 4 0 2:=fun c (hc:c<4)=>hlK lo4_0_2_0 (by omega) (by omega)
theorem loK4_0_3:LoK 4 0 3:=fun c (hc:c<8)=>hlK lo4_0_3_0 (by omega) (by omega)
theorem loK4_0_4:LoK 4 0 4:=fun c (hc:c<16)=>hlK lo4_0_4_0 (by omega) (by omega)
theorem loK4_1_0:LoK 4 1 0:=fun c (hc:c<2)=>hlK lo4_1_0_0 (by omega) (by omega)
theorem loK4_1_1:LoK 4 1 1:=fun c (hc:c<4)=>hlK lo4_1_1_0 (by omega) (by omega)
theorem loK4_1_2:LoK 4 1 2:=fun c (hc:c<8)=>hlK lo4_1_2_0 (by omega) (by omega)
theorem loK4_1_3:LoK 4 1 3:=fun c (hc:c<16)=>hlK lo4_1_3_0 (by omega) (by omega)
theorem loK4_1_4:LoK 4 1 4:=fun c (hc:c<32)=>hlK lo4_1_4_0 (by omega) (by omega)
theorem loK4_2_0:LoK 4 2 0:=fun c (hc:c<4)=>hlK lo4_2_0_0 (by omega) (by omega)
theorem loK4_2_1:LoK 4 2 1:=fun c (hc:c<8)=>hlK lo4_2_1_0 (by omega) (by omega)
theorem loK4_2_2:LoK 4 2 2:=fun c (hc:c<16)=>hlK lo4_2_2_0 (by omega) (by omega)
theorem loK4_2_3:LoK 4 2 3:=fun c (hc:c<32)=>hlK lo4_2_3_0 (by omega) (by omega)
theorem loK4_2_4:LoK 4 2 4:=fun c (hc:c<64)=>lg c 32 (fun _=>hlK lo4_2_4_0 (by omega) (by omega)) fun _=>hlK lo4_2_4_32 (by omega) (by omega)
theorem loK4_3_0:LoK 4 3 0:=fun c (hc:c<8)=>hlK lo4_3_0_0 (by omega) (by omega)
theorem loK4_3_1:LoK 4 3 1:=fun c (hc:c<16)=>hlK lo4_3_1_0 (by omega) (by omega)
theorem loK4_3_2:LoK 4 3 2:=fun c (hc:c<32)=>hlK lo4_3_2_0 (by omega) (by omega)
theorem loK4_3_3:LoK 4 3 3:=fun c (hc:c<64)=>lg c 32 (fun _=>hlK lo4_3_3_0 (by omega) (by omega)) fun _=>hlK lo4_3_3_32 (by omega) (by omega)
theorem loK4_3_4:LoK 4 3 4:=fun c (hc:c<128)=>lg c 64 (fun _=>lg c 32 (fun _=>hlK lo4_3_4_0 (by omega) (by omega)) fun _=>hlK lo4_3_4_32 (by omega) (by omega)) fun _=>lg c 96 (fun _=>hlK lo4_3_4_64 (by omega) (by omega)) fun _=>hlK lo4_3_4_96 (by omega) (by omega)
theorem loK4_4_0:LoK 4 4 0:=fun c (hc:c<16)=>hlK lo4_4_0_0 (by omega) (by omega)
theorem loK4_4_1:LoK 4 4 1:=fun c (hc:c<32)=>hlK lo4_4_1_0 (by omega) (by omega)
theorem loK4_4_2:LoK 4 4 2:=fun c (hc:c<64)=>lg c 32 (fun _=>hlK lo4_4_2_0 (by omega) (by omega)) fun _=>hlK lo4_4_2_32 (by omega) (by omega)
theorem loK4_4_3:LoK 4 4 3:=fun c (hc:c<128)=>lg c 64 (fun _=>lg c 32 (fun _=>hlK lo4_4_3_0 (by omega) (by omega)) fun _=>hlK lo4_4_3_32 (by omega) (by omega)) fun _=>lg c 96 (fun _=>hlK lo4_4_3_64 (by omega) (by omega)) fun _=>hlK lo4_4_3_96 (by omega) (by omega)
theorem loK4_4_4:LoK 4 4 4:=fun c (hc:c<256)=>lg c 128 (fun _=>lg c 64 (fun _=>lg c 32 (fun _=>hlK lo4_4_4_0 (by omega) (by omega)) fun _=>hlK lo4_4_4_32 (by omega) (by omega)) fun _=>lg c 96 (fun _=>hlK lo4_4_4_64 (by omega) (by omega)) fun _=>hlK lo4_4_4_96 (by omega) (by omega)) fun _=>lg c 192 (fun _=>lg c 160 (fun _=>hlK lo4_4_4_128 (by omega) (by omega)) fun _=>hlK lo4_4_4_160 (by omega) (by omega)) fun _=>lg c 224 (fun _=>hlK lo4_4_4_192 (by omega) (by omega)) fun _=>hlK lo4_4_4_224 (by omega) (by omega)
theorem loK5_0_0:LoK 5 0 0:=fun c (hc:c<1)=>hlK lo5_0_0_0 (by omega) (by omega)
theorem loK5_0_1:LoK 5 0 1:=fun c (hc:c<2)=>hlK lo5_0_1_0 (by omega) (by omega)
theorem loK5_0_2:LoK 5 0 2:=fun c (hc:c<4)=>hlK lo5_0_2_0 (by omega) (by omega)
theorem loK5_0_3:LoK 5 0 3:=fun c (hc:c<8)=>hlK lo5_0_3_0 (by omega) (by omega)
theorem loK5_1_0:LoK 5 1 0:=fun c (hc:c<2)=>hlK lo5_1_0_0 (by omega) (by omega)
theorem loK5_1_1:LoK 5 1 1:=fun c (hc:c<4)=>hlK lo5_1_1_0 (by omega) (by omega)
theorem loK5_1_2:LoK 5 1 2:=fun c (hc:c<8)=>hlK lo5_1_2_0 (by omega) (by omega)
theorem loK5_1_3:LoK 5 1 3:=fun c (hc:c<16)=>hlK lo5_1_3_0 (by omega) (by omega)
theorem loK5_2_0:LoK 5 2 0:=fun c (hc:c<4)=>hlK lo5_2_0_0 (by omega) (by omega)
theorem loK5_2_1:LoK 5 2 1:=fun c (hc:c<8)=>hlK lo5_2_1_0 (by omega) (by omega)
theorem loK5_2_2:LoK 5 2 2:=fun c (hc:c<16)=>hlK lo5_2_2_0 (by omega) (by omega)
theorem loK5_2_3:LoK 5 2 3:=fun c (hc:c<32)=>hlK lo5_2_3_0 (by omega) (by omega)
theorem loK5_3_0:LoK 5 3 0:=fun c (hc:c<8)=>hlK lo5_3_0_0 (by omega) (by omega)
theorem loK5_3_1:LoK 5 3 1:=fun c (hc:c<16)=>hlK lo5_3_1_0 (by omega) (by omega)
theorem loK5_3_2:LoK 5 3 2:=fun c (hc:c<32)=>hlK lo5_3_2_0 (by omega) (by omega)
theorem loK5_3_3:LoK 5 3 3:=fun c (hc:c<64)=>lg c 32 (fun _=>hlK lo5_3_3_0 (by omega) (by omega)) fun _=>hlK lo5_3_3_32 (by omega) (by omega)
theorem loK5_4_0:LoK 5 4 0:=fun c (hc:c<16)=>hlK lo5_4_0_0 (by omega) (by omega)
theorem loK5_4_1:LoK 5 4 1:=fun c (hc:c<32)=>hlK lo5_4_1_0 (by omega) (by omega)
theorem loK5_4_2:LoK 5 4 2:=fun c (hc:c<64)=>lg c 32 (fun _=>hlK lo5_4_2_0 (by omega) (by omega)) fun _=>hlK lo5_4_2_32 (by omega) (by omega)
theorem loK5_4_3:LoK 5 4 3:=fun c (hc:c<128)=>lg c 64 (fun _=>lg c 32 (fun _=>hlK lo5_4_3_0 (by omega) (by omega)) fun _=>hlK lo5_4_3_32 (by omega) (by omega)) fun _=>lg c 96 (fun _=>hlK lo5_4_3_64 (by omega) (by omega)) fun _=>hlK lo5_4_3_96 (by omega) (by omega)
theorem loK5_5_0:LoK 5 5 0:=fun c (hc:c<32)=>hlK lo5_5_0_0 (by omega) (by omega)
theorem loK5_5_1:LoK 5 5 1:=fun c (hc:c<64)=>lg c 32 (fun _=>hlK lo5_5_1_0 (by omega) (by omega)) fun _=>hlK lo5_5_1_32 (by omega) (by omega)
theorem loK5_5_2:LoK 5 5 2:=fun c (hc:c<128)=>lg c 64 (fun _=>lg c 32 (fun _=>hlK lo5_5_2_0 (by omega) (by omega)) fun _=>hlK lo5_5_2_32 (by omega) (by omega)) fun _=>lg c 96 (fun _=>hlK lo5_5_2_64 (by omega) (by omega)) fun _=>hlK lo5_5_2_96 (by omega) (by omega)
theorem loK5_5_3:LoK 5 5 3:=fun c (hc:c<256)=>lg c 128 (fun _=>lg c 64 (fun _=>lg c 32 (fun _=>hlK lo5_5_3_0 (by omega) (by omega)) fun _=>hlK lo5_5_3_32 (by omega) (by omega)) fun _=>lg c 96 (fun _=>hlK lo5_5_3_64 (by omega) (by omega)) fun _=>hlK lo5_5_3_96 (by omega) (by omega)) fun _=>lg c 192 (fun _=>lg c 160 (fun _=>hlK lo5_5_3_128 (by omega) (by omega)) fun _=>hlK lo5_5_3_160 (by omega) (by omega)) fun _=>lg c 224 (fun _=>hlK lo5_5_3_192 (by omega) (by omega)) fun _=>hlK lo5_5_3_224 (by omega) (by omega)
theorem loK6_0_0:LoK 6 0 0:=fun c (hc:c<1)=>hlK lo6_0_0_0 (by omega) (by omega)
theorem loK6_0_1:LoK 6 0 1:=fun c (hc:c<2)=>hlK lo6_0_1_0 (by omega) (by omega)
theorem loK6_0_2:LoK 6 0 2:=fun c (hc:c<4)=>hlK lo6_0_2_0 (by omega) (by omega)
theorem loK6_1_0:LoK 6 1 0:=fun c (hc:c<2)=>hlK lo6_1_0_0 (by omega) (by omega)
theorem loK6_1_1:LoK 6 1 1:=fun c (hc:c<4)=>hlK lo6_1_1_0 (by omega) (by omega)
theorem loK6_1_2:LoK 6 1 2:=fun c (hc:c<8)=>hlK lo6_1_2_0 (by omega) (by omega)
theorem loK6_2_0:LoK 6 2 0:=fun c (hc:c<4)=>hlK lo6_2_0_0 (by omega) (by omega)
theorem loK6_2_1:LoK 6 2 1:=fun c (hc:c<8)=>hlK lo6_2_1_0 (by omega) (by omega)
theorem loK6_2_2:LoK 6 2 2:=fun c (hc:c<16)=>hlK lo6_2_2_0 (by omega) (by omega)
theorem loK6_3_0:LoK 6 3 0:=fun c (hc:c<8)=>hlK lo6_3_0_0 (by omega) (by omega)
theorem loK6_3_1:LoK 6 3 1:=fun c (hc:c<16)=>hlK lo6_3_1_0 (by omega) (by omega)
theorem loK6_3_2:LoK 6 3 2:=fun c (hc:c<32)=>hlK lo6_3_2_0 (by omega) (by omega)
theorem loK6_4_0:LoK 6 4 0:=fun c (hc:c<16)=>hlK lo6_4_0_0 (by omega) (by omega)
theorem loK6_4_1:LoK 6 4 1:=fun c (hc:c<32)=>hlK lo6_4_1_0 (by omega) (by omega)
theorem loK6_4_2:LoK 6 4 2:=fun c (hc:c<64)=>lg c 32 (fun _=>hlK lo6_4_2_0 (by omega) (by omega)) fun _=>hlK lo6_4_2_32 (by omega) (by omega)
theorem loK6_5_0:LoK 6 5 0:=fun c (hc:c<32)=>hlK lo6_5_0_0 (by omega) (by omega)
theorem loK6_5_1:LoK 6 5 1:=fun c (hc:c<64)=>lg c 32 (fun _=>hlK lo6_5_1_0 (by omega) (by omega)) fun _=>hlK lo6_5_1_32 (by omega) (by omega)
theorem loK6_5_2:LoK 6 5 2:=fun c (hc:c<128)=>lg c 64 (fun _=>lg c 32 (fun _=>hlK lo6_5_2_0 (by omega) (by omega)) fun _=>hlK lo6_5_2_32 (by omega) (by omega)) fun _=>lg c 96 (fun _=>hlK lo6_5_2_64 (by omega) (by omega)) fun _=>hlK lo6_5_2_96 (by omega) (by omega)
theorem loK6_6_0:LoK 6 6 0:=fun c (hc:c<64)=>lg c 32 (fun _=>hlK lo6_6_0_0 (by omega) (by omega)) fun _=>hlK lo6_6_0_32 (by omega) (by omega)
theorem loK6_6_1:LoK 6 6 1:=fun c (hc:c<128)=>lg c 64 (fun _=>lg c 32 (fun _=>hlK lo6_6_1_0 (by omega) (by omega)) fun _=>hlK lo6_6_1_32 (by omega) (by omega)) fun _=>lg c 96 (fun _=>hlK lo6_6_1_64 (by omega) (by omega)) fun _=>hlK lo6_6_1_96 (by omega) (by omega)
theorem loK6_6_2:LoK 6 6 2:=fun c (hc:c<256)=>lg c 128 (fun _=>lg c 64 (fun _=>lg c 32 (fun _=>hlK lo6_6_2_0 (by omega) (by omega)) fun _=>hlK lo6_6_2_32 (by omega) (by omega)) fun _=>lg c 96 (fun _=>hlK lo6_6_2_64 (by omega) (by omega)) fun _=>hlK lo6_6_2_96 (by omega) (by omega)) fun _=>lg c 192 (fun _=>lg c 160 (fun _=>hlK lo6_6_2_128 (by omega) (by omega)) fun _=>hlK lo6_6_2_160 (by omega) (by omega)) fun _=>lg c 224 (fun _=>hlK lo6_6_2_192 (by omega) (by omega)) fun _=>hlK lo6_6_2_224 (by omega) (by omega)
theorem loK7_0_0:LoK 7 0 0:=fun c (hc:c<1)=>hlK lo7_0_0_0 (by omega) (by omega)
theorem loK7_0_1:LoK 7 0 1:=fun c (hc:c<2)=>hlK lo7_0_1_0 (by omega) (by omega)
theorem loK7_1_0:LoK 7 1 0:=fun c (hc:c<2)=>hlK lo7_1_0_0 (by omega) (by omega)
theorem loK7_1_1:LoK 7 1 1:=fun c (hc:c<4)=>hlK lo7_1_1_0 (by omega) (by omega)
theorem loK7_2_0:LoK 7 2 0:=fun c (hc:c<4)=>hlK lo7_2_0_0 (by omega) (by omega)
theorem loK7_2_1:LoK 7 2 1:=fun c (hc:c<8)=>hlK lo7_2_1_0 (by omega) (by omega)
theorem loK7_3_0:LoK 7 3 0:=fun c (hc:c<8)=>hlK lo7_3_0_0 (by omega) (by omega)
theorem loK7_3_1:LoK 7 3 1:=fun c (hc:c<16)=>hlK lo7_3_1_0 (by omega) (by omega)
theorem loK7_4_0:LoK 7 4 0:=fun c (hc:c<16)=>hlK lo7_4_0_0 (by omega) (by omega)
theorem loK7_4_1:LoK 7 4 1:=fun c (hc:c<32)=>hlK lo7_4_1_0 (by omega) (by omega)
theorem loK7_5_0:LoK 7 5 0:=fun c (hc:c<32)=>hlK lo7_5_0_0 (by omega) (by omega)
theorem loK7_5_1:LoK 7 5 1:=fun c (hc:c<64)=>lg c 32 (fun _=>hlK lo7_5_1_0 (by omega) (by omega)) fun _=>hlK lo7_5_1_32 (by omega) (by omega)
theorem loK7_6_0:LoK 7 6 0:=fun c (hc:c<64)=>lg c 32 (fun _=>hlK lo7_6_0_0 (by omega) (by omega)) fun _=>hlK lo7_6_0_32 (by omega) (by omega)
theorem loK7_6_1:LoK 7 6 1:=fun c (hc:c<128)=>lg c 64 (fun _=>lg c 32 (fun _=>hlK lo7_6_1_0 (by omega) (by omega)) fun _=>hlK lo7_6_1_32 (by omega) (by omega)) fun _=>lg c 96 (fun _=>hlK lo7_6_1_64 (by omega) (by omega)) fun _=>hlK lo7_6_1_96 (by omega) (by omega)
theorem loK7_7_0:LoK 7 7 0:=fun c (hc:c<128)=>lg c 64 (fun _=>lg c 32 (fun _=>hlK lo7_7_0_0 (by omega) (by omega)) fun _=>hlK lo7_7_0_32 (by omega) (by omega)) fun _=>lg c 96 (fun _=>hlK lo7_7_0_64 (by omega) (by omega)) fun _=>hlK lo7_7_0_96 (by omega) (by omega)
theorem loK7_7_1:LoK 7 7 1:=fun c (hc:c<256)=>lg c 128 (fun _=>lg c 64 (fun _=>lg c 32 (fun _=>hlK lo7_7_1_0 (by omega) (by omega)) fun _=>hlK lo7_7_1_32 (by omega) (by omega)) fun _=>lg c 96 (fun _=>hlK lo7_7_1_64 (by omega) (by omega)) fun _=>hlK lo7_7_1_96 (by omega) (by omega)) fun _=>lg c 192 (fun _=>lg c 160 (fun _=>hlK lo7_7_1_128 (by omega) (by omega)) fun _=>hlK lo7_7_1_160 (by omega) (by omega)) fun _=>lg c 224 (fun _=>hlK lo7_7_1_192 (by omega) (by omega)) fun _=>hlK lo7_7_1_224 (by omega) (by omega)
abbrev LoQ (q:Nat × Nat × Nat):Prop:=LoK q.1 q.2.1 q.2.2
def AllQ:List (Nat × Nat × Nat)→Prop
 | []=>True
 | q::l=>LoQ q∧AllQ l
theorem memC_ok {a m r:Nat}:∀ {l:List (Nat × Nat × Nat)},AllQ l→memC a m r l=true→LoK a m r
 | [],_,h=>by cases h
 | q::l,h,hm=>by
  unfold memC at hm
  rw [Bool.or_eq_true,Bool.and_eq_true,Bool.and_eq_true] at hm
  rcases hm with ⟨⟨h1,h2⟩,h3⟩ | hm
  · obtain rfl:=Nat.eq_of_beq_eq_true h1
    obtain rfl:=Nat.eq_of_beq_eq_true h2
    obtain rfl:=Nat.eq_of_beq_eq_true h3
    exact h.1
  · exact memC_ok h.2 hm
theorem loAll:AllQ cmbL:=⟨loK0_0_0,⟨loK0_0_1,⟨loK0_0_2,⟨loK0_0_3,⟨loK0_0_4,⟨loK0_0_5,⟨loK0_0_6,⟨loK0_0_7,⟨loK0_0_8,⟨loK1_0_0,⟨loK1_0_1,⟨loK1_0_2,⟨loK1_0_3,⟨loK1_0_4,⟨loK1_0_5,⟨loK1_0_6,⟨loK1_0_7,⟨loK1_1_0,⟨loK1_1_1,⟨loK1_1_2,⟨loK1_1_3,⟨loK1_1_4,⟨loK1_1_5,⟨loK1_1_6,⟨loK1_1_7,⟨loK2_0_0,⟨loK2_0_1,⟨loK2_0_2,⟨loK2_0_3,⟨loK2_0_4,⟨loK2_0_5,⟨loK2_0_6,⟨loK2_1_0,⟨loK2_1_1,⟨loK2_1_2,⟨loK2_1_3,⟨loK2_1_4,⟨loK2_1_5,⟨loK2_1_6,⟨loK2_2_0,⟨loK2_2_1,⟨loK2_2_2,⟨loK2_2_3,⟨loK2_2_4,⟨loK2_2_5,⟨loK2_2_6,⟨loK3_0_0,⟨loK3_0_1,⟨loK3_0_2,⟨loK3_0_3,⟨loK3_0_4,⟨loK3_0_5,⟨loK3_1_0,⟨loK3_1_1,⟨loK3_1_2,⟨loK3_1_3,⟨loK3_1_4,⟨loK3_1_5,⟨loK3_2_0,⟨loK3_2_1,⟨loK3_2_2,⟨loK3_2_3,⟨loK3_2_4,⟨loK3_2_5,⟨loK3_3_0,⟨loK3_3_1,⟨loK3_3_2,⟨loK3_3_3,⟨loK3_3_4,⟨loK3_3_5,⟨loK4_0_0,⟨loK4_0_1,⟨loK4_0_2,⟨loK4_0_3,⟨loK4_0_4,⟨loK4_1_0,⟨loK4_1_1,⟨loK4_1_2,⟨loK4_1_3,⟨loK4_1_4,⟨loK4_2_0,⟨loK4_2_1,⟨loK4_2_2,⟨loK4_2_3,⟨loK4_2_4,⟨loK4_3_0,⟨loK4_3_1,⟨loK4_3_2,⟨loK4_3_3,⟨loK4_3_4,⟨loK4_4_0,⟨loK4_4_1,⟨loK4_4_2,⟨loK4_4_3,⟨loK4_4_4,⟨loK5_0_0,⟨loK5_0_1,⟨loK5_0_2,⟨loK5_0_3,⟨loK5_1_0,⟨loK5_1_1,⟨loK5_1_2,⟨loK5_1_3,⟨loK5_2_0,⟨loK5_2_1,⟨loK5_2_2,⟨loK5_2_3,⟨loK5_3_0,⟨loK5_3_1,⟨loK5_3_2,⟨loK5_3_3,⟨loK5_4_0,⟨loK5_4_1,⟨loK5_4_2,⟨loK5_4_3,⟨loK5_5_0,⟨loK5_5_1,⟨loK5_5_2,⟨loK5_5_3,⟨loK6_0_0,⟨loK6_0_1,⟨loK6_0_2,⟨loK6_1_0,⟨loK6_1_1,⟨loK6_1_2,⟨loK6_2_0,⟨loK6_2_1,⟨loK6_2_2,⟨loK6_3_0,⟨loK6_3_1,⟨loK6_3_2,⟨loK6_4_0,⟨loK6_4_1,⟨loK6_4_2,⟨loK6_5_0,⟨loK6_5_1,⟨loK6_5_2,⟨loK6_6_0,⟨loK6_6_1,⟨loK6_6_2,⟨loK7_0_0,⟨loK7_0_1,⟨loK7_1_0,⟨loK7_1_1,⟨loK7_2_0,⟨loK7_2_1,⟨loK7_3_0,⟨loK7_3_1,⟨loK7_4_0,⟨loK7_4_1,⟨loK7_5_0,⟨loK7_5_1,⟨loK7_6_0,⟨loK7_6_1,⟨loK7_7_0,⟨loK7_7_1,trivial⟩⟩⟩⟩⟩⟩⟩⟩⟩⟩⟩⟩⟩⟩⟩⟩⟩⟩⟩⟩⟩⟩⟩⟩⟩⟩⟩⟩⟩⟩⟩⟩⟩⟩⟩⟩⟩⟩⟩⟩⟩⟩⟩⟩⟩⟩⟩⟩⟩⟩⟩⟩⟩⟩⟩⟩⟩⟩⟩⟩⟩⟩⟩⟩⟩⟩⟩⟩⟩⟩⟩⟩⟩⟩⟩⟩⟩⟩⟩⟩⟩⟩⟩⟩⟩⟩⟩⟩⟩⟩⟩⟩⟩⟩⟩⟩⟩⟩⟩⟩⟩⟩⟩⟩⟩⟩⟩⟩⟩⟩⟩⟩⟩⟩⟩⟩⟩⟩⟩⟩⟩⟩⟩⟩⟩⟩⟩⟩⟩⟩⟩⟩⟩⟩⟩⟩⟩⟩⟩⟩⟩⟩⟩⟩⟩⟩⟩⟩⟩⟩⟩⟩⟩⟩⟩⟩
theorem lo_ok (x:Nat):∀ s∈loL x,FsOk Tryz.prog 13 s:=by
 intro s hs
 unfold loL at hs
 cases e:loV (x / 18432) (x / 2304 % 8) (x / 256 % 9) (x % 256) with
 | false=>rw [e] at hs; cases hs
 | true=>
  rw [e] at hs
  obtain rfl:=List.mem_singleton.1 hs
  unfold loV at e
  rw [Bool.and_eq_true] at e
  exact memC_ok loAll e.1 _ (Nat.le_of_ble_eq_true e.2)
theorem natE_ok (x:Nat):∀ s K,KnownOk s K→@NatsOk (linSym s K) Tryz.prog (natE x):=natG_ok mixedN codeN_ok globN (fun _ _=>lo_ok x) nat6_ok
/-! ## the states -/
abbrev GA (T:TS):Prop:=StateGoodM Tryz.prog codeN nat0 1000 100 wsL lensL TsA (some nxA) pthA ccL rsL ksL T
abbrev GB (T:TS):Prop:=StateGoodM Tryz.prog codeN natB 1000 100 wsL lensL TsB (some nxB) pthB ccL rsL ksL T
abbrev GC (T:TS):Prop:=StateGoodW Tryz.prog codeN nat0 natE 1000 lensL pthC ccL rsL ksL T
theorem cond_ble {α:Type} {P:α→Prop} {a k:Nat} {x y:α} (h1:a≤k→P x) (h2:k<a→P y):P (bif Nat.ble a k then x else y):=by
 cases e:Nat.ble a k with
 | true=>exact h1 (Nat.le_of_ble_eq_true e)
 | false=>exact h2 (Nat.lt_of_not_le fun h=>by rw [Nat.ble_eq_true_of_le h] at e; cases e)
theorem mkA {L i:Nat} (h:∀ s A,gzA s A L i=true):GA (tsA L i):=stateY_good (tree:=trA L i) (tss:=goA L i) h
theorem mkB {n c:Nat} (h:∀ s A,gzB s A n c=true):GB (tsB n c):=stateY_good (tree:=trB n c) (tss:=goB n c) h
theorem mkC {n c d:Nat} (h:∀ k,k<2 ^ d→∀ s A,gzC s A n c d k=true):GC (tsC n c):=stateP_good (tree:=trC n) (wt:=wtD n c) h
theorem mkC0 {n c:Nat} (h:∀ s A,gzC s A n c 0 0=true):GC (tsC n c):=mkC (d:=0) fun k hk s A=>by
 obtain rfl:k=0:=by omega
 exact h s A
theorem hB {n a k c:Nat} (h:RB n a k) (h1:a≤c) (h2:c<a+k):GB (tsB n c):=mkB fun s A=>statesM_all (h s A) c h1 h2
theorem hC {n a k c:Nat} (h:RC n a k) (h1:a≤c) (h2:c<a+k):GC (tsC n c):=mkC0 fun s A=>statesM_all (f:=fun c=>gzC s A n c 0 0) (h s A) c h1 h2
theorem hD {n a c:Nat} (h1:c=a) (h:GC (tsC n a)):GC (tsC n c):=h1 ▸ h
theorem mkD1 {n c:Nat} (h0:RD n c 1 0) (h1:RD n c 1 1):GC (tsC n c):=mkC (d:=1) fun k (hk:k<2) s A=>match k,hk with
 | 0,_=>h0 s A
 | 1,_=>h1 s A
 | k+2,hk=>absurd hk (by omega)
theorem mkD2 {n c:Nat} (h0:RD n c 2 0) (h1:RD n c 2 1) (h2:RD n c 2 2) (h3:RD n c 2 3):GC (tsC n c):=mkC (d:=2) fun k (hk:k<4) s A=>match k,hk with
 | 0,_=>h0 s A
 | 1,_=>h1 s A
 | 2,_=>h2 s A
 | 3,_=>h3 s A
 | k+4,hk=>absurd hk (by omega)
theorem mkD3 {n c:Nat} (h0:RD n c 3 0) (h1:RD n c 3 1) (h2:RD n c 3 2) (h3:RD n c 3 3) (h4:RD n c 3 4) (h5:RD n c 3 5) (h6:RD n c 3 6) (h7:RD n c 3 7):GC (tsC n c):=mkC (d:=3) fun k (hk:k<8) s A=>match k,hk with
 | 0,_=>h0 s A
 | 1,_=>h1 s A
 | 2,_=>h2 s A
 | 3,_=>h3 s A
 | 4,_=>h4 s A
 | 5,_=>h5 s A
 | 6,_=>h6 s A
 | 7,_=>h7 s A
 | k+8,hk=>absurd hk (by omega)
theorem sA0 (i:Nat) (hi:i<1):GA (tsA 0 i):=mkA fun s A=>statesM_all (rA0 s A) i (Nat.zero_le _) (by omega)
theorem sA1 (i:Nat) (hi:i<2):GA (tsA 1 i):=mkA fun s A=>statesM_all (rA1 s A) i (Nat.zero_le _) (by omega)
theorem sA2 (i:Nat) (hi:i<3):GA (tsA 2 i):=mkA fun s A=>statesM_all (rA2 s A) i (Nat.zero_le _) (by omega)
theorem sA3 (i:Nat) (hi:i<4):GA (tsA 3 i):=mkA fun s A=>statesM_all (rA3 s A) i (Nat.zero_le _) (by omega)
theorem sA4 (i:Nat) (hi:i<5):GA (tsA 4 i):=mkA fun s A=>statesM_all (rA4 s A) i (Nat.zero_le _) (by omega)
theorem sA5 (i:Nat) (hi:i<6):GA (tsA 5 i):=mkA fun s A=>statesM_all (rA5 s A) i (Nat.zero_le _) (by omega)
theorem sA6 (i:Nat) (hi:i<7):GA (tsA 6 i):=mkA fun s A=>statesM_all (rA6 s A) i (Nat.zero_le _) (by omega)
theorem sA7 (i:Nat) (hi:i<8):GA (tsA 7 i):=mkA fun s A=>statesM_all (rA7 s A) i (Nat.zero_le _) (by omega)
theorem sA8 (i:Nat) (hi:i<9):GA (tsA 8 i):=mkA fun s A=>statesM_all (rA8 s A) i (Nat.zero_le _) (by omega)
theorem gA_good (k:Nat) (h0:k<45):GA (gA k):=cond_ble (fun h=>sA8 _ (by omega)) (fun h=>cond_ble (fun h=>sA7 _ (by omega)) (fun h=>cond_ble (fun h=>sA6 _ (by omega)) (fun h=>cond_ble (fun h=>sA5 _ (by omega)) (fun h=>cond_ble (fun h=>sA4 _ (by omega)) (fun h=>cond_ble (fun h=>sA3 _ (by omega)) (fun h=>cond_ble (fun h=>sA2 _ (by omega)) (fun h=>cond_ble (fun h=>sA1 _ (by omega)) (fun h=>sA0 _ (by omega)))))))))
theorem goodA:AllS GA TsA:=mkTs_all gA_good (Nat.le_refl _)
theorem sB0 (c:Nat) (h1:1≤c) (h2:c<2):GB (tsB 0 c):=hB rB0_1 (by omega) (by omega)
theorem sC0 (c:Nat) (h1:1≤c) (h2:c<2):GC (tsC 0 c):=hC rC0_1 (by omega) (by omega)
theorem sB1 (c:Nat) (h1:1≤c) (h2:c<4):GB (tsB 1 c):=hB rB1_1 (by omega) (by omega)
theorem sC1 (c:Nat) (h1:1≤c) (h2:c<4):GC (tsC 1 c):=hC rC1_1 (by omega) (by omega)
theorem sB2 (c:Nat) (h1:1≤c) (h2:c<8):GB (tsB 2 c):=hB rB2_1 (by omega) (by omega)
theorem sC2 (c:Nat) (h1:1≤c) (h2:c<8):GC (tsC 2 c):=hC rC2_1 (by omega) (by omega)
theorem sB3 (c:Nat) (h1:1≤c) (h2:c<16):GB (tsB 3 c):=hB rB3_1 (by omega) (by omega)
theorem sC3 (c:Nat) (h1:1≤c) (h2:c<16):GC (tsC 3 c):=lg c 11 (fun _=>hC rC3_1 (by omega) (by omega)) fun _=>hC rC3_11 (by omega) (by omega)
theorem sB4 (c:Nat) (h1:1≤c) (h2:c<32):GB (tsB 4 c):=lg c 9 (fun _=>hB rB4_1 (by omega) (by omega)) fun _=>lg c 24 (fun _=>hB rB4_9 (by omega) (by omega)) fun _=>hB rB4_24 (by omega) (by omega)
theorem sC4 (c:Nat) (h1:1≤c) (h2:c<32):GC (tsC 4 c):=lg c 11 (fun _=>lg c 5 (fun _=>hC rC4_1 (by omega) (by omega)) fun _=>hC rC4_5 (by omega) (by omega)) fun _=>lg c 17 (fun _=>hC rC4_11 (by omega) (by omega)) fun _=>lg c 27 (fun _=>hC rC4_17 (by omega) (by omega)) fun _=>hC rC4_27 (by omega) (by omega)
theorem sB5 (c:Nat) (h1:1≤c) (h2:c<64):GB (tsB 5 c):=lg c 17 (fun _=>lg c 9 (fun _=>hB rB5_1 (by omega) (by omega)) fun _=>hB rB5_9 (by omega) (by omega)) fun _=>lg c 25 (fun _=>hB rB5_17 (by omega) (by omega)) fun _=>lg c 40 (fun _=>hB rB5_25 (by omega) (by omega)) fun _=>hB rB5_40 (by omega) (by omega)
theorem sC5 (c:Nat) (h1:1≤c) (h2:c<64):GC (tsC 5 c):=lg c 24 (fun _=>lg c 10 (fun _=>lg c 5 (fun _=>lg c 3 (fun _=>hC rC5_1 (by omega) (by omega)) fun _=>hC rC5_3 (by omega) (by omega)) fun _=>lg c 7 (fun _=>hC rC5_5 (by omega) (by omega)) fun _=>hC rC5_7 (by omega) (by omega)) fun _=>lg c 15 (fun _=>lg c 13 (fun _=>hC rC5_10 (by omega) (by omega)) fun _=>hC rC5_13 (by omega) (by omega)) fun _=>lg c 19 (fun _=>hC rC5_15 (by omega) (by omega)) fun _=>hC rC5_19 (by omega) (by omega)) fun _=>lg c 45 (fun _=>lg c 31 (fun _=>lg c 29 (fun _=>hC rC5_24 (by omega) (by omega)) fun _=>hC rC5_29 (by omega) (by omega)) fun _=>lg c 37 (fun _=>hC rC5_31 (by omega) (by omega)) fun _=>hC rC5_37 (by omega) (by omega)) fun _=>lg c 56 (fun _=>lg c 51 (fun _=>hC rC5_45 (by omega) (by omega)) fun _=>hC rC5_51 (by omega) (by omega)) fun _=>lg c 61 (fun _=>hC rC5_56 (by omega) (by omega)) fun _=>lg c 63 (fun _=>hC rC5_61 (by omega) (by omega)) fun _=>hC rC5_63 (by omega) (by omega)
theorem sB6 (c:Nat) (h1:1≤c) (h2:c<128):GB (tsB 6 c):=lg c 41 (fun _=>lg c 17 (fun _=>lg c 9 (fun _=>hB rB6_1 (by omega) (by omega)) fun _=>hB rB6_9 (by omega) (by omega)) fun _=>lg c 25 (fun _=>hB rB6_17 (by omega) (by omega)) fun _=>lg c 33 (fun _=>hB rB6_25 (by omega) (by omega)) fun _=>hB rB6_33 (by omega) (by omega)) fun _=>lg c 57 (fun _=>lg c 49 (fun _=>hB rB6_41 (by omega) (by omega)) fun _=>hB rB6_49 (by omega) (by omega)) fun _=>lg c 72 (fun _=>hB rB6_57 (by omega) (by omega)) fun _=>lg c 122 (fun _=>hB rB6_72 (by omega) (by omega)) fun _=>hB rB6_122 (by omega) (by omega)
theorem sC6 (c:Nat) (h1:1≤c) (h2:c<128):GC (tsC 6 c):=lg c 53 (fun _=>lg c 21 (fun _=>lg c 8 (fun _=>lg c 4 (fun _=>lg c 2 (fun _=>hD (by omega) (mkD1 rC6_1_0 rC6_1_1)) fun _=>lg c 3 (fun _=>hC rC6_2 (by omega) (by omega)) fun _=>hD (by omega) (mkD1 rC6_3_0 rC6_3_1)) fun _=>lg c 6 (fun _=>hC rC6_4 (by omega) (by omega)) fun _=>lg c 7 (fun _=>hC rC6_6 (by omega) (by omega)) fun _=>hD (by omega) (mkD1 rC6_7_0 rC6_7_1)) fun _=>lg c 14 (fun _=>lg c 11 (fun _=>hC rC6_8 (by omega) (by omega)) fun _=>lg c 13 (fun _=>hC rC6_11 (by omega) (by omega)) fun _=>hC rC6_13 (by omega) (by omega)) fun _=>lg c 15 (fun _=>hC rC6_14 (by omega) (by omega)) fun _=>lg c 16 (fun _=>hD (by omega) (mkD1 rC6_15_0 rC6_15_1)) fun _=>hC rC6_16 (by omega) (by omega)) fun _=>lg c 31 (fun _=>lg c 27 (fun _=>lg c 23 (fun _=>hC rC6_21 (by omega) (by omega)) fun _=>lg c 25 (fun _=>hC rC6_23 (by omega) (by omega)) fun _=>hC rC6_25 (by omega) (by omega)) fun _=>lg c 29 (fun _=>hC rC6_27 (by omega) (by omega)) fun _=>lg c 30 (fun _=>hC rC6_29 (by omega) (by omega)) fun _=>hC rC6_30 (by omega) (by omega)) fun _=>lg c 43 (fun _=>lg c 32 (fun _=>hD (by omega) (mkD1 rC6_31_0 rC6_31_1)) fun _=>lg c 39 (fun _=>hC rC6_32 (by omega) (by omega)) fun _=>hC rC6_39 (by omega) (by omega)) fun _=>lg c 46 (fun _=>hC rC6_43 (by omega) (by omega)) fun _=>lg c 48 (fun _=>hC rC6_46 (by omega) (by omega)) fun _=>hC rC6_48 (by omega) (by omega)) fun _=>lg c 94 (fun _=>lg c 63 (fun _=>lg c 59 (fun _=>lg c 55 (fun _=>hC rC6_53 (by omega) (by omega)) fun _=>lg c 57 (fun _=>hC rC6_55 (by omega) (by omega)) fun _=>hC rC6_57 (by omega) (by omega)) fun _=>lg c 61 (fun _=>hC rC6_59 (by omega) (by omega)) fun _=>lg c 62 (fun _=>hC rC6_61 (by omega) (by omega)) fun _=>hC rC6_62 (by omega) (by omega)) fun _=>lg c 81 (fun _=>lg c 64 (fun _=>hD (by omega) (mkD1 rC6_63_0 rC6_63_1)) fun _=>lg c 75 (fun _=>hC rC6_64 (by omega) (by omega)) fun _=>hC rC6_75 (by omega) (by omega)) fun _=>lg c 87 (fun _=>hC rC6_81 (by omega) (by omega)) fun _=>lg c 91 (fun _=>hC rC6_87 (by omega) (by omega)) fun _=>hC rC6_91 (by omega) (by omega)) fun _=>lg c 117 (fun _=>lg c 107 (fun _=>lg c 96 (fun _=>hC rC6_94 (by omega) (by omega)) fun _=>lg c 103 (fun _=>hC rC6_96 (by omega) (by omega)) fun _=>hC rC6_103 (by omega) (by omega)) fun _=>lg c 110 (fun _=>hC rC6_107 (by omega) (by omega)) fun _=>lg c 112 (fun _=>hC rC6_110 (by omega) (by omega)) fun _=>hC rC6_112 (by omega) (by omega)) fun _=>lg c 123 (fun _=>lg c 119 (fun _=>hC rC6_117 (by omega) (by omega)) fun _=>lg c 121 (fun _=>hC rC6_119 (by omega) (by omega)) fun _=>hC rC6_121 (by omega) (by omega)) fun _=>lg c 126 (fun _=>lg c 125 (fun _=>hC rC6_123 (by omega) (by omega)) fun _=>hC rC6_125 (by omega) (by omega)) fun _=>lg c 127 (fun _=>hC rC6_126 (by omega) (by omega)) fun _=>hD (by omega) (mkD1 rC6_127_0 rC6_127_1)
theorem sB7 (c:Nat) (h1:1≤c) (h2:c<256):GB (tsB 7 c):=lg c 73 (fun _=>lg c 33 (fun _=>lg c 17 (fun _=>lg c 9 (fun _=>hB rB7_1 (by omega) (by omega)) fun _=>hB rB7_9 (by omega) (by omega)) fun _=>lg c 25 (fun _=>hB rB7_17 (by omega) (by omega)) fun _=>hB rB7_25 (by omega) (by omega)) fun _=>lg c 49 (fun _=>lg c 41 (fun _=>hB rB7_33 (by omega) (by omega)) fun _=>hB rB7_41 (by omega) (by omega)) fun _=>lg c 57 (fun _=>hB rB7_49 (by omega) (by omega)) fun _=>lg c 65 (fun _=>hB rB7_57 (by omega) (by omega)) fun _=>hB rB7_65 (by omega) (by omega)) fun _=>lg c 113 (fun _=>lg c 89 (fun _=>lg c 81 (fun _=>hB rB7_73 (by omega) (by omega)) fun _=>hB rB7_81 (by omega) (by omega)) fun _=>lg c 97 (fun _=>hB rB7_89 (by omega) (by omega)) fun _=>lg c 105 (fun _=>hB rB7_97 (by omega) (by omega)) fun _=>hB rB7_105 (by omega) (by omega)) fun _=>lg c 136 (fun _=>lg c 121 (fun _=>hB rB7_113 (by omega) (by omega)) fun _=>hB rB7_121 (by omega) (by omega)) fun _=>lg c 186 (fun _=>hB rB7_136 (by omega) (by omega)) fun _=>lg c 236 (fun _=>hB rB7_186 (by omega) (by omega)) fun _=>hB rB7_236 (by omega) (by omega)
theorem sC7 (c:Nat) (h1:1≤c) (h2:c<256):GC (tsC 7 c):=lg c 110 (fun _=>lg c 46 (fun _=>lg c 21 (fun _=>lg c 10 (fun _=>lg c 5 (fun _=>lg c 3 (fun _=>lg c 2 (fun _=>hD (by omega) (mkD2 rC7_1_0 rC7_1_1 rC7_1_2 rC7_1_3)) fun _=>hD (by omega) (mkD1 rC7_2_0 rC7_2_1)) fun _=>lg c 4 (fun _=>hD (by omega) (mkD2 rC7_3_0 rC7_3_1 rC7_3_2 rC7_3_3)) fun _=>hC rC7_4 (by omega) (by omega)) fun _=>lg c 7 (fun _=>lg c 6 (fun _=>hD (by omega) (mkD1 rC7_5_0 rC7_5_1)) fun _=>hD (by omega) (mkD1 rC7_6_0 rC7_6_1)) fun _=>lg c 8 (fun _=>hD (by omega) (mkD2 rC7_7_0 rC7_7_1 rC7_7_2 rC7_7_3)) fun _=>hC rC7_8 (by omega) (by omega)) fun _=>lg c 14 (fun _=>lg c 12 (fun _=>lg c 11 (fun _=>hC rC7_10 (by omega) (by omega)) fun _=>hD (by omega) (mkD1 rC7_11_0 rC7_11_1)) fun _=>lg c 13 (fun _=>hC rC7_12 (by omega) (by omega)) fun _=>hD (by omega) (mkD1 rC7_13_0 rC7_13_1)) fun _=>lg c 16 (fun _=>lg c 15 (fun _=>hD (by omega) (mkD1 rC7_14_0 rC7_14_1)) fun _=>hD (by omega) (mkD2 rC7_15_0 rC7_15_1 rC7_15_2 rC7_15_3)) fun _=>lg c 19 (fun _=>hC rC7_16 (by omega) (by omega)) fun _=>hC rC7_19 (by omega) (by omega)) fun _=>lg c 30 (fun _=>lg c 26 (fun _=>lg c 23 (fun _=>lg c 22 (fun _=>hC rC7_21 (by omega) (by omega)) fun _=>hC rC7_22 (by omega) (by omega)) fun _=>lg c 24 (fun _=>hD (by omega) (mkD1 rC7_23_0 rC7_23_1)) fun _=>hC rC7_24 (by omega) (by omega)) fun _=>lg c 28 (fun _=>lg c 27 (fun _=>hC rC7_26 (by omega) (by omega)) fun _=>hD (by omega) (mkD1 rC7_27_0 rC7_27_1)) fun _=>lg c 29 (fun _=>hC rC7_28 (by omega) (by omega)) fun _=>hD (by omega) (mkD1 rC7_29_0 rC7_29_1)) fun _=>lg c 39 (fun _=>lg c 32 (fun _=>lg c 31 (fun _=>hD (by omega) (mkD1 rC7_30_0 rC7_30_1)) fun _=>hD (by omega) (mkD2 rC7_31_0 rC7_31_1 rC7_31_2 rC7_31_3)) fun _=>lg c 37 (fun _=>hC rC7_32 (by omega) (by omega)) fun _=>hC rC7_37 (by omega) (by omega)) fun _=>lg c 43 (fun _=>lg c 41 (fun _=>hC rC7_39 (by omega) (by omega)) fun _=>hC rC7_41 (by omega) (by omega)) fun _=>lg c 45 (fun _=>hC rC7_43 (by omega) (by omega)) fun _=>hC rC7_45 (by omega) (by omega)) fun _=>lg c 75 (fun _=>lg c 58 (fun _=>lg c 53 (fun _=>lg c 48 (fun _=>lg c 47 (fun _=>hC rC7_46 (by omega) (by omega)) fun _=>hD (by omega) (mkD1 rC7_47_0 rC7_47_1)) fun _=>lg c 51 (fun _=>hC rC7_48 (by omega) (by omega)) fun _=>hC rC7_51 (by omega) (by omega)) fun _=>lg c 55 (fun _=>lg c 54 (fun _=>hC rC7_53 (by omega) (by omega)) fun _=>hC rC7_54 (by omega) (by omega)) fun _=>lg c 56 (fun _=>hD (by omega) (mkD1 rC7_55_0 rC7_55_1)) fun _=>hC rC7_56 (by omega) (by omega)) fun _=>lg c 62 (fun _=>lg c 60 (fun _=>lg c 59 (fun _=>hC rC7_58 (by omega) (by omega)) fun _=>hD (by omega) (mkD1 rC7_59_0 rC7_59_1)) fun _=>lg c 61 (fun _=>hC rC7_60 (by omega) (by omega)) fun _=>hD (by omega) (mkD1 rC7_61_0 rC7_61_1)) fun _=>lg c 64 (fun _=>lg c 63 (fun _=>hD (by omega) (mkD1 rC7_62_0 rC7_62_1)) fun _=>hD (by omega) (mkD2 rC7_63_0 rC7_63_1 rC7_63_2 rC7_63_3)) fun _=>lg c 71 (fun _=>hC rC7_64 (by omega) (by omega)) fun _=>hC rC7_71 (by omega) (by omega)) fun _=>lg c 94 (fun _=>lg c 87 (fun _=>lg c 80 (fun _=>lg c 78 (fun _=>hC rC7_75 (by omega) (by omega)) fun _=>hC rC7_78 (by omega) (by omega)) fun _=>lg c 85 (fun _=>hC rC7_80 (by omega) (by omega)) fun _=>hC rC7_85 (by omega) (by omega)) fun _=>lg c 91 (fun _=>lg c 89 (fun _=>hC rC7_87 (by omega) (by omega)) fun _=>hC rC7_89 (by omega) (by omega)) fun _=>lg c 93 (fun _=>hC rC7_91 (by omega) (by omega)) fun _=>hC rC7_93 (by omega) (by omega)) fun _=>lg c 103 (fun _=>lg c 96 (fun _=>lg c 95 (fun _=>hC rC7_94 (by omega) (by omega)) fun _=>hD (by omega) (mkD1 rC7_95_0 rC7_95_1)) fun _=>lg c 101 (fun _=>hC rC7_96 (by omega) (by omega)) fun _=>hC rC7_101 (by omega) (by omega)) fun _=>lg c 107 (fun _=>lg c 105 (fun _=>hC rC7_103 (by omega) (by omega)) fun _=>hC rC7_105 (by omega) (by omega)) fun _=>lg c 109 (fun _=>hC rC7_107 (by omega) (by omega)) fun _=>hC rC7_109 (by omega) (by omega)) fun _=>lg c 192 (fun _=>lg c 145 (fun _=>lg c 122 (fun _=>lg c 117 (fun _=>lg c 112 (fun _=>lg c 111 (fun _=>hC rC7_110 (by omega) (by omega)) fun _=>hD (by omega) (mkD1 rC7_111_0 rC7_111_1)) fun _=>lg c 115 (fun _=>hC rC7_112 (by omega) (by omega)) fun _=>hC rC7_115 (by omega) (by omega)) fun _=>lg c 119 (fun _=>lg c 118 (fun _=>hC rC7_117 (by omega) (by omega)) fun _=>hC rC7_118 (by omega) (by omega)) fun _=>lg c 120 (fun _=>hD (by omega) (mkD1 rC7_119_0 rC7_119_1)) fun _=>hC rC7_120 (by omega) (by omega)) fun _=>lg c 126 (fun _=>lg c 124 (fun _=>lg c 123 (fun _=>hC rC7_122 (by omega) (by omega)) fun _=>hD (by omega) (mkD1 rC7_123_0 rC7_123_1)) fun _=>lg c 125 (fun _=>hC rC7_124 (by omega) (by omega)) fun _=>hD (by omega) (mkD1 rC7_125_0 rC7_125_1)) fun _=>lg c 128 (fun _=>lg c 127 (fun _=>hD (by omega) (mkD1 rC7_126_0 rC7_126_1)) fun _=>hD (by omega) (mkD2 rC7_127_0 rC7_127_1 rC7_127_2 rC7_127_3)) fun _=>lg c 139 (fun _=>hC rC7_128 (by omega) (by omega)) fun _=>hC rC7_139 (by omega) (by omega)) fun _=>lg c 176 (fun _=>lg c 160 (fun _=>lg c 155 (fun _=>lg c 151 (fun _=>hC rC7_145 (by omega) (by omega)) fun _=>hC rC7_151 (by omega) (by omega)) fun _=>lg c 158 (fun _=>hC rC7_155 (by omega) (by omega)) fun _=>hC rC7_158 (by omega) (by omega)) fun _=>lg c 171 (fun _=>lg c 167 (fun _=>hC rC7_160 (by omega) (by omega)) fun _=>hC rC7_167 (by omega) (by omega)) fun _=>lg c 174 (fun _=>hC rC7_171 (by omega) (by omega)) fun _=>hC rC7_174 (by omega) (by omega)) fun _=>lg c 187 (fun _=>lg c 183 (fun _=>lg c 181 (fun _=>hC rC7_176 (by omega) (by omega)) fun _=>hC rC7_181 (by omega) (by omega)) fun _=>lg c 185 (fun _=>hC rC7_183 (by omega) (by omega)) fun _=>hC rC7_185 (by omega) (by omega)) fun _=>lg c 190 (fun _=>lg c 189 (fun _=>hC rC7_187 (by omega) (by omega)) fun _=>hC rC7_189 (by omega) (by omega)) fun _=>lg c 191 (fun _=>hC rC7_190 (by omega) (by omega)) fun _=>hD (by omega) (mkD1 rC7_191_0 rC7_191_1)) fun _=>lg c 235 (fun _=>lg c 219 (fun _=>lg c 208 (fun _=>lg c 203 (fun _=>lg c 199 (fun _=>hC rC7_192 (by omega) (by omega)) fun _=>hC rC7_199 (by omega) (by omega)) fun _=>lg c 206 (fun _=>hC rC7_203 (by omega) (by omega)) fun _=>hC rC7_206 (by omega) (by omega)) fun _=>lg c 215 (fun _=>lg c 213 (fun _=>hC rC7_208 (by omega) (by omega)) fun _=>hC rC7_213 (by omega) (by omega)) fun _=>lg c 217 (fun _=>hC rC7_215 (by omega) (by omega)) fun _=>hC rC7_217 (by omega) (by omega)) fun _=>lg c 224 (fun _=>lg c 222 (fun _=>lg c 221 (fun _=>hC rC7_219 (by omega) (by omega)) fun _=>hC rC7_221 (by omega) (by omega)) fun _=>lg c 223 (fun _=>hC rC7_222 (by omega) (by omega)) fun _=>hD (by omega) (mkD1 rC7_223_0 rC7_223_1)) fun _=>lg c 231 (fun _=>lg c 229 (fun _=>hC rC7_224 (by omega) (by omega)) fun _=>hC rC7_229 (by omega) (by omega)) fun _=>lg c 233 (fun _=>hC rC7_231 (by omega) (by omega)) fun _=>hC rC7_233 (by omega) (by omega)) fun _=>lg c 247 (fun _=>lg c 240 (fun _=>lg c 238 (fun _=>lg c 237 (fun _=>hC rC7_235 (by omega) (by omega)) fun _=>hC rC7_237 (by omega) (by omega)) fun _=>lg c 239 (fun _=>hC rC7_238 (by omega) (by omega)) fun _=>hD (by omega) (mkD1 rC7_239_0 rC7_239_1)) fun _=>lg c 245 (fun _=>lg c 243 (fun _=>hC rC7_240 (by omega) (by omega)) fun _=>hC rC7_243 (by omega) (by omega)) fun _=>lg c 246 (fun _=>hC rC7_245 (by omega) (by omega)) fun _=>hC rC7_246 (by omega) (by omega)) fun _=>lg c 252 (fun _=>lg c 250 (fun _=>lg c 248 (fun _=>hD (by omega) (mkD1 rC7_247_0 rC7_247_1)) fun _=>hC rC7_248 (by omega) (by omega)) fun _=>lg c 251 (fun _=>hC rC7_250 (by omega) (by omega)) fun _=>hD (by omega) (mkD1 rC7_251_0 rC7_251_1)) fun _=>lg c 254 (fun _=>lg c 253 (fun _=>hC rC7_252 (by omega) (by omega)) fun _=>hD (by omega) (mkD1 rC7_253_0 rC7_253_1)) fun _=>lg c 255 (fun _=>hD (by omega) (mkD1 rC7_254_0 rC7_254_1)) fun _=>hD (by omega) (mkD2 rC7_255_0 rC7_255_1 rC7_255_2 rC7_255_3)
theorem sB8 (c:Nat) (h1:1≤c) (h2:c<256):GB (tsB 8 c):=lg c 73 (fun _=>lg c 33 (fun _=>lg c 17 (fun _=>lg c 9 (fun _=>hB rB8_1 (by omega) (by omega)) fun _=>hB rB8_9 (by omega) (by omega)) fun _=>lg c 25 (fun _=>hB rB8_17 (by omega) (by omega)) fun _=>hB rB8_25 (by omega) (by omega)) fun _=>lg c 49 (fun _=>lg c 41 (fun _=>hB rB8_33 (by omega) (by omega)) fun _=>hB rB8_41 (by omega) (by omega)) fun _=>lg c 57 (fun _=>hB rB8_49 (by omega) (by omega)) fun _=>lg c 65 (fun _=>hB rB8_57 (by omega) (by omega)) fun _=>hB rB8_65 (by omega) (by omega)) fun _=>lg c 113 (fun _=>lg c 89 (fun _=>lg c 81 (fun _=>hB rB8_73 (by omega) (by omega)) fun _=>hB rB8_81 (by omega) (by omega)) fun _=>lg c 97 (fun _=>hB rB8_89 (by omega) (by omega)) fun _=>lg c 105 (fun _=>hB rB8_97 (by omega) (by omega)) fun _=>hB rB8_105 (by omega) (by omega)) fun _=>lg c 136 (fun _=>lg c 121 (fun _=>hB rB8_113 (by omega) (by omega)) fun _=>hB rB8_121 (by omega) (by omega)) fun _=>lg c 186 (fun _=>hB rB8_136 (by omega) (by omega)) fun _=>lg c 236 (fun _=>hB rB8_186 (by omega) (by omega)) fun _=>hB rB8_236 (by omega) (by omega)
theorem sC8 (c:Nat) (h1:1≤c) (h2:c<256):GC (tsC 8 c):=lg c 115 (fun _=>lg c 52 (fun _=>lg c 24 (fun _=>lg c 12 (fun _=>lg c 6 (fun _=>lg c 3 (fun _=>lg c 2 (fun _=>hD (by omega) (mkD3 rC8_1_0 rC8_1_1 rC8_1_2 rC8_1_3 rC8_1_4 rC8_1_5 rC8_1_6 rC8_1_7)) fun _=>hD (by omega) (mkD2 rC8_2_0 rC8_2_1 rC8_2_2 rC8_2_3)) fun _=>lg c 4 (fun _=>hD (by omega) (mkD3 rC8_3_0 rC8_3_1 rC8_3_2 rC8_3_3 rC8_3_4 rC8_3_5 rC8_3_6 rC8_3_7)) fun _=>lg c 5 (fun _=>hD (by omega) (mkD1 rC8_4_0 rC8_4_1)) fun _=>hD (by omega) (mkD2 rC8_5_0 rC8_5_1 rC8_5_2 rC8_5_3)) fun _=>lg c 9 (fun _=>lg c 7 (fun _=>hD (by omega) (mkD2 rC8_6_0 rC8_6_1 rC8_6_2 rC8_6_3)) fun _=>lg c 8 (fun _=>hD (by omega) (mkD3 rC8_7_0 rC8_7_1 rC8_7_2 rC8_7_3 rC8_7_4 rC8_7_5 rC8_7_6 rC8_7_7)) fun _=>hC rC8_8 (by omega) (by omega)) fun _=>lg c 10 (fun _=>hD (by omega) (mkD1 rC8_9_0 rC8_9_1)) fun _=>lg c 11 (fun _=>hD (by omega) (mkD1 rC8_10_0 rC8_10_1)) fun _=>hD (by omega) (mkD2 rC8_11_0 rC8_11_1 rC8_11_2 rC8_11_3)) fun _=>lg c 18 (fun _=>lg c 14 (fun _=>lg c 13 (fun _=>hD (by omega) (mkD1 rC8_12_0 rC8_12_1)) fun _=>hD (by omega) (mkD2 rC8_13_0 rC8_13_1 rC8_13_2 rC8_13_3)) fun _=>lg c 15 (fun _=>hD (by omega) (mkD2 rC8_14_0 rC8_14_1 rC8_14_2 rC8_14_3)) fun _=>lg c 16 (fun _=>hD (by omega) (mkD3 rC8_15_0 rC8_15_1 rC8_15_2 rC8_15_3 rC8_15_4 rC8_15_5 rC8_15_6 rC8_15_7)) fun _=>hC rC8_16 (by omega) (by omega)) fun _=>lg c 21 (fun _=>lg c 19 (fun _=>hC rC8_18 (by omega) (by omega)) fun _=>lg c 20 (fun _=>hD (by omega) (mkD1 rC8_19_0 rC8_19_1)) fun _=>hC rC8_20 (by omega) (by omega)) fun _=>lg c 22 (fun _=>hD (by omega) (mkD1 rC8_21_0 rC8_21_1)) fun _=>lg c 23 (fun _=>hD (by omega) (mkD1 rC8_22_0 rC8_22_1)) fun _=>hD (by omega) (mkD2 rC8_23_0 rC8_23_1 rC8_23_2 rC8_23_3)) fun _=>lg c 38 (fun _=>lg c 29 (fun _=>lg c 26 (fun _=>lg c 25 (fun _=>hC rC8_24 (by omega) (by omega)) fun _=>hD (by omega) (mkD1 rC8_25_0 rC8_25_1)) fun _=>lg c 27 (fun _=>hD (by omega) (mkD1 rC8_26_0 rC8_26_1)) fun _=>lg c 28 (fun _=>hD (by omega) (mkD2 rC8_27_0 rC8_27_1 rC8_27_2 rC8_27_3)) fun _=>hD (by omega) (mkD1 rC8_28_0 rC8_28_1)) fun _=>lg c 32 (fun _=>lg c 30 (fun _=>hD (by omega) (mkD2 rC8_29_0 rC8_29_1 rC8_29_2 rC8_29_3)) fun _=>lg c 31 (fun _=>hD (by omega) (mkD2 rC8_30_0 rC8_30_1 rC8_30_2 rC8_30_3)) fun _=>hD (by omega) (mkD3 rC8_31_0 rC8_31_1 rC8_31_2 rC8_31_3 rC8_31_4 rC8_31_5 rC8_31_6 rC8_31_7)) fun _=>lg c 35 (fun _=>hC rC8_32 (by omega) (by omega)) fun _=>lg c 37 (fun _=>hC rC8_35 (by omega) (by omega)) fun _=>hC rC8_37 (by omega) (by omega)) fun _=>lg c 45 (fun _=>lg c 42 (fun _=>lg c 39 (fun _=>hC rC8_38 (by omega) (by omega)) fun _=>lg c 40 (fun _=>hD (by omega) (mkD1 rC8_39_0 rC8_39_1)) fun _=>hC rC8_40 (by omega) (by omega)) fun _=>lg c 43 (fun _=>hC rC8_42 (by omega) (by omega)) fun _=>lg c 44 (fun _=>hD (by omega) (mkD1 rC8_43_0 rC8_43_1)) fun _=>hC rC8_44 (by omega) (by omega)) fun _=>lg c 48 (fun _=>lg c 46 (fun _=>hD (by omega) (mkD1 rC8_45_0 rC8_45_1)) fun _=>lg c 47 (fun _=>hD (by omega) (mkD1 rC8_46_0 rC8_46_1)) fun _=>hD (by omega) (mkD2 rC8_47_0 rC8_47_1 rC8_47_2 rC8_47_3)) fun _=>lg c 50 (fun _=>hC rC8_48 (by omega) (by omega)) fun _=>lg c 51 (fun _=>hC rC8_50 (by omega) (by omega)) fun _=>hD (by omega) (mkD1 rC8_51_0 rC8_51_1)) fun _=>lg c 86 (fun _=>lg c 63 (fun _=>lg c 57 (fun _=>lg c 54 (fun _=>lg c 53 (fun _=>hC rC8_52 (by omega) (by omega)) fun _=>hD (by omega) (mkD1 rC8_53_0 rC8_53_1)) fun _=>lg c 55 (fun _=>hD (by omega) (mkD1 rC8_54_0 rC8_54_1)) fun _=>lg c 56 (fun _=>hD (by omega) (mkD2 rC8_55_0 rC8_55_1 rC8_55_2 rC8_55_3)) fun _=>hC rC8_56 (by omega) (by omega)) fun _=>lg c 60 (fun _=>lg c 58 (fun _=>hD (by omega) (mkD1 rC8_57_0 rC8_57_1)) fun _=>lg c 59 (fun _=>hD (by omega) (mkD1 rC8_58_0 rC8_58_1)) fun _=>hD (by omega) (mkD2 rC8_59_0 rC8_59_1 rC8_59_2 rC8_59_3)) fun _=>lg c 61 (fun _=>hD (by omega) (mkD1 rC8_60_0 rC8_60_1)) fun _=>lg c 62 (fun _=>hD (by omega) (mkD2 rC8_61_0 rC8_61_1 rC8_61_2 rC8_61_3)) fun _=>hD (by omega) (mkD2 rC8_62_0 rC8_62_1 rC8_62_2 rC8_62_3)) fun _=>lg c 77 (fun _=>lg c 71 (fun _=>lg c 64 (fun _=>hD (by omega) (mkD3 rC8_63_0 rC8_63_1 rC8_63_2 rC8_63_3 rC8_63_4 rC8_63_5 rC8_63_6 rC8_63_7)) fun _=>lg c 69 (fun _=>hC rC8_64 (by omega) (by omega)) fun _=>hC rC8_69 (by omega) (by omega)) fun _=>lg c 73 (fun _=>hC rC8_71 (by omega) (by omega)) fun _=>lg c 75 (fun _=>hC rC8_73 (by omega) (by omega)) fun _=>hC rC8_75 (by omega) (by omega)) fun _=>lg c 80 (fun _=>lg c 78 (fun _=>hC rC8_77 (by omega) (by omega)) fun _=>lg c 79 (fun _=>hC rC8_78 (by omega) (by omega)) fun _=>hD (by omega) (mkD1 rC8_79_0 rC8_79_1)) fun _=>lg c 83 (fun _=>hC rC8_80 (by omega) (by omega)) fun _=>lg c 85 (fun _=>hC rC8_83 (by omega) (by omega)) fun _=>hC rC8_85 (by omega) (by omega)) fun _=>lg c 101 (fun _=>lg c 92 (fun _=>lg c 88 (fun _=>lg c 87 (fun _=>hC rC8_86 (by omega) (by omega)) fun _=>hD (by omega) (mkD1 rC8_87_0 rC8_87_1)) fun _=>lg c 90 (fun _=>hC rC8_88 (by omega) (by omega)) fun _=>lg c 91 (fun _=>hC rC8_90 (by omega) (by omega)) fun _=>hD (by omega) (mkD1 rC8_91_0 rC8_91_1)) fun _=>lg c 95 (fun _=>lg c 93 (fun _=>hC rC8_92 (by omega) (by omega)) fun _=>lg c 94 (fun _=>hD (by omega) (mkD1 rC8_93_0 rC8_93_1)) fun _=>hD (by omega) (mkD1 rC8_94_0 rC8_94_1)) fun _=>lg c 96 (fun _=>hD (by omega) (mkD2 rC8_95_0 rC8_95_1 rC8_95_2 rC8_95_3)) fun _=>lg c 99 (fun _=>hC rC8_96 (by omega) (by omega)) fun _=>hC rC8_99 (by omega) (by omega)) fun _=>lg c 108 (fun _=>lg c 104 (fun _=>lg c 102 (fun _=>hC rC8_101 (by omega) (by omega)) fun _=>lg c 103 (fun _=>hC rC8_102 (by omega) (by omega)) fun _=>hD (by omega) (mkD1 rC8_103_0 rC8_103_1)) fun _=>lg c 106 (fun _=>hC rC8_104 (by omega) (by omega)) fun _=>lg c 107 (fun _=>hC rC8_106 (by omega) (by omega)) fun _=>hD (by omega) (mkD1 rC8_107_0 rC8_107_1)) fun _=>lg c 111 (fun _=>lg c 109 (fun _=>hC rC8_108 (by omega) (by omega)) fun _=>lg c 110 (fun _=>hD (by omega) (mkD1 rC8_109_0 rC8_109_1)) fun _=>hD (by omega) (mkD1 rC8_110_0 rC8_110_1)) fun _=>lg c 112 (fun _=>hD (by omega) (mkD2 rC8_111_0 rC8_111_1 rC8_111_2 rC8_111_3)) fun _=>lg c 114 (fun _=>hC rC8_112 (by omega) (by omega)) fun _=>hC rC8_114 (by omega) (by omega)) fun _=>lg c 197 (fun _=>lg c 158 (fun _=>lg c 126 (fun _=>lg c 120 (fun _=>lg c 117 (fun _=>lg c 116 (fun _=>hD (by omega) (mkD1 rC8_115_0 rC8_115_1)) fun _=>hC rC8_116 (by omega) (by omega)) fun _=>lg c 118 (fun _=>hD (by omega) (mkD1 rC8_117_0 rC8_117_1)) fun _=>lg c 119 (fun _=>hD (by omega) (mkD1 rC8_118_0 rC8_118_1)) fun _=>hD (by omega) (mkD2 rC8_119_0 rC8_119_1 rC8_119_2 rC8_119_3)) fun _=>lg c 123 (fun _=>lg c 121 (fun _=>hC rC8_120 (by omega) (by omega)) fun _=>lg c 122 (fun _=>hD (by omega) (mkD1 rC8_121_0 rC8_121_1)) fun _=>hD (by omega) (mkD1 rC8_122_0 rC8_122_1)) fun _=>lg c 124 (fun _=>hD (by omega) (mkD2 rC8_123_0 rC8_123_1 rC8_123_2 rC8_123_3)) fun _=>lg c 125 (fun _=>hD (by omega) (mkD1 rC8_124_0 rC8_124_1)) fun _=>hD (by omega) (mkD2 rC8_125_0 rC8_125_1 rC8_125_2 rC8_125_3)) fun _=>lg c 144 (fun _=>lg c 135 (fun _=>lg c 127 (fun _=>hD (by omega) (mkD2 rC8_126_0 rC8_126_1 rC8_126_2 rC8_126_3)) fun _=>lg c 128 (fun _=>hD (by omega) (mkD3 rC8_127_0 rC8_127_1 rC8_127_2 rC8_127_3 rC8_127_4 rC8_127_5 rC8_127_6 rC8_127_7)) fun _=>hC rC8_128 (by omega) (by omega)) fun _=>lg c 139 (fun _=>hC rC8_135 (by omega) (by omega)) fun _=>lg c 142 (fun _=>hC rC8_139 (by omega) (by omega)) fun _=>hC rC8_142 (by omega) (by omega)) fun _=>lg c 153 (fun _=>lg c 149 (fun _=>hC rC8_144 (by omega) (by omega)) fun _=>lg c 151 (fun _=>hC rC8_149 (by omega) (by omega)) fun _=>hC rC8_151 (by omega) (by omega)) fun _=>lg c 155 (fun _=>hC rC8_153 (by omega) (by omega)) fun _=>lg c 157 (fun _=>hC rC8_155 (by omega) (by omega)) fun _=>hC rC8_157 (by omega) (by omega)) fun _=>lg c 179 (fun _=>lg c 169 (fun _=>lg c 160 (fun _=>lg c 159 (fun _=>hC rC8_158 (by omega) (by omega)) fun _=>hD (by omega) (mkD1 rC8_159_0 rC8_159_1)) fun _=>lg c 165 (fun _=>hC rC8_160 (by omega) (by omega)) fun _=>lg c 167 (fun _=>hC rC8_165 (by omega) (by omega)) fun _=>hC rC8_167 (by omega) (by omega)) fun _=>lg c 174 (fun _=>lg c 171 (fun _=>hC rC8_169 (by omega) (by omega)) fun _=>lg c 173 (fun _=>hC rC8_171 (by omega) (by omega)) fun _=>hC rC8_173 (by omega) (by omega)) fun _=>lg c 175 (fun _=>hC rC8_174 (by omega) (by omega)) fun _=>lg c 176 (fun _=>hD (by omega) (mkD1 rC8_175_0 rC8_175_1)) fun _=>hC rC8_176 (by omega) (by omega)) fun _=>lg c 187 (fun _=>lg c 183 (fun _=>lg c 181 (fun _=>hC rC8_179 (by omega) (by omega)) fun _=>lg c 182 (fun _=>hC rC8_181 (by omega) (by omega)) fun _=>hC rC8_182 (by omega) (by omega)) fun _=>lg c 184 (fun _=>hD (by omega) (mkD1 rC8_183_0 rC8_183_1)) fun _=>lg c 186 (fun _=>hC rC8_184 (by omega) (by omega)) fun _=>hC rC8_186 (by omega) (by omega)) fun _=>lg c 190 (fun _=>lg c 188 (fun _=>hD (by omega) (mkD1 rC8_187_0 rC8_187_1)) fun _=>lg c 189 (fun _=>hC rC8_188 (by omega) (by omega)) fun _=>hD (by omega) (mkD1 rC8_189_0 rC8_189_1)) fun _=>lg c 191 (fun _=>hD (by omega) (mkD1 rC8_190_0 rC8_190_1)) fun _=>lg c 192 (fun _=>hD (by omega) (mkD2 rC8_191_0 rC8_191_1 rC8_191_2 rC8_191_3)) fun _=>hC rC8_192 (by omega) (by omega)) fun _=>lg c 231 (fun _=>lg c 215 (fun _=>lg c 206 (fun _=>lg c 201 (fun _=>lg c 199 (fun _=>hC rC8_197 (by omega) (by omega)) fun _=>hC rC8_199 (by omega) (by omega)) fun _=>lg c 203 (fun _=>hC rC8_201 (by omega) (by omega)) fun _=>lg c 205 (fun _=>hC rC8_203 (by omega) (by omega)) fun _=>hC rC8_205 (by omega) (by omega)) fun _=>lg c 211 (fun _=>lg c 207 (fun _=>hC rC8_206 (by omega) (by omega)) fun _=>lg c 208 (fun _=>hD (by omega) (mkD1 rC8_207_0 rC8_207_1)) fun _=>hC rC8_208 (by omega) (by omega)) fun _=>lg c 213 (fun _=>hC rC8_211 (by omega) (by omega)) fun _=>lg c 214 (fun _=>hC rC8_213 (by omega) (by omega)) fun _=>hC rC8_214 (by omega) (by omega)) fun _=>lg c 222 (fun _=>lg c 219 (fun _=>lg c 216 (fun _=>hD (by omega) (mkD1 rC8_215_0 rC8_215_1)) fun _=>lg c 218 (fun _=>hC rC8_216 (by omega) (by omega)) fun _=>hC rC8_218 (by omega) (by omega)) fun _=>lg c 220 (fun _=>hD (by omega) (mkD1 rC8_219_0 rC8_219_1)) fun _=>lg c 221 (fun _=>hC rC8_220 (by omega) (by omega)) fun _=>hD (by omega) (mkD1 rC8_221_0 rC8_221_1)) fun _=>lg c 227 (fun _=>lg c 223 (fun _=>hD (by omega) (mkD1 rC8_222_0 rC8_222_1)) fun _=>lg c 224 (fun _=>hD (by omega) (mkD2 rC8_223_0 rC8_223_1 rC8_223_2 rC8_223_3)) fun _=>hC rC8_224 (by omega) (by omega)) fun _=>lg c 229 (fun _=>hC rC8_227 (by omega) (by omega)) fun _=>lg c 230 (fun _=>hC rC8_229 (by omega) (by omega)) fun _=>hC rC8_230 (by omega) (by omega)) fun _=>lg c 244 (fun _=>lg c 237 (fun _=>lg c 234 (fun _=>lg c 232 (fun _=>hD (by omega) (mkD1 rC8_231_0 rC8_231_1)) fun _=>hC rC8_232 (by omega) (by omega)) fun _=>lg c 235 (fun _=>hC rC8_234 (by omega) (by omega)) fun _=>lg c 236 (fun _=>hD (by omega) (mkD1 rC8_235_0 rC8_235_1)) fun _=>hC rC8_236 (by omega) (by omega)) fun _=>lg c 240 (fun _=>lg c 238 (fun _=>hD (by omega) (mkD1 rC8_237_0 rC8_237_1)) fun _=>lg c 239 (fun _=>hD (by omega) (mkD1 rC8_238_0 rC8_238_1)) fun _=>hD (by omega) (mkD2 rC8_239_0 rC8_239_1 rC8_239_2 rC8_239_3)) fun _=>lg c 242 (fun _=>hC rC8_240 (by omega) (by omega)) fun _=>lg c 243 (fun _=>hC rC8_242 (by omega) (by omega)) fun _=>hD (by omega) (mkD1 rC8_243_0 rC8_243_1)) fun _=>lg c 250 (fun _=>lg c 247 (fun _=>lg c 245 (fun _=>hC rC8_244 (by omega) (by omega)) fun _=>lg c 246 (fun _=>hD (by omega) (mkD1 rC8_245_0 rC8_245_1)) fun _=>hD (by omega) (mkD1 rC8_246_0 rC8_246_1)) fun _=>lg c 248 (fun _=>hD (by omega) (mkD2 rC8_247_0 rC8_247_1 rC8_247_2 rC8_247_3)) fun _=>lg c 249 (fun _=>hC rC8_248 (by omega) (by omega)) fun _=>hD (by omega) (mkD1 rC8_249_0 rC8_249_1)) fun _=>lg c 253 (fun _=>lg c 251 (fun _=>hD (by omega) (mkD1 rC8_250_0 rC8_250_1)) fun _=>lg c 252 (fun _=>hD (by omega) (mkD2 rC8_251_0 rC8_251_1 rC8_251_2 rC8_251_3)) fun _=>hD (by omega) (mkD1 rC8_252_0 rC8_252_1)) fun _=>lg c 254 (fun _=>hD (by omega) (mkD2 rC8_253_0 rC8_253_1 rC8_253_2 rC8_253_3)) fun _=>lg c 255 (fun _=>hD (by omega) (mkD2 rC8_254_0 rC8_254_1 rC8_254_2 rC8_254_3)) fun _=>hD (by omega) (mkD3 rC8_255_0 rC8_255_1 rC8_255_2 rC8_255_3 rC8_255_4 rC8_255_5 rC8_255_6 rC8_255_7)
theorem gB_good (k:Nat) (h0:k<757):GB (gB k):=cond_ble (fun h=>sB8 _ (by omega) (by omega)) (fun h=>cond_ble (fun h=>sB7 _ (by omega) (by omega)) (fun h=>cond_ble (fun h=>sB6 _ (by omega) (by omega)) (fun h=>cond_ble (fun h=>sB5 _ (by omega) (by omega)) (fun h=>cond_ble (fun h=>sB4 _ (by omega) (by omega)) (fun h=>cond_ble (fun h=>sB3 _ (by omega) (by omega)) (fun h=>cond_ble (fun h=>sB2 _ (by omega) (by omega)) (fun h=>cond_ble (fun h=>sB1 _ (by omega) (by omega)) (fun h=>sB0 _ (by omega) (by omega)))))))))
theorem goodB:AllS GB TsB:=mkTs_all gB_good (Nat.le_refl _)
theorem gC_good (k:Nat) (h0:k<757):GC (gC k):=cond_ble (fun h=>sC8 _ (by omega) (by omega)) (fun h=>cond_ble (fun h=>sC7 _ (by omega) (by omega)) (fun h=>cond_ble (fun h=>sC6 _ (by omega) (by omega)) (fun h=>cond_ble (fun h=>sC5 _ (by omega) (by omega)) (fun h=>cond_ble (fun h=>sC4 _ (by omega) (by omega)) (fun h=>cond_ble (fun h=>sC3 _ (by omega) (by omega)) (fun h=>cond_ble (fun h=>sC2 _ (by omega) (by omega)) (fun h=>cond_ble (fun h=>sC1 _ (by omega) (by omega)) (fun h=>sC0 _ (by omega) (by omega)))))))))
theorem goodC:AllS GC TsC:=mkTs_all gC_good (Nat.le_refl _)
theorem boundA:boundIs 40 TsA=true:=by kernel_rfl
theorem boundB:boundIs 40 TsB=true:=by kernel_rfl
theorem compL:compFn Tryz.prog 3=.mk ccL rsL:=c3_ok.symm.trans rfl
def lsS:List Lf:=match leaves ksL trS eS0 with
 | some ls=>ls
 | none=>[]
theorem vS:leaves ksL trS eS0=some lsS:=by kernel_rfl
def wayS (s:Nat→Int) (A:Key→Option Value) (i:Nat):Bool:=match nth lsS i with
 | some e=>startN Tryz.prog codeN nat0 1000 100 wsL lensL TsA pthA ccL argsL n1 s (e.known A) [nA i 0]
 | none=>false
theorem ways:∀ s A,statesM (wayS s A) 0 9=true:=by
 intro s A
 kernel_rfl
theorem lenS:Nat.beq lsS.length 9=true:=by kernel_rfl
theorem allSt:AllG (fun e=>∀ (s:Nat→Int) (A:Key→Option Value),∃ hs,startOf Tryz.prog codeN nat0 1000 100 wsL lensL TsA pthA ccL argsL n1 (linSym s (e.known A)) (e.known A) hs=true) lsS:=allG_of fun e he s A=>by
 obtain ⟨i,hi,hie⟩:=List.mem_iff_getElem.1 he
 have hl:=Nat.eq_of_beq_eq_true lenS
 have h:=statesM_all (ways s A) i (Nat.zero_le _) (by omega)
 unfold wayS at h
 rw [@nth_eq noSym,List.getElem?_eq_getElem hi,hie] at h
 exact startN_ok h
theorem pathsL {c:Code} (hb:Tryz.f3.body=some c):(∃ xa xb bl,atC [.r,.r,.r,.r,.r,.r,.r] c=some (.seq xa xb)∧subC pthB c=some bl)∧(∃ xa xb bl,atC [.r,.r,.r,.r,.r,.r,.r,.r,.r] c=some (.seq xa xb)∧subC pthC c=some bl):=by
 obtain rfl:=Option.some.inj (((show Tryz.f3.body=some _ from rfl):Tryz.f3.body=some _).symm.trans hb)
 exact ⟨⟨_,_,_,rfl,rfl⟩,⟨_,_,_,rfl,rfl⟩⟩
/-! ## the arguments -/
def pw (j y:Nat):Win:=⟨wq j,0,some ⟨0,0,none⟩,0,0,y,y,y⟩
def winsH (w0:Win) (g:Nat→Nat):List Win:=[w0,pw 0 (g 0),pw 1 (g 1),pw 2 (g 2),pw 3 (g 3),pw 4 (g 4),pw 5 (g 5),pw 6 (g 6),pw 7 (g 7)]
section
variable {W:World} {w0:Win} {v0:Value} {g:Nat→Nat}
structure ArgH (W:World) (w0:Win) (v0:Value) (g:Nat→Nat):Prop where
 k0:w0.key=wk0
 z0:w0.esz=0
 val:v0=.slice w0.base w0.len w0.cap
 base:0<w0.len→w0.base=some ⟨w0.B,w0.x,none⟩
 size:w0.sz=w0.x+w0.cap*1
 cap:w0.len≤w0.cap
 g2:∀ t,g t≤2
 cell:∀ t,t<w0.len→∃ arr elem fz z,W.heap[w0.B]? = some (.cells arr elem fz)∧w0.x+t+1≤arr.size∧arr[w0.x+t]? = some (.int .i64 z)∧(g t:Int)=wI z
/-- what is asked for of an int, chosen -/
theorem argH {v:Value} {bs:Option Addr} {B x len cap sz:Nat} (h:IntArg W v ⟨wk0,1,bs,B,x,len,cap,sz⟩):∃ g,ArgH W ⟨wk0,0,bs,B,x,len,cap,sz⟩ v g:=by
 have key:∀ t:Nat,∃ y:Nat,y≤2∧(t<len→∃ arr elem fz z,W.heap[B]? = some (.cells arr elem fz)∧x+t+1≤arr.size∧arr[x+t]? = some (.int .i64 z)∧(y:Int)=wI z):=by
  intro t
  by_cases ht:t<len
  · obtain ⟨arr,elem,fz,z,h1,h2,h3⟩:=h.cell t ht
    have hz:=wI_bounds z
    exact ⟨(wI z).toNat,by omega,fun _=>⟨arr,elem,fz,z,h1,h2,h3,by omega⟩⟩
  · exact ⟨0,by omega,fun h=>absurd h ht⟩
 exact ⟨fun t=>(key t).choose,rfl,rfl,h.val,h.base,h.size,h.cap,fun t=>(key t).choose_spec.1,fun t=>(key t).choose_spec.2⟩
theorem findH_yes {w:Win} {r:List Win} {k:Key} (h:w.key=k):findW (w::r) k=some w:=by
 subst h
 show (match decide (w.key=w.key) with | true=>some w | false=>findW r w.key)=some w
 rw [decide_eq_true rfl]
theorem findH_no {w:Win} {r:List Win} {k j:Key} (h:w.key=j) (hn:decide (j=k)=false):findW (w::r) k=findW r k:=by
 subst h
 show (match decide (w.key=k) with | true=>some w | false=>findW r k)=findW r k
 rw [hn]
theorem fH (hx:ArgH W w0 v0 g):findW (winsH w0 g) wk0=some w0:=findH_yes hx.k0
theorem fH0 (hx:ArgH W w0 v0 g):findW (winsH w0 g) (wq 0)=some (pw 0 (g 0)):=(findH_no hx.k0 rfl).trans (findH_yes rfl)
theorem fH1 (hx:ArgH W w0 v0 g):findW (winsH w0 g) (wq 1)=some (pw 1 (g 1)):=(findH_no hx.k0 rfl).trans ((findH_no (j:=wq 0) rfl rfl).trans (findH_yes rfl))
theorem fH2 (hx:ArgH W w0 v0 g):findW (winsH w0 g) (wq 2)=some (pw 2 (g 2)):=(findH_no hx.k0 rfl).trans ((findH_no (j:=wq 0) rfl rfl).trans ((findH_no (j:=wq 1) rfl rfl).trans (findH_yes rfl)))
theorem fH3 (hx:ArgH W w0 v0 g):findW (winsH w0 g) (wq 3)=some (pw 3 (g 3)):=(findH_no hx.k0 rfl).trans ((findH_no (j:=wq 0) rfl rfl).trans ((findH_no (j:=wq 1) rfl rfl).trans ((findH_no (j:=wq 2) rfl rfl).trans (findH_yes rfl))))
theorem fH4 (hx:ArgH W w0 v0 g):findW (winsH w0 g) (wq 4)=some (pw 4 (g 4)):=(findH_no hx.k0 rfl).trans ((findH_no (j:=wq 0) rfl rfl).trans ((findH_no (j:=wq 1) rfl rfl).trans ((findH_no (j:=wq 2) rfl rfl).trans ((findH_no (j:=wq 3) rfl rfl).trans (findH_yes rfl)))))
theorem fH5 (hx:ArgH W w0 v0 g):findW (winsH w0 g) (wq 5)=some (pw 5 (g 5)):=(findH_no hx.k0 rfl).trans ((findH_no (j:=wq 0) rfl rfl).trans ((findH_no (j:=wq 1) rfl rfl).trans ((findH_no (j:=wq 2) rfl rfl).trans ((findH_no (j:=wq 3) rfl rfl).trans ((findH_no (j:=wq 4) rfl rfl).trans (findH_yes rfl))))))
theorem fH6 (hx:ArgH W w0 v0 g):findW (winsH w0 g) (wq 6)=some (pw 6 (g 6)):=(findH_no hx.k0 rfl).trans ((findH_no (j:=wq 0) rfl rfl).trans ((findH_no (j:=wq 1) rfl rfl).trans ((findH_no (j:=wq 2) rfl rfl).trans ((findH_no (j:=wq 3) rfl rfl).trans ((findH_no (j:=wq 4) rfl rfl).trans ((findH_no (j:=wq 5) rfl rfl).trans (findH_yes rfl)))))))
theorem fH7 (hx:ArgH W w0 v0 g):findW (winsH w0 g) (wq 7)=some (pw 7 (g 7)):=(findH_no hx.k0 rfl).trans ((findH_no (j:=wq 0) rfl rfl).trans ((findH_no (j:=wq 1) rfl rfl).trans ((findH_no (j:=wq 2) rfl rfl).trans ((findH_no (j:=wq 3) rfl rfl).trans ((findH_no (j:=wq 4) rfl rfl).trans ((findH_no (j:=wq 5) rfl rfl).trans ((findH_no (j:=wq 6) rfl rfl).trans (findH_yes rfl))))))))
theorem winisH (hx:ArgH W w0 v0 g) (σ:Nat→Int) (hl:LensAre (winsH w0 g) lensL σ):WinIs (winsH w0 g) W σ ksL:=by
 refine ⟨fun j k hj=>?_,fun j k f n ki wn wi hj=>?_,fun j k f wn t hj hw ht h8=>?_⟩
 · match j,hj with
   | 0,hj=>
    obtain rfl:(wk0,Kd.w 1)=k:=Option.some.inj hj
    exact ⟨w0,v0,by rw [hx.k0]; exact fH hx,hx.k0,len_of hl (by simp [lensL]) (fH hx),hx.z0⟩
   | 1,hj=>
    obtain rfl:(wq 0,Kd.q)=k:=Option.some.inj hj
    exact ⟨pw 0 (g 0),v0,fH0 hx,rfl,len_of hl (by simp [lensL]) (fH0 hx),trivial⟩
   | 2,hj=>
    obtain rfl:(wq 1,Kd.q)=k:=Option.some.inj hj
    exact ⟨pw 1 (g 1),v0,fH1 hx,rfl,len_of hl (by simp [lensL]) (fH1 hx),trivial⟩
   | 3,hj=>
    obtain rfl:(wq 2,Kd.q)=k:=Option.some.inj hj
    exact ⟨pw 2 (g 2),v0,fH2 hx,rfl,len_of hl (by simp [lensL]) (fH2 hx),trivial⟩
   | 4,hj=>
    obtain rfl:(wq 3,Kd.q)=k:=Option.some.inj hj
    exact ⟨pw 3 (g 3),v0,fH3 hx,rfl,len_of hl (by simp [lensL]) (fH3 hx),trivial⟩
   | 5,hj=>
    obtain rfl:(wq 4,Kd.q)=k:=Option.some.inj hj
    exact ⟨pw 4 (g 4),v0,fH4 hx,rfl,len_of hl (by simp [lensL]) (fH4 hx),trivial⟩
   | 6,hj=>
    obtain rfl:(wq 5,Kd.q)=k:=Option.some.inj hj
    exact ⟨pw 5 (g 5),v0,fH5 hx,rfl,len_of hl (by simp [lensL]) (fH5 hx),trivial⟩
   | 7,hj=>
    obtain rfl:(wq 6,Kd.q)=k:=Option.some.inj hj
    exact ⟨pw 6 (g 6),v0,fH6 hx,rfl,len_of hl (by simp [lensL]) (fH6 hx),trivial⟩
   | 8,hj=>
    obtain rfl:(wq 7,Kd.q)=k:=Option.some.inj hj
    exact ⟨pw 7 (g 7),v0,fH7 hx,rfl,len_of hl (by simp [lensL]) (fH7 hx),trivial⟩
   | n+9,hj=>cases hj
 · match j,hj with
   | 0,hj=>cases hj
   | 1,hj=>cases hj
   | 2,hj=>cases hj
   | 3,hj=>cases hj
   | 4,hj=>cases hj
   | 5,hj=>cases hj
   | 6,hj=>cases hj
   | 7,hj=>cases hj
   | 8,hj=>cases hj
   | n+9,hj=>cases hj
 · match j,hj with
   | 0,hj=>
    have e:(wk0,Kd.w 1)=(k,Kd.w f):=Option.some.inj hj
    injection e with e1 e2
    injection e2 with e2
    subst e1 e2
    rw [fH hx] at hw
    obtain rfl:=Option.some.inj hw
    obtain ⟨arr,elem,fz,z,q1,q2,q3,q4⟩:=hx.cell t ht
    refine ⟨arr,elem,fz,z,q1,q2,q3,fun kq w hk hf=>?_⟩
    match t,h8 with
    | 0,_=>
     have e:(wq 0,Kd.q)=(kq,Kd.q):=Option.some.inj hk
     injection e with e1 _
     subst e1
     rw [fH0 hx] at hf
     obtain rfl:=Option.some.inj hf
     exact q4
    | 1,_=>
     have e:(wq 1,Kd.q)=(kq,Kd.q):=Option.some.inj hk
     injection e with e1 _
     subst e1
     rw [fH1 hx] at hf
     obtain rfl:=Option.some.inj hf
     exact q4
    | 2,_=>
     have e:(wq 2,Kd.q)=(kq,Kd.q):=Option.some.inj hk
     injection e with e1 _
     subst e1
     rw [fH2 hx] at hf
     obtain rfl:=Option.some.inj hf
     exact q4
    | 3,_=>
     have e:(wq 3,Kd.q)=(kq,Kd.q):=Option.some.inj hk
     injection e with e1 _
     subst e1
     rw [fH3 hx] at hf
     obtain rfl:=Option.some.inj hf
     exact q4
    | 4,_=>
     have e:(wq 4,Kd.q)=(kq,Kd.q):=Option.some.inj hk
     injection e with e1 _
     subst e1
     rw [fH4 hx] at hf
     obtain rfl:=Option.some.inj hf
     exact q4
    | 5,_=>
     have e:(wq 5,Kd.q)=(kq,Kd.q):=Option.some.inj hk
     injection e with e1 _
     subst e1
     rw [fH5 hx] at hf
     obtain rfl:=Option.some.inj hf
     exact q4
    | 6,_=>
     have e:(wq 6,Kd.q)=(kq,Kd.q):=Option.some.inj hk
     injection e with e1 _
     subst e1
     rw [fH6 hx] at hf
     obtain rfl:=Option.some.inj hf
     exact q4
    | 7,_=>
     have e:(wq 7,Kd.q)=(kq,Kd.q):=Option.some.inj hk
     injection e with e1 _
     subst e1
     rw [fH7 hx] at hf
     obtain rfl:=Option.some.inj hf
     exact q4
    | t+8,h=>omega
   | 1,hj=>cases hj
   | 2,hj=>cases hj
   | 3,hj=>cases hj
   | 4,hj=>cases hj
   | 5,hj=>cases hj
   | 6,hj=>cases hj
   | 7,hj=>cases hj
   | 8,hj=>cases hj
   | n+9,hj=>cases hj
def sl0 (y:Nat):Value:=.slice (some ⟨0,0,none⟩) y y
def argM (v0:Value) (g:Nat→Nat):Key→Option Value:=fun k=>if k=wk0 then some v0 else if k=wq 0 then some (sl0 (g 0)) else if k=wq 1 then some (sl0 (g 1)) else if k=wq 2 then some (sl0 (g 2)) else if k=wq 3 then some (sl0 (g 3)) else if k=wq 4 then some (sl0 (g 4)) else if k=wq 5 then some (sl0 (g 5)) else if k=wq 6 then some (sl0 (g 6)) else if k=wq 7 then some (sl0 (g 7)) else none
theorem argsH (hx:ArgH W w0 v0 g):ArgsAre (argM v0 g) (winsH w0 g):=by
 intro w hw
 simp only [winsH,List.mem_cons,List.mem_nil_iff,or_false] at hw
 rcases hw with rfl | rfl | rfl | rfl | rfl | rfl | rfl | rfl | rfl
 · exact ⟨by rw [hx.k0]; exact congrArg some hx.val,hx.base,by rw [hx.z0]; exact hx.size,hx.cap⟩
 · exact ⟨rfl,fun _=>rfl,(by show g 0=0+g 0*1; omega),Nat.le_refl _⟩
 · exact ⟨rfl,fun _=>rfl,(by show g 1=0+g 1*1; omega),Nat.le_refl _⟩
 · exact ⟨rfl,fun _=>rfl,(by show g 2=0+g 2*1; omega),Nat.le_refl _⟩
 · exact ⟨rfl,fun _=>rfl,(by show g 3=0+g 3*1; omega),Nat.le_refl _⟩
 · exact ⟨rfl,fun _=>rfl,(by show g 4=0+g 4*1; omega),Nat.le_refl _⟩
 · exact ⟨rfl,fun _=>rfl,(by show g 5=0+g 5*1; omega),Nat.le_refl _⟩
 · exact ⟨rfl,fun _=>rfl,(by show g 6=0+g 6*1; omega),Nat.le_refl _⟩
 · exact ⟨rfl,fun _=>rfl,(by show g 7=0+g 7*1; omega),Nat.le_refl _⟩
theorem wsH (hx:ArgH W w0 v0 g):wsOf (winsH w0 g)=wsL:=by
 simp only [wsOf,winsH,List.map_cons,List.map_nil,hx.k0,hx.z0]
 rfl
theorem loopsH (hx:ArgH W w0 v0 g) {c:Code} (hb:Tryz.f3.body=some c):LoopOk Tryz.prog (frameBits Tryz.f3 c) Tryz.f3.ntmps 100 (argM v0 g) (winsH w0 g) lensL W Tryz.f3 c TsA pthA:=
 have hC:LoopOk Tryz.prog (frameBits Tryz.f3 c) Tryz.f3.ntmps 100 (argM v0 g) (winsH w0 g) lensL W Tryz.f3 c TsC pthC:=loopOk_W (code:=codeN) (nat:=nat0) (natE:=natE) (fuel:=1000) mixedN codeN_ok nat0_ok natE_ok Tryz.func3 hb compL (argsH hx) (winisH hx) goodC
 have hB:LoopOk Tryz.prog (frameBits Tryz.f3 c) Tryz.f3.ntmps 100 (argM v0 g) (winsH w0 g) lensL W Tryz.f3 c TsB pthB:=loopOk_fn (code:=codeN) (nat:=natB) (fuel:=1000) (bound:=40) (nx:=some nxB) mixedN codeN_ok natB_ok globN Tryz.func3 hb compL (argsH hx) boundB ⟨rfl,(pathsL hb).2,hC⟩ (passes_allM (wsH hx) (argsH hx) (winisH hx) goodB)
 loopOk_fn (code:=codeN) (nat:=nat0) (fuel:=1000) (bound:=40) (nx:=some nxA) mixedN codeN_ok nat0_ok globN Tryz.func3 hb compL (argsH hx) boundA ⟨rfl,(pathsL hb).1,hB⟩ (passes_allM (wsH hx) (argsH hx) (winisH hx) goodA)
def sigH (w0:Win) (g:Nat→Nat) (a:Int):Nat→Int
 | 0=>-1
 | 1=>w0.len
 | n+2=>bif Nat.ble 8 n then a else g n
theorem walkH (hx:ArgH W w0 v0 g) (a:Int) (ha1 : -9223372036854775808≤a) (ha2:a≤9223372036854775807) (hl0:(w0.len:Int)≤9223372036854775807) :
 Calls Tryz.prog 3 #[v0,.int .i64 a] W fun e w'=>e=.returned (.bool true)∧Below W.heap.size W w':=by
 have hg:∀ j,(0:Int)≤g j∧(g j:Int)≤2:=fun j=>by
  have:=hx.g2 j
  omega
 refine calls_treeM (σ:=sigH w0 g a) (A:=argM v0 g) (wins:=winsH w0 g) (ws:=wsL) (L:=lensL) (ks:=ksL) (tree:=trS) (ls:=lsS) (e0:=eS0) (args:=argsL) (G:=100) (n:=n1) (Ts:=TsA) (p:=pthA) (cc:=ccL) (rs:=rsL) (fuel:=1000) (code:=codeN) (nat:=nat0)
  (wsH hx) vS (by kernel_rfl) allSt ⟨?_,trivial,trivial,fun q hq=>by cases hq⟩ ?_ (winisH hx) mixedN codeN_ok nat0_ok Tryz.func3 (show Tryz.f3.body=some _ from rfl) compL rfl globN (by decide) (by kernel_rfl) (argsH hx) ?_ (loopsH hx (show Tryz.f3.body=some _ from rfl))
 · exact ⟨⟨Int.le_refl _,Int.le_refl _⟩,⟨show (0:Int)≤(w0.len:Int) by omega,hl0⟩,hg 0,hg 1,hg 2,hg 3,hg 4,hg 5,hg 6,hg 7,⟨ha1,ha2⟩,trivial⟩
 · intro q hq
   simp only [lensL,List.mem_cons,List.mem_nil_iff,or_false] at hq
   rcases hq with rfl | rfl | rfl | rfl | rfl | rfl | rfl | rfl | rfl
   · exact ⟨_,fH hx,rfl⟩
   · exact ⟨_,fH0 hx,rfl⟩
   · exact ⟨_,fH1 hx,rfl⟩
   · exact ⟨_,fH2 hx,rfl⟩
   · exact ⟨_,fH3 hx,rfl⟩
   · exact ⟨_,fH4 hx,rfl⟩
   · exact ⟨_,fH5 hx,rfl⟩
   · exact ⟨_,fH6 hx,rfl⟩
   · exact ⟨_,fH7 hx,rfl⟩
 · intro σ' K' hK hag
   have hp:psiW 100 (winsH w0 g) wk0=some ⟨w0.B,w0.x+0*w0.esz,w0.sz,fun n=>n⟩:=by
    unfold psiW
    rw [fH hx]
   refine relsC (base:=w0.base) (len:=w0.len) (cap:=w0.cap) (j:=1) (congrFun hK _) hx.val (hag 1 (.inl (by decide))) (fun h=>⟨_,w0.x,hp,hx.base h,(by show w0.x+0*w0.esz=w0.x; omega),hx.size,hx.cap⟩) ?_
   have e:σ' 10=a:=hag 10 (.inl (by decide))
   have:=relsI (K:=K') (σ:=σ') (ψ:=psiW 100 (winsH w0 g)) (i:=10) rels0
   rw [e] at this
   exact this
end
end
end Go.Ev
