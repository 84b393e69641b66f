/- The states joined: each is right, by the runs over stretches of its passes. -/
import Derived.Test.YtaimebepiomgcaaGreatDoorRun0
import Derived.Test.YtaimebepiomgcaaGreatDoorRun1
import Derived.Test.YtaimebepiomgcaaGreatDoorRun2
import Derived.Test.YtaimebepiomgcaaGreatDoorRun3
import Derived.Test.YtaimebepiomgcaaGreatDoorRun4
import Derived.Test.YtaimebepiomgcaaGreatDoorRun5
import Derived.Test.YtaimebepiomgcaaGreatDoorRun6
import Derived.Test.YtaimebepiomgcaaGreatDoorRun7
import Derived.Test.YtaimebepiomgcaaGreatDoorRun8
import Derived.Test.YtaimebepiomgcaaGreatDoorRun9
import Derived.Test.YtaimebepiomgcaaGreatDoorRun10
import Derived.Test.YtaimebepiomgcaaGreatDoorRun11
import Derived.Test.YtaimebepiomgcaaGreatDoorRun12
import Derived.Test.YtaimebepiomgcaaGreatDoorRun13
import Derived.Test.YtaimebepiomgcaaGreatDoorRun14
import Derived.Test.YtaimebepiomgcaaGreatDoorRun15
import Derived.Test.YtaimebepiomgcaaGreatDoorRun16
import Derived.Test.YtaimebepiomgcaaGreatDoorRun17
import Derived.Test.YtaimebepiomgcaaGreatDoorRun18
import Derived.Test.YtaimebepiomgcaaGreatDoorRun19
namespace Go.Ev
open Go.Proofs
set_option maxRecDepth 1000000
set_option linter.unusedVariables false
abbrev GX (T : TS) : Prop := StateGoodM Tryz.prog codeN natX 1000 100 wsL lensL TsX none pthL ccL rsL ksL T
theorem mkX (k : Nat) (h0 : stateY0 ksL lensL (gX k) trX 61 = true) (h : ∀ i, i < 61 → ∃ a n, a ≤ i ∧ i < a + n ∧ ∀ s A, gzX s A k a n = true) : GX (gX k) := stateYP_good (tree := trX) (tss := goX k) h0 h
theorem mkK (k : Nat) (hn : stateY0 ksL lensL (gX k) trX 61 = true) (h0 : ∀ s A, gzX s A k 0 26 = true) (h1 : ∀ s A, gzX s A k 26 35 = true) : GX (gX k) := mkX k hn fun i hi => (Nat.lt_or_ge i 26).elim (fun h => ⟨0, 26, by omega, by omega, h0⟩) (fun _ => ⟨26, 35, by omega, by omega, h1⟩)
theorem g0 : GX (gX 0) := mkK 0 (by kernel_rfl) r0_0 r0_26
theorem g1 : GX (gX 1) := mkK 1 (by kernel_rfl) r1_0 r1_26
theorem g2 : GX (gX 2) := mkK 2 (by kernel_rfl) r2_0 r2_26
theorem g3 : GX (gX 3) := mkK 3 (by kernel_rfl) r3_0 r3_26
theorem g4 : GX (gX 4) := mkK 4 (by kernel_rfl) r4_0 r4_26
theorem g5 : GX (gX 5) := mkK 5 (by kernel_rfl) r5_0 r5_26
theorem g6 : GX (gX 6) := mkK 6 (by kernel_rfl) r6_0 r6_26
theorem g7 : GX (gX 7) := mkK 7 (by kernel_rfl) r7_0 r7_26
theorem g8 : GX (gX 8) := mkK 8 (by kernel_rfl) r8_0 r8_26
theorem g9 : GX (gX 9) := mkK 9 (by kernel_rfl) r9_0 r9_26
theorem g10 : GX (gX 10) := mkK 10 (by kernel_rfl) r10_0 r10_26
theorem g11 : GX (gX 11) := mkK 11 (by kernel_rfl) r11_0 r11_26
theorem g12 : GX (gX 12) := mkK 12 (by kernel_rfl) r12_0 r12_26
theorem g13 : GX (gX 13) := mkK 13 (by kernel_rfl) r13_0 r13_26
theorem g14 : GX (gX 14) := mkK 14 (by kernel_rfl) r14_0 r14_26
theorem g15 : GX (gX 15) := mkK 15 (by kernel_rfl) r15_0 r15_26
theorem g16 : GX (gX 16) := mkK 16 (by kernel_rfl) r16_0 r16_26
theorem g17 : GX (gX 17) := mkK 17 (by kernel_rfl) r17_0 r17_26
theorem g18 : GX (gX 18) := mkK 18 (by kernel_rfl) r18_0 r18_26
theorem g19 : GX (gX 19) := mkK 19 (by kernel_rfl) r19_0 r19_26
theorem g20 : GX (gX 20) := mkK 20 (by kernel_rfl) r20_0 r20_26
theorem g21 : GX (gX 21) := mkK 21 (by kernel_rfl) r21_0 r21_26
theorem g22 : GX (gX 22) := mkK 22 (by kernel_rfl) r22_0 r22_26
theorem g23 : GX (gX 23) := mkK 23 (by kernel_rfl) r23_0 r23_26
theorem g24 : GX (gX 24) := mkK 24 (by kernel_rfl) r24_0 r24_26
theorem g25 : GX (gX 25) := mkK 25 (by kernel_rfl) r25_0 r25_26
theorem g26 : GX (gX 26) := mkK 26 (by kernel_rfl) r26_0 r26_26
theorem g27 : GX (gX 27) := mkK 27 (by kernel_rfl) r27_0 r27_26
theorem g28 : GX (gX 28) := mkK 28 (by kernel_rfl) r28_0 r28_26
theorem g29 : GX (gX 29) := mkK 29 (by kernel_rfl) r29_0 r29_26
theorem g30 : GX (gX 30) := mkK 30 (by kernel_rfl) r30_0 r30_26
theorem g31 : GX (gX 31) := mkK 31 (by kernel_rfl) r31_0 r31_26
theorem g32 : GX (gX 32) := mkK 32 (by kernel_rfl) r32_0 r32_26
theorem g33 : GX (gX 33) := mkK 33 (by kernel_rfl) r33_0 r33_26
theorem g34 : GX (gX 34) := mkK 34 (by kernel_rfl) r34_0 r34_26
theorem g35 : GX (gX 35) := mkK 35 (by kernel_rfl) r35_0 r35_26
theorem g36 : GX (gX 36) := mkK 36 (by kernel_rfl) r36_0 r36_26
theorem g37 : GX (gX 37) := mkK 37 (by kernel_rfl) r37_0 r37_26
theorem g38 : GX (gX 38) := mkK 38 (by kernel_rfl) r38_0 r38_26
theorem g39 : GX (gX 39) := mkK 39 (by kernel_rfl) r39_0 r39_26
theorem g40 : GX (gX 40) := mkK 40 (by kernel_rfl) r40_0 r40_26
theorem g41 : GX (gX 41) := mkK 41 (by kernel_rfl) r41_0 r41_26
theorem g42 : GX (gX 42) := mkK 42 (by kernel_rfl) r42_0 r42_26
theorem g43 : GX (gX 43) := mkK 43 (by kernel_rfl) r43_0 r43_26
theorem g44 : GX (gX 44) := mkK 44 (by kernel_rfl) r44_0 r44_26
theorem g45 : GX (gX 45) := mkK 45 (by kernel_rfl) r45_0 r45_26
theorem g46 : GX (gX 46) := mkK 46 (by kernel_rfl) r46_0 r46_26
theorem g47 : GX (gX 47) := mkK 47 (by kernel_rfl) r47_0 r47_26
theorem g48 : GX (gX 48) := mkK 48 (by kernel_rfl) r48_0 r48_26
theorem g49 : GX (gX 49) := mkK 49 (by kernel_rfl) r49_0 r49_26
theorem g50 : GX (gX 50) := mkK 50 (by kernel_rfl) r50_0 r50_26
theorem g51 : GX (gX 51) := mkK 51 (by kernel_rfl) r51_0 r51_26
theorem g52 : GX (gX 52) := mkK 52 (by kernel_rfl) r52_0 r52_26
theorem g53 : GX (gX 53) := mkK 53 (by kernel_rfl) r53_0 r53_26
theorem g54 : GX (gX 54) := mkK 54 (by kernel_rfl) r54_0 r54_26
theorem g55 : GX (gX 55) := mkK 55 (by kernel_rfl) r55_0 r55_26
theorem g56 : GX (gX 56) := mkK 56 (by kernel_rfl) r56_0 r56_26
theorem g57 : GX (gX 57) := mkK 57 (by kernel_rfl) r57_0 r57_26
theorem g58 : GX (gX 58) := mkK 58 (by kernel_rfl) r58_0 r58_26
theorem g59 : GX (gX 59) := mkK 59 (by kernel_rfl) r59_0 r59_26
theorem g60 : GX (gX 60) := mkK 60 (by kernel_rfl) r60_0 r60_26
theorem g61 : GX (gX 61) := mkK 61 (by kernel_rfl) r61_0 r61_26
theorem g62 : GX (gX 62) := mkK 62 (by kernel_rfl) r62_0 r62_26
theorem g63 : GX (gX 63) := mkK 63 (by kernel_rfl) r63_0 r63_26
theorem g64 : GX (gX 64) := mkK 64 (by kernel_rfl) r64_0 r64_26
theorem g65 : GX (gX 65) := mkK 65 (by kernel_rfl) r65_0 r65_26
theorem g66 : GX (gX 66) := mkK 66 (by kernel_rfl) r66_0 r66_26
theorem g67 : GX (gX 67) := mkK 67 (by kernel_rfl) r67_0 r67_26
theorem g68 : GX (gX 68) := mkK 68 (by kernel_rfl) r68_0 r68_26
theorem g69 : GX (gX 69) := mkK 69 (by kernel_rfl) r69_0 r69_26
theorem g70 : GX (gX 70) := mkK 70 (by kernel_rfl) r70_0 r70_26
theorem g71 : GX (gX 71) := mkK 71 (by kernel_rfl) r71_0 r71_26
theorem g72 : GX (gX 72) := mkK 72 (by kernel_rfl) r72_0 r72_26
theorem g73 : GX (gX 73) := mkK 73 (by kernel_rfl) r73_0 r73_26
theorem g74 : GX (gX 74) := mkK 74 (by kernel_rfl) r74_0 r74_26
theorem g75 : GX (gX 75) := mkK 75 (by kernel_rfl) r75_0 r75_26
theorem g76 : GX (gX 76) := mkK 76 (by kernel_rfl) r76_0 r76_26
theorem g77 : GX (gX 77) := mkK 77 (by kernel_rfl) r77_0 r77_26
theorem g78 : GX (gX 78) := mkK 78 (by kernel_rfl) r78_0 r78_26
theorem g79 : GX (gX 79) := mkK 79 (by kernel_rfl) r79_0 r79_26
theorem g80 : GX (gX 80) := mkK 80 (by kernel_rfl) r80_0 r80_26
theorem g81 : GX (gX 81) := mkK 81 (by kernel_rfl) r81_0 r81_26
theorem g82 : GX (gX 82) := mkK 82 (by kernel_rfl) r82_0 r82_26
theorem g83 : GX (gX 83) := mkK 83 (by kernel_rfl) r83_0 r83_26
theorem g84 : GX (gX 84) := mkK 84 (by kernel_rfl) r84_0 r84_26
theorem g85 : GX (gX 85) := mkK 85 (by kernel_rfl) r85_0 r85_26
theorem g86 : GX (gX 86) := mkK 86 (by kernel_rfl) r86_0 r86_26
theorem g87 : GX (gX 87) := mkK 87 (by kernel_rfl) r87_0 r87_26
theorem g88 : GX (gX 88) := mkK 88 (by kernel_rfl) r88_0 r88_26
theorem g89 : GX (gX 89) := mkK 89 (by kernel_rfl) r89_0 r89_26
theorem g90 : GX (gX 90) := mkK 90 (by kernel_rfl) r90_0 r90_26
theorem g91 : GX (gX 91) := mkK 91 (by kernel_rfl) r91_0 r91_26
theorem g92 : GX (gX 92) := mkK 92 (by kernel_rfl) r92_0 r92_26
theorem g93 : GX (gX 93) := mkK 93 (by kernel_rfl) r93_0 r93_26
theorem g94 : GX (gX 94) := mkK 94 (by kernel_rfl) r94_0 r94_26
theorem g95 : GX (gX 95) := mkK 95 (by kernel_rfl) r95_0 r95_26
theorem g96 : GX (gX 96) := mkK 96 (by kernel_rfl) r96_0 r96_26
theorem g97 : GX (gX 97) := mkK 97 (by kernel_rfl) r97_0 r97_26
theorem g98 : GX (gX 98) := mkK 98 (by kernel_rfl) r98_0 r98_26
theorem g99 : GX (gX 99) := mkK 99 (by kernel_rfl) r99_0 r99_26
theorem g100 : GX (gX 100) := mkK 100 (by kernel_rfl) r100_0 r100_26
theorem g101 : GX (gX 101) := mkK 101 (by kernel_rfl) r101_0 r101_26
theorem g102 : GX (gX 102) := mkK 102 (by kernel_rfl) r102_0 r102_26
theorem g103 : GX (gX 103) := mkK 103 (by kernel_rfl) r103_0 r103_26
theorem g104 : GX (gX 104) := mkK 104 (by kernel_rfl) r104_0 r104_26
theorem g105 : GX (gX 105) := mkK 105 (by kernel_rfl) r105_0 r105_26
theorem g106 : GX (gX 106) := mkK 106 (by kernel_rfl) r106_0 r106_26
theorem g107 : GX (gX 107) := mkK 107 (by kernel_rfl) r107_0 r107_26
theorem g108 : GX (gX 108) := mkK 108 (by kernel_rfl) r108_0 r108_26
theorem g109 : GX (gX 109) := mkK 109 (by kernel_rfl) r109_0 r109_26
theorem g110 : GX (gX 110) := mkK 110 (by kernel_rfl) r110_0 r110_26
theorem g111 : GX (gX 111) := mkK 111 (by kernel_rfl) r111_0 r111_26
theorem g112 : GX (gX 112) := mkK 112 (by kernel_rfl) r112_0 r112_26
theorem g113 : GX (gX 113) := mkK 113 (by kernel_rfl) r113_0 r113_26
theorem g114 : GX (gX 114) := mkK 114 (by kernel_rfl) r114_0 r114_26
theorem g115 : GX (gX 115) := mkK 115 (by kernel_rfl) r115_0 r115_26
theorem g116 : GX (gX 116) := mkK 116 (by kernel_rfl) r116_0 r116_26
theorem g117 : GX (gX 117) := mkK 117 (by kernel_rfl) r117_0 r117_26
theorem g118 : GX (gX 118) := mkK 118 (by kernel_rfl) r118_0 r118_26
theorem g119 : GX (gX 119) := mkK 119 (by kernel_rfl) r119_0 r119_26
theorem g120 : GX (gX 120) := mkK 120 (by kernel_rfl) r120_0 r120_26
theorem g121 : GX (gX 121) := mkK 121 (by kernel_rfl) r121_0 r121_26
theorem g122 : GX (gX 122) := mkK 122 (by kernel_rfl) r122_0 r122_26
theorem g123 : GX (gX 123) := mkK 123 (by kernel_rfl) r123_0 r123_26
theorem g124 : GX (gX 124) := mkK 124 (by kernel_rfl) r124_0 r124_26
theorem g125 : GX (gX 125) := mkK 125 (by kernel_rfl) r125_0 r125_26
theorem g126 : GX (gX 126) := mkK 126 (by kernel_rfl) r126_0 r126_26
theorem g127 : GX (gX 127) := mkK 127 (by kernel_rfl) r127_0 r127_26
theorem g128 : GX (gX 128) := mkK 128 (by kernel_rfl) r128_0 r128_26
theorem g129 : GX (gX 129) := mkK 129 (by kernel_rfl) r129_0 r129_26
theorem goodK (k : Nat) (h : k < 130) : GX (gX k) := ((Nat.lt_or_ge k 65).elim (fun _ => ((Nat.lt_or_ge k 32).elim (fun _ => ((Nat.lt_or_ge k 16).elim (fun _ => ((Nat.lt_or_ge k 8).elim (fun _ => ((Nat.lt_or_ge k 4).elim (fun _ => ((Nat.lt_or_ge k 2).elim (fun _ => ((Nat.lt_or_ge k 1).elim (fun _ => (show GX (gX k) from (by omega : k = 0) ▸ g0)) (fun _ => (show GX (gX k) from (by omega : k = 1) ▸ g1)))) (fun _ => ((Nat.lt_or_ge k 3).elim (fun _ => (show GX (gX k) from (by omega : k = 2) ▸ g2)) (fun _ => (show GX (gX k) from (by omega : k = 3) ▸ g3)))))) (fun _ => ((Nat.lt_or_ge k 6).elim (fun _ => ((Nat.lt_or_ge k 5).elim (fun _ => (show GX (gX k) from (by omega : k = 4) ▸ g4)) (fun _ => (show GX (gX k) from (by omega : k = 5) ▸ g5)))) (fun _ => ((Nat.lt_or_ge k 7).elim (fun _ => (show GX (gX k) from (by omega : k = 6) ▸ g6)) (fun _ => (show GX (gX k) from (by omega : k = 7) ▸ g7)))))))) (fun _ => ((Nat.lt_or_ge k 12).elim (fun _ => ((Nat.lt_or_ge k 10).elim (fun _ => ((Nat.lt_or_ge k 9).elim (fun _ => (show GX (gX k) from (by omega : k = 8) ▸ g8)) (fun _ => (show GX (gX k) from (by omega : k = 9) ▸ g9)))) (fun _ => ((Nat.lt_or_ge k 11).elim (fun _ => (show GX (gX k) from (by omega : k = 10) ▸ g10)) (fun _ => (show GX (gX k) from (by omega : k = 11) ▸ g11)))))) (fun _ => ((Nat.lt_or_ge k 14).elim (fun _ => ((Nat.lt_or_ge k 13).elim (fun _ => (show GX (gX k) from (by omega : k = 12) ▸ g12)) (fun _ => (show GX (gX k) from (by omega : k = 13) ▸ g13)))) (fun _ => ((Nat.lt_or_ge k 15).elim (fun _ => (show GX (gX k) from (by omega : k = 14) ▸ g14)) (fun _ => (show GX (gX k) from (by omega : k = 15) ▸ g15)))))))))) (fun _ => ((Nat.lt_or_ge k 24).elim (fun _ => ((Nat.lt_or_ge k 20).elim (fun _ => ((Nat.lt_or_ge k 18).elim (fun _ => ((Nat.lt_or_ge k 17).elim (fun _ => (show GX (gX k) from (by omega : k = 16) ▸ g16)) (fun _ => (show GX (gX k) from (by omega : k = 17) ▸ g17)))) (fun _ => ((Nat.lt_or_ge k 19).elim (fun _ => (show GX (gX k) from (by omega : k = 18) ▸ g18)) (fun _ => (show GX (gX k) from (by omega : k = 19) ▸ g19)))))) (fun _ => ((Nat.lt_or_ge k 22).elim (fun _ => ((Nat.lt_or_ge k 21).elim (fun _ => (show GX (gX k) from (by omega : k = 20) ▸ g20)) (fun _ => (show GX (gX k) from (by omega : k = 21) ▸ g21)))) (fun _ => ((Nat.lt_or_ge k 23).elim (fun _ => (show GX (gX k) from (by omega : k = 22) ▸ g22)) (fun _ => (show GX (gX k) from (by omega : k = 23) ▸ g23)))))))) (fun _ => ((Nat.lt_or_ge k 28).elim (fun _ => ((Nat.lt_or_ge k 26).elim (fun _ => ((Nat.lt_or_ge k 25).elim (fun _ => (show GX (gX k) from (by omega : k = 24) ▸ g24)) (fun _ => (show GX (gX k) from (by omega : k = 25) ▸ g25)))) (fun _ => ((Nat.lt_or_ge k 27).elim (fun _ => (show GX (gX k) from (by omega : k = 26) ▸ g26)) (fun _ => (show GX (gX k) from (by omega : k = 27) ▸ g27)))))) (fun _ => ((Nat.lt_or_ge k 30).elim (fun _ => ((Nat.lt_or_ge k 29).elim (fun _ => (show GX (gX k) from (by omega : k = 28) ▸ g28)) (fun _ => (show GX (gX k) from (by omega : k = 29) ▸ g29)))) (fun _ => ((Nat.lt_or_ge k 31).elim (fun _ => (show GX (gX k) from (by omega : k = 30) ▸ g30)) (fun _ => (show GX (gX k) from (by omega : k = 31) ▸ g31)))))))))))) (fun _ => ((Nat.lt_or_ge k 48).elim (fun _ => ((Nat.lt_or_ge k 40).elim (fun _ => ((Nat.lt_or_ge k 36).elim (fun _ => ((Nat.lt_or_ge k 34).elim (fun _ => ((Nat.lt_or_ge k 33).elim (fun _ => (show GX (gX k) from (by omega : k = 32) ▸ g32)) (fun _ => (show GX (gX k) from (by omega : k = 33) ▸ g33)))) (fun _ => ((Nat.lt_or_ge k 35).elim (fun _ => (show GX (gX k) from (by omega : k = 34) ▸ g34)) (fun _ => (show GX (gX k) from (by omega : k = 35) ▸ g35)))))) (fun _ => ((Nat.lt_or_ge k 38).elim (fun _ => ((Nat.lt_or_ge k 37).elim (fun _ => (show GX (gX k) from (by omega : k = 36) ▸ g36)) (fun _ => (show GX (gX k) from (by omega : k = 37) ▸ g37)))) (fun _ => ((Nat.lt_or_ge k 39).elim (fun _ => (show GX (gX k) from (by omega : k = 38) ▸ g38)) (fun _ => (show GX (gX k) from (by omega : k = 39) ▸ g39)))))))) (fun _ => ((Nat.lt_or_ge k 44).elim (fun _ => ((Nat.lt_or_ge k 42).elim (fun _ => ((Nat.lt_or_ge k 41).elim (fun _ => (show GX (gX k) from (by omega : k = 40) ▸ g40)) (fun _ => (show GX (gX k) from (by omega : k = 41) ▸ g41)))) (fun _ => ((Nat.lt_or_ge k 43).elim (fun _ => (show GX (gX k) from (by omega : k = 42) ▸ g42)) (fun _ => (show GX (gX k) from (by omega : k = 43) ▸ g43)))))) (fun _ => ((Nat.lt_or_ge k 46).elim (fun _ => ((Nat.lt_or_ge k 45).elim (fun _ => (show GX (gX k) from (by omega : k = 44) ▸ g44)) (fun _ => (show GX (gX k) from (by omega : k = 45) ▸ g45)))) (fun _ => ((Nat.lt_or_ge k 47).elim (fun _ => (show GX (gX k) from (by omega : k = 46) ▸ g46)) (fun _ => (show GX (gX k) from (by omega : k = 47) ▸ g47)))))))))) (fun _ => ((Nat.lt_or_ge k 56).elim (fun _ => ((Nat.lt_or_ge k 52).elim (fun _ => ((Nat.lt_or_ge k 50).elim (fun _ => ((Nat.lt_or_ge k 49).elim (fun _ => (show GX (gX k) from (by omega : k = 48) ▸ g48)) (fun _ => (show GX (gX k) from (by omega : k = 49) ▸ g49)))) (fun _ => ((Nat.lt_or_ge k 51).elim (fun _ => (show GX (gX k) from (by omega : k = 50) ▸ g50)) (fun _ => (show GX (gX k) from (by omega : k = 51) ▸ g51)))))) (fun _ => ((Nat.lt_or_ge k 54).elim (fun _ => ((Nat.lt_or_ge k 53).elim (fun _ => (show GX (gX k) from (by omega : k = 52) ▸ g52)) (fun _ => (show GX (gX k) from (by omega : k = 53) ▸ g53)))) (fun _ => ((Nat.lt_or_ge k 55).elim (fun _ => (show GX (gX k) from (by omega : k = 54) ▸ g54)) (fun _ => (show GX (gX k) from (by omega : k = 55) ▸ g55)))))))) (fun _ => ((Nat.lt_or_ge k 60).elim (fun _ => ((Nat.lt_or_ge k 58).elim (fun _ => ((Nat.lt_or_ge k 57).elim (fun _ => (show GX (gX k) from (by omega : k = 56) ▸ g56)) (fun _ => (show GX (gX k) from (by omega : k = 57) ▸ g57)))) (fun _ => ((Nat.lt_or_ge k 59).elim (fun _ => (show GX (gX k) from (by omega : k = 58) ▸ g58)) (fun _ => (show GX (gX k) from (by omega : k = 59) ▸ g59)))))) (fun _ => ((Nat.lt_or_ge k 62).elim (fun _ => ((Nat.lt_or_ge k 61).elim (fun _ => (show GX (gX k) from (by omega : k = 60) ▸ g60)) (fun _ => (show GX (gX k) from (by omega : k = 61) ▸ g61)))) (fun _ => ((Nat.lt_or_ge k 63).elim (fun _ => (show GX (gX k) from (by omega : k = 62) ▸ g62)) (fun _ => ((Nat.lt_or_ge k 64).elim (fun _ => (show GX (gX k) from (by omega : k = 63) ▸ g63)) (fun _ => (show GX (gX k) from (by omega : k = 64) ▸ g64)))))))))))))))) (fun _ => ((Nat.lt_or_ge k 97).elim (fun _ => ((Nat.lt_or_ge k 81).elim (fun _ => ((Nat.lt_or_ge k 73).elim (fun _ => ((Nat.lt_or_ge k 69).elim (fun _ => ((Nat.lt_or_ge k 67).elim (fun _ => ((Nat.lt_or_ge k 66).elim (fun _ => (show GX (gX k) from (by omega : k = 65) ▸ g65)) (fun _ => (show GX (gX k) from (by omega : k = 66) ▸ g66)))) (fun _ => ((Nat.lt_or_ge k 68).elim (fun _ => (show GX (gX k) from (by omega : k = 67) ▸ g67)) (fun _ => (show GX (gX k) from (by omega : k = 68) ▸ g68)))))) (fun _ => ((Nat.lt_or_ge k 71).elim (fun _ => ((Nat.lt_or_ge k 70).elim (fun _ => (show GX (gX k) from (by omega : k = 69) ▸ g69)) (fun _ => (show GX (gX k) from (by omega : k = 70) ▸ g70)))) (fun _ => ((Nat.lt_or_ge k 72).elim (fun _ => (show GX (gX k) from (by omega : k = 71) ▸ g71)) (fun _ => (show GX (gX k) from (by omega : k = 72) ▸ g72)))))))) (fun _ => ((Nat.lt_or_ge k 77).elim (fun _ => ((Nat.lt_or_ge k 75).elim (fun _ => ((Nat.lt_or_ge k 74).elim (fun _ => (show GX (gX k) from (by omega : k = 73) ▸ g73)) (fun _ => (show GX (gX k) from (by omega : k = 74) ▸ g74)))) (fun _ => ((Nat.lt_or_ge k 76).elim (fun _ => (show GX (gX k) from (by omega : k = 75) ▸ g75)) (fun _ => (show GX (gX k) from (by omega : k = 76) ▸ g76)))))) (fun _ => ((Nat.lt_or_ge k 79).elim (fun _ => ((Nat.lt_or_ge k 78).elim (fun _ => (show GX (gX k) from (by omega : k = 77) ▸ g77)) (fun _ => (show GX (gX k) from (by omega : k = 78) ▸ g78)))) (fun _ => ((Nat.lt_or_ge k 80).elim (fun _ => (show GX (gX k) from (by omega : k = 79) ▸ g79)) (fun _ => (show GX (gX k) from (by omega : k = 80) ▸ g80)))))))))) (fun _ => ((Nat.lt_or_ge k 89).elim (fun _ => ((Nat.lt_or_ge k 85).elim (fun _ => ((Nat.lt_or_ge k 83).elim (fun _ => ((Nat.lt_or_ge k 82).elim (fun _ => (show GX (gX k) from (by omega : k = 81) ▸ g81)) (fun _ => (show GX (gX k) from (by omega : k = 82) ▸ g82)))) (fun _ => ((Nat.lt_or_ge k 84).elim (fun _ => (show GX (gX k) from (by omega : k = 83) ▸ g83)) (fun _ => (show GX (gX k) from (by omega : k = 84) ▸ g84)))))) (fun _ => ((Nat.lt_or_ge k 87).elim (fun _ => ((Nat.lt_or_ge k 86).elim (fun _ => (show GX (gX k) from (by omega : k = 85) ▸ g85)) (fun _ => (show GX (gX k) from (by omega : k = 86) ▸ g86)))) (fun _ => ((Nat.lt_or_ge k 88).elim (fun _ => (show GX (gX k) from (by omega : k = 87) ▸ g87)) (fun _ => (show GX (gX k) from (by omega : k = 88) ▸ g88)))))))) (fun _ => ((Nat.lt_or_ge k 93).elim (fun _ => ((Nat.lt_or_ge k 91).elim (fun _ => ((Nat.lt_or_ge k 90).elim (fun _ => (show GX (gX k) from (by omega : k = 89) ▸ g89)) (fun _ => (show GX (gX k) from (by omega : k = 90) ▸ g90)))) (fun _ => ((Nat.lt_or_ge k 92).elim (fun _ => (show GX (gX k) from (by omega : k = 91) ▸ g91)) (fun _ => (show GX (gX k) from (by omega : k = 92) ▸ g92)))))) (fun _ => ((Nat.lt_or_ge k 95).elim (fun _ => ((Nat.lt_or_ge k 94).elim (fun _ => (show GX (gX k) from (by omega : k = 93) ▸ g93)) (fun _ => (show GX (gX k) from (by omega : k = 94) ▸ g94)))) (fun _ => ((Nat.lt_or_ge k 96).elim (fun _ => (show GX (gX k) from (by omega : k = 95) ▸ g95)) (fun _ => (show GX (gX k) from (by omega : k = 96) ▸ g96)))))))))))) (fun _ => ((Nat.lt_or_ge k 113).elim (fun _ => ((Nat.lt_or_ge k 105).elim (fun _ => ((Nat.lt_or_ge k 101).elim (fun _ => ((Nat.lt_or_ge k 99).elim (fun _ => ((Nat.lt_or_ge k 98).elim (fun _ => (show GX (gX k) from (by omega : k = 97) ▸ g97)) (fun _ => (show GX (gX k) from (by omega : k = 98) ▸ g98)))) (fun _ => ((Nat.lt_or_ge k 100).elim (fun _ => (show GX (gX k) from (by omega : k = 99) ▸ g99)) (fun _ => (show GX (gX k) from (by omega : k = 100) ▸ g100)))))) (fun _ => ((Nat.lt_or_ge k 103).elim (fun _ => ((Nat.lt_or_ge k 102).elim (fun _ => (show GX (gX k) from (by omega : k = 101) ▸ g101)) (fun _ => (show GX (gX k) from (by omega : k = 102) ▸ g102)))) (fun _ => ((Nat.lt_or_ge k 104).elim (fun _ => (show GX (gX k) from (by omega : k = 103) ▸ g103)) (fun _ => (show GX (gX k) from (by omega : k = 104) ▸ g104)))))))) (fun _ => ((Nat.lt_or_ge k 109).elim (fun _ => ((Nat.lt_or_ge k 107).elim (fun _ => ((Nat.lt_or_ge k 106).elim (fun _ => (show GX (gX k) from (by omega : k = 105) ▸ g105)) (fun _ => (show GX (gX k) from (by omega : k = 106) ▸ g106)))) (fun _ => ((Nat.lt_or_ge k 108).elim (fun _ => (show GX (gX k) from (by omega : k = 107) ▸ g107)) (fun _ => (show GX (gX k) from (by omega : k = 108) ▸ g108)))))) (fun _ => ((Nat.lt_or_ge k 111).elim (fun _ => ((Nat.lt_or_ge k 110).elim (fun _ => (show GX (gX k) from (by omega : k = 109) ▸ g109)) (fun _ => (show GX (gX k) from (by omega : k = 110) ▸ g110)))) (fun _ => ((Nat.lt_or_ge k 112).elim (fun _ => (show GX (gX k) from (by omega : k = 111) ▸ g111)) (fun _ => (show GX (gX k) from (by omega : k = 112) ▸ g112)))))))))) (fun _ => ((Nat.lt_or_ge k 121).elim (fun _ => ((Nat.lt_or_ge k 117).elim (fun _ => ((Nat.lt_or_ge k 115).elim (fun _ => ((Nat.lt_or_ge k 114).elim (fun _ => (show GX (gX k) from (by omega : k = 113) ▸ g113)) (fun _ => (show GX (gX k) from (by omega : k = 114) ▸ g114)))) (fun _ => ((Nat.lt_or_ge k 116).elim (fun _ => (show GX (gX k) from (by omega : k = 115) ▸ g115)) (fun _ => (show GX (gX k) from (by omega : k = 116) ▸ g116)))))) (fun _ => ((Nat.lt_or_ge k 119).elim (fun _ => ((Nat.lt_or_ge k 118).elim (fun _ => (show GX (gX k) from (by omega : k = 117) ▸ g117)) (fun _ => (show GX (gX k) from (by omega : k = 118) ▸ g118)))) (fun _ => ((Nat.lt_or_ge k 120).elim (fun _ => (show GX (gX k) from (by omega : k = 119) ▸ g119)) (fun _ => (show GX (gX k) from (by omega : k = 120) ▸ g120)))))))) (fun _ => ((Nat.lt_or_ge k 125).elim (fun _ => ((Nat.lt_or_ge k 123).elim (fun _ => ((Nat.lt_or_ge k 122).elim (fun _ => (show GX (gX k) from (by omega : k = 121) ▸ g121)) (fun _ => (show GX (gX k) from (by omega : k = 122) ▸ g122)))) (fun _ => ((Nat.lt_or_ge k 124).elim (fun _ => (show GX (gX k) from (by omega : k = 123) ▸ g123)) (fun _ => (show GX (gX k) from (by omega : k = 124) ▸ g124)))))) (fun _ => ((Nat.lt_or_ge k 127).elim (fun _ => ((Nat.lt_or_ge k 126).elim (fun _ => (show GX (gX k) from (by omega : k = 125) ▸ g125)) (fun _ => (show GX (gX k) from (by omega : k = 126) ▸ g126)))) (fun _ => ((Nat.lt_or_ge k 128).elim (fun _ => (show GX (gX k) from (by omega : k = 127) ▸ g127)) (fun _ => ((Nat.lt_or_ge k 129).elim (fun _ => (show GX (gX k) from (by omega : k = 128) ▸ g128)) (fun _ => (show GX (gX k) from (by omega : k = 129) ▸ g129)))))))))))))))))
theorem good : AllS GX TsX := mkTs_all goodK (Nat.le_refl _)
theorem boundL : boundIs 20 TsX = true := by kernel_rfl
theorem compL : compFn Tryz.prog 3 = .mk ccL rsL := c3_ok.symm.trans rfl
theorem way (i : Nat) (e : Lf) (h : nth (leavesD ksL trS eS) i = some e) (hi : ∀ s A, forceLf e (fun e => startN Tryz.prog codeN natX 1000 100 wsL lensL TsX pthL ccL argsL n1 s (e.known A) [i]) = true) : ∀ (s : Nat → Int) (A : Key → Option Value), ∃ hs, startOf Tryz.prog codeN natX 1000 100 wsL lensL TsX pthL ccL argsL n1 (linSym s (e.known A)) (e.known A) hs = true := fun s A => startN_ok (ts := [i]) (by have := hi s A; rwa [forceLf_eq] at this)
theorem vS : leaves ksL trS eS = some [nthLf (leavesD ksL trS eS) 0, nthLf (leavesD ksL trS eS) 1, nthLf (leavesD ksL trS eS) 2, nthLf (leavesD ksL trS eS) 3, nthLf (leavesD ksL trS eS) 4] := by kernel_rfl
theorem allSt : AllG (fun e => ∀ (s : Nat → Int) (A : Key → Option Value), ∃ hs, startOf Tryz.prog codeN natX 1000 100 wsL lensL TsX pthL ccL argsL n1 (linSym s (e.known A)) (e.known A) hs = true) [nthLf (leavesD ksL trS eS) 0, nthLf (leavesD ksL trS eS) 1, nthLf (leavesD ksL trS eS) 2, nthLf (leavesD ksL trS eS) 3, nthLf (leavesD ksL trS eS) 4] := allG_cons (way 0 _ (by kernel_rfl) (fun s A => by kernel_rfl)) (allG_cons (way 1 _ (by kernel_rfl) (fun s A => by kernel_rfl)) (allG_cons (way 2 _ (by kernel_rfl) (fun s A => by kernel_rfl)) (allG_cons (way 3 _ (by kernel_rfl) (fun s A => by kernel_rfl)) (allG_cons (way 4 _ (by kernel_rfl) (fun s A => by kernel_rfl)) (allG_nil)))))
theorem winis (W : World) (w0 : Win) (v0 : Value) (hk0 : w0.key = wk0) (hz0 : w0.esz = 1) (ha0 : IntArg W v0 w0) (σ : Nat → Int) (hl : LensAre [w0] lensL σ) : WinIs [w0] W σ ksL := by
  have hf0 : findW [w0] wk0 = some w0 := by
    show (match decide (w0.key = wk0) with | true => some w0 | false => findW [] wk0) = some w0
    rw [hk0]
    rfl
  refine ⟨fun j k hj => ?_⟩
  match j, hj with
  | 0, hj =>
    obtain rfl : (wk0, true) = k := Option.some.inj hj
    exact ⟨w0, v0, by rw [hk0]; exact hf0, hk0, hz0, len_of hl (by simp [lensL]) hf0, ha0⟩
  | n + 1, hj => cases hj
theorem loops (A : Key → Option Value) (W : World) (w0 : Win) (v0 : Value) (hk0 : w0.key = wk0) (hz0 : w0.esz = 1) (ha0 : IntArg W v0 w0) (hws : wsOf [w0] = wsL) (hA : ArgsAre A [w0]) {c : Code} (hb : Tryz.f3.body = some c) :
    LoopOk Tryz.prog (frameBits Tryz.f3 c) Tryz.f3.ntmps 100 A [w0] lensL W Tryz.f3 c TsX pthL :=
  loopOk_fn (code := codeN) (nat := natX) (fuel := 1000) (bound := 20) (nx := none) mixedN codeN_ok natX_ok globN Tryz.func3 hb compL hA boundL trivial (passes_allM hws (winis W w0 v0 hk0 hz0 ha0) good)
end Go.Ev
