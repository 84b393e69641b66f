/- Each pass of the loop is right: by its states. -/
import Derived.Test.YtebfhilokhbfgaaGreatDoorRun0
import Derived.Test.YtebfhilokhbfgaaGreatDoorRun1
import Derived.Test.YtebfhilokhbfgaaGreatDoorRun2
import Derived.Test.YtebfhilokhbfgaaGreatDoorRun3
import Derived.Test.YtebfhilokhbfgaaGreatDoorRun4
import Derived.Test.YtebfhilokhbfgaaGreatDoorRun5
import Derived.Test.YtebfhilokhbfgaaGreatDoorRun6
import Derived.Test.YtebfhilokhbfgaaGreatDoorRun7
import Derived.Test.YtebfhilokhbfgaaGreatDoorRun8
import Derived.Test.YtebfhilokhbfgaaGreatDoorRun9
namespace Go.Ev
open Go.Proofs
set_option maxRecDepth 1000000
set_option linter.unusedVariables false
theorem g0 : Z_ TS0 := mkG (tr := tr0) 5 (by kernel_rfl) ⟨⟨_, p0_0⟩, ⟨_, p0_1⟩, ⟨_, p0_2⟩, ⟨_, p0_3⟩, ⟨_, p0_4⟩, trivial⟩
theorem g1 : Z_ TS1 := mkG (tr := tr0) 5 (by kernel_rfl) ⟨⟨_, p1_0⟩, ⟨_, p1_1⟩, ⟨_, p1_2⟩, ⟨_, p1_3⟩, ⟨_, p1_4⟩, trivial⟩
theorem g2 : Z_ TS2 := mkG (tr := tr1) 9 (by kernel_rfl) ⟨⟨_, p2_0⟩, ⟨_, p2_1⟩, ⟨_, p2_2⟩, ⟨_, p2_3⟩, ⟨_, p2_4⟩, ⟨_, p2_5⟩, ⟨_, p2_6⟩, ⟨_, p2_7⟩, ⟨_, p2_8⟩, trivial⟩
theorem g3 : Z_ TS3 := mkG (tr := tr2) 9 (by kernel_rfl) ⟨⟨_, p3_0⟩, ⟨_, p3_1⟩, ⟨_, p3_2⟩, ⟨_, p3_3⟩, ⟨_, p3_4⟩, ⟨_, p3_5⟩, ⟨_, p3_6⟩, ⟨_, p3_7⟩, ⟨_, p3_8⟩, trivial⟩
theorem g4 : Z_ TS4 := mkG (tr := tr0) 5 (by kernel_rfl) ⟨⟨_, p4_0⟩, ⟨_, p4_1⟩, ⟨_, p4_2⟩, ⟨_, p4_3⟩, ⟨_, p4_4⟩, trivial⟩
theorem g5 : Z_ TS5 := mkG (tr := tr3) 17 (by kernel_rfl) ⟨⟨_, p5_0⟩, ⟨_, p5_1⟩, ⟨_, p5_2⟩, ⟨_, p5_3⟩, ⟨_, p5_4⟩, ⟨_, p5_5⟩, ⟨_, p5_6⟩, ⟨_, p5_7⟩, ⟨_, p5_8⟩, ⟨_, p5_9⟩, ⟨_, p5_10⟩, ⟨_, p5_11⟩, ⟨_, p5_12⟩, ⟨_, p5_13⟩, ⟨_, p5_14⟩, ⟨_, p5_15⟩, ⟨_, p5_16⟩, trivial⟩
theorem g6 : Z_ TS6 := mkG (tr := tr2) 9 (by kernel_rfl) ⟨⟨_, p6_0⟩, ⟨_, p6_1⟩, ⟨_, p6_2⟩, ⟨_, p6_3⟩, ⟨_, p6_4⟩, ⟨_, p6_5⟩, ⟨_, p6_6⟩, ⟨_, p6_7⟩, ⟨_, p6_8⟩, trivial⟩
theorem g7 : Z_ TS7 := mkG (tr := tr3) 17 (by kernel_rfl) ⟨⟨_, p7_0⟩, ⟨_, p7_1⟩, ⟨_, p7_2⟩, ⟨_, p7_3⟩, ⟨_, p7_4⟩, ⟨_, p7_5⟩, ⟨_, p7_6⟩, ⟨_, p7_7⟩, ⟨_, p7_8⟩, ⟨_, p7_9⟩, ⟨_, p7_10⟩, ⟨_, p7_11⟩, ⟨_, p7_12⟩, ⟨_, p7_13⟩, ⟨_, p7_14⟩, ⟨_, p7_15⟩, ⟨_, p7_16⟩, trivial⟩
theorem g8 : Z_ TS8 := mkG (tr := tr2) 9 (by kernel_rfl) ⟨⟨_, p8_0⟩, ⟨_, p8_1⟩, ⟨_, p8_2⟩, ⟨_, p8_3⟩, ⟨_, p8_4⟩, ⟨_, p8_5⟩, ⟨_, p8_6⟩, ⟨_, p8_7⟩, ⟨_, p8_8⟩, trivial⟩
theorem g9 : Z_ TS9 := mkG (tr := tr2) 9 (by kernel_rfl) ⟨⟨_, p9_0⟩, ⟨_, p9_1⟩, ⟨_, p9_2⟩, ⟨_, p9_3⟩, ⟨_, p9_4⟩, ⟨_, p9_5⟩, ⟨_, p9_6⟩, ⟨_, p9_7⟩, ⟨_, p9_8⟩, trivial⟩
theorem g10 : Z_ TS10 := mkG (tr := tr2) 9 (by kernel_rfl) ⟨⟨_, p10_0⟩, ⟨_, p10_1⟩, ⟨_, p10_2⟩, ⟨_, p10_3⟩, ⟨_, p10_4⟩, ⟨_, p10_5⟩, ⟨_, p10_6⟩, ⟨_, p10_7⟩, ⟨_, p10_8⟩, trivial⟩
theorem g11 : Z_ TS11 := mkG (tr := tr4) 17 (by kernel_rfl) ⟨⟨_, p11_0⟩, ⟨_, p11_1⟩, ⟨_, p11_2⟩, ⟨_, p11_3⟩, ⟨_, p11_4⟩, ⟨_, p11_5⟩, ⟨_, p11_6⟩, ⟨_, p11_7⟩, ⟨_, p11_8⟩, ⟨_, p11_9⟩, ⟨_, p11_10⟩, ⟨_, p11_11⟩, ⟨_, p11_12⟩, ⟨_, p11_13⟩, ⟨_, p11_14⟩, ⟨_, p11_15⟩, ⟨_, p11_16⟩, trivial⟩
theorem g12 : Z_ TS12 := mkG (tr := tr2) 9 (by kernel_rfl) ⟨⟨_, p12_0⟩, ⟨_, p12_1⟩, ⟨_, p12_2⟩, ⟨_, p12_3⟩, ⟨_, p12_4⟩, ⟨_, p12_5⟩, ⟨_, p12_6⟩, ⟨_, p12_7⟩, ⟨_, p12_8⟩, trivial⟩
theorem g13 : Z_ TS13 := mkG (tr := tr4) 17 (by kernel_rfl) ⟨⟨_, p13_0⟩, ⟨_, p13_1⟩, ⟨_, p13_2⟩, ⟨_, p13_3⟩, ⟨_, p13_4⟩, ⟨_, p13_5⟩, ⟨_, p13_6⟩, ⟨_, p13_7⟩, ⟨_, p13_8⟩, ⟨_, p13_9⟩, ⟨_, p13_10⟩, ⟨_, p13_11⟩, ⟨_, p13_12⟩, ⟨_, p13_13⟩, ⟨_, p13_14⟩, ⟨_, p13_15⟩, ⟨_, p13_16⟩, trivial⟩
theorem g14 : Z_ TS14 := mkG (tr := tr2) 9 (by kernel_rfl) ⟨⟨_, p14_0⟩, ⟨_, p14_1⟩, ⟨_, p14_2⟩, ⟨_, p14_3⟩, ⟨_, p14_4⟩, ⟨_, p14_5⟩, ⟨_, p14_6⟩, ⟨_, p14_7⟩, ⟨_, p14_8⟩, trivial⟩
theorem g15 : Z_ TS15 := mkG (tr := tr2) 9 (by kernel_rfl) ⟨⟨_, p15_0⟩, ⟨_, p15_1⟩, ⟨_, p15_2⟩, ⟨_, p15_3⟩, ⟨_, p15_4⟩, ⟨_, p15_5⟩, ⟨_, p15_6⟩, ⟨_, p15_7⟩, ⟨_, p15_8⟩, trivial⟩
theorem g16 : Z_ TS16 := mkG (tr := tr2) 9 (by kernel_rfl) ⟨⟨_, p16_0⟩, ⟨_, p16_1⟩, ⟨_, p16_2⟩, ⟨_, p16_3⟩, ⟨_, p16_4⟩, ⟨_, p16_5⟩, ⟨_, p16_6⟩, ⟨_, p16_7⟩, ⟨_, p16_8⟩, trivial⟩
theorem g17 : Z_ TS17 := mkG (tr := tr5) 17 (by kernel_rfl) ⟨⟨_, p17_0⟩, ⟨_, p17_1⟩, ⟨_, p17_2⟩, ⟨_, p17_3⟩, ⟨_, p17_4⟩, ⟨_, p17_5⟩, ⟨_, p17_6⟩, ⟨_, p17_7⟩, ⟨_, p17_8⟩, ⟨_, p17_9⟩, ⟨_, p17_10⟩, ⟨_, p17_11⟩, ⟨_, p17_12⟩, ⟨_, p17_13⟩, ⟨_, p17_14⟩, ⟨_, p17_15⟩, ⟨_, p17_16⟩, trivial⟩
theorem g18 : Z_ TS18 := mkG (tr := tr2) 9 (by kernel_rfl) ⟨⟨_, p18_0⟩, ⟨_, p18_1⟩, ⟨_, p18_2⟩, ⟨_, p18_3⟩, ⟨_, p18_4⟩, ⟨_, p18_5⟩, ⟨_, p18_6⟩, ⟨_, p18_7⟩, ⟨_, p18_8⟩, trivial⟩
theorem g19 : Z_ TS19 := mkG (tr := tr5) 17 (by kernel_rfl) ⟨⟨_, p19_0⟩, ⟨_, p19_1⟩, ⟨_, p19_2⟩, ⟨_, p19_3⟩, ⟨_, p19_4⟩, ⟨_, p19_5⟩, ⟨_, p19_6⟩, ⟨_, p19_7⟩, ⟨_, p19_8⟩, ⟨_, p19_9⟩, ⟨_, p19_10⟩, ⟨_, p19_11⟩, ⟨_, p19_12⟩, ⟨_, p19_13⟩, ⟨_, p19_14⟩, ⟨_, p19_15⟩, ⟨_, p19_16⟩, trivial⟩
theorem g20 : Z_ TS20 := mkG (tr := tr2) 9 (by kernel_rfl) ⟨⟨_, p20_0⟩, ⟨_, p20_1⟩, ⟨_, p20_2⟩, ⟨_, p20_3⟩, ⟨_, p20_4⟩, ⟨_, p20_5⟩, ⟨_, p20_6⟩, ⟨_, p20_7⟩, ⟨_, p20_8⟩, trivial⟩
theorem g21 : Z_ TS21 := mkG (tr := tr2) 9 (by kernel_rfl) ⟨⟨_, p21_0⟩, ⟨_, p21_1⟩, ⟨_, p21_2⟩, ⟨_, p21_3⟩, ⟨_, p21_4⟩, ⟨_, p21_5⟩, ⟨_, p21_6⟩, ⟨_, p21_7⟩, ⟨_, p21_8⟩, trivial⟩
theorem g22 : Z_ TS22 := mkG (tr := tr2) 9 (by kernel_rfl) ⟨⟨_, p22_0⟩, ⟨_, p22_1⟩, ⟨_, p22_2⟩, ⟨_, p22_3⟩, ⟨_, p22_4⟩, ⟨_, p22_5⟩, ⟨_, p22_6⟩, ⟨_, p22_7⟩, ⟨_, p22_8⟩, trivial⟩
theorem g23 : Z_ TS23 := mkG (tr := tr6) 17 (by kernel_rfl) ⟨⟨_, p23_0⟩, ⟨_, p23_1⟩, ⟨_, p23_2⟩, ⟨_, p23_3⟩, ⟨_, p23_4⟩, ⟨_, p23_5⟩, ⟨_, p23_6⟩, ⟨_, p23_7⟩, ⟨_, p23_8⟩, ⟨_, p23_9⟩, ⟨_, p23_10⟩, ⟨_, p23_11⟩, ⟨_, p23_12⟩, ⟨_, p23_13⟩, ⟨_, p23_14⟩, ⟨_, p23_15⟩, ⟨_, p23_16⟩, trivial⟩
theorem g24 : Z_ TS24 := mkG (tr := tr2) 9 (by kernel_rfl) ⟨⟨_, p24_0⟩, ⟨_, p24_1⟩, ⟨_, p24_2⟩, ⟨_, p24_3⟩, ⟨_, p24_4⟩, ⟨_, p24_5⟩, ⟨_, p24_6⟩, ⟨_, p24_7⟩, ⟨_, p24_8⟩, trivial⟩
theorem g25 : Z_ TS25 := mkG (tr := tr6) 17 (by kernel_rfl) ⟨⟨_, p25_0⟩, ⟨_, p25_1⟩, ⟨_, p25_2⟩, ⟨_, p25_3⟩, ⟨_, p25_4⟩, ⟨_, p25_5⟩, ⟨_, p25_6⟩, ⟨_, p25_7⟩, ⟨_, p25_8⟩, ⟨_, p25_9⟩, ⟨_, p25_10⟩, ⟨_, p25_11⟩, ⟨_, p25_12⟩, ⟨_, p25_13⟩, ⟨_, p25_14⟩, ⟨_, p25_15⟩, ⟨_, p25_16⟩, trivial⟩
theorem g26 : Z_ TS26 := mkG (tr := tr2) 9 (by kernel_rfl) ⟨⟨_, p26_0⟩, ⟨_, p26_1⟩, ⟨_, p26_2⟩, ⟨_, p26_3⟩, ⟨_, p26_4⟩, ⟨_, p26_5⟩, ⟨_, p26_6⟩, ⟨_, p26_7⟩, ⟨_, p26_8⟩, trivial⟩
theorem g27 : Z_ TS27 := mkG (tr := tr2) 9 (by kernel_rfl) ⟨⟨_, p27_0⟩, ⟨_, p27_1⟩, ⟨_, p27_2⟩, ⟨_, p27_3⟩, ⟨_, p27_4⟩, ⟨_, p27_5⟩, ⟨_, p27_6⟩, ⟨_, p27_7⟩, ⟨_, p27_8⟩, trivial⟩
theorem g28 : Z_ TS28 := mkG (tr := tr2) 9 (by kernel_rfl) ⟨⟨_, p28_0⟩, ⟨_, p28_1⟩, ⟨_, p28_2⟩, ⟨_, p28_3⟩, ⟨_, p28_4⟩, ⟨_, p28_5⟩, ⟨_, p28_6⟩, ⟨_, p28_7⟩, ⟨_, p28_8⟩, trivial⟩
theorem g29 : Z_ TS29 := mkG (tr := tr7) 17 (by kernel_rfl) ⟨⟨_, p29_0⟩, ⟨_, p29_1⟩, ⟨_, p29_2⟩, ⟨_, p29_3⟩, ⟨_, p29_4⟩, ⟨_, p29_5⟩, ⟨_, p29_6⟩, ⟨_, p29_7⟩, ⟨_, p29_8⟩, ⟨_, p29_9⟩, ⟨_, p29_10⟩, ⟨_, p29_11⟩, ⟨_, p29_12⟩, ⟨_, p29_13⟩, ⟨_, p29_14⟩, ⟨_, p29_15⟩, ⟨_, p29_16⟩, trivial⟩
theorem g30 : Z_ TS30 := mkG (tr := tr2) 9 (by kernel_rfl) ⟨⟨_, p30_0⟩, ⟨_, p30_1⟩, ⟨_, p30_2⟩, ⟨_, p30_3⟩, ⟨_, p30_4⟩, ⟨_, p30_5⟩, ⟨_, p30_6⟩, ⟨_, p30_7⟩, ⟨_, p30_8⟩, trivial⟩
theorem g31 : Z_ TS31 := mkG (tr := tr7) 17 (by kernel_rfl) ⟨⟨_, p31_0⟩, ⟨_, p31_1⟩, ⟨_, p31_2⟩, ⟨_, p31_3⟩, ⟨_, p31_4⟩, ⟨_, p31_5⟩, ⟨_, p31_6⟩, ⟨_, p31_7⟩, ⟨_, p31_8⟩, ⟨_, p31_9⟩, ⟨_, p31_10⟩, ⟨_, p31_11⟩, ⟨_, p31_12⟩, ⟨_, p31_13⟩, ⟨_, p31_14⟩, ⟨_, p31_15⟩, ⟨_, p31_16⟩, trivial⟩
theorem g32 : Z_ TS32 := mkG (tr := tr2) 9 (by kernel_rfl) ⟨⟨_, p32_0⟩, ⟨_, p32_1⟩, ⟨_, p32_2⟩, ⟨_, p32_3⟩, ⟨_, p32_4⟩, ⟨_, p32_5⟩, ⟨_, p32_6⟩, ⟨_, p32_7⟩, ⟨_, p32_8⟩, trivial⟩
theorem g33 : Z_ TS33 := mkG (tr := tr2) 9 (by kernel_rfl) ⟨⟨_, p33_0⟩, ⟨_, p33_1⟩, ⟨_, p33_2⟩, ⟨_, p33_3⟩, ⟨_, p33_4⟩, ⟨_, p33_5⟩, ⟨_, p33_6⟩, ⟨_, p33_7⟩, ⟨_, p33_8⟩, trivial⟩
theorem g34 : Z_ TS34 := mkG (tr := tr2) 9 (by kernel_rfl) ⟨⟨_, p34_0⟩, ⟨_, p34_1⟩, ⟨_, p34_2⟩, ⟨_, p34_3⟩, ⟨_, p34_4⟩, ⟨_, p34_5⟩, ⟨_, p34_6⟩, ⟨_, p34_7⟩, ⟨_, p34_8⟩, trivial⟩
theorem g35 : Z_ TS35 := mkG (tr := tr8) 17 (by kernel_rfl) ⟨⟨_, p35_0⟩, ⟨_, p35_1⟩, ⟨_, p35_2⟩, ⟨_, p35_3⟩, ⟨_, p35_4⟩, ⟨_, p35_5⟩, ⟨_, p35_6⟩, ⟨_, p35_7⟩, ⟨_, p35_8⟩, ⟨_, p35_9⟩, ⟨_, p35_10⟩, ⟨_, p35_11⟩, ⟨_, p35_12⟩, ⟨_, p35_13⟩, ⟨_, p35_14⟩, ⟨_, p35_15⟩, ⟨_, p35_16⟩, trivial⟩
theorem g36 : Z_ TS36 := mkG (tr := tr2) 9 (by kernel_rfl) ⟨⟨_, p36_0⟩, ⟨_, p36_1⟩, ⟨_, p36_2⟩, ⟨_, p36_3⟩, ⟨_, p36_4⟩, ⟨_, p36_5⟩, ⟨_, p36_6⟩, ⟨_, p36_7⟩, ⟨_, p36_8⟩, trivial⟩
theorem g37 : Z_ TS37 := mkG (tr := tr8) 17 (by kernel_rfl) ⟨⟨_, p37_0⟩, ⟨_, p37_1⟩, ⟨_, p37_2⟩, ⟨_, p37_3⟩, ⟨_, p37_4⟩, ⟨_, p37_5⟩, ⟨_, p37_6⟩, ⟨_, p37_7⟩, ⟨_, p37_8⟩, ⟨_, p37_9⟩, ⟨_, p37_10⟩, ⟨_, p37_11⟩, ⟨_, p37_12⟩, ⟨_, p37_13⟩, ⟨_, p37_14⟩, ⟨_, p37_15⟩, ⟨_, p37_16⟩, trivial⟩
theorem g38 : Z_ TS38 := mkG (tr := tr2) 9 (by kernel_rfl) ⟨⟨_, p38_0⟩, ⟨_, p38_1⟩, ⟨_, p38_2⟩, ⟨_, p38_3⟩, ⟨_, p38_4⟩, ⟨_, p38_5⟩, ⟨_, p38_6⟩, ⟨_, p38_7⟩, ⟨_, p38_8⟩, trivial⟩
theorem g39 : Z_ TS39 := mkG (tr := tr2) 9 (by kernel_rfl) ⟨⟨_, p39_0⟩, ⟨_, p39_1⟩, ⟨_, p39_2⟩, ⟨_, p39_3⟩, ⟨_, p39_4⟩, ⟨_, p39_5⟩, ⟨_, p39_6⟩, ⟨_, p39_7⟩, ⟨_, p39_8⟩, trivial⟩
theorem g40 : Z_ TS40 := mkG (tr := tr2) 9 (by kernel_rfl) ⟨⟨_, p40_0⟩, ⟨_, p40_1⟩, ⟨_, p40_2⟩, ⟨_, p40_3⟩, ⟨_, p40_4⟩, ⟨_, p40_5⟩, ⟨_, p40_6⟩, ⟨_, p40_7⟩, ⟨_, p40_8⟩, trivial⟩
theorem g41 : Z_ TS41 := mkG (tr := tr9) 17 (by kernel_rfl) ⟨⟨_, p41_0⟩, ⟨_, p41_1⟩, ⟨_, p41_2⟩, ⟨_, p41_3⟩, ⟨_, p41_4⟩, ⟨_, p41_5⟩, ⟨_, p41_6⟩, ⟨_, p41_7⟩, ⟨_, p41_8⟩, ⟨_, p41_9⟩, ⟨_, p41_10⟩, ⟨_, p41_11⟩, ⟨_, p41_12⟩, ⟨_, p41_13⟩, ⟨_, p41_14⟩, ⟨_, p41_15⟩, ⟨_, p41_16⟩, trivial⟩
theorem g42 : Z_ TS42 := mkG (tr := tr2) 9 (by kernel_rfl) ⟨⟨_, p42_0⟩, ⟨_, p42_1⟩, ⟨_, p42_2⟩, ⟨_, p42_3⟩, ⟨_, p42_4⟩, ⟨_, p42_5⟩, ⟨_, p42_6⟩, ⟨_, p42_7⟩, ⟨_, p42_8⟩, trivial⟩
theorem g43 : Z_ TS43 := mkG (tr := tr9) 17 (by kernel_rfl) ⟨⟨_, p43_0⟩, ⟨_, p43_1⟩, ⟨_, p43_2⟩, ⟨_, p43_3⟩, ⟨_, p43_4⟩, ⟨_, p43_5⟩, ⟨_, p43_6⟩, ⟨_, p43_7⟩, ⟨_, p43_8⟩, ⟨_, p43_9⟩, ⟨_, p43_10⟩, ⟨_, p43_11⟩, ⟨_, p43_12⟩, ⟨_, p43_13⟩, ⟨_, p43_14⟩, ⟨_, p43_15⟩, ⟨_, p43_16⟩, trivial⟩
theorem g44 : Z_ TS44 := mkG (tr := tr10) 9 (by kernel_rfl) ⟨⟨_, p44_0⟩, ⟨_, p44_1⟩, ⟨_, p44_2⟩, ⟨_, p44_3⟩, ⟨_, p44_4⟩, ⟨_, p44_5⟩, ⟨_, p44_6⟩, ⟨_, p44_7⟩, ⟨_, p44_8⟩, trivial⟩
theorem g45 : Z_ TS45 := mkG (tr := tr2) 9 (by kernel_rfl) ⟨⟨_, p45_0⟩, ⟨_, p45_1⟩, ⟨_, p45_2⟩, ⟨_, p45_3⟩, ⟨_, p45_4⟩, ⟨_, p45_5⟩, ⟨_, p45_6⟩, ⟨_, p45_7⟩, ⟨_, p45_8⟩, trivial⟩
theorem g46 : Z_ TS46 := mkG (tr := tr2) 9 (by kernel_rfl) ⟨⟨_, p46_0⟩, ⟨_, p46_1⟩, ⟨_, p46_2⟩, ⟨_, p46_3⟩, ⟨_, p46_4⟩, ⟨_, p46_5⟩, ⟨_, p46_6⟩, ⟨_, p46_7⟩, ⟨_, p46_8⟩, trivial⟩
theorem g47 : Z_ TS47 := mkG (tr := tr11) 17 (by kernel_rfl) ⟨⟨_, p47_0⟩, ⟨_, p47_1⟩, ⟨_, p47_2⟩, ⟨_, p47_3⟩, ⟨_, p47_4⟩, ⟨_, p47_5⟩, ⟨_, p47_6⟩, ⟨_, p47_7⟩, ⟨_, p47_8⟩, ⟨_, p47_9⟩, ⟨_, p47_10⟩, ⟨_, p47_11⟩, ⟨_, p47_12⟩, ⟨_, p47_13⟩, ⟨_, p47_14⟩, ⟨_, p47_15⟩, ⟨_, p47_16⟩, trivial⟩
theorem g48 : Z_ TS48 := mkG (tr := tr10) 9 (by kernel_rfl) ⟨⟨_, p48_0⟩, ⟨_, p48_1⟩, ⟨_, p48_2⟩, ⟨_, p48_3⟩, ⟨_, p48_4⟩, ⟨_, p48_5⟩, ⟨_, p48_6⟩, ⟨_, p48_7⟩, ⟨_, p48_8⟩, trivial⟩
theorem all : AllS (StateGoodC Tryz.prog codeN natX 1000 100 wsL lensL TsL pthL preL qL jL ccL rsL ksL) TsL := (allS_cons g0 (allS_cons g1 (allS_cons g2 (allS_cons g3 (allS_cons g4 (allS_cons g5 (allS_cons g6 (allS_cons g7 (allS_cons g8 (allS_cons g9 (allS_cons g10 (allS_cons g11 (allS_cons g12 (allS_cons g13 (allS_cons g14 (allS_cons g15 (allS_cons g16 (allS_cons g17 (allS_cons g18 (allS_cons g19 (allS_cons g20 (allS_cons g21 (allS_cons g22 (allS_cons g23 (allS_cons g24 (allS_cons g25 (allS_cons g26 (allS_cons g27 (allS_cons g28 (allS_cons g29 (allS_cons g30 (allS_cons g31 (allS_cons g32 (allS_cons g33 (allS_cons g34 (allS_cons g35 (allS_cons g36 (allS_cons g37 (allS_cons g38 (allS_cons g39 (allS_cons g40 (allS_cons g41 (allS_cons g42 (allS_cons g43 (allS_cons g44 (allS_cons g45 (allS_cons g46 (allS_cons g47 (allS_cons g48 allS_nil)))))))))))))))))))))))))))))))))))))))))))))))))
theorem vS : leaves ksL trS eS = some [nthLf (leavesD ksL trS eS) 0] := by kernel_rfl
theorem allSt : AllG SG [nthLf (leavesD ksL trS eS) 0] := (allG_cons (mkSt q0) allG_nil)
theorem winis (W : World) (w0 : Win) (v0 : Value) (w1 : Win) (v1 : Value) (hk0 : w0.key = wk0) (hz0 : w0.esz = 1) (ha0 : IntArg W v0 w0) (hk1 : w1.key = wk1) (hz1 : w1.esz = 1) (ha1 : BoolArg W v1 w1) (σ : Nat → Int) (hl : LensAre [w0, w1] lensL σ) : WinIs [w0, w1] W σ ksL := by
  have hf0 : findW [w0, w1] wk0 = some w0 := by
    show (match decide (w0.key = wk0) with | true => some w0 | false => findW [w1] wk0) = some w0
    rw [hk0]
    rfl
  have hf1 : findW [w0, w1] wk1 = some w1 := by
    show (match decide (w0.key = wk1) with | true => some w0 | false => findW [w1] wk1) = some w1
    rw [hk0]
    show (match decide (w1.key = wk1) with | true => some w1 | false => findW [] wk1) = some w1
    rw [hk1]
    rfl
  refine ⟨fun j k hj => ?_⟩
  match j, hj with
  | 0, hj =>
    obtain rfl : (wk0, true) = k := Option.some.inj hj
    exact ⟨w0, v0, by rw [hk0]; exact hf0, hk0, hz0, len_of hl (by simp [lensL]) hf0, ha0⟩
  | 1, hj =>
    obtain rfl : (wk1, false) = k := Option.some.inj hj
    exact ⟨w1, v1, by rw [hk1]; exact hf1, hk1, hz1, len_of hl (by simp [lensL]) hf1, ha1⟩
  | n + 2, hj => cases hj
theorem passes (A : Key → Option Value) (W : World) (w0 : Win) (v0 : Value) (w1 : Win) (v1 : Value) (hk0 : w0.key = wk0) (hz0 : w0.esz = 1) (ha0 : IntArg W v0 w0) (hk1 : w1.key = wk1) (hz1 : w1.esz = 1) (ha1 : BoolArg W v1 w1) (hws : wsOf [w0, w1] = wsL) : PassesC Tryz.prog codeN natX 1000 100 [w0, w1] lensL A TsL pthL preL qL jL ccL rsL W :=
  passes_allC hws (winis W w0 v0 w1 v1 hk0 hz0 ha0 hk1 hz1 ha1) all
end Go.Ev
