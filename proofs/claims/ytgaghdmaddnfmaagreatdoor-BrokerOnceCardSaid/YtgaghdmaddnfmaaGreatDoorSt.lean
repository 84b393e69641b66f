/- The states at the loop's head, and the cases of a pass. -/
import Derived.Test.YtgaghdmaddnfmaaGreatDoorTop
namespace Go.Ev
open Go.Proofs
set_option maxRecDepth 1000000
def wk0 : Key := .mk .d0 .d0 .d6 .d4
def wsL : List (Key × Nat) := [(wk0, 1)]
def lensL : List (Key × Nat) := [(wk0, 1)]
def ksL : List (Key × Bool) := [(wk0, true)]
def n1 : Key := .mk .d0 .d0 .d7 .d0
def ccL : CCode := bodyF c3
def rsL : List CRes := resF c3
def pthL : List Stp := [.r, .r, .r, .r, .r, .r, .r, .l, .r, .b]
def y256 : Key := .mk .d0 .d1 .d0 .d0
def y257 : Key := .mk .d0 .d1 .d0 .d1
def y258 : Key := .mk .d0 .d1 .d0 .d2
def y259 : Key := .mk .d0 .d1 .d0 .d3
def y260 : Key := .mk .d0 .d1 .d0 .d4
def y261 : Key := .mk .d0 .d1 .d0 .d5
def y262 : Key := .mk .d0 .d1 .d0 .d6
def y263 : Key := .mk .d0 .d1 .d0 .d7
def y264 : Key := .mk .d0 .d1 .d0 .d8
def y265 : Key := .mk .d0 .d1 .d0 .d9
def y266 : Key := .mk .d0 .d1 .d0 .d10
def y267 : Key := .mk .d0 .d1 .d0 .d11
def y268 : Key := .mk .d0 .d1 .d0 .d12
def y269 : Key := .mk .d0 .d1 .d0 .d13
def y270 : Key := .mk .d0 .d1 .d0 .d14
def y271 : Key := .mk .d0 .d1 .d0 .d15
def y272 : Key := .mk .d0 .d1 .d1 .d0
def y273 : Key := .mk .d0 .d1 .d1 .d1
def y274 : Key := .mk .d0 .d1 .d1 .d2
def y275 : Key := .mk .d0 .d1 .d1 .d3
def y276 : Key := .mk .d0 .d1 .d1 .d4
def y277 : Key := .mk .d0 .d1 .d1 .d5
def y278 : Key := .mk .d0 .d1 .d1 .d6
def y279 : Key := .mk .d0 .d1 .d1 .d7
def y280 : Key := .mk .d0 .d1 .d1 .d8
def y281 : Key := .mk .d0 .d1 .d1 .d9
def y282 : Key := .mk .d0 .d1 .d1 .d10
def y283 : Key := .mk .d0 .d1 .d1 .d11
def y284 : Key := .mk .d0 .d1 .d1 .d12
def y285 : Key := .mk .d0 .d1 .d1 .d13
def y286 : Key := .mk .d0 .d1 .d1 .d14
def y287 : Key := .mk .d0 .d1 .d1 .d15
def y288 : Key := .mk .d0 .d1 .d2 .d0
def y289 : Key := .mk .d0 .d1 .d2 .d1
def y290 : Key := .mk .d0 .d1 .d2 .d2
def y291 : Key := .mk .d0 .d1 .d2 .d3
def y292 : Key := .mk .d0 .d1 .d2 .d4
def y301 : Key := .mk .d0 .d1 .d2 .d13
def y302 : Key := .mk .d0 .d1 .d2 .d14
def y303 : Key := .mk .d0 .d1 .d2 .d15
def y422 : Key := .mk .d0 .d1 .d10 .d6
def y423 : Key := .mk .d0 .d1 .d10 .d7
def y489 : Key := .mk .d0 .d1 .d14 .d9
def y490 : Key := .mk .d0 .d1 .d14 .d10
def y491 : Key := .mk .d0 .d1 .d14 .d11
def y492 : Key := .mk .d0 .d1 .d14 .d12
def y493 : Key := .mk .d0 .d1 .d14 .d13
def y536 : Key := .mk .d0 .d2 .d1 .d8
def y537 : Key := .mk .d0 .d2 .d1 .d9
def y648 : Key := .mk .d0 .d2 .d8 .d8
def y649 : Key := .mk .d0 .d2 .d8 .d9
def y650 : Key := .mk .d0 .d2 .d8 .d10
def y651 : Key := .mk .d0 .d2 .d8 .d11
def y652 : Key := .mk .d0 .d2 .d8 .d12
def y653 : Key := .mk .d0 .d2 .d8 .d13
def y680 : Key := .mk .d0 .d2 .d10 .d8
def y681 : Key := .mk .d0 .d2 .d10 .d9
def y682 : Key := .mk .d0 .d2 .d10 .d10
def y683 : Key := .mk .d0 .d2 .d10 .d11
def y684 : Key := .mk .d0 .d2 .d10 .d12
def y888 : Key := .mk .d0 .d3 .d7 .d8
def y889 : Key := .mk .d0 .d3 .d7 .d9
def y890 : Key := .mk .d0 .d3 .d7 .d10
def y891 : Key := .mk .d0 .d3 .d7 .d11
def y892 : Key := .mk .d0 .d3 .d7 .d12
def y1011 : Key := .mk .d0 .d3 .d15 .d3
def TS0 : TS := ⟨[(0, (.win (.mk .d0 .d0 .d6 .d4) 1 ⟨.i64, (.ofNat 0), [(0, (.ofNat 1))]⟩ ⟨.i64, (.ofNat 0), [(1, (.ofNat 1))]⟩)), (3, (.ptr (y256) 0)), (4, (.bool false)), (5, (.nat 0)), (6, (.sym ⟨.i64, (.ofNat 0), [(0, (.ofNat 1))]⟩))], [(y256, (.cells [(.ptr (y257) 0), (.bool false)])), (y257, (.cells [(.nat 1), (.bool true), (.sl (y258) 0 1 1 2 false), (.nat 1), (.sym ⟨.i64, (.ofNat 0), [(2, (.ofNat 1))]⟩), (.nat 0), .niliface, (.iface 133 (.ptr (y259) 0)), (.iface 133 (.ptr (y260) 0)), .niliface, .niliface, .niliface, .niliface, .niliface, .niliface, (.map (y261)), (.ptr (y262) 0), (.map (y263)), (.map (y264)), .nilsl, .nilsl, .nilsl, (.map (y265))])), (y258, (.cells [(.str [117]), (.sl (y266) 0 1 1 1 false)])), (y259, (.cells [(.ptr (y267) 0), (.str [97]), (.bool false), (.nat 0), (.nat 4294967295), (.nat 65535), (.nat 268435460), (.nat 0), (.str []), (.str []), (.bool false), (.str []), .nilsl, (.nat 0), (.bool false), (.str []), (.nat 0), .nilsl, (.nat 0), (.nat 0), (.nat 0), (.nat 0), (.nat 0), (.ptr (y268) 0), (.ptr (y269) 0), (.nat 1), .nilsl, .nilsl])), (y260, (.cells [(.ptr (y270) 0), (.str [98]), (.bool false), (.nat 0), (.nat 4294967295), (.nat 65535), (.nat 268435460), (.nat 0), (.str []), (.str []), (.bool false), (.str []), .nilsl, (.nat 0), (.bool false), (.str []), (.nat 0), .nilsl, (.nat 0), (.nat 0), (.nat 0), (.nat 0), (.nat 0), (.ptr (y271) 0), (.ptr (y272) 0), (.nat 1), .nilsl, .nilsl])), (y261, (.map [⟨(.str [97]), (.ptr (y273) 0), 0⟩, ⟨(.str [98]), (.ptr (y274) 0), 1⟩] 2)), (y262, (.cells [(.map (y275))])), (y263, (.map [] 0)), (y264, (.map [] 0)), (y265, (.map [⟨(.nat 1), (.func (.func 29) [] []), 0⟩, ⟨(.nat 2), (.func (.func 30) [] []), 1⟩, ⟨(.nat 3), (.func (.func 31) [] []), 2⟩, ⟨(.nat 4), (.func (.func 32) [] []), 3⟩, ⟨(.nat 5), (.func (.func 33) [] []), 4⟩, ⟨(.nat 6), (.func (.func 34) [] []), 5⟩] 6)), (y266, (.cells [(.int .u8 (.ofNat 115))])), (y267, (.cells [(.nat 1), (.ptr (y276) 0)])), (y268, (.cells [(.nat 4), (.map (y277))])), (y269, (.cells [(.nat 0), (.map (y278))])), (y270, (.cells [(.nat 2), (.ptr (y279) 0)])), (y271, (.cells [(.nat 4), (.map (y280))])), (y272, (.cells [(.nat 0), (.map (y281))])), (y273, (.cells [(.ptr (y282) 0), (.str [97]), (.nat 4294967295), (.nat 0), (.bool true), .nilsl, .nilsl, .nilsl, (.ptr (y283) 0)])), (y274, (.cells [(.ptr (y284) 0), (.str [98]), (.nat 4294967295), (.nat 0), (.bool true), (.sl (y285) 0 1 1 6 false), .nilsl, .nilsl, (.ptr (y286) 0)])), (y275, (.map [] 0)), (y276, (.cells [(.nat 512), .nilsl, (.nat 0)])), (y277, (.map [] 0)), (y278, (.map [] 0)), (y279, (.cells [(.nat 512), .nilsl, (.nat 0)])), (y280, (.map [] 0)), (y281, (.map [] 0)), (y282, (.cells [(.map (y287))])), (y283, (.cells [(.map (y288))])), (y284, (.cells [(.map (y289))])), (y285, (.cells [(.str [116]), (.nat 0), (.bool false), (.bool false), (.nat 0), (.nat 0)])), (y286, (.cells [(.map (y290))])), (y287, (.map [] 0)), (y288, (.map [] 0)), (y289, (.map [] 0)), (y290, (.map [] 0))], y291, [(0, 20), (0, 9223372036854775807), (0, 86)], [([(0, -1), (2, 1)], -85, 1)], []⟩
def TS1 : TS := ⟨[(0, (.win (.mk .d0 .d0 .d6 .d4) 1 ⟨.i64, (.ofNat 0), [(0, (.ofNat 1))]⟩ ⟨.i64, (.ofNat 0), [(1, (.ofNat 1))]⟩)), (3, (.ptr (y256) 0)), (4, (.bool true)), (5, (.nat 0)), (6, (.sym ⟨.i64, (.ofNat 0), [(0, (.ofNat 1))]⟩))], [(y256, (.cells [(.ptr (y257) 0), (.bool false)])), (y257, (.cells [(.nat 1), (.bool true), (.sl (y258) 0 1 1 2 false), (.nat 1), (.sym ⟨.i64, (.ofNat 0), [(2, (.ofNat 1))]⟩), (.nat 0), .niliface, (.iface 133 (.ptr (y259) 0)), (.iface 133 (.ptr (y260) 0)), .niliface, .niliface, .niliface, .niliface, .niliface, .niliface, (.map (y261)), (.ptr (y262) 0), (.map (y263)), (.map (y264)), .nilsl, .nilsl, .nilsl, (.map (y265))])), (y258, (.cells [(.str [117]), (.sl (y266) 0 1 1 1 false)])), (y259, (.cells [(.ptr (y267) 0), (.str [97]), (.bool false), (.nat 0), (.nat 4294967295), (.nat 65535), (.nat 268435460), (.nat 0), (.str []), (.str []), (.bool false), (.str []), .nilsl, (.nat 0), (.bool false), (.str []), (.nat 0), .nilsl, (.nat 0), (.nat 0), (.nat 0), (.nat 0), (.nat 0), (.ptr (y268) 0), (.ptr (y269) 0), (.nat 1), .nilsl, .nilsl])), (y260, (.cells [(.ptr (y270) 0), (.str [98]), (.bool false), (.nat 0), (.nat 4294967295), (.nat 65535), (.nat 268435460), (.nat 0), (.str []), (.str []), (.bool false), (.str []), .nilsl, (.nat 0), (.bool false), (.str []), (.nat 0), .nilsl, (.nat 0), (.nat 0), (.nat 0), (.nat 0), (.nat 0), (.ptr (y271) 0), (.ptr (y272) 0), (.nat 1), .nilsl, .nilsl])), (y261, (.map [⟨(.str [97]), (.ptr (y273) 0), 0⟩, ⟨(.str [98]), (.ptr (y274) 0), 1⟩] 2)), (y262, (.cells [(.map (y275))])), (y263, (.map [] 0)), (y264, (.map [] 0)), (y265, (.map [⟨(.nat 1), (.func (.func 29) [] []), 0⟩, ⟨(.nat 2), (.func (.func 30) [] []), 1⟩, ⟨(.nat 3), (.func (.func 31) [] []), 2⟩, ⟨(.nat 4), (.func (.func 32) [] []), 3⟩, ⟨(.nat 5), (.func (.func 33) [] []), 4⟩, ⟨(.nat 6), (.func (.func 34) [] []), 5⟩] 6)), (y266, (.cells [(.int .u8 (.ofNat 115))])), (y267, (.cells [(.nat 1), (.ptr (y276) 0)])), (y268, (.cells [(.nat 4), (.map (y277))])), (y269, (.cells [(.nat 0), (.map (y278))])), (y270, (.cells [(.nat 2), (.ptr (y279) 0)])), (y271, (.cells [(.nat 4), (.map (y280))])), (y272, (.cells [(.nat 0), (.map (y281))])), (y273, (.cells [(.ptr (y282) 0), (.str [97]), (.nat 4294967295), (.nat 0), (.bool true), .nilsl, .nilsl, .nilsl, (.ptr (y283) 0)])), (y274, (.cells [(.ptr (y284) 0), (.str [98]), (.nat 4294967295), (.nat 0), (.bool true), (.sl (y285) 0 1 1 6 false), (.sl (y286) 14 0 0 14 false), .nilsl, (.ptr (y287) 0)])), (y275, (.map [] 0)), (y276, (.cells [(.nat 512), .nilsl, (.nat 0)])), (y277, (.map [] 0)), (y278, (.map [] 0)), (y279, (.cells [(.nat 512), .nilsl, (.nat 0)])), (y280, (.map [] 0)), (y281, (.map [] 0)), (y282, (.cells [(.map (y288))])), (y283, (.cells [(.map (y289))])), (y284, (.cells [(.map (y290))])), (y285, (.cells [(.str [116]), (.nat 0), (.bool false), (.bool false), (.nat 0), (.nat 0)])), (y286, (.cells [.any, .any, .any, .any, .any, .any, .any, .any, .any, .any, .any, .any, .any, .any])), (y287, (.cells [(.map (y291))])), (y288, (.map [] 0)), (y289, (.map [⟨(.nat 5), (.agg []), 0⟩] 1)), (y290, (.map [] 0)), (y291, (.map [] 0))], y292, [(0, 20), (0, 9223372036854775807), (0, 86)], [([(0, -1), (2, 1)], -85, 1)], []⟩
def TS2 : TS := ⟨[(0, (.win (.mk .d0 .d0 .d6 .d4) 1 ⟨.i64, (.ofNat 0), [(0, (.ofNat 1))]⟩ ⟨.i64, (.ofNat 0), [(1, (.ofNat 1))]⟩)), (3, (.ptr (y256) 0)), (4, (.bool false)), (5, (.nat 0)), (6, (.sym ⟨.i64, (.ofNat 0), [(0, (.ofNat 1))]⟩))], [(y256, (.cells [(.ptr (y257) 0), (.bool false)])), (y257, (.cells [(.nat 1), (.bool true), (.sl (y258) 0 1 1 2 false), (.nat 1), (.sym ⟨.i64, (.ofNat 0), [(2, (.ofNat 1))]⟩), (.nat 0), .niliface, (.iface 133 (.ptr (y259) 0)), (.iface 133 (.ptr (y260) 0)), .niliface, .niliface, .niliface, .niliface, .niliface, .niliface, (.map (y261)), (.ptr (y262) 0), (.map (y263)), (.map (y264)), .nilsl, .nilsl, .nilsl, (.map (y265))])), (y258, (.cells [(.str [117]), (.sl (y266) 0 1 1 1 false)])), (y259, (.cells [(.ptr (y267) 0), (.str [97]), (.bool false), (.nat 0), (.nat 4294967295), (.nat 65535), (.nat 268435460), (.nat 0), (.str []), (.str []), (.bool false), (.str []), .nilsl, (.nat 0), (.bool false), (.str []), (.nat 0), .nilsl, (.nat 0), (.nat 0), (.nat 0), (.nat 0), (.nat 0), (.ptr (y268) 0), (.ptr (y269) 0), (.nat 1), .nilsl, .nilsl])), (y260, (.cells [(.ptr (y270) 0), (.str [98]), (.bool false), (.nat 0), (.nat 4294967295), (.nat 65535), (.nat 268435460), (.nat 0), (.str []), (.str []), (.bool false), (.str []), .nilsl, (.nat 0), (.bool false), (.str []), (.nat 0), .nilsl, (.nat 0), (.nat 0), (.nat 0), (.nat 0), (.nat 0), (.ptr (y271) 0), (.ptr (y272) 0), (.nat 1), .nilsl, .nilsl])), (y261, (.map [⟨(.str [97]), (.ptr (y273) 0), 0⟩, ⟨(.str [98]), (.ptr (y274) 0), 1⟩] 2)), (y262, (.cells [(.map (y275))])), (y263, (.map [] 0)), (y264, (.map [] 0)), (y265, (.map [⟨(.nat 1), (.func (.func 29) [] []), 0⟩, ⟨(.nat 2), (.func (.func 30) [] []), 1⟩, ⟨(.nat 3), (.func (.func 31) [] []), 2⟩, ⟨(.nat 4), (.func (.func 32) [] []), 3⟩, ⟨(.nat 5), (.func (.func 33) [] []), 4⟩, ⟨(.nat 6), (.func (.func 34) [] []), 5⟩] 6)), (y266, (.cells [(.int .u8 (.ofNat 115))])), (y267, (.cells [(.nat 1), (.ptr (y276) 0)])), (y268, (.cells [(.nat 4), (.map (y277))])), (y269, (.cells [(.nat 0), (.map (y278))])), (y270, (.cells [(.nat 2), (.ptr (y279) 0)])), (y271, (.cells [(.nat 4), (.map (y280))])), (y272, (.cells [(.nat 0), (.map (y281))])), (y273, (.cells [(.ptr (y282) 0), (.str [97]), (.nat 4294967295), (.nat 0), (.bool true), .nilsl, .nilsl, .nilsl, (.ptr (y283) 0)])), (y274, (.cells [(.ptr (y284) 0), (.str [98]), (.nat 4294967295), (.nat 0), (.bool true), (.sl (y285) 0 1 1 6 false), (.sl (y286) 14 0 0 14 false), .nilsl, (.ptr (y287) 0)])), (y275, (.map [] 0)), (y276, (.cells [(.nat 512), .nilsl, (.nat 0)])), (y277, (.map [] 0)), (y278, (.map [] 0)), (y279, (.cells [(.nat 512), .nilsl, (.nat 0)])), (y280, (.map [] 0)), (y281, (.map [] 0)), (y282, (.cells [(.map (y288))])), (y283, (.cells [(.map (y289))])), (y284, (.cells [(.map (y290))])), (y285, (.cells [(.str [116]), (.nat 0), (.bool false), (.bool false), (.nat 0), (.nat 0)])), (y286, (.cells [.any, .any, .any, .any, .any, .any, .any, .any, .any, .any, .any, .any, .any, .any])), (y287, (.cells [(.map (y291))])), (y288, (.map [] 0)), (y289, (.map [] 0)), (y290, (.map [] 0)), (y291, (.map [] 0))], y292, [(0, 20), (0, 9223372036854775807), (0, 86)], [([(0, -1), (2, 1)], -85, 1)], []⟩
def TsL : List TS := [TS0, TS1, TS2]
theorem boundL : boundIs 20 TsL = true := by kernel_rfl
theorem compL : compFn Tryz.prog 3 = .mk ccL rsL := c3_ok.symm.trans rfl
def tr0 : LTree := (.cmp [(0, 1), (1, -1)] (0) (.cmp [(0, 1)] (20) (.cellI 0 (.and 1000 3 (fun j => match j with | 2 => .leaf | 3 => .leaf | _ => (.bit 1000 2 .leaf .leaf)))) .leaf) .leaf)
def trS : LTree := .leaf
def eS : Lf := ⟨[(0, 0), (0, 9223372036854775807)], [], [], [], 1001⟩
def argsL : List CV := [.win wk0 1 (sv 0) (sv 1)]
abbrev G_ (T : TS) (e : Lf) (hs : List Hint) : Prop := ∀ (s : Nat → Int) (A : Key → Option Value), passOf Tryz.prog codeN natW 1000 100 wsL lensL TsL pthL ccL rsL T e.l (linSym s (e.known A)) (e.known A) hs = true
abbrev S_ (e : Lf) (hs : List Hint) : Prop := ∀ (s : Nat → Int) (A : Key → Option Value), startOf Tryz.prog codeN natW 1000 100 wsL lensL TsL pthL ccL argsL n1 (linSym s (e.known A)) (e.known A) hs = true
def LG (T : TS) (e : Lf) : Prop := LeafGood Tryz.prog codeN natW 1000 100 wsL lensL TsL pthL ccL rsL T e
theorem mkG {T : TS} {e : Lf} {hs : List Hint} (h : apartK T.objs e.l = true) (g : G_ T e hs) : LG T e := ⟨h, hs, g⟩
def SG (e : Lf) : Prop := ∃ hs, S_ e hs
end Go.Ev
