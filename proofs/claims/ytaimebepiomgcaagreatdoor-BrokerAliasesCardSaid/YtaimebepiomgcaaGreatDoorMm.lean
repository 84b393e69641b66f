/- Calls that come again and again, taken by summaries: each one is a run of the evaluator. -/
import Derived.Test.YtaimebepiomgcaaGreatDoorTop
namespace Go.Ev
open Go.Proofs
set_option maxRecDepth 1000000
def St0 (v0 : Nat) : Sm := ⟨[(.agg [(.nat 3), (.bool false), (.nat 0), (.bool false), (.nat 0), (.str []), (.sl (.mk .d0 .d1 .d0 .d0) 0 1 1 1 false), (.nat 0), .nilsl, (.sl (.mk .d0 .d1 .d0 .d1) 0 1 1 5 false), .nilsl, .nilsl, (.bool false), (.nat 0), (.str []), (.bool false), (.str []), .nilsl, (.nat 0), (.bool false), .nilsl, (.bool false), (.str []), (.bool false), .nilsl, (.bool false)])], [(.mk .d0 .d1 .d0 .d0, (.cells [(.int .u8 (.ofNat 120))])), (.mk .d0 .d1 .d0 .d1, (.cells [(.nat 35), (.nat v0), (.str []), (.str []), .nilsl]))], .mk .d0 .d1 .d0 .d2, [(0, 0)], [.mk .d0 .d1 .d0 .d0, .mk .d0 .d1 .d0 .d1], [⟨(.tup [(.sl (.mk .d0 .d1 .d0 .d2) 0 9 9 1 false), (.nat 0)]), [(.mk .d0 .d1 .d0 .d0, (.cells [(.int .u8 (.ofNat 120))])), (.mk .d0 .d1 .d0 .d1, (.cells [(.nat 35), (.nat v0), (.str []), (.str []), .nilsl])), (.mk .d0 .d1 .d0 .d2, (.cells [(.int .u8 (.ofNat 48)), (.int .u8 (.ofNat 7)), (.int .u8 (.ofNat 0)), (.int .u8 (.ofNat 0)), (.int .u8 (.ofNat 3)), (.int .u8 (.ofNat 35)), (.int .u8 (.ofNat 0)), (.int .u8 (.ofNat v0)), (.int .u8 (.ofNat 120))]))]⟩]⟩
def Sm0 : Sm := St0 1
def Sm1 : Sm := St0 2
def Sm7 : Sm := St0 3
def Sm8 : Sm := St0 4
def St1 (v0 : Nat) : Sm := ⟨[(.agg [(.nat 14), (.bool false), (.nat 0), (.bool false), (.nat 0), (.str []), .nilsl, (.nat v0), .nilsl, .nilsl, .nilsl, .nilsl, (.bool false), (.nat 0), (.str []), (.bool false), (.str []), .nilsl, (.nat 0), (.bool false), .nilsl, (.bool false), (.str []), (.bool false), .nilsl, (.bool false)])], [], .mk .d0 .d1 .d0 .d0, [(0, 0)], [], [⟨(.tup [(.sl (.mk .d0 .d1 .d0 .d0) 0 3 3 1 false), (.nat 0)]), [(.mk .d0 .d1 .d0 .d0, (.cells [(.int .u8 (.ofNat 224)), (.int .u8 (.ofNat 1)), (.int .u8 (.ofNat v0))]))]⟩]⟩
def Sm2 : Sm := St1 148
def Sm9 : Sm := St1 130
def St2 (v0 : Nat) : Sm := ⟨[(.agg [(.nat 3), (.bool false), (.nat 0), (.bool false), (.nat 0), (.str [v0]), (.sl (.mk .d0 .d1 .d0 .d0) 0 1 1 1 false), (.nat 0), .nilsl, .nilsl, .nilsl, .nilsl, (.bool false), (.nat 0), (.str []), (.bool false), (.str []), .nilsl, (.nat 0), (.bool false), .nilsl, (.bool false), (.str []), (.bool false), .nilsl, (.bool false)])], [(.mk .d0 .d1 .d0 .d0, (.cells [(.int .u8 (.ofNat 120))]))], .mk .d0 .d1 .d0 .d1, [(0, 0)], [.mk .d0 .d1 .d0 .d0], [⟨(.tup [(.sl (.mk .d0 .d1 .d0 .d1) 0 7 7 1 false), (.nat 0)]), [(.mk .d0 .d1 .d0 .d0, (.cells [(.int .u8 (.ofNat 120))])), (.mk .d0 .d1 .d0 .d1, (.cells [(.int .u8 (.ofNat 48)), (.int .u8 (.ofNat 5)), (.int .u8 (.ofNat 0)), (.int .u8 (.ofNat 1)), (.int .u8 (.ofNat v0)), (.int .u8 (.ofNat 0)), (.int .u8 (.ofNat 120))]))]⟩]⟩
def Sm3 : Sm := St2 117
def Sm5 : Sm := St2 116
def St3 (v0 v1 : Nat) : Sm := ⟨[(.agg [(.nat 3), (.bool false), (.nat 0), (.bool false), (.nat 0), (.str [v0, 47, v1]), (.sl (.mk .d0 .d1 .d0 .d0) 0 1 1 1 false), (.nat 0), .nilsl, .nilsl, .nilsl, .nilsl, (.bool false), (.nat 0), (.str []), (.bool false), (.str []), .nilsl, (.nat 0), (.bool false), .nilsl, (.bool false), (.str []), (.bool false), .nilsl, (.bool false)])], [(.mk .d0 .d1 .d0 .d0, (.cells [(.int .u8 (.ofNat 120))]))], .mk .d0 .d1 .d0 .d1, [(0, 0)], [.mk .d0 .d1 .d0 .d0], [⟨(.tup [(.sl (.mk .d0 .d1 .d0 .d1) 0 9 9 1 false), (.nat 0)]), [(.mk .d0 .d1 .d0 .d0, (.cells [(.int .u8 (.ofNat 120))])), (.mk .d0 .d1 .d0 .d1, (.cells [(.int .u8 (.ofNat 48)), (.int .u8 (.ofNat 7)), (.int .u8 (.ofNat 0)), (.int .u8 (.ofNat 3)), (.int .u8 (.ofNat v0)), (.int .u8 (.ofNat 47)), (.int .u8 (.ofNat v1)), (.int .u8 (.ofNat 0)), (.int .u8 (.ofNat 120))]))]⟩]⟩
def Sm4 : Sm := St3 118 119
def Sm6 : Sm := St3 116 97
def St4 (v0 v1 : Nat) : Sm := ⟨[(.agg [(.nat 3), (.bool false), (.nat 0), (.bool false), (.nat 0), (.str [v0]), (.sl (.mk .d0 .d1 .d0 .d0) 0 1 1 1 false), (.nat 0), .nilsl, (.sl (.mk .d0 .d1 .d0 .d1) 0 1 1 5 false), .nilsl, .nilsl, (.bool false), (.nat 0), (.str []), (.bool false), (.str []), .nilsl, (.nat 0), (.bool false), .nilsl, (.bool false), (.str []), (.bool false), .nilsl, (.bool false)])], [(.mk .d0 .d1 .d0 .d0, (.cells [(.int .u8 (.ofNat 120))])), (.mk .d0 .d1 .d0 .d1, (.cells [(.nat 35), (.nat v1), (.str []), (.str []), .nilsl]))], .mk .d0 .d1 .d0 .d2, [(0, 0)], [.mk .d0 .d1 .d0 .d0, .mk .d0 .d1 .d0 .d1], [⟨(.tup [(.sl (.mk .d0 .d1 .d0 .d2) 0 10 10 1 false), (.nat 0)]), [(.mk .d0 .d1 .d0 .d0, (.cells [(.int .u8 (.ofNat 120))])), (.mk .d0 .d1 .d0 .d1, (.cells [(.nat 35), (.nat v1), (.str []), (.str []), .nilsl])), (.mk .d0 .d1 .d0 .d2, (.cells [(.int .u8 (.ofNat 48)), (.int .u8 (.ofNat 8)), (.int .u8 (.ofNat 0)), (.int .u8 (.ofNat 1)), (.int .u8 (.ofNat v0)), (.int .u8 (.ofNat 3)), (.int .u8 (.ofNat 35)), (.int .u8 (.ofNat 0)), (.int .u8 (.ofNat v1)), (.int .u8 (.ofNat 120))]))]⟩]⟩
def Sm10 : Sm := St4 117 3
def Sm13 : Sm := St4 116 3
def Sm15 : Sm := St4 117 2
def Sm17 : Sm := St4 116 2
def Sm18 : Sm := St4 116 1
def Sm20 : Sm := St4 117 1
def Sm23 : Sm := St4 117 4
def Sm25 : Sm := St4 116 4
def St5 (v0 v1 v2 : Nat) : Sm := ⟨[(.agg [(.nat 3), (.bool false), (.nat 0), (.bool false), (.nat 0), (.str [v0, 47, v1]), (.sl (.mk .d0 .d1 .d0 .d0) 0 1 1 1 false), (.nat 0), .nilsl, (.sl (.mk .d0 .d1 .d0 .d1) 0 1 1 5 false), .nilsl, .nilsl, (.bool false), (.nat 0), (.str []), (.bool false), (.str []), .nilsl, (.nat 0), (.bool false), .nilsl, (.bool false), (.str []), (.bool false), .nilsl, (.bool false)])], [(.mk .d0 .d1 .d0 .d0, (.cells [(.int .u8 (.ofNat 120))])), (.mk .d0 .d1 .d0 .d1, (.cells [(.nat 35), (.nat v2), (.str []), (.str []), .nilsl]))], .mk .d0 .d1 .d0 .d2, [(0, 0)], [.mk .d0 .d1 .d0 .d0, .mk .d0 .d1 .d0 .d1], [⟨(.tup [(.sl (.mk .d0 .d1 .d0 .d2) 0 12 12 1 false), (.nat 0)]), [(.mk .d0 .d1 .d0 .d0, (.cells [(.int .u8 (.ofNat 120))])), (.mk .d0 .d1 .d0 .d1, (.cells [(.nat 35), (.nat v2), (.str []), (.str []), .nilsl])), (.mk .d0 .d1 .d0 .d2, (.cells [(.int .u8 (.ofNat 48)), (.int .u8 (.ofNat 10)), (.int .u8 (.ofNat 0)), (.int .u8 (.ofNat 3)), (.int .u8 (.ofNat v0)), (.int .u8 (.ofNat 47)), (.int .u8 (.ofNat v1)), (.int .u8 (.ofNat 3)), (.int .u8 (.ofNat 35)), (.int .u8 (.ofNat 0)), (.int .u8 (.ofNat v2)), (.int .u8 (.ofNat 120))]))]⟩]⟩
def Sm11 : Sm := St5 118 119 3
def Sm12 : Sm := St5 116 97 3
def Sm14 : Sm := St5 116 97 2
def Sm16 : Sm := St5 118 119 2
def Sm19 : Sm := St5 116 97 1
def Sm21 : Sm := St5 118 119 1
def Sm22 : Sm := St5 118 119 4
def Sm24 : Sm := St5 116 97 4
def St6 (v0 : Nat) : Sm := ⟨[(.agg [(.nat 3), (.bool false), (.nat 0), (.bool false), (.nat 0), (.str []), (.sl (.mk .d0 .d1 .d0 .d0) 0 1 1 1 true), (.nat 0), .nilsl, (.sl (.mk .d0 .d1 .d0 .d1) 0 1 1 5 true), .nilsl, .nilsl, (.bool false), (.nat 0), (.str []), (.bool false), (.str []), .nilsl, (.nat 0), (.bool false), .nilsl, (.bool false), (.str []), (.bool false), .nilsl, (.bool false)])], [(.mk .d0 .d1 .d0 .d0, (.cells [(.int .u8 (.ofNat 120))])), (.mk .d0 .d1 .d0 .d1, (.cells [(.nat 35), (.nat v0), (.str []), (.str []), .nilsl]))], .mk .d0 .d1 .d0 .d2, [(0, 0)], [.mk .d0 .d1 .d0 .d0, .mk .d0 .d1 .d0 .d1], [⟨(.tup [(.sl (.mk .d0 .d1 .d0 .d2) 0 9 9 1 false), (.nat 0)]), [(.mk .d0 .d1 .d0 .d0, (.cells [(.int .u8 (.ofNat 120))])), (.mk .d0 .d1 .d0 .d1, (.cells [(.nat 35), (.nat v0), (.str []), (.str []), .nilsl])), (.mk .d0 .d1 .d0 .d2, (.cells [(.int .u8 (.ofNat 48)), (.int .u8 (.ofNat 7)), (.int .u8 (.ofNat 0)), (.int .u8 (.ofNat 0)), (.int .u8 (.ofNat 3)), (.int .u8 (.ofNat 35)), (.int .u8 (.ofNat 0)), (.int .u8 (.ofNat v0)), (.int .u8 (.ofNat 120))]))]⟩]⟩
def Sm26 : Sm := St6 1
def Sm27 : Sm := St6 2
def Sm28 : Sm := St6 3
def Sm29 : Sm := St6 4
def Sm54 : Sm := St6 5
def Sm59 : Sm := St6 6
def Sm64 : Sm := St6 7
def St7 (v0 : Nat) : Sm := ⟨[(.agg [(.nat 3), (.bool false), (.nat 0), (.bool false), (.nat 0), (.str [v0]), (.sl (.mk .d0 .d1 .d0 .d0) 0 1 1 1 true), (.nat 0), .nilsl, .nilsl, .nilsl, .nilsl, (.bool false), (.nat 0), (.str []), (.bool false), (.str []), .nilsl, (.nat 0), (.bool false), .nilsl, (.bool false), (.str []), (.bool false), .nilsl, (.bool false)])], [(.mk .d0 .d1 .d0 .d0, (.cells [(.int .u8 (.ofNat 120))]))], .mk .d0 .d1 .d0 .d1, [(0, 0)], [.mk .d0 .d1 .d0 .d0], [⟨(.tup [(.sl (.mk .d0 .d1 .d0 .d1) 0 7 7 1 false), (.nat 0)]), [(.mk .d0 .d1 .d0 .d0, (.cells [(.int .u8 (.ofNat 120))])), (.mk .d0 .d1 .d0 .d1, (.cells [(.int .u8 (.ofNat 48)), (.int .u8 (.ofNat 5)), (.int .u8 (.ofNat 0)), (.int .u8 (.ofNat 1)), (.int .u8 (.ofNat v0)), (.int .u8 (.ofNat 0)), (.int .u8 (.ofNat 120))]))]⟩]⟩
def Sm30 : Sm := St7 116
def Sm32 : Sm := St7 117
def St8 (v0 v1 : Nat) : Sm := ⟨[(.agg [(.nat 3), (.bool false), (.nat 0), (.bool false), (.nat 0), (.str [v0, 47, v1]), (.sl (.mk .d0 .d1 .d0 .d0) 0 1 1 1 true), (.nat 0), .nilsl, .nilsl, .nilsl, .nilsl, (.bool false), (.nat 0), (.str []), (.bool false), (.str []), .nilsl, (.nat 0), (.bool false), .nilsl, (.bool false), (.str []), (.bool false), .nilsl, (.bool false)])], [(.mk .d0 .d1 .d0 .d0, (.cells [(.int .u8 (.ofNat 120))]))], .mk .d0 .d1 .d0 .d1, [(0, 0)], [.mk .d0 .d1 .d0 .d0], [⟨(.tup [(.sl (.mk .d0 .d1 .d0 .d1) 0 9 9 1 false), (.nat 0)]), [(.mk .d0 .d1 .d0 .d0, (.cells [(.int .u8 (.ofNat 120))])), (.mk .d0 .d1 .d0 .d1, (.cells [(.int .u8 (.ofNat 48)), (.int .u8 (.ofNat 7)), (.int .u8 (.ofNat 0)), (.int .u8 (.ofNat 3)), (.int .u8 (.ofNat v0)), (.int .u8 (.ofNat 47)), (.int .u8 (.ofNat v1)), (.int .u8 (.ofNat 0)), (.int .u8 (.ofNat 120))]))]⟩]⟩
def Sm31 : Sm := St8 116 97
def Sm33 : Sm := St8 118 119
def St9 (v0 v1 : Nat) : Sm := ⟨[(.agg [(.nat 3), (.bool false), (.nat 0), (.bool false), (.nat 0), (.str [v0]), (.sl (.mk .d0 .d1 .d0 .d0) 0 1 1 1 true), (.nat 0), .nilsl, (.sl (.mk .d0 .d1 .d0 .d1) 0 1 1 5 true), .nilsl, .nilsl, (.bool false), (.nat 0), (.str []), (.bool false), (.str []), .nilsl, (.nat 0), (.bool false), .nilsl, (.bool false), (.str []), (.bool false), .nilsl, (.bool false)])], [(.mk .d0 .d1 .d0 .d0, (.cells [(.int .u8 (.ofNat 120))])), (.mk .d0 .d1 .d0 .d1, (.cells [(.nat 35), (.nat v1), (.str []), (.str []), .nilsl]))], .mk .d0 .d1 .d0 .d2, [(0, 0)], [.mk .d0 .d1 .d0 .d0, .mk .d0 .d1 .d0 .d1], [⟨(.tup [(.sl (.mk .d0 .d1 .d0 .d2) 0 10 10 1 false), (.nat 0)]), [(.mk .d0 .d1 .d0 .d0, (.cells [(.int .u8 (.ofNat 120))])), (.mk .d0 .d1 .d0 .d1, (.cells [(.nat 35), (.nat v1), (.str []), (.str []), .nilsl])), (.mk .d0 .d1 .d0 .d2, (.cells [(.int .u8 (.ofNat 48)), (.int .u8 (.ofNat 8)), (.int .u8 (.ofNat 0)), (.int .u8 (.ofNat 1)), (.int .u8 (.ofNat v0)), (.int .u8 (.ofNat 3)), (.int .u8 (.ofNat 35)), (.int .u8 (.ofNat 0)), (.int .u8 (.ofNat v1)), (.int .u8 (.ofNat 120))]))]⟩]⟩
def Sm34 : Sm := St9 116 1
def Sm36 : Sm := St9 117 1
def Sm38 : Sm := St9 116 2
def Sm40 : Sm := St9 117 2
def Sm42 : Sm := St9 116 3
def Sm44 : Sm := St9 117 3
def Sm46 : Sm := St9 116 4
def Sm48 : Sm := St9 117 4
def Sm50 : Sm := St9 116 5
def Sm52 : Sm := St9 117 5
def Sm55 : Sm := St9 116 6
def Sm57 : Sm := St9 117 6
def Sm60 : Sm := St9 116 7
def Sm62 : Sm := St9 117 7
def St10 (v0 v1 v2 : Nat) : Sm := ⟨[(.agg [(.nat 3), (.bool false), (.nat 0), (.bool false), (.nat 0), (.str [v0, 47, v1]), (.sl (.mk .d0 .d1 .d0 .d0) 0 1 1 1 true), (.nat 0), .nilsl, (.sl (.mk .d0 .d1 .d0 .d1) 0 1 1 5 true), .nilsl, .nilsl, (.bool false), (.nat 0), (.str []), (.bool false), (.str []), .nilsl, (.nat 0), (.bool false), .nilsl, (.bool false), (.str []), (.bool false), .nilsl, (.bool false)])], [(.mk .d0 .d1 .d0 .d0, (.cells [(.int .u8 (.ofNat 120))])), (.mk .d0 .d1 .d0 .d1, (.cells [(.nat 35), (.nat v2), (.str []), (.str []), .nilsl]))], .mk .d0 .d1 .d0 .d2, [(0, 0)], [.mk .d0 .d1 .d0 .d0, .mk .d0 .d1 .d0 .d1], [⟨(.tup [(.sl (.mk .d0 .d1 .d0 .d2) 0 12 12 1 false), (.nat 0)]), [(.mk .d0 .d1 .d0 .d0, (.cells [(.int .u8 (.ofNat 120))])), (.mk .d0 .d1 .d0 .d1, (.cells [(.nat 35), (.nat v2), (.str []), (.str []), .nilsl])), (.mk .d0 .d1 .d0 .d2, (.cells [(.int .u8 (.ofNat 48)), (.int .u8 (.ofNat 10)), (.int .u8 (.ofNat 0)), (.int .u8 (.ofNat 3)), (.int .u8 (.ofNat v0)), (.int .u8 (.ofNat 47)), (.int .u8 (.ofNat v1)), (.int .u8 (.ofNat 3)), (.int .u8 (.ofNat 35)), (.int .u8 (.ofNat 0)), (.int .u8 (.ofNat v2)), (.int .u8 (.ofNat 120))]))]⟩]⟩
def Sm35 : Sm := St10 116 97 1
def Sm37 : Sm := St10 118 119 1
def Sm39 : Sm := St10 116 97 2
def Sm41 : Sm := St10 118 119 2
def Sm43 : Sm := St10 116 97 3
def Sm45 : Sm := St10 118 119 3
def Sm47 : Sm := St10 116 97 4
def Sm49 : Sm := St10 118 119 4
def Sm51 : Sm := St10 116 97 5
def Sm53 : Sm := St10 118 119 5
def Sm56 : Sm := St10 116 97 6
def Sm58 : Sm := St10 118 119 6
def Sm61 : Sm := St10 116 97 7
def Sm63 : Sm := St10 118 119 7
def St11 (v0 : Nat) : Sm := ⟨[(.agg [(.int .u8 (.ofNat 48)), (.sl (.mk .d0 .d1 .d0 .d0) 0 7 7 1 false)])], [(.mk .d0 .d1 .d0 .d0, (.cells [(.int .u8 (.ofNat 0)), (.int .u8 (.ofNat 0)), (.int .u8 (.ofNat 3)), (.int .u8 (.ofNat 35)), (.int .u8 (.ofNat 0)), (.int .u8 (.ofNat v0)), (.int .u8 (.ofNat 120))]))], .mk .d0 .d1 .d0 .d1, [(0, 0)], [.mk .d0 .d1 .d0 .d0], [⟨(.tup [(.agg [(.nat 3), (.bool false), (.nat 0), (.bool false), (.nat 0), (.str []), (.sl (.mk .d0 .d1 .d0 .d1) 0 1 1 1 false), (.nat 0), .nilsl, (.sl (.mk .d0 .d1 .d0 .d2) 0 1 1 5 false), .nilsl, .nilsl, (.bool false), (.nat 0), (.str []), (.bool false), (.str []), .nilsl, (.nat 0), (.bool false), .nilsl, (.bool false), (.str []), (.bool false), .nilsl, (.bool false)]), (.nat 0)]), [(.mk .d0 .d1 .d0 .d0, (.cells [(.int .u8 (.ofNat 0)), (.int .u8 (.ofNat 0)), (.int .u8 (.ofNat 3)), (.int .u8 (.ofNat 35)), (.int .u8 (.ofNat 0)), (.int .u8 (.ofNat v0)), (.int .u8 (.ofNat 120))])), (.mk .d0 .d1 .d0 .d1, (.cells [(.int .u8 (.ofNat 120))])), (.mk .d0 .d1 .d0 .d2, (.cells [(.nat 35), (.nat v0), (.str []), (.str []), .nilsl]))]⟩]⟩
def Sm65 : Sm := St11 3
def Sm66 : Sm := St11 4
def Sm67 : Sm := St11 1
def Sm68 : Sm := St11 2
def Sm93 : Sm := St11 5
def Sm98 : Sm := St11 6
def Sm103 : Sm := St11 7
def St12 (v0 : Nat) : Sm := ⟨[(.agg [(.int .u8 (.ofNat 48)), (.sl (.mk .d0 .d1 .d0 .d0) 0 5 5 1 false)])], [(.mk .d0 .d1 .d0 .d0, (.cells [(.int .u8 (.ofNat 0)), (.int .u8 (.ofNat 1)), (.int .u8 (.ofNat v0)), (.int .u8 (.ofNat 0)), (.int .u8 (.ofNat 120))]))], .mk .d0 .d1 .d0 .d1, [(0, 0)], [.mk .d0 .d1 .d0 .d0], [⟨(.tup [(.agg [(.nat 3), (.bool false), (.nat 0), (.bool false), (.nat 0), (.str [v0]), (.sl (.mk .d0 .d1 .d0 .d1) 0 1 1 1 false), (.nat 0), .nilsl, .nilsl, .nilsl, .nilsl, (.bool false), (.nat 0), (.str []), (.bool false), (.str []), .nilsl, (.nat 0), (.bool false), .nilsl, (.bool false), (.str []), (.bool false), .nilsl, (.bool false)]), (.nat 0)]), [(.mk .d0 .d1 .d0 .d0, (.cells [(.int .u8 (.ofNat 0)), (.int .u8 (.ofNat 1)), (.int .u8 (.ofNat v0)), (.int .u8 (.ofNat 0)), (.int .u8 (.ofNat 120))])), (.mk .d0 .d1 .d0 .d1, (.cells [(.int .u8 (.ofNat 120))]))]⟩]⟩
def Sm69 : Sm := St12 116
def Sm71 : Sm := St12 117
def St13 (v0 v1 : Nat) : Sm := ⟨[(.agg [(.int .u8 (.ofNat 48)), (.sl (.mk .d0 .d1 .d0 .d0) 0 7 7 1 false)])], [(.mk .d0 .d1 .d0 .d0, (.cells [(.int .u8 (.ofNat 0)), (.int .u8 (.ofNat 3)), (.int .u8 (.ofNat v0)), (.int .u8 (.ofNat 47)), (.int .u8 (.ofNat v1)), (.int .u8 (.ofNat 0)), (.int .u8 (.ofNat 120))]))], .mk .d0 .d1 .d0 .d1, [(0, 0)], [.mk .d0 .d1 .d0 .d0], [⟨(.tup [(.agg [(.nat 3), (.bool false), (.nat 0), (.bool false), (.nat 0), (.str [v0, 47, v1]), (.sl (.mk .d0 .d1 .d0 .d1) 0 1 1 1 false), (.nat 0), .nilsl, .nilsl, .nilsl, .nilsl, (.bool false), (.nat 0), (.str []), (.bool false), (.str []), .nilsl, (.nat 0), (.bool false), .nilsl, (.bool false), (.str []), (.bool false), .nilsl, (.bool false)]), (.nat 0)]), [(.mk .d0 .d1 .d0 .d0, (.cells [(.int .u8 (.ofNat 0)), (.int .u8 (.ofNat 3)), (.int .u8 (.ofNat v0)), (.int .u8 (.ofNat 47)), (.int .u8 (.ofNat v1)), (.int .u8 (.ofNat 0)), (.int .u8 (.ofNat 120))])), (.mk .d0 .d1 .d0 .d1, (.cells [(.int .u8 (.ofNat 120))]))]⟩]⟩
def Sm70 : Sm := St13 116 97
def Sm72 : Sm := St13 118 119
def St14 (v0 v1 : Nat) : Sm := ⟨[(.agg [(.int .u8 (.ofNat 48)), (.sl (.mk .d0 .d1 .d0 .d0) 0 8 8 1 false)])], [(.mk .d0 .d1 .d0 .d0, (.cells [(.int .u8 (.ofNat 0)), (.int .u8 (.ofNat 1)), (.int .u8 (.ofNat v0)), (.int .u8 (.ofNat 3)), (.int .u8 (.ofNat 35)), (.int .u8 (.ofNat 0)), (.int .u8 (.ofNat v1)), (.int .u8 (.ofNat 120))]))], .mk .d0 .d1 .d0 .d1, [(0, 0)], [.mk .d0 .d1 .d0 .d0], [⟨(.tup [(.agg [(.nat 3), (.bool false), (.nat 0), (.bool false), (.nat 0), (.str [v0]), (.sl (.mk .d0 .d1 .d0 .d1) 0 1 1 1 false), (.nat 0), .nilsl, (.sl (.mk .d0 .d1 .d0 .d2) 0 1 1 5 false), .nilsl, .nilsl, (.bool false), (.nat 0), (.str []), (.bool false), (.str []), .nilsl, (.nat 0), (.bool false), .nilsl, (.bool false), (.str []), (.bool false), .nilsl, (.bool false)]), (.nat 0)]), [(.mk .d0 .d1 .d0 .d0, (.cells [(.int .u8 (.ofNat 0)), (.int .u8 (.ofNat 1)), (.int .u8 (.ofNat v0)), (.int .u8 (.ofNat 3)), (.int .u8 (.ofNat 35)), (.int .u8 (.ofNat 0)), (.int .u8 (.ofNat v1)), (.int .u8 (.ofNat 120))])), (.mk .d0 .d1 .d0 .d1, (.cells [(.int .u8 (.ofNat 120))])), (.mk .d0 .d1 .d0 .d2, (.cells [(.nat 35), (.nat v1), (.str []), (.str []), .nilsl]))]⟩]⟩
def Sm73 : Sm := St14 116 1
def Sm75 : Sm := St14 117 1
def Sm77 : Sm := St14 116 2
def Sm79 : Sm := St14 117 2
def Sm81 : Sm := St14 116 3
def Sm83 : Sm := St14 117 3
def Sm85 : Sm := St14 116 4
def Sm87 : Sm := St14 117 4
def Sm89 : Sm := St14 116 5
def Sm91 : Sm := St14 117 5
def Sm94 : Sm := St14 116 6
def Sm96 : Sm := St14 117 6
def Sm99 : Sm := St14 116 7
def Sm101 : Sm := St14 117 7
def St15 (v0 v1 v2 : Nat) : Sm := ⟨[(.agg [(.int .u8 (.ofNat 48)), (.sl (.mk .d0 .d1 .d0 .d0) 0 10 10 1 false)])], [(.mk .d0 .d1 .d0 .d0, (.cells [(.int .u8 (.ofNat 0)), (.int .u8 (.ofNat 3)), (.int .u8 (.ofNat v0)), (.int .u8 (.ofNat 47)), (.int .u8 (.ofNat v1)), (.int .u8 (.ofNat 3)), (.int .u8 (.ofNat 35)), (.int .u8 (.ofNat 0)), (.int .u8 (.ofNat v2)), (.int .u8 (.ofNat 120))]))], .mk .d0 .d1 .d0 .d1, [(0, 0)], [.mk .d0 .d1 .d0 .d0], [⟨(.tup [(.agg [(.nat 3), (.bool false), (.nat 0), (.bool false), (.nat 0), (.str [v0, 47, v1]), (.sl (.mk .d0 .d1 .d0 .d1) 0 1 1 1 false), (.nat 0), .nilsl, (.sl (.mk .d0 .d1 .d0 .d2) 0 1 1 5 false), .nilsl, .nilsl, (.bool false), (.nat 0), (.str []), (.bool false), (.str []), .nilsl, (.nat 0), (.bool false), .nilsl, (.bool false), (.str []), (.bool false), .nilsl, (.bool false)]), (.nat 0)]), [(.mk .d0 .d1 .d0 .d0, (.cells [(.int .u8 (.ofNat 0)), (.int .u8 (.ofNat 3)), (.int .u8 (.ofNat v0)), (.int .u8 (.ofNat 47)), (.int .u8 (.ofNat v1)), (.int .u8 (.ofNat 3)), (.int .u8 (.ofNat 35)), (.int .u8 (.ofNat 0)), (.int .u8 (.ofNat v2)), (.int .u8 (.ofNat 120))])), (.mk .d0 .d1 .d0 .d1, (.cells [(.int .u8 (.ofNat 120))])), (.mk .d0 .d1 .d0 .d2, (.cells [(.nat 35), (.nat v2), (.str []), (.str []), .nilsl]))]⟩]⟩
def Sm74 : Sm := St15 116 97 1
def Sm76 : Sm := St15 118 119 1
def Sm78 : Sm := St15 116 97 2
def Sm80 : Sm := St15 118 119 2
def Sm82 : Sm := St15 116 97 3
def Sm84 : Sm := St15 118 119 3
def Sm86 : Sm := St15 116 97 4
def Sm88 : Sm := St15 118 119 4
def Sm90 : Sm := St15 116 97 5
def Sm92 : Sm := St15 118 119 5
def Sm95 : Sm := St15 116 97 6
def Sm97 : Sm := St15 118 119 6
def Sm100 : Sm := St15 116 97 7
def Sm102 : Sm := St15 118 119 7
def St16 (v0 : Nat) : Sm := ⟨[(.agg [(.int .u8 (.ofNat 224)), (.sl (.mk .d0 .d1 .d0 .d0) 0 1 1 1 false)])], [(.mk .d0 .d1 .d0 .d0, (.cells [(.int .u8 (.ofNat v0))]))], .mk .d0 .d1 .d0 .d1, [(0, 0)], [.mk .d0 .d1 .d0 .d0], [⟨(.tup [(.agg [(.nat 14), (.bool false), (.nat 0), (.bool false), (.nat 0), (.str []), .nilsl, (.nat v0), .nilsl, .nilsl, .nilsl, .nilsl, (.bool false), (.nat 0), (.str []), (.bool false), (.str []), .nilsl, (.nat 0), (.bool false), .nilsl, (.bool false), (.str []), (.bool false), .nilsl, (.bool false)]), (.nat 0)]), [(.mk .d0 .d1 .d0 .d0, (.cells [(.int .u8 (.ofNat v0))]))]⟩]⟩
def Sm104 : Sm := St16 130
def Sm105 : Sm := St16 148
def St17 (v0 : Nat) : Sm := ⟨[(.agg [(.int .u8 (.ofNat 224)), (.sl (.mk .d0 .d1 .d0 .d0) 0 1 1 1 false)])], [(.mk .d0 .d1 .d0 .d0, (.cells [(.int .u8 (.ofNat v0))]))], .mk .d0 .d1 .d0 .d1, [(0, 0)], [.mk .d0 .d1 .d0 .d0], [⟨(.tup [(.agg [(.nat 14), (.bool false), (.nat 0), (.bool false), (.nat 0), (.str []), .nilsl, (.nat v0), .nilsl, .nilsl, .nilsl, .nilsl, (.bool false), (.nat 0), (.str []), (.bool false), (.str []), .nilsl, (.nat 0), (.bool false), .nilsl, (.bool false), (.str []), (.bool false), .nilsl, (.bool false)]), (.nat 0)]), [(.mk .d0 .d1 .d0 .d0, (.cells [(.int .u8 (.ofNat v0))]))]⟩]⟩
def Sm106 : Sm := St17 148
def Sm110 : Sm := St17 130
def St18 (v0 : Nat) : Sm := ⟨[(.agg [(.int .u8 (.ofNat 48)), (.sl (.mk .d0 .d1 .d0 .d0) 0 7 7 1 false)])], [(.mk .d0 .d1 .d0 .d0, (.cells [(.int .u8 (.ofNat 0)), (.int .u8 (.ofNat 0)), (.int .u8 (.ofNat 3)), (.int .u8 (.ofNat 35)), (.int .u8 (.ofNat 0)), (.int .u8 (.ofNat v0)), (.int .u8 (.ofNat 120))]))], .mk .d0 .d1 .d0 .d1, [(0, 0)], [.mk .d0 .d1 .d0 .d0], [⟨(.tup [(.agg [(.nat 3), (.bool false), (.nat 0), (.bool false), (.nat 0), (.str []), (.sl (.mk .d0 .d1 .d0 .d1) 0 1 1 1 false), (.nat 0), .nilsl, (.sl (.mk .d0 .d1 .d0 .d2) 0 1 1 5 false), .nilsl, .nilsl, (.bool false), (.nat 0), (.str []), (.bool false), (.str []), .nilsl, (.nat 0), (.bool false), .nilsl, (.bool false), (.str []), (.bool false), .nilsl, (.bool false)]), (.nat 0)]), [(.mk .d0 .d1 .d0 .d0, (.cells [(.int .u8 (.ofNat 0)), (.int .u8 (.ofNat 0)), (.int .u8 (.ofNat 3)), (.int .u8 (.ofNat 35)), (.int .u8 (.ofNat 0)), (.int .u8 (.ofNat v0)), (.int .u8 (.ofNat 120))])), (.mk .d0 .d1 .d0 .d1, (.cells [(.int .u8 (.ofNat 120))])), (.mk .d0 .d1 .d0 .d2, (.cells [(.nat 35), (.nat v0), (.str []), (.str []), .nilsl]))]⟩]⟩
def Sm107 : Sm := St18 1
def Sm108 : Sm := St18 2
def Sm109 : Sm := St18 3
def Sm111 : Sm := St18 4
def Sm136 : Sm := St18 5
def Sm141 : Sm := St18 6
def Sm146 : Sm := St18 7
def St19 (v0 : Nat) : Sm := ⟨[(.agg [(.int .u8 (.ofNat 48)), (.sl (.mk .d0 .d1 .d0 .d0) 0 5 5 1 false)])], [(.mk .d0 .d1 .d0 .d0, (.cells [(.int .u8 (.ofNat 0)), (.int .u8 (.ofNat 1)), (.int .u8 (.ofNat v0)), (.int .u8 (.ofNat 0)), (.int .u8 (.ofNat 120))]))], .mk .d0 .d1 .d0 .d1, [(0, 0)], [.mk .d0 .d1 .d0 .d0], [⟨(.tup [(.agg [(.nat 3), (.bool false), (.nat 0), (.bool false), (.nat 0), (.str [v0]), (.sl (.mk .d0 .d1 .d0 .d1) 0 1 1 1 false), (.nat 0), .nilsl, .nilsl, .nilsl, .nilsl, (.bool false), (.nat 0), (.str []), (.bool false), (.str []), .nilsl, (.nat 0), (.bool false), .nilsl, (.bool false), (.str []), (.bool false), .nilsl, (.bool false)]), (.nat 0)]), [(.mk .d0 .d1 .d0 .d0, (.cells [(.int .u8 (.ofNat 0)), (.int .u8 (.ofNat 1)), (.int .u8 (.ofNat v0)), (.int .u8 (.ofNat 0)), (.int .u8 (.ofNat 120))])), (.mk .d0 .d1 .d0 .d1, (.cells [(.int .u8 (.ofNat 120))]))]⟩]⟩
def Sm112 : Sm := St19 117
def Sm114 : Sm := St19 116
def St20 (v0 v1 : Nat) : Sm := ⟨[(.agg [(.int .u8 (.ofNat 48)), (.sl (.mk .d0 .d1 .d0 .d0) 0 7 7 1 false)])], [(.mk .d0 .d1 .d0 .d0, (.cells [(.int .u8 (.ofNat 0)), (.int .u8 (.ofNat 3)), (.int .u8 (.ofNat v0)), (.int .u8 (.ofNat 47)), (.int .u8 (.ofNat v1)), (.int .u8 (.ofNat 0)), (.int .u8 (.ofNat 120))]))], .mk .d0 .d1 .d0 .d1, [(0, 0)], [.mk .d0 .d1 .d0 .d0], [⟨(.tup [(.agg [(.nat 3), (.bool false), (.nat 0), (.bool false), (.nat 0), (.str [v0, 47, v1]), (.sl (.mk .d0 .d1 .d0 .d1) 0 1 1 1 false), (.nat 0), .nilsl, .nilsl, .nilsl, .nilsl, (.bool false), (.nat 0), (.str []), (.bool false), (.str []), .nilsl, (.nat 0), (.bool false), .nilsl, (.bool false), (.str []), (.bool false), .nilsl, (.bool false)]), (.nat 0)]), [(.mk .d0 .d1 .d0 .d0, (.cells [(.int .u8 (.ofNat 0)), (.int .u8 (.ofNat 3)), (.int .u8 (.ofNat v0)), (.int .u8 (.ofNat 47)), (.int .u8 (.ofNat v1)), (.int .u8 (.ofNat 0)), (.int .u8 (.ofNat 120))])), (.mk .d0 .d1 .d0 .d1, (.cells [(.int .u8 (.ofNat 120))]))]⟩]⟩
def Sm113 : Sm := St20 118 119
def Sm115 : Sm := St20 116 97
def St21 (v0 v1 : Nat) : Sm := ⟨[(.agg [(.int .u8 (.ofNat 48)), (.sl (.mk .d0 .d1 .d0 .d0) 0 8 8 1 false)])], [(.mk .d0 .d1 .d0 .d0, (.cells [(.int .u8 (.ofNat 0)), (.int .u8 (.ofNat 1)), (.int .u8 (.ofNat v0)), (.int .u8 (.ofNat 3)), (.int .u8 (.ofNat 35)), (.int .u8 (.ofNat 0)), (.int .u8 (.ofNat v1)), (.int .u8 (.ofNat 120))]))], .mk .d0 .d1 .d0 .d1, [(0, 0)], [.mk .d0 .d1 .d0 .d0], [⟨(.tup [(.agg [(.nat 3), (.bool false), (.nat 0), (.bool false), (.nat 0), (.str [v0]), (.sl (.mk .d0 .d1 .d0 .d1) 0 1 1 1 false), (.nat 0), .nilsl, (.sl (.mk .d0 .d1 .d0 .d2) 0 1 1 5 false), .nilsl, .nilsl, (.bool false), (.nat 0), (.str []), (.bool false), (.str []), .nilsl, (.nat 0), (.bool false), .nilsl, (.bool false), (.str []), (.bool false), .nilsl, (.bool false)]), (.nat 0)]), [(.mk .d0 .d1 .d0 .d0, (.cells [(.int .u8 (.ofNat 0)), (.int .u8 (.ofNat 1)), (.int .u8 (.ofNat v0)), (.int .u8 (.ofNat 3)), (.int .u8 (.ofNat 35)), (.int .u8 (.ofNat 0)), (.int .u8 (.ofNat v1)), (.int .u8 (.ofNat 120))])), (.mk .d0 .d1 .d0 .d1, (.cells [(.int .u8 (.ofNat 120))])), (.mk .d0 .d1 .d0 .d2, (.cells [(.nat 35), (.nat v1), (.str []), (.str []), .nilsl]))]⟩]⟩
def Sm116 : Sm := St21 117 3
def Sm119 : Sm := St21 116 3
def Sm120 : Sm := St21 116 2
def Sm122 : Sm := St21 117 2
def Sm124 : Sm := St21 116 1
def Sm126 : Sm := St21 117 1
def Sm128 : Sm := St21 116 4
def Sm130 : Sm := St21 117 4
def Sm132 : Sm := St21 116 5
def Sm134 : Sm := St21 117 5
def Sm137 : Sm := St21 116 6
def Sm139 : Sm := St21 117 6
def Sm142 : Sm := St21 116 7
def Sm144 : Sm := St21 117 7
def St22 (v0 v1 v2 : Nat) : Sm := ⟨[(.agg [(.int .u8 (.ofNat 48)), (.sl (.mk .d0 .d1 .d0 .d0) 0 10 10 1 false)])], [(.mk .d0 .d1 .d0 .d0, (.cells [(.int .u8 (.ofNat 0)), (.int .u8 (.ofNat 3)), (.int .u8 (.ofNat v0)), (.int .u8 (.ofNat 47)), (.int .u8 (.ofNat v1)), (.int .u8 (.ofNat 3)), (.int .u8 (.ofNat 35)), (.int .u8 (.ofNat 0)), (.int .u8 (.ofNat v2)), (.int .u8 (.ofNat 120))]))], .mk .d0 .d1 .d0 .d1, [(0, 0)], [.mk .d0 .d1 .d0 .d0], [⟨(.tup [(.agg [(.nat 3), (.bool false), (.nat 0), (.bool false), (.nat 0), (.str [v0, 47, v1]), (.sl (.mk .d0 .d1 .d0 .d1) 0 1 1 1 false), (.nat 0), .nilsl, (.sl (.mk .d0 .d1 .d0 .d2) 0 1 1 5 false), .nilsl, .nilsl, (.bool false), (.nat 0), (.str []), (.bool false), (.str []), .nilsl, (.nat 0), (.bool false), .nilsl, (.bool false), (.str []), (.bool false), .nilsl, (.bool false)]), (.nat 0)]), [(.mk .d0 .d1 .d0 .d0, (.cells [(.int .u8 (.ofNat 0)), (.int .u8 (.ofNat 3)), (.int .u8 (.ofNat v0)), (.int .u8 (.ofNat 47)), (.int .u8 (.ofNat v1)), (.int .u8 (.ofNat 3)), (.int .u8 (.ofNat 35)), (.int .u8 (.ofNat 0)), (.int .u8 (.ofNat v2)), (.int .u8 (.ofNat 120))])), (.mk .d0 .d1 .d0 .d1, (.cells [(.int .u8 (.ofNat 120))])), (.mk .d0 .d1 .d0 .d2, (.cells [(.nat 35), (.nat v2), (.str []), (.str []), .nilsl]))]⟩]⟩
def Sm117 : Sm := St22 118 119 3
def Sm118 : Sm := St22 116 97 3
def Sm121 : Sm := St22 116 97 2
def Sm123 : Sm := St22 118 119 2
def Sm125 : Sm := St22 116 97 1
def Sm127 : Sm := St22 118 119 1
def Sm129 : Sm := St22 116 97 4
def Sm131 : Sm := St22 118 119 4
def Sm133 : Sm := St22 116 97 5
def Sm135 : Sm := St22 118 119 5
def Sm138 : Sm := St22 116 97 6
def Sm140 : Sm := St22 118 119 6
def Sm143 : Sm := St22 116 97 7
def Sm145 : Sm := St22 118 119 7
def St23 (v0 v1 v2 v3 v4 : Nat) : Sm := ⟨[(.ptr (.mk .d0 .d1 .d0 .d0) 0), (.sl (.mk .d0 .d1 .d0 .d1) 0 9 9 1 false)], [(.mk .d0 .d1 .d0 .d0, (.cells [(.nat 512), .nilsl, (.nat 0)])), (.mk .d0 .d1 .d0 .d1, (.cells [(.int .u8 (.ofNat 48)), (.int .u8 (.ofNat 7)), (.int .u8 (.ofNat 0)), (.int .u8 (.ofNat v0)), (.int .u8 (.ofNat v1)), (.int .u8 (.ofNat v2)), (.int .u8 (.ofNat v3)), (.int .u8 (.ofNat v4)), (.int .u8 (.ofNat 120))]))], .mk .d0 .d1 .d0 .d2, [(0, 0)], [.mk .d0 .d1 .d0 .d0, .mk .d0 .d1 .d0 .d1], [⟨(.tup [(.sl (.mk .d0 .d1 .d0 .d2) 0 1 1 2 false), (.nat 0)]), [(.mk .d0 .d1 .d0 .d0, (.cells [(.nat 512), .nilsl, (.nat 0)])), (.mk .d0 .d1 .d0 .d1, (.cells [(.int .u8 (.ofNat 48)), (.int .u8 (.ofNat 7)), (.int .u8 (.ofNat 0)), (.int .u8 (.ofNat v0)), (.int .u8 (.ofNat v1)), (.int .u8 (.ofNat v2)), (.int .u8 (.ofNat v3)), (.int .u8 (.ofNat v4)), (.int .u8 (.ofNat 120))])), (.mk .d0 .d1 .d0 .d2, (.cells [(.int .u8 (.ofNat 48)), (.sl (.mk .d0 .d1 .d0 .d3) 0 7 7 1 false)])), (.mk .d0 .d1 .d0 .d3, (.cells [(.int .u8 (.ofNat 0)), (.int .u8 (.ofNat v0)), (.int .u8 (.ofNat v1)), (.int .u8 (.ofNat v2)), (.int .u8 (.ofNat v3)), (.int .u8 (.ofNat v4)), (.int .u8 (.ofNat 120))]))]⟩]⟩
def Sm147 : Sm := St23 0 3 35 0 1
def Sm148 : Sm := St23 0 3 35 0 2
def Sm149 : Sm := St23 0 3 35 0 3
def Sm150 : Sm := St23 0 3 35 0 4
def Sm152 : Sm := St23 3 116 47 97 0
def Sm154 : Sm := St23 3 118 47 119 0
def Sm175 : Sm := St23 0 3 35 0 5
def Sm180 : Sm := St23 0 3 35 0 6
def Sm185 : Sm := St23 0 3 35 0 7
def St24 (v0 : Nat) : Sm := ⟨[(.ptr (.mk .d0 .d1 .d0 .d0) 0), (.sl (.mk .d0 .d1 .d0 .d1) 0 7 7 1 false)], [(.mk .d0 .d1 .d0 .d0, (.cells [(.nat 512), .nilsl, (.nat 0)])), (.mk .d0 .d1 .d0 .d1, (.cells [(.int .u8 (.ofNat 48)), (.int .u8 (.ofNat 5)), (.int .u8 (.ofNat 0)), (.int .u8 (.ofNat 1)), (.int .u8 (.ofNat v0)), (.int .u8 (.ofNat 0)), (.int .u8 (.ofNat 120))]))], .mk .d0 .d1 .d0 .d2, [(0, 0)], [.mk .d0 .d1 .d0 .d0, .mk .d0 .d1 .d0 .d1], [⟨(.tup [(.sl (.mk .d0 .d1 .d0 .d2) 0 1 1 2 false), (.nat 0)]), [(.mk .d0 .d1 .d0 .d0, (.cells [(.nat 512), .nilsl, (.nat 0)])), (.mk .d0 .d1 .d0 .d1, (.cells [(.int .u8 (.ofNat 48)), (.int .u8 (.ofNat 5)), (.int .u8 (.ofNat 0)), (.int .u8 (.ofNat 1)), (.int .u8 (.ofNat v0)), (.int .u8 (.ofNat 0)), (.int .u8 (.ofNat 120))])), (.mk .d0 .d1 .d0 .d2, (.cells [(.int .u8 (.ofNat 48)), (.sl (.mk .d0 .d1 .d0 .d3) 0 5 5 1 false)])), (.mk .d0 .d1 .d0 .d3, (.cells [(.int .u8 (.ofNat 0)), (.int .u8 (.ofNat 1)), (.int .u8 (.ofNat v0)), (.int .u8 (.ofNat 0)), (.int .u8 (.ofNat 120))]))]⟩]⟩
def Sm151 : Sm := St24 116
def Sm153 : Sm := St24 117
def St25 (v0 v1 : Nat) : Sm := ⟨[(.ptr (.mk .d0 .d1 .d0 .d0) 0), (.sl (.mk .d0 .d1 .d0 .d1) 0 10 10 1 false)], [(.mk .d0 .d1 .d0 .d0, (.cells [(.nat 512), .nilsl, (.nat 0)])), (.mk .d0 .d1 .d0 .d1, (.cells [(.int .u8 (.ofNat 48)), (.int .u8 (.ofNat 8)), (.int .u8 (.ofNat 0)), (.int .u8 (.ofNat 1)), (.int .u8 (.ofNat v0)), (.int .u8 (.ofNat 3)), (.int .u8 (.ofNat 35)), (.int .u8 (.ofNat 0)), (.int .u8 (.ofNat v1)), (.int .u8 (.ofNat 120))]))], .mk .d0 .d1 .d0 .d2, [(0, 0)], [.mk .d0 .d1 .d0 .d0, .mk .d0 .d1 .d0 .d1], [⟨(.tup [(.sl (.mk .d0 .d1 .d0 .d2) 0 1 1 2 false), (.nat 0)]), [(.mk .d0 .d1 .d0 .d0, (.cells [(.nat 512), .nilsl, (.nat 0)])), (.mk .d0 .d1 .d0 .d1, (.cells [(.int .u8 (.ofNat 48)), (.int .u8 (.ofNat 8)), (.int .u8 (.ofNat 0)), (.int .u8 (.ofNat 1)), (.int .u8 (.ofNat v0)), (.int .u8 (.ofNat 3)), (.int .u8 (.ofNat 35)), (.int .u8 (.ofNat 0)), (.int .u8 (.ofNat v1)), (.int .u8 (.ofNat 120))])), (.mk .d0 .d1 .d0 .d2, (.cells [(.int .u8 (.ofNat 48)), (.sl (.mk .d0 .d1 .d0 .d3) 0 8 8 1 false)])), (.mk .d0 .d1 .d0 .d3, (.cells [(.int .u8 (.ofNat 0)), (.int .u8 (.ofNat 1)), (.int .u8 (.ofNat v0)), (.int .u8 (.ofNat 3)), (.int .u8 (.ofNat 35)), (.int .u8 (.ofNat 0)), (.int .u8 (.ofNat v1)), (.int .u8 (.ofNat 120))]))]⟩]⟩
def Sm155 : Sm := St25 116 1
def Sm157 : Sm := St25 117 1
def Sm159 : Sm := St25 116 2
def Sm161 : Sm := St25 117 2
def Sm163 : Sm := St25 116 3
def Sm165 : Sm := St25 117 3
def Sm167 : Sm := St25 116 4
def Sm169 : Sm := St25 117 4
def Sm171 : Sm := St25 116 5
def Sm173 : Sm := St25 117 5
def Sm176 : Sm := St25 116 6
def Sm178 : Sm := St25 117 6
def Sm181 : Sm := St25 116 7
def Sm183 : Sm := St25 117 7
def St26 (v0 v1 v2 : Nat) : Sm := ⟨[(.ptr (.mk .d0 .d1 .d0 .d0) 0), (.sl (.mk .d0 .d1 .d0 .d1) 0 12 12 1 false)], [(.mk .d0 .d1 .d0 .d0, (.cells [(.nat 512), .nilsl, (.nat 0)])), (.mk .d0 .d1 .d0 .d1, (.cells [(.int .u8 (.ofNat 48)), (.int .u8 (.ofNat 10)), (.int .u8 (.ofNat 0)), (.int .u8 (.ofNat 3)), (.int .u8 (.ofNat v0)), (.int .u8 (.ofNat 47)), (.int .u8 (.ofNat v1)), (.int .u8 (.ofNat 3)), (.int .u8 (.ofNat 35)), (.int .u8 (.ofNat 0)), (.int .u8 (.ofNat v2)), (.int .u8 (.ofNat 120))]))], .mk .d0 .d1 .d0 .d2, [(0, 0)], [.mk .d0 .d1 .d0 .d0, .mk .d0 .d1 .d0 .d1], [⟨(.tup [(.sl (.mk .d0 .d1 .d0 .d2) 0 1 1 2 false), (.nat 0)]), [(.mk .d0 .d1 .d0 .d0, (.cells [(.nat 512), .nilsl, (.nat 0)])), (.mk .d0 .d1 .d0 .d1, (.cells [(.int .u8 (.ofNat 48)), (.int .u8 (.ofNat 10)), (.int .u8 (.ofNat 0)), (.int .u8 (.ofNat 3)), (.int .u8 (.ofNat v0)), (.int .u8 (.ofNat 47)), (.int .u8 (.ofNat v1)), (.int .u8 (.ofNat 3)), (.int .u8 (.ofNat 35)), (.int .u8 (.ofNat 0)), (.int .u8 (.ofNat v2)), (.int .u8 (.ofNat 120))])), (.mk .d0 .d1 .d0 .d2, (.cells [(.int .u8 (.ofNat 48)), (.sl (.mk .d0 .d1 .d0 .d3) 0 10 10 1 false)])), (.mk .d0 .d1 .d0 .d3, (.cells [(.int .u8 (.ofNat 0)), (.int .u8 (.ofNat 3)), (.int .u8 (.ofNat v0)), (.int .u8 (.ofNat 47)), (.int .u8 (.ofNat v1)), (.int .u8 (.ofNat 3)), (.int .u8 (.ofNat 35)), (.int .u8 (.ofNat 0)), (.int .u8 (.ofNat v2)), (.int .u8 (.ofNat 120))]))]⟩]⟩
def Sm156 : Sm := St26 116 97 1
def Sm158 : Sm := St26 118 119 1
def Sm160 : Sm := St26 116 97 2
def Sm162 : Sm := St26 118 119 2
def Sm164 : Sm := St26 116 97 3
def Sm166 : Sm := St26 118 119 3
def Sm168 : Sm := St26 116 97 4
def Sm170 : Sm := St26 118 119 4
def Sm172 : Sm := St26 116 97 5
def Sm174 : Sm := St26 118 119 5
def Sm177 : Sm := St26 116 97 6
def Sm179 : Sm := St26 118 119 6
def Sm182 : Sm := St26 116 97 7
def Sm184 : Sm := St26 118 119 7
def St27 (v0 : Nat) : Sm := ⟨[(.nat 268435456), (.sl (.mk .d0 .d1 .d0 .d0) 0 3 3 1 false)], [(.mk .d0 .d1 .d0 .d0, (.cells [(.int .u8 (.ofNat 224)), (.int .u8 (.ofNat 1)), (.int .u8 (.ofNat v0))]))], .mk .d0 .d1 .d0 .d1, [(0, 0)], [.mk .d0 .d1 .d0 .d0], [⟨(.tup [(.sl (.mk .d0 .d1 .d0 .d1) 0 1 1 2 false), (.nat 0), (.nat 3)]), [(.mk .d0 .d1 .d0 .d0, (.cells [(.int .u8 (.ofNat 224)), (.int .u8 (.ofNat 1)), (.int .u8 (.ofNat v0))])), (.mk .d0 .d1 .d0 .d1, (.cells [(.int .u8 (.ofNat 224)), (.sl (.mk .d0 .d1 .d0 .d2) 0 1 1 1 false)])), (.mk .d0 .d1 .d0 .d2, (.cells [(.int .u8 (.ofNat v0))]))]⟩]⟩
def Sm186 : Sm := St27 148
def Sm190 : Sm := St27 130
def St28 (v0 v1 v2 v3 v4 : Nat) : Sm := ⟨[(.nat 268435456), (.sl (.mk .d0 .d1 .d0 .d0) 0 9 9 1 false)], [(.mk .d0 .d1 .d0 .d0, (.cells [(.int .u8 (.ofNat 48)), (.int .u8 (.ofNat 7)), (.int .u8 (.ofNat 0)), (.int .u8 (.ofNat v0)), (.int .u8 (.ofNat v1)), (.int .u8 (.ofNat v2)), (.int .u8 (.ofNat v3)), (.int .u8 (.ofNat v4)), (.int .u8 (.ofNat 120))]))], .mk .d0 .d1 .d0 .d1, [(0, 0)], [.mk .d0 .d1 .d0 .d0], [⟨(.tup [(.sl (.mk .d0 .d1 .d0 .d1) 0 1 1 2 false), (.nat 0), (.nat 9)]), [(.mk .d0 .d1 .d0 .d0, (.cells [(.int .u8 (.ofNat 48)), (.int .u8 (.ofNat 7)), (.int .u8 (.ofNat 0)), (.int .u8 (.ofNat v0)), (.int .u8 (.ofNat v1)), (.int .u8 (.ofNat v2)), (.int .u8 (.ofNat v3)), (.int .u8 (.ofNat v4)), (.int .u8 (.ofNat 120))])), (.mk .d0 .d1 .d0 .d1, (.cells [(.int .u8 (.ofNat 48)), (.sl (.mk .d0 .d1 .d0 .d2) 0 7 7 1 false)])), (.mk .d0 .d1 .d0 .d2, (.cells [(.int .u8 (.ofNat 0)), (.int .u8 (.ofNat v0)), (.int .u8 (.ofNat v1)), (.int .u8 (.ofNat v2)), (.int .u8 (.ofNat v3)), (.int .u8 (.ofNat v4)), (.int .u8 (.ofNat 120))]))]⟩]⟩
def Sm187 : Sm := St28 0 3 35 0 1
def Sm188 : Sm := St28 0 3 35 0 2
def Sm189 : Sm := St28 0 3 35 0 3
def Sm191 : Sm := St28 0 3 35 0 4
def Sm193 : Sm := St28 3 118 47 119 0
def Sm195 : Sm := St28 3 116 47 97 0
def St29 (v0 : Nat) : Sm := ⟨[(.nat 268435456), (.sl (.mk .d0 .d1 .d0 .d0) 0 7 7 1 false)], [(.mk .d0 .d1 .d0 .d0, (.cells [(.int .u8 (.ofNat 48)), (.int .u8 (.ofNat 5)), (.int .u8 (.ofNat 0)), (.int .u8 (.ofNat 1)), (.int .u8 (.ofNat v0)), (.int .u8 (.ofNat 0)), (.int .u8 (.ofNat 120))]))], .mk .d0 .d1 .d0 .d1, [(0, 0)], [.mk .d0 .d1 .d0 .d0], [⟨(.tup [(.sl (.mk .d0 .d1 .d0 .d1) 0 1 1 2 false), (.nat 0), (.nat 7)]), [(.mk .d0 .d1 .d0 .d0, (.cells [(.int .u8 (.ofNat 48)), (.int .u8 (.ofNat 5)), (.int .u8 (.ofNat 0)), (.int .u8 (.ofNat 1)), (.int .u8 (.ofNat v0)), (.int .u8 (.ofNat 0)), (.int .u8 (.ofNat 120))])), (.mk .d0 .d1 .d0 .d1, (.cells [(.int .u8 (.ofNat 48)), (.sl (.mk .d0 .d1 .d0 .d2) 0 5 5 1 false)])), (.mk .d0 .d1 .d0 .d2, (.cells [(.int .u8 (.ofNat 0)), (.int .u8 (.ofNat 1)), (.int .u8 (.ofNat v0)), (.int .u8 (.ofNat 0)), (.int .u8 (.ofNat 120))]))]⟩]⟩
def Sm192 : Sm := St29 117
def Sm194 : Sm := St29 116
def St30 (v0 v1 : Nat) : Sm := ⟨[(.nat 268435456), (.sl (.mk .d0 .d1 .d0 .d0) 0 10 10 1 false)], [(.mk .d0 .d1 .d0 .d0, (.cells [(.int .u8 (.ofNat 48)), (.int .u8 (.ofNat 8)), (.int .u8 (.ofNat 0)), (.int .u8 (.ofNat 1)), (.int .u8 (.ofNat v0)), (.int .u8 (.ofNat 3)), (.int .u8 (.ofNat 35)), (.int .u8 (.ofNat 0)), (.int .u8 (.ofNat v1)), (.int .u8 (.ofNat 120))]))], .mk .d0 .d1 .d0 .d1, [(0, 0)], [.mk .d0 .d1 .d0 .d0], [⟨(.tup [(.sl (.mk .d0 .d1 .d0 .d1) 0 1 1 2 false), (.nat 0), (.nat 10)]), [(.mk .d0 .d1 .d0 .d0, (.cells [(.int .u8 (.ofNat 48)), (.int .u8 (.ofNat 8)), (.int .u8 (.ofNat 0)), (.int .u8 (.ofNat 1)), (.int .u8 (.ofNat v0)), (.int .u8 (.ofNat 3)), (.int .u8 (.ofNat 35)), (.int .u8 (.ofNat 0)), (.int .u8 (.ofNat v1)), (.int .u8 (.ofNat 120))])), (.mk .d0 .d1 .d0 .d1, (.cells [(.int .u8 (.ofNat 48)), (.sl (.mk .d0 .d1 .d0 .d2) 0 8 8 1 false)])), (.mk .d0 .d1 .d0 .d2, (.cells [(.int .u8 (.ofNat 0)), (.int .u8 (.ofNat 1)), (.int .u8 (.ofNat v0)), (.int .u8 (.ofNat 3)), (.int .u8 (.ofNat 35)), (.int .u8 (.ofNat 0)), (.int .u8 (.ofNat v1)), (.int .u8 (.ofNat 120))]))]⟩]⟩
def Sm196 : Sm := St30 117 3
def Sm199 : Sm := St30 116 3
def Sm201 : Sm := St30 117 2
def Sm203 : Sm := St30 116 2
def Sm204 : Sm := St30 116 1
def Sm206 : Sm := St30 117 1
def Sm209 : Sm := St30 117 4
def Sm211 : Sm := St30 116 4
def St31 (v0 v1 v2 : Nat) : Sm := ⟨[(.nat 268435456), (.sl (.mk .d0 .d1 .d0 .d0) 0 12 12 1 false)], [(.mk .d0 .d1 .d0 .d0, (.cells [(.int .u8 (.ofNat 48)), (.int .u8 (.ofNat 10)), (.int .u8 (.ofNat 0)), (.int .u8 (.ofNat 3)), (.int .u8 (.ofNat v0)), (.int .u8 (.ofNat 47)), (.int .u8 (.ofNat v1)), (.int .u8 (.ofNat 3)), (.int .u8 (.ofNat 35)), (.int .u8 (.ofNat 0)), (.int .u8 (.ofNat v2)), (.int .u8 (.ofNat 120))]))], .mk .d0 .d1 .d0 .d1, [(0, 0)], [.mk .d0 .d1 .d0 .d0], [⟨(.tup [(.sl (.mk .d0 .d1 .d0 .d1) 0 1 1 2 false), (.nat 0), (.nat 12)]), [(.mk .d0 .d1 .d0 .d0, (.cells [(.int .u8 (.ofNat 48)), (.int .u8 (.ofNat 10)), (.int .u8 (.ofNat 0)), (.int .u8 (.ofNat 3)), (.int .u8 (.ofNat v0)), (.int .u8 (.ofNat 47)), (.int .u8 (.ofNat v1)), (.int .u8 (.ofNat 3)), (.int .u8 (.ofNat 35)), (.int .u8 (.ofNat 0)), (.int .u8 (.ofNat v2)), (.int .u8 (.ofNat 120))])), (.mk .d0 .d1 .d0 .d1, (.cells [(.int .u8 (.ofNat 48)), (.sl (.mk .d0 .d1 .d0 .d2) 0 10 10 1 false)])), (.mk .d0 .d1 .d0 .d2, (.cells [(.int .u8 (.ofNat 0)), (.int .u8 (.ofNat 3)), (.int .u8 (.ofNat v0)), (.int .u8 (.ofNat 47)), (.int .u8 (.ofNat v1)), (.int .u8 (.ofNat 3)), (.int .u8 (.ofNat 35)), (.int .u8 (.ofNat 0)), (.int .u8 (.ofNat v2)), (.int .u8 (.ofNat 120))]))]⟩]⟩
def Sm197 : Sm := St31 118 119 3
def Sm198 : Sm := St31 116 97 3
def Sm200 : Sm := St31 116 97 2
def Sm202 : Sm := St31 118 119 2
def Sm205 : Sm := St31 116 97 1
def Sm207 : Sm := St31 118 119 1
def Sm208 : Sm := St31 118 119 4
def Sm210 : Sm := St31 116 97 4
def St32 (v0 : Nat) : Sm := ⟨[(.str [35]), (.str [v0])], [], .mk .d0 .d1 .d0 .d0, [(0, 0)], [], [⟨(.bool true), []⟩]⟩
def Sm212 : Sm := St32 116
def Sm214 : Sm := St32 117
def St33 (v0 v1 : Nat) : Sm := ⟨[(.str [35]), (.str [v0, 47, v1])], [], .mk .d0 .d1 .d0 .d0, [(0, 0)], [], [⟨(.bool true), []⟩]⟩
def Sm213 : Sm := St33 116 97
def Sm215 : Sm := St33 118 119
theorem mkSo (f : FuncId) (s : Sm) (h0 : leaves [] .leaf ⟨s.b, [], [], [], 1000⟩ = some [⟨s.b, [], [], [], 1000⟩]) (h1 : okB s.b = true) (h2 : ∀ σ : Nat → Int, chkRets 100 s (@ev (linSym σ ((⟨s.b, [], [], [], 1000⟩ : Lf).known noA)) Tryz.prog codeN natW 1000 false f s.args (mkH .nil s.objs) s.n) = true) : SmOk Tryz.prog f s := smOk_run (tree := .leaf) (ls := [⟨s.b, [], [], [], 1000⟩]) (code := codeN) (nat := natW) (fuel := 1000) (G := 100) mixedN codeN_ok (nats_lin natW_ok) h0 h1 (allG_cons h2 allG_nil)
theorem so0 : SmOk Tryz.prog 102 Sm0 := mkSo 102 Sm0 (by kernel_rfl) (by kernel_rfl) (fun s => by kernel_rfl)
theorem so1 : SmOk Tryz.prog 102 Sm1 := mkSo 102 Sm1 (by kernel_rfl) (by kernel_rfl) (fun s => by kernel_rfl)
theorem so2 : SmOk Tryz.prog 102 Sm2 := mkSo 102 Sm2 (by kernel_rfl) (by kernel_rfl) (fun s => by kernel_rfl)
theorem so3 : SmOk Tryz.prog 102 Sm3 := mkSo 102 Sm3 (by kernel_rfl) (by kernel_rfl) (fun s => by kernel_rfl)
theorem so4 : SmOk Tryz.prog 102 Sm4 := mkSo 102 Sm4 (by kernel_rfl) (by kernel_rfl) (fun s => by kernel_rfl)
theorem so5 : SmOk Tryz.prog 102 Sm5 := mkSo 102 Sm5 (by kernel_rfl) (by kernel_rfl) (fun s => by kernel_rfl)
theorem so6 : SmOk Tryz.prog 102 Sm6 := mkSo 102 Sm6 (by kernel_rfl) (by kernel_rfl) (fun s => by kernel_rfl)
theorem so7 : SmOk Tryz.prog 102 Sm7 := mkSo 102 Sm7 (by kernel_rfl) (by kernel_rfl) (fun s => by kernel_rfl)
theorem so8 : SmOk Tryz.prog 102 Sm8 := mkSo 102 Sm8 (by kernel_rfl) (by kernel_rfl) (fun s => by kernel_rfl)
theorem so9 : SmOk Tryz.prog 102 Sm9 := mkSo 102 Sm9 (by kernel_rfl) (by kernel_rfl) (fun s => by kernel_rfl)
theorem so10 : SmOk Tryz.prog 102 Sm10 := mkSo 102 Sm10 (by kernel_rfl) (by kernel_rfl) (fun s => by kernel_rfl)
theorem so11 : SmOk Tryz.prog 102 Sm11 := mkSo 102 Sm11 (by kernel_rfl) (by kernel_rfl) (fun s => by kernel_rfl)
theorem so12 : SmOk Tryz.prog 102 Sm12 := mkSo 102 Sm12 (by kernel_rfl) (by kernel_rfl) (fun s => by kernel_rfl)
theorem so13 : SmOk Tryz.prog 102 Sm13 := mkSo 102 Sm13 (by kernel_rfl) (by kernel_rfl) (fun s => by kernel_rfl)
theorem so14 : SmOk Tryz.prog 102 Sm14 := mkSo 102 Sm14 (by kernel_rfl) (by kernel_rfl) (fun s => by kernel_rfl)
theorem so15 : SmOk Tryz.prog 102 Sm15 := mkSo 102 Sm15 (by kernel_rfl) (by kernel_rfl) (fun s => by kernel_rfl)
theorem so16 : SmOk Tryz.prog 102 Sm16 := mkSo 102 Sm16 (by kernel_rfl) (by kernel_rfl) (fun s => by kernel_rfl)
theorem so17 : SmOk Tryz.prog 102 Sm17 := mkSo 102 Sm17 (by kernel_rfl) (by kernel_rfl) (fun s => by kernel_rfl)
theorem so18 : SmOk Tryz.prog 102 Sm18 := mkSo 102 Sm18 (by kernel_rfl) (by kernel_rfl) (fun s => by kernel_rfl)
theorem so19 : SmOk Tryz.prog 102 Sm19 := mkSo 102 Sm19 (by kernel_rfl) (by kernel_rfl) (fun s => by kernel_rfl)
theorem so20 : SmOk Tryz.prog 102 Sm20 := mkSo 102 Sm20 (by kernel_rfl) (by kernel_rfl) (fun s => by kernel_rfl)
theorem so21 : SmOk Tryz.prog 102 Sm21 := mkSo 102 Sm21 (by kernel_rfl) (by kernel_rfl) (fun s => by kernel_rfl)
theorem so22 : SmOk Tryz.prog 102 Sm22 := mkSo 102 Sm22 (by kernel_rfl) (by kernel_rfl) (fun s => by kernel_rfl)
theorem so23 : SmOk Tryz.prog 102 Sm23 := mkSo 102 Sm23 (by kernel_rfl) (by kernel_rfl) (fun s => by kernel_rfl)
theorem so24 : SmOk Tryz.prog 102 Sm24 := mkSo 102 Sm24 (by kernel_rfl) (by kernel_rfl) (fun s => by kernel_rfl)
theorem so25 : SmOk Tryz.prog 102 Sm25 := mkSo 102 Sm25 (by kernel_rfl) (by kernel_rfl) (fun s => by kernel_rfl)
theorem so26 : SmOk Tryz.prog 33 Sm26 := mkSo 33 Sm26 (by kernel_rfl) (by kernel_rfl) (fun s => by kernel_rfl)
theorem so27 : SmOk Tryz.prog 33 Sm27 := mkSo 33 Sm27 (by kernel_rfl) (by kernel_rfl) (fun s => by kernel_rfl)
theorem so28 : SmOk Tryz.prog 33 Sm28 := mkSo 33 Sm28 (by kernel_rfl) (by kernel_rfl) (fun s => by kernel_rfl)
theorem so29 : SmOk Tryz.prog 33 Sm29 := mkSo 33 Sm29 (by kernel_rfl) (by kernel_rfl) (fun s => by kernel_rfl)
theorem so30 : SmOk Tryz.prog 33 Sm30 := mkSo 33 Sm30 (by kernel_rfl) (by kernel_rfl) (fun s => by kernel_rfl)
theorem so31 : SmOk Tryz.prog 33 Sm31 := mkSo 33 Sm31 (by kernel_rfl) (by kernel_rfl) (fun s => by kernel_rfl)
theorem so32 : SmOk Tryz.prog 33 Sm32 := mkSo 33 Sm32 (by kernel_rfl) (by kernel_rfl) (fun s => by kernel_rfl)
theorem so33 : SmOk Tryz.prog 33 Sm33 := mkSo 33 Sm33 (by kernel_rfl) (by kernel_rfl) (fun s => by kernel_rfl)
theorem so34 : SmOk Tryz.prog 33 Sm34 := mkSo 33 Sm34 (by kernel_rfl) (by kernel_rfl) (fun s => by kernel_rfl)
theorem so35 : SmOk Tryz.prog 33 Sm35 := mkSo 33 Sm35 (by kernel_rfl) (by kernel_rfl) (fun s => by kernel_rfl)
theorem so36 : SmOk Tryz.prog 33 Sm36 := mkSo 33 Sm36 (by kernel_rfl) (by kernel_rfl) (fun s => by kernel_rfl)
theorem so37 : SmOk Tryz.prog 33 Sm37 := mkSo 33 Sm37 (by kernel_rfl) (by kernel_rfl) (fun s => by kernel_rfl)
theorem so38 : SmOk Tryz.prog 33 Sm38 := mkSo 33 Sm38 (by kernel_rfl) (by kernel_rfl) (fun s => by kernel_rfl)
theorem so39 : SmOk Tryz.prog 33 Sm39 := mkSo 33 Sm39 (by kernel_rfl) (by kernel_rfl) (fun s => by kernel_rfl)
theorem so40 : SmOk Tryz.prog 33 Sm40 := mkSo 33 Sm40 (by kernel_rfl) (by kernel_rfl) (fun s => by kernel_rfl)
theorem so41 : SmOk Tryz.prog 33 Sm41 := mkSo 33 Sm41 (by kernel_rfl) (by kernel_rfl) (fun s => by kernel_rfl)
theorem so42 : SmOk Tryz.prog 33 Sm42 := mkSo 33 Sm42 (by kernel_rfl) (by kernel_rfl) (fun s => by kernel_rfl)
theorem so43 : SmOk Tryz.prog 33 Sm43 := mkSo 33 Sm43 (by kernel_rfl) (by kernel_rfl) (fun s => by kernel_rfl)
theorem so44 : SmOk Tryz.prog 33 Sm44 := mkSo 33 Sm44 (by kernel_rfl) (by kernel_rfl) (fun s => by kernel_rfl)
theorem so45 : SmOk Tryz.prog 33 Sm45 := mkSo 33 Sm45 (by kernel_rfl) (by kernel_rfl) (fun s => by kernel_rfl)
theorem so46 : SmOk Tryz.prog 33 Sm46 := mkSo 33 Sm46 (by kernel_rfl) (by kernel_rfl) (fun s => by kernel_rfl)
theorem so47 : SmOk Tryz.prog 33 Sm47 := mkSo 33 Sm47 (by kernel_rfl) (by kernel_rfl) (fun s => by kernel_rfl)
theorem so48 : SmOk Tryz.prog 33 Sm48 := mkSo 33 Sm48 (by kernel_rfl) (by kernel_rfl) (fun s => by kernel_rfl)
theorem so49 : SmOk Tryz.prog 33 Sm49 := mkSo 33 Sm49 (by kernel_rfl) (by kernel_rfl) (fun s => by kernel_rfl)
theorem so50 : SmOk Tryz.prog 33 Sm50 := mkSo 33 Sm50 (by kernel_rfl) (by kernel_rfl) (fun s => by kernel_rfl)
theorem so51 : SmOk Tryz.prog 33 Sm51 := mkSo 33 Sm51 (by kernel_rfl) (by kernel_rfl) (fun s => by kernel_rfl)
theorem so52 : SmOk Tryz.prog 33 Sm52 := mkSo 33 Sm52 (by kernel_rfl) (by kernel_rfl) (fun s => by kernel_rfl)
theorem so53 : SmOk Tryz.prog 33 Sm53 := mkSo 33 Sm53 (by kernel_rfl) (by kernel_rfl) (fun s => by kernel_rfl)
theorem so54 : SmOk Tryz.prog 33 Sm54 := mkSo 33 Sm54 (by kernel_rfl) (by kernel_rfl) (fun s => by kernel_rfl)
theorem so55 : SmOk Tryz.prog 33 Sm55 := mkSo 33 Sm55 (by kernel_rfl) (by kernel_rfl) (fun s => by kernel_rfl)
theorem so56 : SmOk Tryz.prog 33 Sm56 := mkSo 33 Sm56 (by kernel_rfl) (by kernel_rfl) (fun s => by kernel_rfl)
theorem so57 : SmOk Tryz.prog 33 Sm57 := mkSo 33 Sm57 (by kernel_rfl) (by kernel_rfl) (fun s => by kernel_rfl)
theorem so58 : SmOk Tryz.prog 33 Sm58 := mkSo 33 Sm58 (by kernel_rfl) (by kernel_rfl) (fun s => by kernel_rfl)
theorem so59 : SmOk Tryz.prog 33 Sm59 := mkSo 33 Sm59 (by kernel_rfl) (by kernel_rfl) (fun s => by kernel_rfl)
theorem so60 : SmOk Tryz.prog 33 Sm60 := mkSo 33 Sm60 (by kernel_rfl) (by kernel_rfl) (fun s => by kernel_rfl)
theorem so61 : SmOk Tryz.prog 33 Sm61 := mkSo 33 Sm61 (by kernel_rfl) (by kernel_rfl) (fun s => by kernel_rfl)
theorem so62 : SmOk Tryz.prog 33 Sm62 := mkSo 33 Sm62 (by kernel_rfl) (by kernel_rfl) (fun s => by kernel_rfl)
theorem so63 : SmOk Tryz.prog 33 Sm63 := mkSo 33 Sm63 (by kernel_rfl) (by kernel_rfl) (fun s => by kernel_rfl)
theorem so64 : SmOk Tryz.prog 33 Sm64 := mkSo 33 Sm64 (by kernel_rfl) (by kernel_rfl) (fun s => by kernel_rfl)
theorem so65 : SmOk Tryz.prog 190 Sm65 := mkSo 190 Sm65 (by kernel_rfl) (by kernel_rfl) (fun s => by kernel_rfl)
theorem so66 : SmOk Tryz.prog 190 Sm66 := mkSo 190 Sm66 (by kernel_rfl) (by kernel_rfl) (fun s => by kernel_rfl)
theorem so67 : SmOk Tryz.prog 190 Sm67 := mkSo 190 Sm67 (by kernel_rfl) (by kernel_rfl) (fun s => by kernel_rfl)
theorem so68 : SmOk Tryz.prog 190 Sm68 := mkSo 190 Sm68 (by kernel_rfl) (by kernel_rfl) (fun s => by kernel_rfl)
theorem so69 : SmOk Tryz.prog 190 Sm69 := mkSo 190 Sm69 (by kernel_rfl) (by kernel_rfl) (fun s => by kernel_rfl)
theorem so70 : SmOk Tryz.prog 190 Sm70 := mkSo 190 Sm70 (by kernel_rfl) (by kernel_rfl) (fun s => by kernel_rfl)
theorem so71 : SmOk Tryz.prog 190 Sm71 := mkSo 190 Sm71 (by kernel_rfl) (by kernel_rfl) (fun s => by kernel_rfl)
theorem so72 : SmOk Tryz.prog 190 Sm72 := mkSo 190 Sm72 (by kernel_rfl) (by kernel_rfl) (fun s => by kernel_rfl)
theorem so73 : SmOk Tryz.prog 190 Sm73 := mkSo 190 Sm73 (by kernel_rfl) (by kernel_rfl) (fun s => by kernel_rfl)
theorem so74 : SmOk Tryz.prog 190 Sm74 := mkSo 190 Sm74 (by kernel_rfl) (by kernel_rfl) (fun s => by kernel_rfl)
theorem so75 : SmOk Tryz.prog 190 Sm75 := mkSo 190 Sm75 (by kernel_rfl) (by kernel_rfl) (fun s => by kernel_rfl)
theorem so76 : SmOk Tryz.prog 190 Sm76 := mkSo 190 Sm76 (by kernel_rfl) (by kernel_rfl) (fun s => by kernel_rfl)
theorem so77 : SmOk Tryz.prog 190 Sm77 := mkSo 190 Sm77 (by kernel_rfl) (by kernel_rfl) (fun s => by kernel_rfl)
theorem so78 : SmOk Tryz.prog 190 Sm78 := mkSo 190 Sm78 (by kernel_rfl) (by kernel_rfl) (fun s => by kernel_rfl)
theorem so79 : SmOk Tryz.prog 190 Sm79 := mkSo 190 Sm79 (by kernel_rfl) (by kernel_rfl) (fun s => by kernel_rfl)
theorem so80 : SmOk Tryz.prog 190 Sm80 := mkSo 190 Sm80 (by kernel_rfl) (by kernel_rfl) (fun s => by kernel_rfl)
theorem so81 : SmOk Tryz.prog 190 Sm81 := mkSo 190 Sm81 (by kernel_rfl) (by kernel_rfl) (fun s => by kernel_rfl)
theorem so82 : SmOk Tryz.prog 190 Sm82 := mkSo 190 Sm82 (by kernel_rfl) (by kernel_rfl) (fun s => by kernel_rfl)
theorem so83 : SmOk Tryz.prog 190 Sm83 := mkSo 190 Sm83 (by kernel_rfl) (by kernel_rfl) (fun s => by kernel_rfl)
theorem so84 : SmOk Tryz.prog 190 Sm84 := mkSo 190 Sm84 (by kernel_rfl) (by kernel_rfl) (fun s => by kernel_rfl)
theorem so85 : SmOk Tryz.prog 190 Sm85 := mkSo 190 Sm85 (by kernel_rfl) (by kernel_rfl) (fun s => by kernel_rfl)
theorem so86 : SmOk Tryz.prog 190 Sm86 := mkSo 190 Sm86 (by kernel_rfl) (by kernel_rfl) (fun s => by kernel_rfl)
theorem so87 : SmOk Tryz.prog 190 Sm87 := mkSo 190 Sm87 (by kernel_rfl) (by kernel_rfl) (fun s => by kernel_rfl)
theorem so88 : SmOk Tryz.prog 190 Sm88 := mkSo 190 Sm88 (by kernel_rfl) (by kernel_rfl) (fun s => by kernel_rfl)
theorem so89 : SmOk Tryz.prog 190 Sm89 := mkSo 190 Sm89 (by kernel_rfl) (by kernel_rfl) (fun s => by kernel_rfl)
theorem so90 : SmOk Tryz.prog 190 Sm90 := mkSo 190 Sm90 (by kernel_rfl) (by kernel_rfl) (fun s => by kernel_rfl)
theorem so91 : SmOk Tryz.prog 190 Sm91 := mkSo 190 Sm91 (by kernel_rfl) (by kernel_rfl) (fun s => by kernel_rfl)
theorem so92 : SmOk Tryz.prog 190 Sm92 := mkSo 190 Sm92 (by kernel_rfl) (by kernel_rfl) (fun s => by kernel_rfl)
theorem so93 : SmOk Tryz.prog 190 Sm93 := mkSo 190 Sm93 (by kernel_rfl) (by kernel_rfl) (fun s => by kernel_rfl)
theorem so94 : SmOk Tryz.prog 190 Sm94 := mkSo 190 Sm94 (by kernel_rfl) (by kernel_rfl) (fun s => by kernel_rfl)
theorem so95 : SmOk Tryz.prog 190 Sm95 := mkSo 190 Sm95 (by kernel_rfl) (by kernel_rfl) (fun s => by kernel_rfl)
theorem so96 : SmOk Tryz.prog 190 Sm96 := mkSo 190 Sm96 (by kernel_rfl) (by kernel_rfl) (fun s => by kernel_rfl)
theorem so97 : SmOk Tryz.prog 190 Sm97 := mkSo 190 Sm97 (by kernel_rfl) (by kernel_rfl) (fun s => by kernel_rfl)
theorem so98 : SmOk Tryz.prog 190 Sm98 := mkSo 190 Sm98 (by kernel_rfl) (by kernel_rfl) (fun s => by kernel_rfl)
theorem so99 : SmOk Tryz.prog 190 Sm99 := mkSo 190 Sm99 (by kernel_rfl) (by kernel_rfl) (fun s => by kernel_rfl)
theorem so100 : SmOk Tryz.prog 190 Sm100 := mkSo 190 Sm100 (by kernel_rfl) (by kernel_rfl) (fun s => by kernel_rfl)
theorem so101 : SmOk Tryz.prog 190 Sm101 := mkSo 190 Sm101 (by kernel_rfl) (by kernel_rfl) (fun s => by kernel_rfl)
theorem so102 : SmOk Tryz.prog 190 Sm102 := mkSo 190 Sm102 (by kernel_rfl) (by kernel_rfl) (fun s => by kernel_rfl)
theorem so103 : SmOk Tryz.prog 190 Sm103 := mkSo 190 Sm103 (by kernel_rfl) (by kernel_rfl) (fun s => by kernel_rfl)
theorem so104 : SmOk Tryz.prog 190 Sm104 := mkSo 190 Sm104 (by kernel_rfl) (by kernel_rfl) (fun s => by kernel_rfl)
theorem so105 : SmOk Tryz.prog 190 Sm105 := mkSo 190 Sm105 (by kernel_rfl) (by kernel_rfl) (fun s => by kernel_rfl)
theorem so106 : SmOk Tryz.prog 32 Sm106 := mkSo 32 Sm106 (by kernel_rfl) (by kernel_rfl) (fun s => by kernel_rfl)
theorem so107 : SmOk Tryz.prog 32 Sm107 := mkSo 32 Sm107 (by kernel_rfl) (by kernel_rfl) (fun s => by kernel_rfl)
theorem so108 : SmOk Tryz.prog 32 Sm108 := mkSo 32 Sm108 (by kernel_rfl) (by kernel_rfl) (fun s => by kernel_rfl)
theorem so109 : SmOk Tryz.prog 32 Sm109 := mkSo 32 Sm109 (by kernel_rfl) (by kernel_rfl) (fun s => by kernel_rfl)
theorem so110 : SmOk Tryz.prog 32 Sm110 := mkSo 32 Sm110 (by kernel_rfl) (by kernel_rfl) (fun s => by kernel_rfl)
theorem so111 : SmOk Tryz.prog 32 Sm111 := mkSo 32 Sm111 (by kernel_rfl) (by kernel_rfl) (fun s => by kernel_rfl)
theorem so112 : SmOk Tryz.prog 32 Sm112 := mkSo 32 Sm112 (by kernel_rfl) (by kernel_rfl) (fun s => by kernel_rfl)
theorem so113 : SmOk Tryz.prog 32 Sm113 := mkSo 32 Sm113 (by kernel_rfl) (by kernel_rfl) (fun s => by kernel_rfl)
theorem so114 : SmOk Tryz.prog 32 Sm114 := mkSo 32 Sm114 (by kernel_rfl) (by kernel_rfl) (fun s => by kernel_rfl)
theorem so115 : SmOk Tryz.prog 32 Sm115 := mkSo 32 Sm115 (by kernel_rfl) (by kernel_rfl) (fun s => by kernel_rfl)
theorem so116 : SmOk Tryz.prog 32 Sm116 := mkSo 32 Sm116 (by kernel_rfl) (by kernel_rfl) (fun s => by kernel_rfl)
theorem so117 : SmOk Tryz.prog 32 Sm117 := mkSo 32 Sm117 (by kernel_rfl) (by kernel_rfl) (fun s => by kernel_rfl)
theorem so118 : SmOk Tryz.prog 32 Sm118 := mkSo 32 Sm118 (by kernel_rfl) (by kernel_rfl) (fun s => by kernel_rfl)
theorem so119 : SmOk Tryz.prog 32 Sm119 := mkSo 32 Sm119 (by kernel_rfl) (by kernel_rfl) (fun s => by kernel_rfl)
theorem so120 : SmOk Tryz.prog 32 Sm120 := mkSo 32 Sm120 (by kernel_rfl) (by kernel_rfl) (fun s => by kernel_rfl)
theorem so121 : SmOk Tryz.prog 32 Sm121 := mkSo 32 Sm121 (by kernel_rfl) (by kernel_rfl) (fun s => by kernel_rfl)
theorem so122 : SmOk Tryz.prog 32 Sm122 := mkSo 32 Sm122 (by kernel_rfl) (by kernel_rfl) (fun s => by kernel_rfl)
theorem so123 : SmOk Tryz.prog 32 Sm123 := mkSo 32 Sm123 (by kernel_rfl) (by kernel_rfl) (fun s => by kernel_rfl)
theorem so124 : SmOk Tryz.prog 32 Sm124 := mkSo 32 Sm124 (by kernel_rfl) (by kernel_rfl) (fun s => by kernel_rfl)
theorem so125 : SmOk Tryz.prog 32 Sm125 := mkSo 32 Sm125 (by kernel_rfl) (by kernel_rfl) (fun s => by kernel_rfl)
theorem so126 : SmOk Tryz.prog 32 Sm126 := mkSo 32 Sm126 (by kernel_rfl) (by kernel_rfl) (fun s => by kernel_rfl)
theorem so127 : SmOk Tryz.prog 32 Sm127 := mkSo 32 Sm127 (by kernel_rfl) (by kernel_rfl) (fun s => by kernel_rfl)
theorem so128 : SmOk Tryz.prog 32 Sm128 := mkSo 32 Sm128 (by kernel_rfl) (by kernel_rfl) (fun s => by kernel_rfl)
theorem so129 : SmOk Tryz.prog 32 Sm129 := mkSo 32 Sm129 (by kernel_rfl) (by kernel_rfl) (fun s => by kernel_rfl)
theorem so130 : SmOk Tryz.prog 32 Sm130 := mkSo 32 Sm130 (by kernel_rfl) (by kernel_rfl) (fun s => by kernel_rfl)
theorem so131 : SmOk Tryz.prog 32 Sm131 := mkSo 32 Sm131 (by kernel_rfl) (by kernel_rfl) (fun s => by kernel_rfl)
theorem so132 : SmOk Tryz.prog 32 Sm132 := mkSo 32 Sm132 (by kernel_rfl) (by kernel_rfl) (fun s => by kernel_rfl)
theorem so133 : SmOk Tryz.prog 32 Sm133 := mkSo 32 Sm133 (by kernel_rfl) (by kernel_rfl) (fun s => by kernel_rfl)
theorem so134 : SmOk Tryz.prog 32 Sm134 := mkSo 32 Sm134 (by kernel_rfl) (by kernel_rfl) (fun s => by kernel_rfl)
theorem so135 : SmOk Tryz.prog 32 Sm135 := mkSo 32 Sm135 (by kernel_rfl) (by kernel_rfl) (fun s => by kernel_rfl)
theorem so136 : SmOk Tryz.prog 32 Sm136 := mkSo 32 Sm136 (by kernel_rfl) (by kernel_rfl) (fun s => by kernel_rfl)
theorem so137 : SmOk Tryz.prog 32 Sm137 := mkSo 32 Sm137 (by kernel_rfl) (by kernel_rfl) (fun s => by kernel_rfl)
theorem so138 : SmOk Tryz.prog 32 Sm138 := mkSo 32 Sm138 (by kernel_rfl) (by kernel_rfl) (fun s => by kernel_rfl)
theorem so139 : SmOk Tryz.prog 32 Sm139 := mkSo 32 Sm139 (by kernel_rfl) (by kernel_rfl) (fun s => by kernel_rfl)
theorem so140 : SmOk Tryz.prog 32 Sm140 := mkSo 32 Sm140 (by kernel_rfl) (by kernel_rfl) (fun s => by kernel_rfl)
theorem so141 : SmOk Tryz.prog 32 Sm141 := mkSo 32 Sm141 (by kernel_rfl) (by kernel_rfl) (fun s => by kernel_rfl)
theorem so142 : SmOk Tryz.prog 32 Sm142 := mkSo 32 Sm142 (by kernel_rfl) (by kernel_rfl) (fun s => by kernel_rfl)
theorem so143 : SmOk Tryz.prog 32 Sm143 := mkSo 32 Sm143 (by kernel_rfl) (by kernel_rfl) (fun s => by kernel_rfl)
theorem so144 : SmOk Tryz.prog 32 Sm144 := mkSo 32 Sm144 (by kernel_rfl) (by kernel_rfl) (fun s => by kernel_rfl)
theorem so145 : SmOk Tryz.prog 32 Sm145 := mkSo 32 Sm145 (by kernel_rfl) (by kernel_rfl) (fun s => by kernel_rfl)
theorem so146 : SmOk Tryz.prog 32 Sm146 := mkSo 32 Sm146 (by kernel_rfl) (by kernel_rfl) (fun s => by kernel_rfl)
theorem so147 : SmOk Tryz.prog 367 Sm147 := mkSo 367 Sm147 (by kernel_rfl) (by kernel_rfl) (fun s => by kernel_rfl)
theorem so148 : SmOk Tryz.prog 367 Sm148 := mkSo 367 Sm148 (by kernel_rfl) (by kernel_rfl) (fun s => by kernel_rfl)
theorem so149 : SmOk Tryz.prog 367 Sm149 := mkSo 367 Sm149 (by kernel_rfl) (by kernel_rfl) (fun s => by kernel_rfl)
theorem so150 : SmOk Tryz.prog 367 Sm150 := mkSo 367 Sm150 (by kernel_rfl) (by kernel_rfl) (fun s => by kernel_rfl)
theorem so151 : SmOk Tryz.prog 367 Sm151 := mkSo 367 Sm151 (by kernel_rfl) (by kernel_rfl) (fun s => by kernel_rfl)
theorem so152 : SmOk Tryz.prog 367 Sm152 := mkSo 367 Sm152 (by kernel_rfl) (by kernel_rfl) (fun s => by kernel_rfl)
theorem so153 : SmOk Tryz.prog 367 Sm153 := mkSo 367 Sm153 (by kernel_rfl) (by kernel_rfl) (fun s => by kernel_rfl)
theorem so154 : SmOk Tryz.prog 367 Sm154 := mkSo 367 Sm154 (by kernel_rfl) (by kernel_rfl) (fun s => by kernel_rfl)
theorem so155 : SmOk Tryz.prog 367 Sm155 := mkSo 367 Sm155 (by kernel_rfl) (by kernel_rfl) (fun s => by kernel_rfl)
theorem so156 : SmOk Tryz.prog 367 Sm156 := mkSo 367 Sm156 (by kernel_rfl) (by kernel_rfl) (fun s => by kernel_rfl)
theorem so157 : SmOk Tryz.prog 367 Sm157 := mkSo 367 Sm157 (by kernel_rfl) (by kernel_rfl) (fun s => by kernel_rfl)
theorem so158 : SmOk Tryz.prog 367 Sm158 := mkSo 367 Sm158 (by kernel_rfl) (by kernel_rfl) (fun s => by kernel_rfl)
theorem so159 : SmOk Tryz.prog 367 Sm159 := mkSo 367 Sm159 (by kernel_rfl) (by kernel_rfl) (fun s => by kernel_rfl)
theorem so160 : SmOk Tryz.prog 367 Sm160 := mkSo 367 Sm160 (by kernel_rfl) (by kernel_rfl) (fun s => by kernel_rfl)
theorem so161 : SmOk Tryz.prog 367 Sm161 := mkSo 367 Sm161 (by kernel_rfl) (by kernel_rfl) (fun s => by kernel_rfl)
theorem so162 : SmOk Tryz.prog 367 Sm162 := mkSo 367 Sm162 (by kernel_rfl) (by kernel_rfl) (fun s => by kernel_rfl)
theorem so163 : SmOk Tryz.prog 367 Sm163 := mkSo 367 Sm163 (by kernel_rfl) (by kernel_rfl) (fun s => by kernel_rfl)
theorem so164 : SmOk Tryz.prog 367 Sm164 := mkSo 367 Sm164 (by kernel_rfl) (by kernel_rfl) (fun s => by kernel_rfl)
theorem so165 : SmOk Tryz.prog 367 Sm165 := mkSo 367 Sm165 (by kernel_rfl) (by kernel_rfl) (fun s => by kernel_rfl)
theorem so166 : SmOk Tryz.prog 367 Sm166 := mkSo 367 Sm166 (by kernel_rfl) (by kernel_rfl) (fun s => by kernel_rfl)
theorem so167 : SmOk Tryz.prog 367 Sm167 := mkSo 367 Sm167 (by kernel_rfl) (by kernel_rfl) (fun s => by kernel_rfl)
theorem so168 : SmOk Tryz.prog 367 Sm168 := mkSo 367 Sm168 (by kernel_rfl) (by kernel_rfl) (fun s => by kernel_rfl)
theorem so169 : SmOk Tryz.prog 367 Sm169 := mkSo 367 Sm169 (by kernel_rfl) (by kernel_rfl) (fun s => by kernel_rfl)
theorem so170 : SmOk Tryz.prog 367 Sm170 := mkSo 367 Sm170 (by kernel_rfl) (by kernel_rfl) (fun s => by kernel_rfl)
theorem so171 : SmOk Tryz.prog 367 Sm171 := mkSo 367 Sm171 (by kernel_rfl) (by kernel_rfl) (fun s => by kernel_rfl)
theorem so172 : SmOk Tryz.prog 367 Sm172 := mkSo 367 Sm172 (by kernel_rfl) (by kernel_rfl) (fun s => by kernel_rfl)
theorem so173 : SmOk Tryz.prog 367 Sm173 := mkSo 367 Sm173 (by kernel_rfl) (by kernel_rfl) (fun s => by kernel_rfl)
theorem so174 : SmOk Tryz.prog 367 Sm174 := mkSo 367 Sm174 (by kernel_rfl) (by kernel_rfl) (fun s => by kernel_rfl)
theorem so175 : SmOk Tryz.prog 367 Sm175 := mkSo 367 Sm175 (by kernel_rfl) (by kernel_rfl) (fun s => by kernel_rfl)
theorem so176 : SmOk Tryz.prog 367 Sm176 := mkSo 367 Sm176 (by kernel_rfl) (by kernel_rfl) (fun s => by kernel_rfl)
theorem so177 : SmOk Tryz.prog 367 Sm177 := mkSo 367 Sm177 (by kernel_rfl) (by kernel_rfl) (fun s => by kernel_rfl)
theorem so178 : SmOk Tryz.prog 367 Sm178 := mkSo 367 Sm178 (by kernel_rfl) (by kernel_rfl) (fun s => by kernel_rfl)
theorem so179 : SmOk Tryz.prog 367 Sm179 := mkSo 367 Sm179 (by kernel_rfl) (by kernel_rfl) (fun s => by kernel_rfl)
theorem so180 : SmOk Tryz.prog 367 Sm180 := mkSo 367 Sm180 (by kernel_rfl) (by kernel_rfl) (fun s => by kernel_rfl)
theorem so181 : SmOk Tryz.prog 367 Sm181 := mkSo 367 Sm181 (by kernel_rfl) (by kernel_rfl) (fun s => by kernel_rfl)
theorem so182 : SmOk Tryz.prog 367 Sm182 := mkSo 367 Sm182 (by kernel_rfl) (by kernel_rfl) (fun s => by kernel_rfl)
theorem so183 : SmOk Tryz.prog 367 Sm183 := mkSo 367 Sm183 (by kernel_rfl) (by kernel_rfl) (fun s => by kernel_rfl)
theorem so184 : SmOk Tryz.prog 367 Sm184 := mkSo 367 Sm184 (by kernel_rfl) (by kernel_rfl) (fun s => by kernel_rfl)
theorem so185 : SmOk Tryz.prog 367 Sm185 := mkSo 367 Sm185 (by kernel_rfl) (by kernel_rfl) (fun s => by kernel_rfl)
theorem so186 : SmOk Tryz.prog 31 Sm186 := mkSo 31 Sm186 (by kernel_rfl) (by kernel_rfl) (fun s => by kernel_rfl)
theorem so187 : SmOk Tryz.prog 31 Sm187 := mkSo 31 Sm187 (by kernel_rfl) (by kernel_rfl) (fun s => by kernel_rfl)
theorem so188 : SmOk Tryz.prog 31 Sm188 := mkSo 31 Sm188 (by kernel_rfl) (by kernel_rfl) (fun s => by kernel_rfl)
theorem so189 : SmOk Tryz.prog 31 Sm189 := mkSo 31 Sm189 (by kernel_rfl) (by kernel_rfl) (fun s => by kernel_rfl)
theorem so190 : SmOk Tryz.prog 31 Sm190 := mkSo 31 Sm190 (by kernel_rfl) (by kernel_rfl) (fun s => by kernel_rfl)
theorem so191 : SmOk Tryz.prog 31 Sm191 := mkSo 31 Sm191 (by kernel_rfl) (by kernel_rfl) (fun s => by kernel_rfl)
theorem so192 : SmOk Tryz.prog 31 Sm192 := mkSo 31 Sm192 (by kernel_rfl) (by kernel_rfl) (fun s => by kernel_rfl)
theorem so193 : SmOk Tryz.prog 31 Sm193 := mkSo 31 Sm193 (by kernel_rfl) (by kernel_rfl) (fun s => by kernel_rfl)
theorem so194 : SmOk Tryz.prog 31 Sm194 := mkSo 31 Sm194 (by kernel_rfl) (by kernel_rfl) (fun s => by kernel_rfl)
theorem so195 : SmOk Tryz.prog 31 Sm195 := mkSo 31 Sm195 (by kernel_rfl) (by kernel_rfl) (fun s => by kernel_rfl)
theorem so196 : SmOk Tryz.prog 31 Sm196 := mkSo 31 Sm196 (by kernel_rfl) (by kernel_rfl) (fun s => by kernel_rfl)
theorem so197 : SmOk Tryz.prog 31 Sm197 := mkSo 31 Sm197 (by kernel_rfl) (by kernel_rfl) (fun s => by kernel_rfl)
theorem so198 : SmOk Tryz.prog 31 Sm198 := mkSo 31 Sm198 (by kernel_rfl) (by kernel_rfl) (fun s => by kernel_rfl)
theorem so199 : SmOk Tryz.prog 31 Sm199 := mkSo 31 Sm199 (by kernel_rfl) (by kernel_rfl) (fun s => by kernel_rfl)
theorem so200 : SmOk Tryz.prog 31 Sm200 := mkSo 31 Sm200 (by kernel_rfl) (by kernel_rfl) (fun s => by kernel_rfl)
theorem so201 : SmOk Tryz.prog 31 Sm201 := mkSo 31 Sm201 (by kernel_rfl) (by kernel_rfl) (fun s => by kernel_rfl)
theorem so202 : SmOk Tryz.prog 31 Sm202 := mkSo 31 Sm202 (by kernel_rfl) (by kernel_rfl) (fun s => by kernel_rfl)
theorem so203 : SmOk Tryz.prog 31 Sm203 := mkSo 31 Sm203 (by kernel_rfl) (by kernel_rfl) (fun s => by kernel_rfl)
theorem so204 : SmOk Tryz.prog 31 Sm204 := mkSo 31 Sm204 (by kernel_rfl) (by kernel_rfl) (fun s => by kernel_rfl)
theorem so205 : SmOk Tryz.prog 31 Sm205 := mkSo 31 Sm205 (by kernel_rfl) (by kernel_rfl) (fun s => by kernel_rfl)
theorem so206 : SmOk Tryz.prog 31 Sm206 := mkSo 31 Sm206 (by kernel_rfl) (by kernel_rfl) (fun s => by kernel_rfl)
theorem so207 : SmOk Tryz.prog 31 Sm207 := mkSo 31 Sm207 (by kernel_rfl) (by kernel_rfl) (fun s => by kernel_rfl)
theorem so208 : SmOk Tryz.prog 31 Sm208 := mkSo 31 Sm208 (by kernel_rfl) (by kernel_rfl) (fun s => by kernel_rfl)
theorem so209 : SmOk Tryz.prog 31 Sm209 := mkSo 31 Sm209 (by kernel_rfl) (by kernel_rfl) (fun s => by kernel_rfl)
theorem so210 : SmOk Tryz.prog 31 Sm210 := mkSo 31 Sm210 (by kernel_rfl) (by kernel_rfl) (fun s => by kernel_rfl)
theorem so211 : SmOk Tryz.prog 31 Sm211 := mkSo 31 Sm211 (by kernel_rfl) (by kernel_rfl) (fun s => by kernel_rfl)
theorem so212 : SmOk Tryz.prog 175 Sm212 := mkSo 175 Sm212 (by kernel_rfl) (by kernel_rfl) (fun s => by kernel_rfl)
theorem so213 : SmOk Tryz.prog 175 Sm213 := mkSo 175 Sm213 (by kernel_rfl) (by kernel_rfl) (fun s => by kernel_rfl)
theorem so214 : SmOk Tryz.prog 175 Sm214 := mkSo 175 Sm214 (by kernel_rfl) (by kernel_rfl) (fun s => by kernel_rfl)
theorem so215 : SmOk Tryz.prog 175 Sm215 := mkSo 175 Sm215 (by kernel_rfl) (by kernel_rfl) (fun s => by kernel_rfl)
noncomputable def natM0 : Nats := natM Tryz.prog codeN 1000 102 100 [Sm0, Sm1, Sm2, Sm3, Sm4, Sm5, Sm6, Sm7, Sm8, Sm9, Sm10, Sm11, Sm12, Sm13, Sm14, Sm15, Sm16, Sm17, Sm18, Sm19, Sm20, Sm21, Sm22, Sm23, Sm24, Sm25] natW
theorem natM0_ok : ∀ s K, KnownOk s K → @NatsOk (linSym s K) Tryz.prog natM0 := natM_ok mixedN codeN_ok globN (allSm_mem (allSm_cons so0 (allSm_cons so1 (allSm_cons so2 (allSm_cons so3 (allSm_cons so4 (allSm_cons so5 (allSm_cons so6 (allSm_cons so7 (allSm_cons so8 (allSm_cons so9 (allSm_cons so10 (allSm_cons so11 (allSm_cons so12 (allSm_cons so13 (allSm_cons so14 (allSm_cons so15 (allSm_cons so16 (allSm_cons so17 (allSm_cons so18 (allSm_cons so19 (allSm_cons so20 (allSm_cons so21 (allSm_cons so22 (allSm_cons so23 (allSm_cons so24 (allSm_cons so25 allSm_nil))))))))))))))))))))))))))) (nats_lin natW_ok)
noncomputable def natM1 : Nats := natM Tryz.prog codeN 1000 33 100 [Sm26, Sm27, Sm28, Sm29, Sm30, Sm31, Sm32, Sm33, Sm34, Sm35, Sm36, Sm37, Sm38, Sm39, Sm40, Sm41, Sm42, Sm43, Sm44, Sm45, Sm46, Sm47, Sm48, Sm49, Sm50, Sm51, Sm52, Sm53, Sm54, Sm55, Sm56, Sm57, Sm58, Sm59, Sm60, Sm61, Sm62, Sm63, Sm64] natM0
theorem natM1_ok : ∀ s K, KnownOk s K → @NatsOk (linSym s K) Tryz.prog natM1 := natM_ok mixedN codeN_ok globN (allSm_mem (allSm_cons so26 (allSm_cons so27 (allSm_cons so28 (allSm_cons so29 (allSm_cons so30 (allSm_cons so31 (allSm_cons so32 (allSm_cons so33 (allSm_cons so34 (allSm_cons so35 (allSm_cons so36 (allSm_cons so37 (allSm_cons so38 (allSm_cons so39 (allSm_cons so40 (allSm_cons so41 (allSm_cons so42 (allSm_cons so43 (allSm_cons so44 (allSm_cons so45 (allSm_cons so46 (allSm_cons so47 (allSm_cons so48 (allSm_cons so49 (allSm_cons so50 (allSm_cons so51 (allSm_cons so52 (allSm_cons so53 (allSm_cons so54 (allSm_cons so55 (allSm_cons so56 (allSm_cons so57 (allSm_cons so58 (allSm_cons so59 (allSm_cons so60 (allSm_cons so61 (allSm_cons so62 (allSm_cons so63 (allSm_cons so64 allSm_nil)))))))))))))))))))))))))))))))))))))))) natM0_ok
noncomputable def natM2 : Nats := natM Tryz.prog codeN 1000 190 100 [Sm65, Sm66, Sm67, Sm68, Sm69, Sm70, Sm71, Sm72, Sm73, Sm74, Sm75, Sm76, Sm77, Sm78, Sm79, Sm80, Sm81, Sm82, Sm83, Sm84, Sm85, Sm86, Sm87, Sm88, Sm89, Sm90, Sm91, Sm92, Sm93, Sm94, Sm95, Sm96, Sm97, Sm98, Sm99, Sm100, Sm101, Sm102, Sm103, Sm104, Sm105] natM1
theorem natM2_ok : ∀ s K, KnownOk s K → @NatsOk (linSym s K) Tryz.prog natM2 := natM_ok mixedN codeN_ok globN (allSm_mem (allSm_cons so65 (allSm_cons so66 (allSm_cons so67 (allSm_cons so68 (allSm_cons so69 (allSm_cons so70 (allSm_cons so71 (allSm_cons so72 (allSm_cons so73 (allSm_cons so74 (allSm_cons so75 (allSm_cons so76 (allSm_cons so77 (allSm_cons so78 (allSm_cons so79 (allSm_cons so80 (allSm_cons so81 (allSm_cons so82 (allSm_cons so83 (allSm_cons so84 (allSm_cons so85 (allSm_cons so86 (allSm_cons so87 (allSm_cons so88 (allSm_cons so89 (allSm_cons so90 (allSm_cons so91 (allSm_cons so92 (allSm_cons so93 (allSm_cons so94 (allSm_cons so95 (allSm_cons so96 (allSm_cons so97 (allSm_cons so98 (allSm_cons so99 (allSm_cons so100 (allSm_cons so101 (allSm_cons so102 (allSm_cons so103 (allSm_cons so104 (allSm_cons so105 allSm_nil)))))))))))))))))))))))))))))))))))))))))) natM1_ok
noncomputable def natM3 : Nats := natM Tryz.prog codeN 1000 32 100 [Sm106, Sm107, Sm108, Sm109, Sm110, Sm111, Sm112, Sm113, Sm114, Sm115, Sm116, Sm117, Sm118, Sm119, Sm120, Sm121, Sm122, Sm123, Sm124, Sm125, Sm126, Sm127, Sm128, Sm129, Sm130, Sm131, Sm132, Sm133, Sm134, Sm135, Sm136, Sm137, Sm138, Sm139, Sm140, Sm141, Sm142, Sm143, Sm144, Sm145, Sm146] natM2
theorem natM3_ok : ∀ s K, KnownOk s K → @NatsOk (linSym s K) Tryz.prog natM3 := natM_ok mixedN codeN_ok globN (allSm_mem (allSm_cons so106 (allSm_cons so107 (allSm_cons so108 (allSm_cons so109 (allSm_cons so110 (allSm_cons so111 (allSm_cons so112 (allSm_cons so113 (allSm_cons so114 (allSm_cons so115 (allSm_cons so116 (allSm_cons so117 (allSm_cons so118 (allSm_cons so119 (allSm_cons so120 (allSm_cons so121 (allSm_cons so122 (allSm_cons so123 (allSm_cons so124 (allSm_cons so125 (allSm_cons so126 (allSm_cons so127 (allSm_cons so128 (allSm_cons so129 (allSm_cons so130 (allSm_cons so131 (allSm_cons so132 (allSm_cons so133 (allSm_cons so134 (allSm_cons so135 (allSm_cons so136 (allSm_cons so137 (allSm_cons so138 (allSm_cons so139 (allSm_cons so140 (allSm_cons so141 (allSm_cons so142 (allSm_cons so143 (allSm_cons so144 (allSm_cons so145 (allSm_cons so146 allSm_nil)))))))))))))))))))))))))))))))))))))))))) natM2_ok
noncomputable def natM4 : Nats := natM Tryz.prog codeN 1000 367 100 [Sm147, Sm148, Sm149, Sm150, Sm151, Sm152, Sm153, Sm154, Sm155, Sm156, Sm157, Sm158, Sm159, Sm160, Sm161, Sm162, Sm163, Sm164, Sm165, Sm166, Sm167, Sm168, Sm169, Sm170, Sm171, Sm172, Sm173, Sm174, Sm175, Sm176, Sm177, Sm178, Sm179, Sm180, Sm181, Sm182, Sm183, Sm184, Sm185] natM3
theorem natM4_ok : ∀ s K, KnownOk s K → @NatsOk (linSym s K) Tryz.prog natM4 := natM_ok mixedN codeN_ok globN (allSm_mem (allSm_cons so147 (allSm_cons so148 (allSm_cons so149 (allSm_cons so150 (allSm_cons so151 (allSm_cons so152 (allSm_cons so153 (allSm_cons so154 (allSm_cons so155 (allSm_cons so156 (allSm_cons so157 (allSm_cons so158 (allSm_cons so159 (allSm_cons so160 (allSm_cons so161 (allSm_cons so162 (allSm_cons so163 (allSm_cons so164 (allSm_cons so165 (allSm_cons so166 (allSm_cons so167 (allSm_cons so168 (allSm_cons so169 (allSm_cons so170 (allSm_cons so171 (allSm_cons so172 (allSm_cons so173 (allSm_cons so174 (allSm_cons so175 (allSm_cons so176 (allSm_cons so177 (allSm_cons so178 (allSm_cons so179 (allSm_cons so180 (allSm_cons so181 (allSm_cons so182 (allSm_cons so183 (allSm_cons so184 (allSm_cons so185 allSm_nil)))))))))))))))))))))))))))))))))))))))) natM3_ok
noncomputable def natM5 : Nats := natM Tryz.prog codeN 1000 31 100 [Sm186, Sm187, Sm188, Sm189, Sm190, Sm191, Sm192, Sm193, Sm194, Sm195, Sm196, Sm197, Sm198, Sm199, Sm200, Sm201, Sm202, Sm203, Sm204, Sm205, Sm206, Sm207, Sm208, Sm209, Sm210, Sm211] natM4
theorem natM5_ok : ∀ s K, KnownOk s K → @NatsOk (linSym s K) Tryz.prog natM5 := natM_ok mixedN codeN_ok globN (allSm_mem (allSm_cons so186 (allSm_cons so187 (allSm_cons so188 (allSm_cons so189 (allSm_cons so190 (allSm_cons so191 (allSm_cons so192 (allSm_cons so193 (allSm_cons so194 (allSm_cons so195 (allSm_cons so196 (allSm_cons so197 (allSm_cons so198 (allSm_cons so199 (allSm_cons so200 (allSm_cons so201 (allSm_cons so202 (allSm_cons so203 (allSm_cons so204 (allSm_cons so205 (allSm_cons so206 (allSm_cons so207 (allSm_cons so208 (allSm_cons so209 (allSm_cons so210 (allSm_cons so211 allSm_nil))))))))))))))))))))))))))) natM4_ok
noncomputable def natM6 : Nats := natM Tryz.prog codeN 1000 175 100 [Sm212, Sm213, Sm214, Sm215] natM5
theorem natM6_ok : ∀ s K, KnownOk s K → @NatsOk (linSym s K) Tryz.prog natM6 := natM_ok mixedN codeN_ok globN (allSm_mem (allSm_cons so212 (allSm_cons so213 (allSm_cons so214 (allSm_cons so215 allSm_nil))))) natM5_ok
noncomputable def natX : Nats := natM6
theorem natX_ok : ∀ s K, KnownOk s K → @NatsOk (linSym s K) Tryz.prog natX := natM6_ok
end Go.Ev
