/- Passes of BrokerSilent's loop, part 2. -/
import Derived.Test.YtdljkjmcmedklaaGreatDoorSt
namespace Go.Ev
open Go.Proofs
set_option maxRecDepth 1000000
def S7 : Lf := ⟨[(0, 0), (0, 9223372036854775807)], [], [rv .and 1000 31 ((.nat 7))], [], 1002⟩
theorem q7 : S_ S7 [⟨7, [.mk .d0 .d0 .d8 .d2, .mk .d0 .d0 .d8 .d0, .mk .d0 .d0 .d7 .d8, y494, .mk .d0 .d0 .d7 .d13, .mk .d0 .d0 .d7 .d12, .mk .d0 .d0 .d7 .d14, .mk .d0 .d0 .d7 .d15, .mk .d0 .d0 .d8 .d1, .mk .d0 .d0 .d7 .d10, .mk .d0 .d0 .d8 .d11, y491, y493, y286, .mk .d0 .d0 .d7 .d11, .mk .d0 .d0 .d8 .d10, y490, y492, y283, y285, y282, y284], [(0, []), (0, [(1, 1)]), (1, [])]⟩] := by
  intro s A
  kernel_rfl
def S8 : Lf := ⟨[(0, 0), (0, 9223372036854775807)], [], [rv .and 1000 31 ((.nat 8))], [], 1002⟩
theorem q8 : S_ S8 [⟨8, [.mk .d0 .d0 .d8 .d2, .mk .d0 .d0 .d8 .d0, .mk .d0 .d0 .d7 .d8, y494, .mk .d0 .d0 .d7 .d13, .mk .d0 .d0 .d7 .d12, .mk .d0 .d0 .d7 .d14, .mk .d0 .d0 .d7 .d15, .mk .d0 .d0 .d8 .d1, .mk .d0 .d0 .d7 .d10, .mk .d0 .d0 .d8 .d11, y491, y493, y286, .mk .d0 .d0 .d7 .d11, .mk .d0 .d0 .d8 .d10, y490, y492, y283, y285, y282, y284], [(0, []), (0, [(1, 1)]), (1, [])]⟩] := by
  intro s A
  kernel_rfl
def S9 : Lf := ⟨[(0, 0), (0, 9223372036854775807)], [], [rv .and 1000 31 ((.nat 9))], [], 1002⟩
theorem q9 : S_ S9 [⟨9, [.mk .d0 .d0 .d8 .d2, .mk .d0 .d0 .d8 .d0, .mk .d0 .d0 .d7 .d8, y494, .mk .d0 .d0 .d7 .d13, .mk .d0 .d0 .d7 .d12, .mk .d0 .d0 .d7 .d14, .mk .d0 .d0 .d7 .d15, .mk .d0 .d0 .d8 .d1, .mk .d0 .d0 .d7 .d10, .mk .d0 .d0 .d8 .d11, y491, y493, y286, .mk .d0 .d0 .d7 .d11, .mk .d0 .d0 .d8 .d10, y490, y492, y283, y285, y282, y284], [(0, []), (0, [(1, 1)]), (1, [])]⟩] := by
  intro s A
  kernel_rfl
def S10 : Lf := ⟨[(0, 0), (0, 9223372036854775807)], [], [rv .and 1000 31 ((.nat 10))], [], 1002⟩
theorem q10 : S_ S10 [⟨10, [.mk .d0 .d0 .d8 .d2, .mk .d0 .d0 .d8 .d0, .mk .d0 .d0 .d7 .d8, y494, .mk .d0 .d0 .d7 .d13, .mk .d0 .d0 .d7 .d12, .mk .d0 .d0 .d7 .d14, .mk .d0 .d0 .d7 .d15, .mk .d0 .d0 .d8 .d1, .mk .d0 .d0 .d7 .d10, .mk .d0 .d0 .d8 .d11, y491, y493, y286, .mk .d0 .d0 .d7 .d11, .mk .d0 .d0 .d8 .d10, y490, y492, y283, y285, y282, y284], [(0, []), (0, [(1, 1)]), (1, [])]⟩] := by
  intro s A
  kernel_rfl
def S11 : Lf := ⟨[(0, 0), (0, 9223372036854775807)], [], [rv .and 1000 31 ((.nat 11))], [], 1002⟩
theorem q11 : S_ S11 [⟨11, [.mk .d0 .d0 .d8 .d2, .mk .d0 .d0 .d8 .d0, .mk .d0 .d0 .d7 .d8, y494, .mk .d0 .d0 .d7 .d13, .mk .d0 .d0 .d7 .d12, .mk .d0 .d0 .d7 .d14, .mk .d0 .d0 .d7 .d15, .mk .d0 .d0 .d8 .d1, .mk .d0 .d0 .d7 .d10, .mk .d0 .d0 .d8 .d11, y491, y493, y286, .mk .d0 .d0 .d7 .d11, .mk .d0 .d0 .d8 .d10, y490, y492, y283, y285, y282, y284], [(0, []), (0, [(1, 1)]), (1, [])]⟩] := by
  intro s A
  kernel_rfl
def S12 : Lf := ⟨[(0, 0), (0, 9223372036854775807)], [], [rv .and 1000 31 ((.nat 12))], [], 1002⟩
theorem q12 : S_ S12 [⟨12, [.mk .d0 .d0 .d8 .d2, .mk .d0 .d0 .d8 .d0, .mk .d0 .d0 .d7 .d8, y494, .mk .d0 .d0 .d7 .d13, .mk .d0 .d0 .d7 .d12, .mk .d0 .d0 .d7 .d14, .mk .d0 .d0 .d7 .d15, .mk .d0 .d0 .d8 .d1, .mk .d0 .d0 .d7 .d10, .mk .d0 .d0 .d8 .d11, y491, y493, y286, .mk .d0 .d0 .d7 .d11, .mk .d0 .d0 .d8 .d10, y490, y492, y283, y285, y282, y284], [(0, []), (0, [(1, 1)]), (1, [])]⟩] := by
  intro s A
  kernel_rfl
def S13 : Lf := ⟨[(0, 0), (0, 9223372036854775807)], [], [rv .and 1000 31 ((.nat 13))], [], 1002⟩
theorem q13 : S_ S13 [⟨13, [.mk .d0 .d0 .d8 .d2, .mk .d0 .d0 .d8 .d0, .mk .d0 .d0 .d7 .d8, y494, .mk .d0 .d0 .d7 .d13, .mk .d0 .d0 .d7 .d12, .mk .d0 .d0 .d7 .d14, .mk .d0 .d0 .d7 .d15, .mk .d0 .d0 .d8 .d1, .mk .d0 .d0 .d7 .d10, .mk .d0 .d0 .d8 .d11, y491, y493, y286, .mk .d0 .d0 .d7 .d11, .mk .d0 .d0 .d8 .d10, y490, y492, y283, y285, y282, y284], [(0, []), (0, [(1, 1)]), (1, [])]⟩] := by
  intro s A
  kernel_rfl
def S14 : Lf := ⟨[(0, 0), (0, 9223372036854775807)], [], [rv .and 1000 31 ((.nat 14))], [], 1002⟩
theorem q14 : S_ S14 [⟨14, [.mk .d0 .d0 .d8 .d2, .mk .d0 .d0 .d8 .d0, .mk .d0 .d0 .d7 .d8, y494, .mk .d0 .d0 .d7 .d13, .mk .d0 .d0 .d7 .d12, .mk .d0 .d0 .d7 .d14, .mk .d0 .d0 .d7 .d15, .mk .d0 .d0 .d8 .d1, .mk .d0 .d0 .d7 .d10, .mk .d0 .d0 .d8 .d11, y491, y493, y286, .mk .d0 .d0 .d7 .d11, .mk .d0 .d0 .d8 .d10, y490, y492, y283, y285, y282, y284], [(0, []), (0, [(1, 1)]), (1, [])]⟩] := by
  intro s A
  kernel_rfl
def S15 : Lf := ⟨[(0, 0), (0, 9223372036854775807)], [], [rv .and 1000 31 ((.nat 15))], [], 1002⟩
theorem q15 : S_ S15 [⟨15, [.mk .d0 .d0 .d8 .d2, .mk .d0 .d0 .d8 .d0, .mk .d0 .d0 .d7 .d8, y494, .mk .d0 .d0 .d7 .d13, .mk .d0 .d0 .d7 .d12, .mk .d0 .d0 .d7 .d14, .mk .d0 .d0 .d7 .d15, .mk .d0 .d0 .d8 .d1, .mk .d0 .d0 .d7 .d10, .mk .d0 .d0 .d8 .d11, y491, y493, y286, .mk .d0 .d0 .d7 .d11, .mk .d0 .d0 .d8 .d10, y490, y492, y283, y285, y282, y284], [(0, []), (0, [(1, 1)]), (1, [])]⟩] := by
  intro s A
  kernel_rfl
def S16 : Lf := ⟨[(0, 0), (0, 9223372036854775807)], [], [rv .and 1000 31 ((.nat 16))], [], 1002⟩
theorem q16 : S_ S16 [⟨16, [.mk .d0 .d0 .d8 .d2, .mk .d0 .d0 .d8 .d0, .mk .d0 .d0 .d7 .d8, y494, .mk .d0 .d0 .d7 .d13, .mk .d0 .d0 .d7 .d12, .mk .d0 .d0 .d7 .d14, .mk .d0 .d0 .d7 .d15, .mk .d0 .d0 .d8 .d1, .mk .d0 .d0 .d7 .d10, .mk .d0 .d0 .d8 .d11, y491, y493, y286, .mk .d0 .d0 .d7 .d11, .mk .d0 .d0 .d8 .d10, y490, y492, y283, y285, y282, y284], [(0, []), (0, [(1, 1)]), (1, [])]⟩] := by
  intro s A
  kernel_rfl
def S17 : Lf := ⟨[(0, 0), (0, 9223372036854775807)], [], [rv .and 1000 31 ((.nat 17))], [], 1002⟩
theorem q17 : S_ S17 [⟨17, [.mk .d0 .d0 .d8 .d2, .mk .d0 .d0 .d8 .d0, .mk .d0 .d0 .d7 .d8, y494, .mk .d0 .d0 .d7 .d13, .mk .d0 .d0 .d7 .d12, .mk .d0 .d0 .d7 .d14, .mk .d0 .d0 .d7 .d15, .mk .d0 .d0 .d8 .d1, .mk .d0 .d0 .d7 .d10, .mk .d0 .d0 .d8 .d11, y491, y493, y286, .mk .d0 .d0 .d7 .d11, .mk .d0 .d0 .d8 .d10, y490, y492, y283, y285, y282, y284], [(0, []), (0, [(1, 1)]), (1, [])]⟩] := by
  intro s A
  kernel_rfl
def S18 : Lf := ⟨[(0, 0), (0, 9223372036854775807)], [], [rv .and 1000 31 ((.nat 18))], [], 1002⟩
theorem q18 : S_ S18 [⟨18, [.mk .d0 .d0 .d8 .d2, .mk .d0 .d0 .d8 .d0, .mk .d0 .d0 .d7 .d8, y494, .mk .d0 .d0 .d7 .d13, .mk .d0 .d0 .d7 .d12, .mk .d0 .d0 .d7 .d14, .mk .d0 .d0 .d7 .d15, .mk .d0 .d0 .d8 .d1, .mk .d0 .d0 .d7 .d10, .mk .d0 .d0 .d8 .d11, y491, y493, y286, .mk .d0 .d0 .d7 .d11, .mk .d0 .d0 .d8 .d10, y490, y492, y283, y285, y282, y284], [(0, []), (0, [(1, 1)]), (1, [])]⟩] := by
  intro s A
  kernel_rfl
def S19 : Lf := ⟨[(0, 0), (0, 9223372036854775807)], [], [rv .and 1000 31 ((.nat 19))], [], 1002⟩
theorem q19 : S_ S19 [⟨19, [.mk .d0 .d0 .d8 .d2, .mk .d0 .d0 .d8 .d0, .mk .d0 .d0 .d7 .d8, y494, .mk .d0 .d0 .d7 .d13, .mk .d0 .d0 .d7 .d12, .mk .d0 .d0 .d7 .d14, .mk .d0 .d0 .d7 .d15, .mk .d0 .d0 .d8 .d1, .mk .d0 .d0 .d7 .d10, .mk .d0 .d0 .d8 .d11, y491, y493, y286, .mk .d0 .d0 .d7 .d11, .mk .d0 .d0 .d8 .d10, y490, y492, y283, y285, y282, y284], [(0, []), (0, [(1, 1)]), (1, [])]⟩] := by
  intro s A
  kernel_rfl
def S20 : Lf := ⟨[(0, 0), (0, 9223372036854775807)], [], [rv .and 1000 31 ((.nat 20))], [], 1002⟩
theorem q20 : S_ S20 [⟨20, [.mk .d0 .d0 .d8 .d2, .mk .d0 .d0 .d8 .d0, .mk .d0 .d0 .d7 .d8, y494, .mk .d0 .d0 .d7 .d13, .mk .d0 .d0 .d7 .d12, .mk .d0 .d0 .d7 .d14, .mk .d0 .d0 .d7 .d15, .mk .d0 .d0 .d8 .d1, .mk .d0 .d0 .d7 .d10, .mk .d0 .d0 .d8 .d11, y491, y493, y286, .mk .d0 .d0 .d7 .d11, .mk .d0 .d0 .d8 .d10, y490, y492, y283, y285, y282, y284], [(0, []), (0, [(1, 1)]), (1, [])]⟩] := by
  intro s A
  kernel_rfl
def S21 : Lf := ⟨[(0, 0), (0, 9223372036854775807)], [], [rv .and 1000 31 ((.nat 21))], [], 1002⟩
theorem q21 : S_ S21 [⟨21, [.mk .d0 .d0 .d8 .d2, .mk .d0 .d0 .d8 .d0, .mk .d0 .d0 .d7 .d8, y494, .mk .d0 .d0 .d7 .d13, .mk .d0 .d0 .d7 .d12, .mk .d0 .d0 .d7 .d14, .mk .d0 .d0 .d7 .d15, .mk .d0 .d0 .d8 .d1, .mk .d0 .d0 .d7 .d10, .mk .d0 .d0 .d8 .d11, y491, y493, y286, .mk .d0 .d0 .d7 .d11, .mk .d0 .d0 .d8 .d10, y490, y492, y283, y285, y282, y284], [(0, []), (0, [(1, 1)]), (1, [])]⟩] := by
  intro s A
  kernel_rfl
def S22 : Lf := ⟨[(0, 0), (0, 9223372036854775807)], [], [rv .and 1000 31 ((.nat 22))], [], 1002⟩
theorem q22 : S_ S22 [⟨22, [.mk .d0 .d0 .d8 .d2, .mk .d0 .d0 .d8 .d0, .mk .d0 .d0 .d7 .d8, y494, .mk .d0 .d0 .d7 .d13, .mk .d0 .d0 .d7 .d12, .mk .d0 .d0 .d7 .d14, .mk .d0 .d0 .d7 .d15, .mk .d0 .d0 .d8 .d1, .mk .d0 .d0 .d7 .d10, .mk .d0 .d0 .d8 .d11, y491, y493, y286, .mk .d0 .d0 .d7 .d11, .mk .d0 .d0 .d8 .d10, y490, y492, y283, y285, y282, y284], [(0, []), (0, [(1, 1)]), (1, [])]⟩] := by
  intro s A
  kernel_rfl
def S23 : Lf := ⟨[(0, 0), (0, 9223372036854775807)], [], [rv .and 1000 31 ((.nat 23))], [], 1002⟩
theorem q23 : S_ S23 [⟨23, [.mk .d0 .d0 .d8 .d2, .mk .d0 .d0 .d8 .d0, .mk .d0 .d0 .d7 .d8, y494, .mk .d0 .d0 .d7 .d13, .mk .d0 .d0 .d7 .d12, .mk .d0 .d0 .d7 .d14, .mk .d0 .d0 .d7 .d15, .mk .d0 .d0 .d8 .d1, .mk .d0 .d0 .d7 .d10, .mk .d0 .d0 .d8 .d11, y491, y493, y286, .mk .d0 .d0 .d7 .d11, .mk .d0 .d0 .d8 .d10, y490, y492, y283, y285, y282, y284], [(0, []), (0, [(1, 1)]), (1, [])]⟩] := by
  intro s A
  kernel_rfl
def S24 : Lf := ⟨[(0, 0), (0, 9223372036854775807)], [], [rv .and 1000 31 ((.nat 24))], [], 1002⟩
theorem q24 : S_ S24 [⟨24, [.mk .d0 .d0 .d8 .d2, .mk .d0 .d0 .d8 .d0, .mk .d0 .d0 .d7 .d8, y494, .mk .d0 .d0 .d7 .d13, .mk .d0 .d0 .d7 .d12, .mk .d0 .d0 .d7 .d14, .mk .d0 .d0 .d7 .d15, .mk .d0 .d0 .d8 .d1, .mk .d0 .d0 .d7 .d10, .mk .d0 .d0 .d8 .d11, y491, y493, y286, .mk .d0 .d0 .d7 .d11, .mk .d0 .d0 .d8 .d10, y490, y492, y283, y285, y282, y284], [(0, []), (0, [(1, 1)]), (1, [])]⟩] := by
  intro s A
  kernel_rfl
def S25 : Lf := ⟨[(0, 0), (0, 9223372036854775807)], [], [rv .and 1000 31 ((.nat 25))], [], 1002⟩
theorem q25 : S_ S25 [⟨25, [.mk .d0 .d0 .d8 .d2, .mk .d0 .d0 .d8 .d0, .mk .d0 .d0 .d7 .d8, y494, .mk .d0 .d0 .d7 .d13, .mk .d0 .d0 .d7 .d12, .mk .d0 .d0 .d7 .d14, .mk .d0 .d0 .d7 .d15, .mk .d0 .d0 .d8 .d1, .mk .d0 .d0 .d7 .d10, .mk .d0 .d0 .d8 .d11, y491, y493, y286, .mk .d0 .d0 .d7 .d11, .mk .d0 .d0 .d8 .d10, y490, y492, y283, y285, y282, y284], [(0, []), (0, [(1, 1)]), (1, [])]⟩] := by
  intro s A
  kernel_rfl
def S26 : Lf := ⟨[(0, 0), (0, 9223372036854775807)], [], [rv .and 1000 31 ((.nat 26))], [], 1002⟩
theorem q26 : S_ S26 [⟨26, [.mk .d0 .d0 .d8 .d2, .mk .d0 .d0 .d8 .d0, .mk .d0 .d0 .d7 .d8, y494, .mk .d0 .d0 .d7 .d13, .mk .d0 .d0 .d7 .d12, .mk .d0 .d0 .d7 .d14, .mk .d0 .d0 .d7 .d15, .mk .d0 .d0 .d8 .d1, .mk .d0 .d0 .d7 .d10, .mk .d0 .d0 .d8 .d11, y491, y493, y286, .mk .d0 .d0 .d7 .d11, .mk .d0 .d0 .d8 .d10, y490, y492, y283, y285, y282, y284], [(0, []), (0, [(1, 1)]), (1, [])]⟩] := by
  intro s A
  kernel_rfl
def S27 : Lf := ⟨[(0, 0), (0, 9223372036854775807)], [], [rv .and 1000 31 ((.nat 27))], [], 1002⟩
theorem q27 : S_ S27 [⟨27, [.mk .d0 .d0 .d8 .d2, .mk .d0 .d0 .d8 .d0, .mk .d0 .d0 .d7 .d8, y494, .mk .d0 .d0 .d7 .d13, .mk .d0 .d0 .d7 .d12, .mk .d0 .d0 .d7 .d14, .mk .d0 .d0 .d7 .d15, .mk .d0 .d0 .d8 .d1, .mk .d0 .d0 .d7 .d10, .mk .d0 .d0 .d8 .d11, y491, y493, y286, .mk .d0 .d0 .d7 .d11, .mk .d0 .d0 .d8 .d10, y490, y492, y283, y285, y282, y284], [(0, []), (0, [(1, 1)]), (1, [])]⟩] := by
  intro s A
  kernel_rfl
def S28 : Lf := ⟨[(0, 0), (0, 9223372036854775807)], [], [rv .and 1000 31 ((.nat 28))], [], 1002⟩
theorem q28 : S_ S28 [⟨28, [.mk .d0 .d0 .d8 .d2, .mk .d0 .d0 .d8 .d0, .mk .d0 .d0 .d7 .d8, y494, .mk .d0 .d0 .d7 .d13, .mk .d0 .d0 .d7 .d12, .mk .d0 .d0 .d7 .d14, .mk .d0 .d0 .d7 .d15, .mk .d0 .d0 .d8 .d1, .mk .d0 .d0 .d7 .d10, .mk .d0 .d0 .d8 .d11, y491, y493, y286, .mk .d0 .d0 .d7 .d11, .mk .d0 .d0 .d8 .d10, y490, y492, y283, y285, y282, y284], [(0, []), (0, [(1, 1)]), (1, [])]⟩] := by
  intro s A
  kernel_rfl
def S29 : Lf := ⟨[(0, 0), (0, 9223372036854775807)], [], [rv .and 1000 31 ((.nat 29))], [], 1002⟩
theorem q29 : S_ S29 [⟨29, [.mk .d0 .d0 .d8 .d2, .mk .d0 .d0 .d8 .d0, .mk .d0 .d0 .d7 .d8, y494, .mk .d0 .d0 .d7 .d13, .mk .d0 .d0 .d7 .d12, .mk .d0 .d0 .d7 .d14, .mk .d0 .d0 .d7 .d15, .mk .d0 .d0 .d8 .d1, .mk .d0 .d0 .d7 .d10, .mk .d0 .d0 .d8 .d11, y491, y493, y286, .mk .d0 .d0 .d7 .d11, .mk .d0 .d0 .d8 .d10, y490, y492, y283, y285, y282, y284], [(0, []), (0, [(1, 1)]), (1, [])]⟩] := by
  intro s A
  kernel_rfl
def S30 : Lf := ⟨[(0, 0), (0, 9223372036854775807)], [], [rv .and 1000 31 ((.nat 30))], [], 1002⟩
theorem q30 : S_ S30 [⟨30, [.mk .d0 .d0 .d8 .d2, .mk .d0 .d0 .d8 .d0, .mk .d0 .d0 .d7 .d8, y494, .mk .d0 .d0 .d7 .d13, .mk .d0 .d0 .d7 .d12, .mk .d0 .d0 .d7 .d14, .mk .d0 .d0 .d7 .d15, .mk .d0 .d0 .d8 .d1, .mk .d0 .d0 .d7 .d10, .mk .d0 .d0 .d8 .d11, y491, y493, y286, .mk .d0 .d0 .d7 .d11, .mk .d0 .d0 .d8 .d10, y490, y492, y283, y285, y282, y284], [(0, []), (0, [(1, 1)]), (1, [])]⟩] := by
  intro s A
  kernel_rfl
def S31 : Lf := ⟨[(0, 0), (0, 9223372036854775807)], [], [rv .and 1000 31 ((.nat 31))], [], 1002⟩
theorem q31 : S_ S31 [⟨31, [.mk .d0 .d0 .d8 .d2, .mk .d0 .d0 .d8 .d0, .mk .d0 .d0 .d7 .d8, y494, .mk .d0 .d0 .d7 .d13, .mk .d0 .d0 .d7 .d12, .mk .d0 .d0 .d7 .d14, .mk .d0 .d0 .d7 .d15, .mk .d0 .d0 .d8 .d1, .mk .d0 .d0 .d7 .d10, .mk .d0 .d0 .d8 .d11, y491, y493, y286, .mk .d0 .d0 .d7 .d11, .mk .d0 .d0 .d8 .d10, y490, y492, y283, y285, y282, y284], [(0, []), (0, [(1, 1)]), (1, [])]⟩] := by
  intro s A
  kernel_rfl
end Go.Ev
