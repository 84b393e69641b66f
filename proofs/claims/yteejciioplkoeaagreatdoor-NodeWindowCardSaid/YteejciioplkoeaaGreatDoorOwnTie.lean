/- The row's tie, of its facts one by one. -/
import Derived.Test.YteejciioplkoeaaGreatDoorRows
import Derived.LaidByTextLater
import Derived.SevenTiedAt
import Derived.KernelRfl
import Derived.LaidOnce
import Derived.Test.YteejciioplkoeaaGreatDoorTa
import Derived.Test.YteejciioplkoeaaGreatDoorTb
import Derived.Test.YteejciioplkoeaaGreatDoorTc
import Derived.Test.YteejciioplkoeaaGreatDoorTd
namespace Go.Proofs.YteejciioplkoeaaGreatDoor
open Go
set_option maxRecDepth 100000
theorem tie:Tryz.prog.laidByTextLater [("unicode/utf8.acceptRanges",Rows.laid_unicode_utf8_acceptRanges),("bytes.ErrTooLarge",Rows.laid_bytes_ErrTooLarge),("internal/strconv.uint64pow10",Rows.laid_internal_strconv_uint64pow10),("math/bits.deBruijn32tab",Rows.laid_math_bits_deBruijn32tab),("math/bits.deBruijn64tab",Rows.laid_math_bits_deBruijn64tab),("strconv.ErrSyntax",Rows.laid_strconv_ErrSyntax),("strconv.ErrRange",Rows.laid_strconv_ErrRange)] [.data,.sentinel,.data,.data,.data,.sentinel,.sentinel] true:=
 Program.laidByTextLater_by_one 400 8 300 tiew tiev tier tiek tieg tien tiex
theorem nodeWindow_row_tie:Rows.nodeWindowRow.laidByTextAt .later Tryz.pinned [.pinned,.data,.sentinel,.data,.data,.data,.sentinel,.sentinel] true:=
 OpenClaim.laidByTextAt_pinned rfl rfl tie rfl rfl rfl rfl (fun y hy _e=>by
  simp only [Rows.nodeWindowRow,List.zip_cons_cons,List.zip_nil_right,List.mem_cons,List.mem_nil_iff,or_false] at hy
  rcases hy with rfl | rfl | rfl | rfl | rfl | rfl | rfl | rfl
  · exact ⟨pin_laid_unicode_utf8_first,by kernel_rfl⟩
  · cases _e
  · cases _e
  · cases _e
  · cases _e
  · cases _e
  · cases _e
  · cases _e) fits1
theorem nodeWindowUpto_row_tie:Rows.nodeWindowUptoRow.laidByTextAt .later Tryz.pinned [.pinned,.data,.sentinel,.data,.data,.data,.sentinel,.sentinel] true:=
 OpenClaim.laidByTextAt_pinned rfl rfl tie rfl rfl rfl rfl (fun y hy _e=>by
  simp only [Rows.nodeWindowUptoRow,List.zip_cons_cons,List.zip_nil_right,List.mem_cons,List.mem_nil_iff,or_false] at hy
  rcases hy with rfl | rfl | rfl | rfl | rfl | rfl | rfl | rfl
  · exact ⟨pin_laid_unicode_utf8_first,by kernel_rfl⟩
  · cases _e
  · cases _e
  · cases _e
  · cases _e
  · cases _e
  · cases _e
  · cases _e) fits1
end Go.Proofs.YteejciioplkoeaaGreatDoor
