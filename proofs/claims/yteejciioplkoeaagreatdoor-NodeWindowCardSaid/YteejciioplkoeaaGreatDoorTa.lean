/- The words of the tie, by the kernel. -/
import Derived.Test.YteejciioplkoeaaGreatDoorRows
import Derived.LaidByTextLater
import Derived.SevenTiedAt
import Derived.KernelRfl
import Derived.LaidOnce
namespace Go.Proofs.YteejciioplkoeaaGreatDoor
open Go
set_option maxRecDepth 100000
theorem tiew:Tryz.prog.worded (varsWordLater true)=true:=by kernel_rfl
theorem tiev:Tryz.prog.worded (varsWordLater !true)=false:=by kernel_rfl
theorem tier:Tryz.prog.worded rootWordLater=true:=by kernel_rfl
theorem tiek:(([("unicode/utf8.acceptRanges",Rows.laid_unicode_utf8_acceptRanges),("bytes.ErrTooLarge",Rows.laid_bytes_ErrTooLarge),("internal/strconv.uint64pow10",Rows.laid_internal_strconv_uint64pow10),("math/bits.deBruijn32tab",Rows.laid_math_bits_deBruijn32tab),("math/bits.deBruijn64tab",Rows.laid_math_bits_deBruijn64tab),("strconv.ErrSyntax",Rows.laid_strconv_ErrSyntax),("strconv.ErrRange",Rows.laid_strconv_ErrRange)]:List (String × DataW Unit)).map fun x=>Tryz.prog.kindOfLater x.1)=([.data,.sentinel,.data,.data,.data,.sentinel,.sentinel]:List LaidKind).map some:=by kernel_rfl
theorem tieg:(Tryz.prog.funcNamed "gosem.cut.vars").isSome=true:=by kernel_rfl
end Go.Proofs.YteejciioplkoeaaGreatDoor
