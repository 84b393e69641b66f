/- The variables of the tie are named, by the kernel. -/
import Derived.Test.YteejciioplkoeaaGreatDoorRows
import Derived.LaidByTextLater
import Derived.SevenTiedAt
import Derived.KernelRfl
import Derived.LaidOnce
namespace Go.Proofs.YteejciioplkoeaaGreatDoor
open Go
set_option maxRecDepth 100000
theorem tien:varsNamedLaterB Tryz.prog (varsId Tryz.prog) [("unicode/utf8.acceptRanges",Rows.laid_unicode_utf8_acceptRanges),("bytes.ErrTooLarge",Rows.laid_bytes_ErrTooLarge),("internal/strconv.uint64pow10",Rows.laid_internal_strconv_uint64pow10),("math/bits.deBruijn32tab",Rows.laid_math_bits_deBruijn32tab),("math/bits.deBruijn64tab",Rows.laid_math_bits_deBruijn64tab),("strconv.ErrSyntax",Rows.laid_strconv_ErrSyntax),("strconv.ErrRange",Rows.laid_strconv_ErrRange)]=true:=by kernel_rfl
end Go.Proofs.YteejciioplkoeaaGreatDoor
