/- What the laying of the variables leaves, by the kernel. -/
import Derived.Test.YteejciioplkoeaaGreatDoorRows
import Derived.LaidByTextLater
import Derived.SevenTiedAt
import Derived.KernelRfl
import Derived.LaidOnce
namespace Go.Proofs.YteejciioplkoeaaGreatDoor
open Go
set_option maxRecDepth 100000
theorem tiex:∀ os tape,doorLeaves Tryz.prog 400 8 300 [("unicode/utf8.acceptRanges",Rows.laid_unicode_utf8_acceptRanges),("bytes.ErrTooLarge",Rows.laid_bytes_ErrTooLarge),("internal/strconv.uint64pow10",Rows.laid_internal_strconv_uint64pow10),("math/bits.deBruijn32tab",Rows.laid_math_bits_deBruijn32tab),("math/bits.deBruijn64tab",Rows.laid_math_bits_deBruijn64tab),("strconv.ErrSyntax",Rows.laid_strconv_ErrSyntax),("strconv.ErrRange",Rows.laid_strconv_ErrRange)] os tape=some (([("unicode/utf8.acceptRanges",Rows.laid_unicode_utf8_acceptRanges),("bytes.ErrTooLarge",Rows.laid_bytes_ErrTooLarge),("internal/strconv.uint64pow10",Rows.laid_internal_strconv_uint64pow10),("math/bits.deBruijn32tab",Rows.laid_math_bits_deBruijn32tab),("math/bits.deBruijn64tab",Rows.laid_math_bits_deBruijn64tab),("strconv.ErrSyntax",Rows.laid_strconv_ErrSyntax),("strconv.ErrRange",Rows.laid_strconv_ErrRange)]:List (String × DataW Unit)).filter fun x=>x.2.handleName?.isNone,(funcsListed [("unicode/utf8.acceptRanges",Rows.laid_unicode_utf8_acceptRanges),("bytes.ErrTooLarge",Rows.laid_bytes_ErrTooLarge),("internal/strconv.uint64pow10",Rows.laid_internal_strconv_uint64pow10),("math/bits.deBruijn32tab",Rows.laid_math_bits_deBruijn32tab),("math/bits.deBruijn64tab",Rows.laid_math_bits_deBruijn64tab),("strconv.ErrSyntax",Rows.laid_strconv_ErrSyntax),("strconv.ErrRange",Rows.laid_strconv_ErrRange)]).map (·.2.funcsOut)):=fun _ _=>by kernel_rfl
end Go.Proofs.YteejciioplkoeaaGreatDoor
