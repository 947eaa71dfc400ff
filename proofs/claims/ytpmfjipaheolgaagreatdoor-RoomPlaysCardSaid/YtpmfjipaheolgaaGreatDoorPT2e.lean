/- A part of the tie; no condition. -/
import Derived.Test.YtpmfjipaheolgaaGreatDoorPT1
import Derived.Test.YtpmfjipaheolgaaGreatDoorChecked
set_option linter.all false
namespace Go.Proofs.YtpmfjipaheolgaaGreatDoor.TT
open Go
set_option maxRecDepth 100000
theorem ad2:varsNamedLaterB Tryz.prog (varsId Tryz.prog) [("internal/strconv.uint64pow10",Rows.laid_internal_strconv_uint64pow10),("math/bits.deBruijn32tab",Rows.laid_math_bits_deBruijn32tab),("math/bits.deBruijn64tab",Rows.laid_math_bits_deBruijn64tab),("strconv.ErrSyntax",Rows.laid_strconv_ErrSyntax),("strconv.ErrRange",Rows.laid_strconv_ErrRange),("unicode/utf8.acceptRanges",Rows.laid_unicode_utf8_acceptRanges),("strings.asciiSpace",Rows.laid_strings_asciiSpace),("unicode.White_Space",Rows.laid_unicode_White_Space)]=true:=by kernel_rfl
end Go.Proofs.YtpmfjipaheolgaaGreatDoor.TT
