/- the list that is tied -/
import Derived.Test.YtmpbgfeidflbeaaGreatDoorRows
import Derived.LaidOnce
/- The tie of the row's list to the program's text. -/
namespace Go.Proofs.YtmpbgfeidflbeaaGreatDoor
open Go
def own8 : List (String × DataW Unit) := [("errors.errorType", Rows.laid_errors_errorType), ("internal/strconv.uint64pow10", Rows.laid_internal_strconv_uint64pow10), ("math/bits.deBruijn32tab", Rows.laid_math_bits_deBruijn32tab), ("math/bits.deBruijn64tab", Rows.laid_math_bits_deBruijn64tab), ("unicode/utf8.acceptRanges", Rows.laid_unicode_utf8_acceptRanges), ("strconv.ErrSyntax", Rows.laid_strconv_ErrSyntax), ("strconv.ErrRange", Rows.laid_strconv_ErrRange), ("barrage/surge.level", Rows.laid_barrage_surge_level)]
def kinds8 : List LaidKind := [.handle, .data, .data, .data, .data, .sentinel, .sentinel, .data]
def kinds9 : List LaidKind := [.handle, .data, .data, .data, .pinned, .data, .sentinel, .sentinel, .data]
end Go.Proofs.YtmpbgfeidflbeaaGreatDoor
