/-
  What ties the rows that are claimed to the text of the program (taken from the given ties).
-/
import Derived.Test.YtihggclfifimoaaGreatDoorRows
import Derived.LaidByTextLater
import Derived.SevenTiedAt
import Derived.LaidSub
import Derived.LaidOnce
set_option linter.unusedSectionVars false
namespace Go.Proofs.YtihggclfifimoaaGreatDoor
open Go
set_option maxRecDepth 100000
theorem C9:Tryz.prog.laidByTextLater [("math/bits.deBruijn32tab",Rows.laid_math_bits_deBruijn32tab),("math/bits.deBruijn64tab",Rows.laid_math_bits_deBruijn64tab),("internal/strconv.uint64pow10",Rows.laid_internal_strconv_uint64pow10),("unicodetext/ordering.hangulRanges",Rows.laid_unicodetext_ordering_hangulRanges)] [.data,.data,.data,.data] true:=
 Program.laidByTextLater_by_one 33 8 65 (by kernel_rfl) (by kernel_rfl) (by kernel_rfl) (by kernel_rfl) (by kernel_rfl) (by kernel_rfl) (λ_ _=>by kernel_rfl)
theorem wQ:Tryz.pinned.checked.prog.headLifts.contains "ownunsafe" = false:=by kernel_rfl
theorem tie:Tryz.prog.laidByTextLater [("math/bits.deBruijn32tab",Rows.laid_math_bits_deBruijn32tab),("math/bits.deBruijn64tab",Rows.laid_math_bits_deBruijn64tab),("internal/strconv.uint64pow10",Rows.laid_internal_strconv_uint64pow10),("unicodetext/ordering.hangulRanges",Rows.laid_unicodetext_ordering_hangulRanges)] [.data,.data,.data,.data] true:=
 Program.laidByTextLater.sub C9 ["math/bits.deBruijn32tab", "math/bits.deBruijn64tab", "internal/strconv.uint64pow10", "unicodetext/ordering.hangulRanges"] (by kernel_rfl) (by kernel_rfl)
theorem gl:Rows.auditNormalizationRow.laidByTextAt .later Tryz.pinned [.data,.data,.data,.data] true:=
 OpenClaim.laidByTextAt_later rfl rfl tie wQ
end Go.Proofs.YtihggclfifimoaaGreatDoor
