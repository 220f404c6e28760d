/- The law TopEnded of the given program returns true, for every input: R8. Conditions: none. -/
import Derived.Test.YtmmgkehhckhdcaaGreatDoorRows
import Derived.LaidByTextLater
import Derived.SevenTiedAt

set_option linter.unusedVariables false
set_option linter.unusedSimpArgs false

namespace Go.Proofs.YtmmgkehhckhdcaaGreatDoor
open Go
set_option maxRecDepth 1000000

/-- What the text lays, but for the pinned table. -/
def laid4 : List (String × DataW Unit) := [("unicode/utf8.acceptRanges", Rows.laid_unicode_utf8_acceptRanges), ("internal/strconv.uint64pow10", Rows.laid_internal_strconv_uint64pow10), ("math/bits.deBruijn32tab", Rows.laid_math_bits_deBruijn32tab), ("math/bits.deBruijn64tab", Rows.laid_math_bits_deBruijn64tab)]
theorem tieW1 : Tryz.prog.worded (varsWordLater true) = true := by kernel_rfl
theorem tieW2 : Tryz.prog.worded (varsWordLater !true) = false := by kernel_rfl
theorem tieW3 : Tryz.prog.worded rootWordLater = true := by kernel_rfl
theorem tieG : (Tryz.prog.funcNamed "gosem.cut.vars").isSome = true := by kernel_rfl
end Go.Proofs.YtmmgkehhckhdcaaGreatDoor

