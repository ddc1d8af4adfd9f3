import Derived.Test.YtkihlgfcjhbgmaaGreatDoorRows
import Derived.LaidMore
import Derived.Lay
import Derived.KernelRfl
set_option maxHeartbeats 8000000
set_option linter.unusedVariables false
namespace Go.Proofs.YtkihlgfcjhbgmaaGreatDoor
open Go
namespace baseKnown
set_option maxRecDepth 100000
theorem wz7 (os : Os) : (World.holding Tryz.prog os ⟨#[], #[], []⟩).layIfaces Tryz.prog [("unicode/utf8.first", Rows.laid_unicode_utf8_first), ("unicode/utf8.acceptRanges", Rows.laid_unicode_utf8_acceptRanges)] (World.laidAll Tryz.prog os [("unicode/utf8.first", Rows.laid_unicode_utf8_first), ("unicode/utf8.acceptRanges", Rows.laid_unicode_utf8_acceptRanges)]) = true := by kernel_rfl
end baseKnown
end Go.Proofs.YtkihlgfcjhbgmaaGreatDoor
