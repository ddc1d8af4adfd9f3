import Derived.Test.YtkihlgfcjhbgmaaGreatDoorRows
import Derived.LaidMore
import Derived.Lay
import Derived.KernelRfl
set_option maxHeartbeats 8000000
set_option linter.unusedVariables false
namespace Go.Proofs.YtkihlgfcjhbgmaaGreatDoor
open Go
namespace scriptNone
set_option maxRecDepth 100000
theorem wz7 (os : Os) : (World.holding Tryz.prog os ⟨#[], #[], []⟩).layIfaces Tryz.prog [("unicode/utf8.first", Rows.laid_unicode_utf8_first), ("unicode/utf8.acceptRanges", Rows.laid_unicode_utf8_acceptRanges), ("caulker/uber.errField", Rows.laid_caulker_uber_errField), ("caulker/uber.errRoot", Rows.laid_caulker_uber_errRoot)] (World.laidAll Tryz.prog os [("unicode/utf8.first", Rows.laid_unicode_utf8_first), ("unicode/utf8.acceptRanges", Rows.laid_unicode_utf8_acceptRanges), ("caulker/uber.errField", Rows.laid_caulker_uber_errField), ("caulker/uber.errRoot", Rows.laid_caulker_uber_errRoot)]) = true := by kernel_rfl
end scriptNone
end Go.Proofs.YtkihlgfcjhbgmaaGreatDoor
