import Derived.Test.YtkihlgfcjhbgmaaGreatDoorRows
import Derived.LaidByTextLater
import Derived.SevenTiedAt
import Derived.LaidSub
import Derived.LaidOnce
import Derived.KernelRfl
import Derived.Test.YtkihlgfcjhbgmaaGreatDoorVAAL
set_option maxHeartbeats 8000000
set_option linter.unusedVariables false
namespace Go.Proofs.YtkihlgfcjhbgmaaGreatDoor
open Go
set_option maxRecDepth 100000
theorem tq6 : varsNamedLaterB Tryz.prog (varsId Tryz.prog) [("unicode/utf8.acceptRanges", Rows.laid_unicode_utf8_acceptRanges), ("caulker/uber.errField", Rows.laid_caulker_uber_errField), ("caulker/uber.errRoot", Rows.laid_caulker_uber_errRoot)] = true := by
  rw [tvId]
  kernel_rfl
theorem zbb : Tryz.pinned.checked.prog.pinnedFits "unicode/utf8.first" = true := by
  show Tryz.prog.pinnedFits "unicode/utf8.first" = true
  unfold Program.pinnedFits
  rw [tvars]
  kernel_rfl
end Go.Proofs.YtkihlgfcjhbgmaaGreatDoor
