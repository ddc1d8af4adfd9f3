import Derived.Test.YtkihlgfcjhbgmaaGreatDoorRows
import Derived.LaidByTextLater
import Derived.SevenTiedAt
import Derived.LaidSub
import Derived.LaidOnce
import Derived.KernelRfl
import Derived.Test.YtkihlgfcjhbgmaaGreatDoorVAAL
set_option maxHeartbeats 8000000
set_option linter.unusedVariables false
namespace Go.Proofs.YtkihlgfcjhbgmaaGreatDoor
open Go
set_option maxRecDepth 100000
noncomputable def tL : List (String × DataW Unit) := [("unicode/utf8.acceptRanges", Rows.laid_unicode_utf8_acceptRanges), ("caulker/uber.errField", Rows.laid_caulker_uber_errField), ("caulker/uber.errRoot", Rows.laid_caulker_uber_errRoot)]
theorem tq7 (os : Os) (tape : Tape) : doorLeaves Tryz.prog 60 8 33 tL os tape = some (tL.filter fun x => x.2.handleName?.isNone, (funcsListed tL).map (·.2.funcsOut)) := by
  unfold doorLeaves
  rw [tvId]
  kernel_rfl
end Go.Proofs.YtkihlgfcjhbgmaaGreatDoor
