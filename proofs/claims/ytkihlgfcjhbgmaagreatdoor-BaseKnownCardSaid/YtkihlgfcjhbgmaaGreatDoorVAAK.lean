import Derived.Test.YtkihlgfcjhbgmaaGreatDoorRows
import Derived.LaidByTextLater
import Derived.SevenTiedAt
import Derived.LaidSub
import Derived.LaidOnce
import Derived.KernelRfl
set_option maxHeartbeats 8000000
set_option linter.unusedVariables false
namespace Go.Proofs.YtkihlgfcjhbgmaaGreatDoor
open Go
set_option maxRecDepth 100000
theorem tq1 : Tryz.prog.worded (varsWordLater true) = true := by kernel_rfl
theorem tq2 : Tryz.prog.worded (varsWordLater !true) = false := by kernel_rfl
theorem tq3 : Tryz.prog.worded rootWordLater = true := by kernel_rfl
theorem tq4 : ([("unicode/utf8.acceptRanges", Rows.laid_unicode_utf8_acceptRanges), ("caulker/uber.errField", Rows.laid_caulker_uber_errField), ("caulker/uber.errRoot", Rows.laid_caulker_uber_errRoot)] : List (String × DataW Unit)).map (fun x => Tryz.prog.kindOfLater x.1) = [.data, .sentinel, .sentinel].map some := by kernel_rfl
end Go.Proofs.YtkihlgfcjhbgmaaGreatDoor
