import Derived.Test.YtkgcignjblgifaaGreatDoorWkAA
set_option maxHeartbeats 8000000
set_option linter.unusedSimpArgs false
set_option linter.unusedVariables false
open Go Go.Proofs Go.RowKit
namespace HS
open Go.Ev
set_option maxRecDepth 1000000
theorem FkF56_ok : FkF56.ok = true := by kernel_rfl
theorem FkF56_run : FkF56.res (evF (lk Fkt55) 1000000 (.call 130 FkF56.args (hA FkF56.pre))) = true := by kernel_rfl
theorem FkF57_ok : FkF57.ok = true := by kernel_rfl
theorem FkF57_run : FkF57.res (evF (lk Fkt56) 1000000 (.call 130 FkF57.args (hA FkF57.pre))) = true := by kernel_rfl
end HS
