import Derived.Test.YtkgcignjblgifaaGreatDoorWkAA
set_option maxHeartbeats 8000000
set_option linter.unusedSimpArgs false
set_option linter.unusedVariables false
open Go Go.Proofs Go.RowKit
namespace HS
open Go.Ev
set_option maxRecDepth 1000000
theorem FkF23_ok : FkF23.ok = true := by kernel_rfl
theorem FkF23_run : FkF23.res (evF (lk Fkt22) 1000000 (.call 6 FkF23.args (hA FkF23.pre))) = true := by kernel_rfl
theorem Fkrun_22awake : saysT (evF (lk Fkt23) 1000000 (.call 6 [] H0)) = true := by kernel_rfl
end HS
