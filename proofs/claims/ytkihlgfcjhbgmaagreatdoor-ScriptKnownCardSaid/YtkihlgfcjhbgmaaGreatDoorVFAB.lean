import Derived.Test.YtkihlgfcjhbgmaaGreatDoorVFAA
set_option maxHeartbeats 8000000
set_option linter.unusedSimpArgs false
set_option linter.unusedVariables false
open Go Go.Ev Go.Proofs Go.RowKit
namespace HS
set_option maxRecDepth 1000000
theorem runG : saysT (evF lookZ 1000000 (.call 5 [] (hA glbZ))) = true := by kernel_rfl
end HS
