import Derived.Test.YtkihlgfcjhbgmaaGreatDoorVFAB
set_option maxHeartbeats 8000000
set_option linter.unusedSimpArgs false
set_option linter.unusedVariables false
open Go Go.Ev Go.Proofs Go.RowKit
namespace HS
set_option maxRecDepth 1000000
theorem lawG : ∃ o, evF lookZ 1000000 (.call 5 [] (hA glbZ)) = some o ∧ zud o = .bool true := zxx runG
end HS
