import Derived.Test.YtbamianefacbgaaGreatDoorVBAB
set_option maxHeartbeats 8000000
set_option linter.unusedSimpArgs false
set_option linter.unusedVariables false
open Go Go.Proofs Go.RowKit
namespace HS
open Go.Ev
set_option maxRecDepth 1000000
namespace Fr
theorem c162 : chk t161 26 F162 = true := by kernel_rfl
theorem c163 : saysT (evF (lkt t162) 1000000 (.call 26 [] H0)) = true := by kernel_rfl
end Fr
end HS
