import Derived.Test.YtbamianefacbgaaGreatDoorVCAB
set_option maxHeartbeats 8000000
set_option linter.unusedSimpArgs false
set_option linter.unusedVariables false
open Go Go.Proofs Go.RowKit
namespace HS
open Go.Ev
set_option maxRecDepth 1000000
namespace Fv
theorem c237 : chk t236 40 F237 = true := by kernel_rfl
theorem c238 : chk t237 4 F238 = true := by kernel_rfl
theorem c239 : saysT (evF (lkt t238) 1000000 (.call 4 [] H0)) = true := by kernel_rfl
end Fv
end HS
