import Derived.Test.YtgmediofcifhlaaGreatDoorVAAJ
set_option maxHeartbeats 8000000
set_option linter.unusedSimpArgs false
set_option linter.unusedVariables false
open Go Go.Proofs Go.RowKit
namespace HS
open Go.Ev
set_option maxRecDepth 1000000
namespace Fq
theorem c151 : chk t150 156 F151 = true := by kernel_rfl
theorem c152 : chk t151 173 F152 = true := by kernel_rfl
theorem c153 : chk t152 14 F153 = true := by kernel_rfl
theorem c154 : saysT (evF (lkt t153) 1000000 (.call 5 [] H0)) = true := by kernel_rfl
end Fq
end HS
