import Derived.Test.YtopipkafkkfpeaaGreatDoorVAAJ
set_option maxHeartbeats 8000000
set_option linter.unusedSimpArgs false
set_option linter.unusedVariables false
open Go Go.Proofs Go.RowKit
namespace HS
open Go.Ev
set_option maxRecDepth 1000000
namespace Fh
theorem c79 : chk t78 166 F79 = true := by kernel_rfl
theorem c80 : chk t79 107 F80 = true := by kernel_rfl
theorem c81 : chk t80 24 F81 = true := by kernel_rfl
theorem c82 : chk t81 6 F82 = true := by kernel_rfl
theorem c83 : chk t82 5 F83 = true := by kernel_rfl
theorem c84 : chk t83 9 F84 = true := by kernel_rfl
theorem c85 : saysT (evF (lkt t84) 1000000 (.call 9 [] H0)) = true := by kernel_rfl
end Fh
end HS
