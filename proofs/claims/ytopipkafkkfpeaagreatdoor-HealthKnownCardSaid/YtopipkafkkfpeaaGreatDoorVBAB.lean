import Derived.Test.YtopipkafkkfpeaaGreatDoorVAAJ
set_option maxHeartbeats 8000000
set_option linter.unusedSimpArgs false
set_option linter.unusedVariables false
open Go Go.Proofs Go.RowKit
namespace HS
open Go.Ev
set_option maxRecDepth 1000000
namespace Fh
theorem c100 : chk t99 4 F100 = true := by kernel_rfl
theorem c101 : saysT (evF (lkt t100) 1000000 (.call 4 [] H0)) = true := by kernel_rfl
end Fh
end HS
