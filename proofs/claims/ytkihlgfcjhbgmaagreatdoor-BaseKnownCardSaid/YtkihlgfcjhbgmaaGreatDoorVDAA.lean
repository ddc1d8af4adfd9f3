import Derived.Test.YtkihlgfcjhbgmaaGreatDoorVBAA
import Derived.Test.YtkihlgfcjhbgmaaGreatDoorVDAX
set_option maxHeartbeats 8000000
set_option linter.unusedSimpArgs false
set_option linter.unusedVariables false
open Go Go.Proofs Go.RowKit
namespace HS
open Go.Ev
set_option maxRecDepth 1000000
namespace Fb
theorem c81 : chk t80 425 F81 = true := by kernel_rfl
theorem c82 : chk t81 425 F82 = true := by kernel_rfl
theorem c83 : chk t82 425 F83 = true := by kernel_rfl
theorem c84 : chk t83 344 F84 = true := by kernel_rfl
theorem c85 : chk t84 220 F85 = true := by kernel_rfl
theorem c86 : chk t85 109 F86 = true := by kernel_rfl
theorem c87 : chk t86 106 F87 = true := by kernel_rfl
theorem c88 : chk t87 3 F88 = true := by kernel_rfl
theorem c89 : saysT (evF (lkt t88) 1000000 (.call 3 [] H0)) = true := by kernel_rfl
end Fb
end HS
