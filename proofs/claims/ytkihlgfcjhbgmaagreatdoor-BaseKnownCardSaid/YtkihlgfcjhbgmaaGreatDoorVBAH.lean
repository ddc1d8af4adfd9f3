import Derived.Test.YtkihlgfcjhbgmaaGreatDoorVBAA
set_option maxHeartbeats 8000000
set_option linter.unusedSimpArgs false
set_option linter.unusedVariables false
open Go Go.Proofs Go.RowKit
namespace HS
open Go.Ev
set_option maxRecDepth 1000000
namespace Fb
theorem c68 : chk t67 123 F68 = true := by kernel_rfl
theorem c69 : chk t68 540 F69 = true := by kernel_rfl
theorem c70 : chk t69 416 F70 = true := by kernel_rfl
theorem c71 : chk t70 527 F71 = true := by kernel_rfl
theorem c72 : chk t71 124 F72 = true := by kernel_rfl
theorem c73 : chk t72 118 F73 = true := by kernel_rfl
theorem c74 : chk t73 9 F74 = true := by kernel_rfl
theorem c75 : chk t74 425 F75 = true := by kernel_rfl
theorem c76 : chk t75 425 F76 = true := by kernel_rfl
theorem c77 : chk t76 425 F77 = true := by kernel_rfl
theorem c78 : chk t77 425 F78 = true := by kernel_rfl
theorem c79 : chk t78 11 F79 = true := by kernel_rfl
theorem c80 : saysT (evF (lkt t79) 1000000 (.call 11 [] H0)) = true := by kernel_rfl
end Fb
end HS
