import Derived.Test.YtkihlgfcjhbgmaaGreatDoorVBAA
set_option maxHeartbeats 8000000
set_option linter.unusedSimpArgs false
set_option linter.unusedVariables false
open Go Go.Proofs Go.RowKit
namespace HS
open Go.Ev
set_option maxRecDepth 1000000
namespace Fb
theorem c47 : chk t46 425 F47 = true := by kernel_rfl
theorem c48 : chk t47 143 F48 = true := by kernel_rfl
theorem c49 : chk t48 425 F49 = true := by kernel_rfl
theorem c50 : chk t49 143 F50 = true := by kernel_rfl
theorem c51 : chk t50 502 F51 = true := by kernel_rfl
theorem c52 : chk t51 197 F52 = true := by kernel_rfl
theorem c53 : chk t52 480 F53 = true := by kernel_rfl
theorem c54 : chk t53 480 F54 = true := by kernel_rfl
theorem c55 : chk t54 594 F55 = true := by kernel_rfl
theorem c56 : chk t55 480 F56 = true := by kernel_rfl
theorem c57 : chk t56 480 F57 = true := by kernel_rfl
end Fb
end HS
