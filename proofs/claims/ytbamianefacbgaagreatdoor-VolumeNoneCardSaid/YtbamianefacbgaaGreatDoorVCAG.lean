import Derived.Test.YtbamianefacbgaaGreatDoorVCAB
set_option maxHeartbeats 8000000
set_option linter.unusedSimpArgs false
set_option linter.unusedVariables false
open Go Go.Proofs Go.RowKit
namespace HS
open Go.Ev
set_option maxRecDepth 1000000
namespace Fv
theorem c48 : chk t47 191 F48 = true := by kernel_rfl
theorem c49 : chk t48 179 F49 = true := by kernel_rfl
theorem c50 : chk t49 191 F50 = true := by kernel_rfl
theorem c51 : chk t50 179 F51 = true := by kernel_rfl
theorem c52 : chk t51 191 F52 = true := by kernel_rfl
theorem c53 : chk t52 185 F53 = true := by kernel_rfl
theorem c54 : chk t53 185 F54 = true := by kernel_rfl
theorem c55 : chk t54 185 F55 = true := by kernel_rfl
theorem c56 : chk t55 185 F56 = true := by kernel_rfl
end Fv
end HS
