import Derived.Test.YtbamianefacbgaaGreatDoorVBAB
set_option maxHeartbeats 8000000
set_option linter.unusedSimpArgs false
set_option linter.unusedVariables false
open Go Go.Proofs Go.RowKit
namespace HS
open Go.Ev
set_option maxRecDepth 1000000
namespace Fr
theorem c46 : chk t45 185 F46 = true := by kernel_rfl
theorem c47 : chk t46 43 F47 = true := by kernel_rfl
theorem c48 : chk t47 185 F48 = true := by kernel_rfl
theorem c49 : chk t48 185 F49 = true := by kernel_rfl
theorem c50 : chk t49 275 F50 = true := by kernel_rfl
theorem c51 : chk t50 185 F51 = true := by kernel_rfl
theorem c52 : chk t51 185 F52 = true := by kernel_rfl
theorem c53 : chk t52 214 F53 = true := by kernel_rfl
theorem c54 : chk t53 179 F54 = true := by kernel_rfl
theorem c55 : chk t54 191 F55 = true := by kernel_rfl
theorem c56 : chk t55 179 F56 = true := by kernel_rfl
end Fr
end HS
