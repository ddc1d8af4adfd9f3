import Derived.Test.YtopipkafkkfpeaaGreatDoorVAAJ
set_option maxHeartbeats 8000000
set_option linter.unusedSimpArgs false
set_option linter.unusedVariables false
open Go Go.Proofs Go.RowKit
namespace HS
open Go.Ev
set_option maxRecDepth 1000000
namespace Fh
theorem c47 : chk t46 166 F47 = true := by kernel_rfl
theorem c48 : chk t47 192 F48 = true := by kernel_rfl
theorem c49 : chk t48 166 F49 = true := by kernel_rfl
theorem c50 : chk t49 192 F50 = true := by kernel_rfl
theorem c51 : chk t50 124 F51 = true := by kernel_rfl
theorem c52 : chk t51 42 F52 = true := by kernel_rfl
theorem c53 : chk t52 167 F53 = true := by kernel_rfl
theorem c54 : chk t53 167 F54 = true := by kernel_rfl
theorem c55 : chk t54 332 F55 = true := by kernel_rfl
end Fh
end HS
