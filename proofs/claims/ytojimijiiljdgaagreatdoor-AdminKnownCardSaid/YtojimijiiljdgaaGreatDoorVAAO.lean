import Derived.Test.YtojimijiiljdgaaGreatDoorVAAJ
set_option maxHeartbeats 8000000
set_option linter.unusedSimpArgs false
set_option linter.unusedVariables false
open Go Go.Proofs Go.RowKit
namespace HS
open Go.Ev
set_option maxRecDepth 1000000
namespace Fa
theorem c47 : chk t46 161 F47 = true := by kernel_rfl
theorem c48 : chk t47 165 F48 = true := by kernel_rfl
theorem c49 : chk t48 161 F49 = true := by kernel_rfl
theorem c50 : chk t49 165 F50 = true := by kernel_rfl
theorem c51 : chk t50 229 F51 = true := by kernel_rfl
theorem c52 : chk t51 60 F52 = true := by kernel_rfl
theorem c53 : chk t52 169 F53 = true := by kernel_rfl
theorem c54 : chk t53 169 F54 = true := by kernel_rfl
theorem c55 : chk t54 333 F55 = true := by kernel_rfl
theorem c56 : chk t55 169 F56 = true := by kernel_rfl
theorem c57 : chk t56 169 F57 = true := by kernel_rfl
end Fa
end HS
