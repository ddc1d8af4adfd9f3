import Derived.Test.YtkihlgfcjhbgmaaGreatDoorVCAA
set_option maxHeartbeats 8000000
set_option linter.unusedSimpArgs false
set_option linter.unusedVariables false
open Go Go.Proofs Go.RowKit
namespace HS
open Go.Ev
set_option maxRecDepth 1000000
namespace Fs
theorem c49 : chk t48 46 F49 = true := by kernel_rfl
theorem c50 : chk t49 21 F50 = true := by kernel_rfl
theorem c51 : chk t50 45 F51 = true := by kernel_rfl
theorem c52 : chk t51 46 F52 = true := by kernel_rfl
theorem c53 : chk t52 46 F53 = true := by kernel_rfl
theorem c54 : chk t53 424 F54 = true := by kernel_rfl
theorem c55 : chk t54 425 F55 = true := by kernel_rfl
theorem c56 : chk t55 425 F56 = true := by kernel_rfl
theorem c57 : chk t56 425 F57 = true := by kernel_rfl
theorem c58 : chk t57 425 F58 = true := by kernel_rfl
theorem c59 : chk t58 425 F59 = true := by kernel_rfl
theorem c60 : chk t59 120 F60 = true := by kernel_rfl
theorem c61 : chk t60 121 F61 = true := by kernel_rfl
end Fs
end HS
