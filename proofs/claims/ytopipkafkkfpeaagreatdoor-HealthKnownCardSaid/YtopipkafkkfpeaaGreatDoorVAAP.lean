import Derived.Test.YtopipkafkkfpeaaGreatDoorVAAJ
set_option maxHeartbeats 8000000
set_option linter.unusedSimpArgs false
set_option linter.unusedVariables false
open Go Go.Proofs Go.RowKit
namespace HS
open Go.Ev
set_option maxRecDepth 1000000
namespace Fh
theorem c56 : chk t55 167 F56 = true := by kernel_rfl
theorem c57 : chk t56 167 F57 = true := by kernel_rfl
theorem c58 : chk t57 284 F58 = true := by kernel_rfl
theorem c59 : chk t58 166 F59 = true := by kernel_rfl
theorem c60 : chk t59 192 F60 = true := by kernel_rfl
theorem c61 : chk t60 166 F61 = true := by kernel_rfl
theorem c62 : chk t61 192 F62 = true := by kernel_rfl
theorem c63 : chk t62 166 F63 = true := by kernel_rfl
theorem c64 : chk t63 192 F64 = true := by kernel_rfl
theorem c65 : chk t64 166 F65 = true := by kernel_rfl
end Fh
end HS
