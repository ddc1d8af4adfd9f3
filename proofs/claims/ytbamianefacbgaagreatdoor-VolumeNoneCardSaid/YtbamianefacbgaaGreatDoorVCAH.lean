import Derived.Test.YtbamianefacbgaaGreatDoorVCAB
set_option maxHeartbeats 8000000
set_option linter.unusedSimpArgs false
set_option linter.unusedVariables false
open Go Go.Proofs Go.RowKit
namespace HS
open Go.Ev
set_option maxRecDepth 1000000
namespace Fv
theorem c57 : chk t56 43 F57 = true := by kernel_rfl
theorem c58 : chk t57 179 F58 = true := by kernel_rfl
theorem c59 : chk t58 191 F59 = true := by kernel_rfl
theorem c60 : chk t59 179 F60 = true := by kernel_rfl
theorem c61 : chk t60 191 F61 = true := by kernel_rfl
theorem c62 : chk t61 179 F62 = true := by kernel_rfl
theorem c63 : chk t62 191 F63 = true := by kernel_rfl
theorem c64 : chk t63 261 F64 = true := by kernel_rfl
theorem c65 : chk t64 45 F65 = true := by kernel_rfl
end Fv
end HS
