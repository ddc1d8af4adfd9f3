import Derived.Test.YtkihlgfcjhbgmaaGreatDoorVBAA
set_option maxHeartbeats 8000000
set_option linter.unusedSimpArgs false
set_option linter.unusedVariables false
open Go Go.Proofs Go.RowKit
namespace HS
open Go.Ev
set_option maxRecDepth 1000000
namespace Fb
theorem c58 : chk t57 536 F58 = true := by kernel_rfl
theorem c59 : chk t58 425 F59 = true := by kernel_rfl
theorem c60 : chk t59 143 F60 = true := by kernel_rfl
theorem c61 : chk t60 425 F61 = true := by kernel_rfl
theorem c62 : chk t61 143 F62 = true := by kernel_rfl
theorem c63 : chk t62 425 F63 = true := by kernel_rfl
theorem c64 : chk t63 143 F64 = true := by kernel_rfl
theorem c65 : chk t64 425 F65 = true := by kernel_rfl
theorem c66 : chk t65 425 F66 = true := by kernel_rfl
theorem c67 : chk t66 425 F67 = true := by kernel_rfl
end Fb
end HS
