import Derived.Test.YtkihlgfcjhbgmaaGreatDoorVBAA
set_option maxHeartbeats 8000000
set_option linter.unusedSimpArgs false
set_option linter.unusedVariables false
open Go Go.Proofs Go.RowKit
namespace HS
open Go.Ev
set_option maxRecDepth 1000000
namespace Fb
theorem c25 : chk t24 480 F25 = true := by kernel_rfl
theorem c26 : chk t25 480 F26 = true := by kernel_rfl
theorem c27 : chk t26 536 F27 = true := by kernel_rfl
theorem c28 : chk t27 425 F28 = true := by kernel_rfl
theorem c29 : chk t28 143 F29 = true := by kernel_rfl
theorem c30 : chk t29 425 F30 = true := by kernel_rfl
theorem c31 : chk t30 143 F31 = true := by kernel_rfl
theorem c32 : chk t31 425 F32 = true := by kernel_rfl
theorem c33 : chk t32 143 F33 = true := by kernel_rfl
theorem c34 : chk t33 540 F34 = true := by kernel_rfl
end Fb
end HS
