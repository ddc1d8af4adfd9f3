import Derived.Test.YtkihlgfcjhbgmaaGreatDoorVBAA
set_option maxHeartbeats 8000000
set_option linter.unusedSimpArgs false
set_option linter.unusedVariables false
open Go Go.Proofs Go.RowKit
namespace HS
open Go.Ev
set_option maxRecDepth 1000000
namespace Fb
theorem c14 : chk t13 425 F14 = true := by kernel_rfl
theorem c15 : chk t14 143 F15 = true := by kernel_rfl
theorem c16 : chk t15 425 F16 = true := by kernel_rfl
theorem c17 : chk t16 143 F17 = true := by kernel_rfl
theorem c18 : chk t17 540 F18 = true := by kernel_rfl
theorem c19 : chk t18 416 F19 = true := by kernel_rfl
theorem c20 : chk t19 527 F20 = true := by kernel_rfl
theorem c21 : chk t20 118 F21 = true := by kernel_rfl
theorem c22 : chk t21 480 F22 = true := by kernel_rfl
theorem c23 : chk t22 480 F23 = true := by kernel_rfl
theorem c24 : chk t23 594 F24 = true := by kernel_rfl
end Fb
end HS
