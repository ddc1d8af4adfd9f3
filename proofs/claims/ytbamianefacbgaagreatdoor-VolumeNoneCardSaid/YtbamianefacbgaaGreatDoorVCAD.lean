import Derived.Test.YtbamianefacbgaaGreatDoorVCAB
set_option maxHeartbeats 8000000
set_option linter.unusedSimpArgs false
set_option linter.unusedVariables false
open Go Go.Proofs Go.RowKit
namespace HS
open Go.Ev
set_option maxRecDepth 1000000
namespace Fv
theorem c14 : chk t13 179 F14 = true := by kernel_rfl
theorem c15 : chk t14 191 F15 = true := by kernel_rfl
theorem c16 : chk t15 179 F16 = true := by kernel_rfl
theorem c17 : chk t16 191 F17 = true := by kernel_rfl
theorem c18 : chk t17 223 F18 = true := by kernel_rfl
theorem c19 : chk t18 136 F19 = true := by kernel_rfl
theorem c20 : chk t19 292 F20 = true := by kernel_rfl
theorem c21 : chk t20 21 F21 = true := by kernel_rfl
theorem c22 : chk t21 132 F22 = true := by kernel_rfl
theorem c23 : chk t22 185 F23 = true := by kernel_rfl
theorem c24 : chk t23 185 F24 = true := by kernel_rfl
end Fv
end HS
