import Derived.Test.YtbamianefacbgaaGreatDoorVBAB
set_option maxHeartbeats 8000000
set_option linter.unusedSimpArgs false
set_option linter.unusedVariables false
open Go Go.Proofs Go.RowKit
namespace HS
open Go.Ev
set_option maxRecDepth 1000000
namespace Fr
theorem c14 : chk t13 191 F14 = true := by kernel_rfl
theorem c15 : chk t14 179 F15 = true := by kernel_rfl
theorem c16 : chk t15 191 F16 = true := by kernel_rfl
theorem c17 : chk t16 179 F17 = true := by kernel_rfl
theorem c18 : chk t17 191 F18 = true := by kernel_rfl
theorem c19 : chk t18 223 F19 = true := by kernel_rfl
theorem c20 : chk t19 136 F20 = true := by kernel_rfl
theorem c21 : chk t20 353 F21 = true := by kernel_rfl
theorem c22 : chk t21 353 F22 = true := by kernel_rfl
end Fr
end HS
