import Derived.Test.YtojimijiiljdgaaGreatDoorVAAJ
set_option maxHeartbeats 8000000
set_option linter.unusedSimpArgs false
set_option linter.unusedVariables false
open Go Go.Proofs Go.RowKit
namespace HS
open Go.Ev
set_option maxRecDepth 1000000
namespace Fa
theorem c14 : chk t13 161 F14 = true := by kernel_rfl
theorem c15 : chk t14 165 F15 = true := by kernel_rfl
theorem c16 : chk t15 161 F16 = true := by kernel_rfl
theorem c17 : chk t16 165 F17 = true := by kernel_rfl
theorem c18 : chk t17 265 F18 = true := by kernel_rfl
theorem c19 : chk t18 207 F19 = true := by kernel_rfl
theorem c20 : chk t19 226 F20 = true := by kernel_rfl
theorem c21 : chk t20 93 F21 = true := by kernel_rfl
theorem c22 : chk t21 169 F22 = true := by kernel_rfl
theorem c23 : chk t22 169 F23 = true := by kernel_rfl
theorem c24 : chk t23 333 F24 = true := by kernel_rfl
end Fa
end HS
