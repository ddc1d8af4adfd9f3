import Derived.Test.YtgmediofcifhlaaGreatDoorVAAJ
set_option maxHeartbeats 8000000
set_option linter.unusedSimpArgs false
set_option linter.unusedVariables false
open Go Go.Proofs Go.RowKit
namespace HS
open Go.Ev
set_option maxRecDepth 1000000
namespace Fq
theorem c14 : chk t13 156 F14 = true := by kernel_rfl
theorem c15 : chk t14 157 F15 = true := by kernel_rfl
theorem c16 : chk t15 156 F16 = true := by kernel_rfl
theorem c17 : chk t16 157 F17 = true := by kernel_rfl
theorem c18 : chk t17 257 F18 = true := by kernel_rfl
theorem c19 : chk t18 199 F19 = true := by kernel_rfl
theorem c20 : chk t19 223 F20 = true := by kernel_rfl
theorem c21 : chk t20 67 F21 = true := by kernel_rfl
theorem c22 : chk t21 162 F22 = true := by kernel_rfl
theorem c23 : chk t22 162 F23 = true := by kernel_rfl
theorem c24 : chk t23 305 F24 = true := by kernel_rfl
end Fq
end HS
