import Derived.Test.YtbamianefacbgaaGreatDoorVBAB
set_option maxHeartbeats 8000000
set_option linter.unusedSimpArgs false
set_option linter.unusedVariables false
open Go Go.Proofs Go.RowKit
namespace HS
open Go.Ev
set_option maxRecDepth 1000000
namespace Fr
theorem c23 : chk t22 21 F23 = true := by kernel_rfl
theorem c24 : chk t23 185 F24 = true := by kernel_rfl
theorem c25 : chk t24 185 F25 = true := by kernel_rfl
theorem c26 : chk t25 275 F26 = true := by kernel_rfl
theorem c27 : chk t26 185 F27 = true := by kernel_rfl
theorem c28 : chk t27 185 F28 = true := by kernel_rfl
theorem c29 : chk t28 214 F29 = true := by kernel_rfl
theorem c30 : chk t29 179 F30 = true := by kernel_rfl
theorem c31 : chk t30 191 F31 = true := by kernel_rfl
theorem c32 : chk t31 179 F32 = true := by kernel_rfl
theorem c33 : chk t32 191 F33 = true := by kernel_rfl
end Fr
end HS
