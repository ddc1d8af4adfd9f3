import Derived.Test.YtbamianefacbgaaGreatDoorVCAB
set_option maxHeartbeats 8000000
set_option linter.unusedSimpArgs false
set_option linter.unusedVariables false
open Go Go.Proofs Go.RowKit
namespace HS
open Go.Ev
set_option maxRecDepth 1000000
namespace Fv
theorem c25 : chk t24 275 F25 = true := by kernel_rfl
theorem c26 : chk t25 185 F26 = true := by kernel_rfl
theorem c27 : chk t26 185 F27 = true := by kernel_rfl
theorem c28 : chk t27 214 F28 = true := by kernel_rfl
theorem c29 : chk t28 179 F29 = true := by kernel_rfl
theorem c30 : chk t29 191 F30 = true := by kernel_rfl
theorem c31 : chk t30 179 F31 = true := by kernel_rfl
theorem c32 : chk t31 191 F32 = true := by kernel_rfl
theorem c33 : chk t32 179 F33 = true := by kernel_rfl
theorem c34 : chk t33 191 F34 = true := by kernel_rfl
theorem c35 : chk t34 223 F35 = true := by kernel_rfl
end Fv
end HS
