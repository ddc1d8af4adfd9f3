import Derived.Test.YtojimijiiljdgaaGreatDoorVAAJ
set_option maxHeartbeats 8000000
set_option linter.unusedSimpArgs false
set_option linter.unusedVariables false
open Go Go.Proofs Go.RowKit
namespace HS
open Go.Ev
set_option maxRecDepth 1000000
namespace Fa
theorem c25 : chk t24 169 F25 = true := by kernel_rfl
theorem c26 : chk t25 169 F26 = true := by kernel_rfl
theorem c27 : chk t26 259 F27 = true := by kernel_rfl
theorem c28 : chk t27 161 F28 = true := by kernel_rfl
theorem c29 : chk t28 165 F29 = true := by kernel_rfl
theorem c30 : chk t29 161 F30 = true := by kernel_rfl
theorem c31 : chk t30 165 F31 = true := by kernel_rfl
theorem c32 : chk t31 161 F32 = true := by kernel_rfl
theorem c33 : chk t32 165 F33 = true := by kernel_rfl
theorem c34 : chk t33 265 F34 = true := by kernel_rfl
end Fa
end HS
