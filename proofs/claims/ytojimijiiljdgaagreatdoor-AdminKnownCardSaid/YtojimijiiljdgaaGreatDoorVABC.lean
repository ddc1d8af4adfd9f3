import Derived.Test.YtojimijiiljdgaaGreatDoorVAAJ
set_option maxHeartbeats 8000000
set_option linter.unusedSimpArgs false
set_option linter.unusedVariables false
open Go Go.Proofs Go.RowKit
namespace HS
open Go.Ev
set_option maxRecDepth 1000000
namespace Fa
theorem c191 : chk t190 165 F191 = true := by kernel_rfl
theorem c192 : chk t191 161 F192 = true := by kernel_rfl
theorem c193 : chk t192 165 F193 = true := by kernel_rfl
theorem c194 : chk t193 161 F194 = true := by kernel_rfl
theorem c195 : chk t194 165 F195 = true := by kernel_rfl
theorem c196 : chk t195 161 F196 = true := by kernel_rfl
theorem c197 : chk t196 161 F197 = true := by kernel_rfl
theorem c198 : chk t197 161 F198 = true := by kernel_rfl
theorem c199 : chk t198 144 F199 = true := by kernel_rfl
theorem c200 : chk t199 265 F200 = true := by kernel_rfl
end Fa
end HS
