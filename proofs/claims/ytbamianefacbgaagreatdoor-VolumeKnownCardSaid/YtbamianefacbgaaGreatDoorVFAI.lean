import Derived.Test.YtbamianefacbgaaGreatDoorVCAB
set_option maxHeartbeats 8000000
set_option linter.unusedSimpArgs false
set_option linter.unusedVariables false
open Go Go.Proofs Go.RowKit
namespace HS
open Go.Ev
set_option maxRecDepth 1000000
namespace Fv
theorem c189 : chk t188 223 F189 = true := by kernel_rfl
theorem c190 : chk t189 136 F190 = true := by kernel_rfl
theorem c191 : chk t190 292 F191 = true := by kernel_rfl
theorem c192 : chk t191 225 F192 = true := by kernel_rfl
theorem c193 : chk t192 65 F193 = true := by kernel_rfl
theorem c194 : chk t193 21 F194 = true := by kernel_rfl
theorem c195 : chk t194 12 F195 = true := by kernel_rfl
theorem c196 : chk t195 179 F196 = true := by kernel_rfl
theorem c197 : chk t196 179 F197 = true := by kernel_rfl
theorem c198 : chk t197 179 F198 = true := by kernel_rfl
theorem c199 : chk t198 185 F199 = true := by kernel_rfl
theorem c200 : chk t199 185 F200 = true := by kernel_rfl
theorem c201 : chk t200 185 F201 = true := by kernel_rfl
theorem c202 : chk t201 185 F202 = true := by kernel_rfl
end Fv
end HS
