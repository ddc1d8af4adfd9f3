import Derived.Test.YtbamianefacbgaaGreatDoorVCAB
set_option maxHeartbeats 8000000
set_option linter.unusedSimpArgs false
set_option linter.unusedVariables false
open Go Go.Proofs Go.RowKit
namespace HS
open Go.Ev
set_option maxRecDepth 1000000
namespace Fv
theorem c157 : chk t156 185 F157 = true := by kernel_rfl
theorem c158 : chk t157 185 F158 = true := by kernel_rfl
theorem c159 : chk t158 185 F159 = true := by kernel_rfl
theorem c160 : chk t159 185 F160 = true := by kernel_rfl
theorem c161 : chk t160 43 F161 = true := by kernel_rfl
theorem c162 : chk t161 179 F162 = true := by kernel_rfl
theorem c163 : chk t162 191 F163 = true := by kernel_rfl
theorem c164 : chk t163 179 F164 = true := by kernel_rfl
theorem c165 : chk t164 191 F165 = true := by kernel_rfl
theorem c166 : chk t165 179 F166 = true := by kernel_rfl
end Fv
end HS
