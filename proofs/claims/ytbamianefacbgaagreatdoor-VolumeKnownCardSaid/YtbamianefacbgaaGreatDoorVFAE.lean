import Derived.Test.YtbamianefacbgaaGreatDoorVCAB
set_option maxHeartbeats 8000000
set_option linter.unusedSimpArgs false
set_option linter.unusedVariables false
open Go Go.Proofs Go.RowKit
namespace HS
open Go.Ev
set_option maxRecDepth 1000000
namespace Fv
theorem c145 : chk t144 191 F145 = true := by kernel_rfl
theorem c146 : chk t145 179 F146 = true := by kernel_rfl
theorem c147 : chk t146 191 F147 = true := by kernel_rfl
theorem c148 : chk t147 179 F148 = true := by kernel_rfl
theorem c149 : chk t148 179 F149 = true := by kernel_rfl
theorem c150 : chk t149 179 F150 = true := by kernel_rfl
theorem c151 : chk t150 134 F151 = true := by kernel_rfl
theorem c152 : chk t151 223 F152 = true := by kernel_rfl
theorem c153 : chk t152 136 F153 = true := by kernel_rfl
theorem c154 : chk t153 292 F154 = true := by kernel_rfl
theorem c155 : chk t154 65 F155 = true := by kernel_rfl
theorem c156 : chk t155 21 F156 = true := by kernel_rfl
end Fv
end HS
