import Derived.Test.YtbamianefacbgaaGreatDoorVBAB
set_option maxHeartbeats 8000000
set_option linter.unusedSimpArgs false
set_option linter.unusedVariables false
open Go Go.Proofs Go.RowKit
namespace HS
open Go.Ev
set_option maxRecDepth 1000000
namespace Fr
theorem c150 : chk t149 191 F150 = true := by kernel_rfl
theorem c151 : chk t150 179 F151 = true := by kernel_rfl
theorem c152 : chk t151 179 F152 = true := by kernel_rfl
theorem c153 : chk t152 179 F153 = true := by kernel_rfl
theorem c154 : chk t153 134 F154 = true := by kernel_rfl
theorem c155 : chk t154 223 F155 = true := by kernel_rfl
theorem c156 : chk t155 136 F156 = true := by kernel_rfl
theorem c157 : chk t156 353 F157 = true := by kernel_rfl
theorem c158 : chk t157 353 F158 = true := by kernel_rfl
theorem c159 : chk t158 142 F159 = true := by kernel_rfl
theorem c160 : chk t159 21 F160 = true := by kernel_rfl
theorem c161 : chk t160 22 F161 = true := by kernel_rfl
end Fr
end HS
