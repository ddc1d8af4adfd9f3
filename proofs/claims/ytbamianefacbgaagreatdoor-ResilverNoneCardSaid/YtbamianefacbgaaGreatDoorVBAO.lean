import Derived.Test.YtbamianefacbgaaGreatDoorVBAB
set_option maxHeartbeats 8000000
set_option linter.unusedSimpArgs false
set_option linter.unusedVariables false
open Go Go.Proofs Go.RowKit
namespace HS
open Go.Ev
set_option maxRecDepth 1000000
namespace Fr
theorem c139 : chk t138 185 F139 = true := by kernel_rfl
theorem c140 : chk t139 185 F140 = true := by kernel_rfl
theorem c141 : chk t140 275 F141 = true := by kernel_rfl
theorem c142 : chk t141 185 F142 = true := by kernel_rfl
theorem c143 : chk t142 185 F143 = true := by kernel_rfl
theorem c144 : chk t143 214 F144 = true := by kernel_rfl
theorem c145 : chk t144 179 F145 = true := by kernel_rfl
theorem c146 : chk t145 191 F146 = true := by kernel_rfl
theorem c147 : chk t146 179 F147 = true := by kernel_rfl
theorem c148 : chk t147 191 F148 = true := by kernel_rfl
theorem c149 : chk t148 179 F149 = true := by kernel_rfl
end Fr
end HS
