import Derived.Test.YtgmediofcifhlaaGreatDoorVAAJ
set_option maxHeartbeats 8000000
set_option linter.unusedSimpArgs false
set_option linter.unusedVariables false
open Go Go.Proofs Go.RowKit
namespace HS
open Go.Ev
set_option maxRecDepth 1000000
namespace Fq
theorem c136 : chk t135 199 F136 = true := by kernel_rfl
theorem c137 : chk t136 223 F137 = true := by kernel_rfl
theorem c138 : chk t137 165 F138 = true := by kernel_rfl
theorem c139 : chk t138 146 F139 = true := by kernel_rfl
theorem c140 : chk t139 129 F140 = true := by kernel_rfl
theorem c141 : chk t140 18 F141 = true := by kernel_rfl
theorem c142 : chk t141 156 F142 = true := by kernel_rfl
theorem c143 : chk t142 156 F143 = true := by kernel_rfl
theorem c144 : chk t143 156 F144 = true := by kernel_rfl
theorem c145 : chk t144 156 F145 = true := by kernel_rfl
theorem c146 : chk t145 156 F146 = true := by kernel_rfl
theorem c147 : chk t146 156 F147 = true := by kernel_rfl
theorem c148 : chk t147 15 F148 = true := by kernel_rfl
theorem c149 : chk t148 156 F149 = true := by kernel_rfl
theorem c150 : chk t149 156 F150 = true := by kernel_rfl
end Fq
end HS
