import Derived.Test.YtojimijiiljdgaaGreatDoorVAAJ
set_option maxHeartbeats 8000000
set_option linter.unusedSimpArgs false
set_option linter.unusedVariables false
open Go Go.Proofs Go.RowKit
namespace HS
open Go.Ev
set_option maxRecDepth 1000000
namespace Fa
theorem c136 : chk t135 207 F136 = true := by kernel_rfl
theorem c137 : chk t136 226 F137 = true := by kernel_rfl
theorem c138 : chk t137 172 F138 = true := by kernel_rfl
theorem c139 : chk t138 158 F139 = true := by kernel_rfl
theorem c140 : chk t139 55 F140 = true := by kernel_rfl
theorem c141 : chk t140 4 F141 = true := by kernel_rfl
theorem c142 : chk t141 161 F142 = true := by kernel_rfl
theorem c143 : chk t142 161 F143 = true := by kernel_rfl
theorem c144 : chk t143 161 F144 = true := by kernel_rfl
theorem c145 : chk t144 161 F145 = true := by kernel_rfl
theorem c146 : chk t145 161 F146 = true := by kernel_rfl
theorem c147 : chk t146 161 F147 = true := by kernel_rfl
theorem c148 : chk t147 11 F148 = true := by kernel_rfl
theorem c149 : chk t148 161 F149 = true := by kernel_rfl
theorem c150 : chk t149 161 F150 = true := by kernel_rfl
end Fa
end HS
