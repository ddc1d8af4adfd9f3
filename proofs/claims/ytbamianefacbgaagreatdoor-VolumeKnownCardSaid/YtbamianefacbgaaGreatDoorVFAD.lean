import Derived.Test.YtbamianefacbgaaGreatDoorVCAB
set_option maxHeartbeats 8000000
set_option linter.unusedSimpArgs false
set_option linter.unusedVariables false
open Go Go.Proofs Go.RowKit
namespace HS
open Go.Ev
set_option maxRecDepth 1000000
namespace Fv
theorem c132 : chk t131 179 F132 = true := by kernel_rfl
theorem c133 : chk t132 179 F133 = true := by kernel_rfl
theorem c134 : chk t133 17 F134 = true := by kernel_rfl
theorem c135 : chk t134 132 F135 = true := by kernel_rfl
theorem c136 : chk t135 185 F136 = true := by kernel_rfl
theorem c137 : chk t136 185 F137 = true := by kernel_rfl
theorem c138 : chk t137 275 F138 = true := by kernel_rfl
theorem c139 : chk t138 185 F139 = true := by kernel_rfl
theorem c140 : chk t139 185 F140 = true := by kernel_rfl
theorem c141 : chk t140 214 F141 = true := by kernel_rfl
theorem c142 : chk t141 179 F142 = true := by kernel_rfl
theorem c143 : chk t142 191 F143 = true := by kernel_rfl
theorem c144 : chk t143 179 F144 = true := by kernel_rfl
end Fv
end HS
