import Derived.Test.YtojimijiiljdgaaGreatDoorVAAJ
set_option maxHeartbeats 8000000
set_option linter.unusedSimpArgs false
set_option linter.unusedVariables false
open Go Go.Proofs Go.RowKit
namespace HS
open Go.Ev
set_option maxRecDepth 1000000
namespace Fa
theorem c125 : chk t124 165 F125 = true := by kernel_rfl
theorem c126 : chk t125 161 F126 = true := by kernel_rfl
theorem c127 : chk t126 165 F127 = true := by kernel_rfl
theorem c128 : chk t127 161 F128 = true := by kernel_rfl
theorem c129 : chk t128 161 F129 = true := by kernel_rfl
theorem c130 : chk t129 161 F130 = true := by kernel_rfl
theorem c131 : chk t130 161 F131 = true := by kernel_rfl
theorem c132 : chk t131 161 F132 = true := by kernel_rfl
theorem c133 : chk t132 161 F133 = true := by kernel_rfl
theorem c134 : chk t133 144 F134 = true := by kernel_rfl
theorem c135 : chk t134 265 F135 = true := by kernel_rfl
end Fa
end HS
