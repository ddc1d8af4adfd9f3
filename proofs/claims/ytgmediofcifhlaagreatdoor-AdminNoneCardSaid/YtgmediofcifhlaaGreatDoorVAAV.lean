import Derived.Test.YtgmediofcifhlaaGreatDoorVAAJ
set_option maxHeartbeats 8000000
set_option linter.unusedSimpArgs false
set_option linter.unusedVariables false
open Go Go.Proofs Go.RowKit
namespace HS
open Go.Ev
set_option maxRecDepth 1000000
namespace Fq
theorem c125 : chk t124 157 F125 = true := by kernel_rfl
theorem c126 : chk t125 156 F126 = true := by kernel_rfl
theorem c127 : chk t126 157 F127 = true := by kernel_rfl
theorem c128 : chk t127 156 F128 = true := by kernel_rfl
theorem c129 : chk t128 156 F129 = true := by kernel_rfl
theorem c130 : chk t129 156 F130 = true := by kernel_rfl
theorem c131 : chk t130 156 F131 = true := by kernel_rfl
theorem c132 : chk t131 156 F132 = true := by kernel_rfl
theorem c133 : chk t132 156 F133 = true := by kernel_rfl
theorem c134 : chk t133 173 F134 = true := by kernel_rfl
theorem c135 : chk t134 257 F135 = true := by kernel_rfl
end Fq
end HS
