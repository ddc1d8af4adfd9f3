import Derived.Test.YtbamianefacbgaaGreatDoorVBAB
set_option maxHeartbeats 8000000
set_option linter.unusedSimpArgs false
set_option linter.unusedVariables false
open Go Go.Proofs Go.RowKit
namespace HS
open Go.Ev
set_option maxRecDepth 1000000
namespace Fr
theorem c126 : chk t125 136 F126 = true := by kernel_rfl
theorem c127 : chk t126 353 F127 = true := by kernel_rfl
theorem c128 : chk t127 353 F128 = true := by kernel_rfl
theorem c129 : chk t128 65 F129 = true := by kernel_rfl
theorem c130 : chk t129 21 F130 = true := by kernel_rfl
theorem c131 : chk t130 179 F131 = true := by kernel_rfl
theorem c132 : chk t131 179 F132 = true := by kernel_rfl
theorem c133 : chk t132 179 F133 = true := by kernel_rfl
theorem c134 : chk t133 179 F134 = true := by kernel_rfl
theorem c135 : chk t134 179 F135 = true := by kernel_rfl
theorem c136 : chk t135 179 F136 = true := by kernel_rfl
theorem c137 : chk t136 134 F137 = true := by kernel_rfl
theorem c138 : chk t137 68 F138 = true := by kernel_rfl
end Fr
end HS
