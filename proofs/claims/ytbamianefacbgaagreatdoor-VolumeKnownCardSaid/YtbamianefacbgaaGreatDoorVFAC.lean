import Derived.Test.YtbamianefacbgaaGreatDoorVCAB
set_option maxHeartbeats 8000000
set_option linter.unusedSimpArgs false
set_option linter.unusedVariables false
open Go Go.Proofs Go.RowKit
namespace HS
open Go.Ev
set_option maxRecDepth 1000000
namespace Fv
theorem c121 : chk t120 191 F121 = true := by kernel_rfl
theorem c122 : chk t121 179 F122 = true := by kernel_rfl
theorem c123 : chk t122 191 F123 = true := by kernel_rfl
theorem c124 : chk t123 134 F124 = true := by kernel_rfl
theorem c125 : chk t124 223 F125 = true := by kernel_rfl
theorem c126 : chk t125 136 F126 = true := by kernel_rfl
theorem c127 : chk t126 292 F127 = true := by kernel_rfl
theorem c128 : chk t127 225 F128 = true := by kernel_rfl
theorem c129 : chk t128 21 F129 = true := by kernel_rfl
theorem c130 : chk t129 40 F130 = true := by kernel_rfl
theorem c131 : chk t130 179 F131 = true := by kernel_rfl
end Fv
end HS
