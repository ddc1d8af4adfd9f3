import Derived.Test.YtbamianefacbgaaGreatDoorVBAB
set_option maxHeartbeats 8000000
set_option linter.unusedSimpArgs false
set_option linter.unusedVariables false
open Go Go.Proofs Go.RowKit
namespace HS
open Go.Ev
set_option maxRecDepth 1000000
namespace Fr
theorem c116 : chk t115 191 F116 = true := by kernel_rfl
theorem c117 : chk t116 179 F117 = true := by kernel_rfl
theorem c118 : chk t117 191 F118 = true := by kernel_rfl
theorem c119 : chk t118 179 F119 = true := by kernel_rfl
theorem c120 : chk t119 191 F120 = true := by kernel_rfl
theorem c121 : chk t120 179 F121 = true := by kernel_rfl
theorem c122 : chk t121 179 F122 = true := by kernel_rfl
theorem c123 : chk t122 179 F123 = true := by kernel_rfl
theorem c124 : chk t123 134 F124 = true := by kernel_rfl
theorem c125 : chk t124 223 F125 = true := by kernel_rfl
end Fr
end HS
