import Derived.Test.YtbamianefacbgaaGreatDoorVBAB
set_option maxHeartbeats 8000000
set_option linter.unusedSimpArgs false
set_option linter.unusedVariables false
open Go Go.Proofs Go.RowKit
namespace HS
open Go.Ev
set_option maxRecDepth 1000000
namespace Fr
theorem c77 : chk t76 275 F77 = true := by kernel_rfl
theorem c78 : chk t77 185 F78 = true := by kernel_rfl
theorem c79 : chk t78 185 F79 = true := by kernel_rfl
theorem c80 : chk t79 214 F80 = true := by kernel_rfl
theorem c81 : chk t80 179 F81 = true := by kernel_rfl
theorem c82 : chk t81 191 F82 = true := by kernel_rfl
theorem c83 : chk t82 179 F83 = true := by kernel_rfl
theorem c84 : chk t83 191 F84 = true := by kernel_rfl
theorem c85 : chk t84 179 F85 = true := by kernel_rfl
theorem c86 : chk t85 191 F86 = true := by kernel_rfl
theorem c87 : chk t86 179 F87 = true := by kernel_rfl
theorem c88 : chk t87 179 F88 = true := by kernel_rfl
end Fr
end HS
