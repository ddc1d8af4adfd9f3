import Derived.Test.YtbamianefacbgaaGreatDoorVCAB
set_option maxHeartbeats 8000000
set_option linter.unusedSimpArgs false
set_option linter.unusedVariables false
open Go Go.Proofs Go.RowKit
namespace HS
open Go.Ev
set_option maxRecDepth 1000000
namespace Fv
theorem c76 : chk t75 191 F76 = true := by kernel_rfl
theorem c77 : chk t76 179 F77 = true := by kernel_rfl
theorem c78 : chk t77 191 F78 = true := by kernel_rfl
theorem c79 : chk t78 179 F79 = true := by kernel_rfl
theorem c80 : chk t79 179 F80 = true := by kernel_rfl
theorem c81 : chk t80 179 F81 = true := by kernel_rfl
theorem c82 : chk t81 134 F82 = true := by kernel_rfl
theorem c83 : chk t82 285 F83 = true := by kernel_rfl
theorem c84 : chk t83 223 F84 = true := by kernel_rfl
theorem c85 : chk t84 136 F85 = true := by kernel_rfl
theorem c86 : chk t85 292 F86 = true := by kernel_rfl
theorem c87 : chk t86 225 F87 = true := by kernel_rfl
end Fv
end HS
