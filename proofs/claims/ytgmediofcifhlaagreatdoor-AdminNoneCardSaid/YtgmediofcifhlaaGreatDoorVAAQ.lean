import Derived.Test.YtgmediofcifhlaaGreatDoorVAAJ
set_option maxHeartbeats 8000000
set_option linter.unusedSimpArgs false
set_option linter.unusedVariables false
open Go Go.Proofs Go.RowKit
namespace HS
open Go.Ev
set_option maxRecDepth 1000000
namespace Fq
theorem c68 : chk t67 173 F68 = true := by kernel_rfl
theorem c69 : chk t68 257 F69 = true := by kernel_rfl
theorem c70 : chk t69 199 F70 = true := by kernel_rfl
theorem c71 : chk t70 223 F71 = true := by kernel_rfl
theorem c72 : chk t71 146 F72 = true := by kernel_rfl
theorem c73 : chk t72 67 F73 = true := by kernel_rfl
theorem c74 : chk t73 196 F74 = true := by kernel_rfl
theorem c75 : chk t74 162 F75 = true := by kernel_rfl
theorem c76 : chk t75 162 F76 = true := by kernel_rfl
theorem c77 : chk t76 305 F77 = true := by kernel_rfl
theorem c78 : chk t77 162 F78 = true := by kernel_rfl
theorem c79 : chk t78 162 F79 = true := by kernel_rfl
theorem c80 : chk t79 251 F80 = true := by kernel_rfl
theorem c81 : chk t80 156 F81 = true := by kernel_rfl
end Fq
end HS
