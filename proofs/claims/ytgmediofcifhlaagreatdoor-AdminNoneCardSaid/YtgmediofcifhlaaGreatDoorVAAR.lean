import Derived.Test.YtgmediofcifhlaaGreatDoorVAAJ
set_option maxHeartbeats 8000000
set_option linter.unusedSimpArgs false
set_option linter.unusedVariables false
open Go Go.Proofs Go.RowKit
namespace HS
open Go.Ev
set_option maxRecDepth 1000000
namespace Fq
theorem c82 : chk t81 157 F82 = true := by kernel_rfl
theorem c83 : chk t82 156 F83 = true := by kernel_rfl
theorem c84 : chk t83 157 F84 = true := by kernel_rfl
theorem c85 : chk t84 156 F85 = true := by kernel_rfl
theorem c86 : chk t85 157 F86 = true := by kernel_rfl
theorem c87 : chk t86 156 F87 = true := by kernel_rfl
theorem c88 : chk t87 156 F88 = true := by kernel_rfl
theorem c89 : chk t88 156 F89 = true := by kernel_rfl
theorem c90 : chk t89 173 F90 = true := by kernel_rfl
theorem c91 : chk t90 257 F91 = true := by kernel_rfl
end Fq
end HS
