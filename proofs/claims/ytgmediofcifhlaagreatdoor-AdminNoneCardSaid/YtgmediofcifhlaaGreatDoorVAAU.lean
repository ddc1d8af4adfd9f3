import Derived.Test.YtgmediofcifhlaaGreatDoorVAAJ
set_option maxHeartbeats 8000000
set_option linter.unusedSimpArgs false
set_option linter.unusedVariables false
open Go Go.Proofs Go.RowKit
namespace HS
open Go.Ev
set_option maxRecDepth 1000000
namespace Fq
theorem c114 : chk t113 134 F114 = true := by kernel_rfl
theorem c115 : chk t114 196 F115 = true := by kernel_rfl
theorem c116 : chk t115 162 F116 = true := by kernel_rfl
theorem c117 : chk t116 162 F117 = true := by kernel_rfl
theorem c118 : chk t117 305 F118 = true := by kernel_rfl
theorem c119 : chk t118 162 F119 = true := by kernel_rfl
theorem c120 : chk t119 162 F120 = true := by kernel_rfl
theorem c121 : chk t120 251 F121 = true := by kernel_rfl
theorem c122 : chk t121 156 F122 = true := by kernel_rfl
theorem c123 : chk t122 157 F123 = true := by kernel_rfl
theorem c124 : chk t123 156 F124 = true := by kernel_rfl
end Fq
end HS
