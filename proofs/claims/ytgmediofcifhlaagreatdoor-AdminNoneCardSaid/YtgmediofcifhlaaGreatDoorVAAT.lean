import Derived.Test.YtgmediofcifhlaaGreatDoorVAAJ
set_option maxHeartbeats 8000000
set_option linter.unusedSimpArgs false
set_option linter.unusedVariables false
open Go Go.Proofs Go.RowKit
namespace HS
open Go.Ev
set_option maxRecDepth 1000000
namespace Fq
theorem c105 : chk t104 156 F105 = true := by kernel_rfl
theorem c106 : chk t105 156 F106 = true := by kernel_rfl
theorem c107 : chk t106 156 F107 = true := by kernel_rfl
theorem c108 : chk t107 157 F108 = true := by kernel_rfl
theorem c109 : chk t108 156 F109 = true := by kernel_rfl
theorem c110 : chk t109 157 F110 = true := by kernel_rfl
theorem c111 : chk t110 156 F111 = true := by kernel_rfl
theorem c112 : chk t111 157 F112 = true := by kernel_rfl
theorem c113 : chk t112 227 F113 = true := by kernel_rfl
end Fq
end HS
