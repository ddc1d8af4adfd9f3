import Derived.Test.YtgmediofcifhlaaGreatDoorVAAJ
set_option maxHeartbeats 8000000
set_option linter.unusedSimpArgs false
set_option linter.unusedVariables false
open Go Go.Proofs Go.RowKit
namespace HS
open Go.Ev
set_option maxRecDepth 1000000
namespace Fq
theorem c92 : chk t91 199 F92 = true := by kernel_rfl
theorem c93 : chk t92 223 F93 = true := by kernel_rfl
theorem c94 : chk t93 146 F94 = true := by kernel_rfl
theorem c95 : chk t94 23 F95 = true := by kernel_rfl
theorem c96 : chk t95 156 F96 = true := by kernel_rfl
theorem c97 : chk t96 156 F97 = true := by kernel_rfl
theorem c98 : chk t97 156 F98 = true := by kernel_rfl
theorem c99 : chk t98 162 F99 = true := by kernel_rfl
theorem c100 : chk t99 162 F100 = true := by kernel_rfl
theorem c101 : chk t100 162 F101 = true := by kernel_rfl
theorem c102 : chk t101 162 F102 = true := by kernel_rfl
theorem c103 : chk t102 132 F103 = true := by kernel_rfl
theorem c104 : chk t103 156 F104 = true := by kernel_rfl
end Fq
end HS
