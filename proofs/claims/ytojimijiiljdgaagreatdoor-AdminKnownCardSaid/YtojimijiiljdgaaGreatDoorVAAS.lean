import Derived.Test.YtojimijiiljdgaaGreatDoorVAAJ
set_option maxHeartbeats 8000000
set_option linter.unusedSimpArgs false
set_option linter.unusedVariables false
open Go Go.Proofs Go.RowKit
namespace HS
open Go.Ev
set_option maxRecDepth 1000000
namespace Fa
theorem c92 : chk t91 207 F92 = true := by kernel_rfl
theorem c93 : chk t92 226 F93 = true := by kernel_rfl
theorem c94 : chk t93 158 F94 = true := by kernel_rfl
theorem c95 : chk t94 31 F95 = true := by kernel_rfl
theorem c96 : chk t95 161 F96 = true := by kernel_rfl
theorem c97 : chk t96 161 F97 = true := by kernel_rfl
theorem c98 : chk t97 161 F98 = true := by kernel_rfl
theorem c99 : chk t98 169 F99 = true := by kernel_rfl
theorem c100 : chk t99 169 F100 = true := by kernel_rfl
theorem c101 : chk t100 169 F101 = true := by kernel_rfl
theorem c102 : chk t101 169 F102 = true := by kernel_rfl
theorem c103 : chk t102 58 F103 = true := by kernel_rfl
theorem c104 : chk t103 161 F104 = true := by kernel_rfl
end Fa
end HS
