import Derived.Test.YtojimijiiljdgaaGreatDoorVAAJ
set_option maxHeartbeats 8000000
set_option linter.unusedSimpArgs false
set_option linter.unusedVariables false
open Go Go.Proofs Go.RowKit
namespace HS
open Go.Ev
set_option maxRecDepth 1000000
namespace Fa
theorem c114 : chk t113 60 F114 = true := by kernel_rfl
theorem c115 : chk t114 204 F115 = true := by kernel_rfl
theorem c116 : chk t115 169 F116 = true := by kernel_rfl
theorem c117 : chk t116 169 F117 = true := by kernel_rfl
theorem c118 : chk t117 333 F118 = true := by kernel_rfl
theorem c119 : chk t118 169 F119 = true := by kernel_rfl
theorem c120 : chk t119 169 F120 = true := by kernel_rfl
theorem c121 : chk t120 259 F121 = true := by kernel_rfl
theorem c122 : chk t121 161 F122 = true := by kernel_rfl
theorem c123 : chk t122 165 F123 = true := by kernel_rfl
theorem c124 : chk t123 161 F124 = true := by kernel_rfl
end Fa
end HS
