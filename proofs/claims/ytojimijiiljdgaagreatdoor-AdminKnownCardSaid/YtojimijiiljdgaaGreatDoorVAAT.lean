import Derived.Test.YtojimijiiljdgaaGreatDoorVAAJ
set_option maxHeartbeats 8000000
set_option linter.unusedSimpArgs false
set_option linter.unusedVariables false
open Go Go.Proofs Go.RowKit
namespace HS
open Go.Ev
set_option maxRecDepth 1000000
namespace Fa
theorem c105 : chk t104 161 F105 = true := by kernel_rfl
theorem c106 : chk t105 161 F106 = true := by kernel_rfl
theorem c107 : chk t106 161 F107 = true := by kernel_rfl
theorem c108 : chk t107 165 F108 = true := by kernel_rfl
theorem c109 : chk t108 161 F109 = true := by kernel_rfl
theorem c110 : chk t109 165 F110 = true := by kernel_rfl
theorem c111 : chk t110 161 F111 = true := by kernel_rfl
theorem c112 : chk t111 165 F112 = true := by kernel_rfl
theorem c113 : chk t112 229 F113 = true := by kernel_rfl
end Fa
end HS
