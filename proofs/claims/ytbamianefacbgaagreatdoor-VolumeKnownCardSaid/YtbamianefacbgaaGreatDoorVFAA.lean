import Derived.Test.YtbamianefacbgaaGreatDoorVCAB
set_option maxHeartbeats 8000000
set_option linter.unusedSimpArgs false
set_option linter.unusedVariables false
open Go Go.Proofs Go.RowKit
namespace HS
open Go.Ev
set_option maxRecDepth 1000000
namespace Fv
theorem c100 : chk t99 40 F100 = true := by kernel_rfl
theorem c101 : chk t100 185 F101 = true := by kernel_rfl
theorem c102 : chk t101 185 F102 = true := by kernel_rfl
theorem c103 : chk t102 105 F103 = true := by kernel_rfl
theorem c104 : chk t103 185 F104 = true := by kernel_rfl
theorem c105 : chk t104 132 F105 = true := by kernel_rfl
theorem c106 : chk t105 185 F106 = true := by kernel_rfl
theorem c107 : chk t106 185 F107 = true := by kernel_rfl
theorem c108 : chk t107 275 F108 = true := by kernel_rfl
theorem c109 : chk t108 185 F109 = true := by kernel_rfl
theorem c110 : chk t109 185 F110 = true := by kernel_rfl
theorem c111 : chk t110 214 F111 = true := by kernel_rfl
theorem c112 : chk t111 179 F112 = true := by kernel_rfl
end Fv
end HS
