import Derived.Test.YtbamianefacbgaaGreatDoorVBAB
set_option maxHeartbeats 8000000
set_option linter.unusedSimpArgs false
set_option linter.unusedVariables false
open Go Go.Proofs Go.RowKit
namespace HS
open Go.Ev
set_option maxRecDepth 1000000
namespace Fr
theorem c103 : chk t102 349 F103 = true := by kernel_rfl
theorem c104 : chk t103 279 F104 = true := by kernel_rfl
theorem c105 : chk t104 143 F105 = true := by kernel_rfl
theorem c106 : chk t105 68 F106 = true := by kernel_rfl
theorem c107 : chk t106 68 F107 = true := by kernel_rfl
theorem c108 : chk t107 68 F108 = true := by kernel_rfl
theorem c109 : chk t108 185 F109 = true := by kernel_rfl
theorem c110 : chk t109 185 F110 = true := by kernel_rfl
theorem c111 : chk t110 275 F111 = true := by kernel_rfl
theorem c112 : chk t111 185 F112 = true := by kernel_rfl
theorem c113 : chk t112 185 F113 = true := by kernel_rfl
theorem c114 : chk t113 214 F114 = true := by kernel_rfl
theorem c115 : chk t114 179 F115 = true := by kernel_rfl
end Fr
end HS
