import Derived.Test.YtbamianefacbgaaGreatDoorVCAB
set_option maxHeartbeats 8000000
set_option linter.unusedSimpArgs false
set_option linter.unusedVariables false
open Go Go.Proofs Go.RowKit
namespace HS
open Go.Ev
set_option maxRecDepth 1000000
namespace Fv
theorem c113 : chk t112 191 F113 = true := by kernel_rfl
theorem c114 : chk t113 179 F114 = true := by kernel_rfl
theorem c115 : chk t114 191 F115 = true := by kernel_rfl
theorem c116 : chk t115 179 F116 = true := by kernel_rfl
theorem c117 : chk t116 191 F117 = true := by kernel_rfl
theorem c118 : chk t117 179 F118 = true := by kernel_rfl
theorem c119 : chk t118 191 F119 = true := by kernel_rfl
theorem c120 : chk t119 179 F120 = true := by kernel_rfl
end Fv
end HS
