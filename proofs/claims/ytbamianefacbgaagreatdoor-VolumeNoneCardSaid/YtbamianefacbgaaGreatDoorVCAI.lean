import Derived.Test.YtbamianefacbgaaGreatDoorVCAB
set_option maxHeartbeats 8000000
set_option linter.unusedSimpArgs false
set_option linter.unusedVariables false
open Go Go.Proofs Go.RowKit
namespace HS
open Go.Ev
set_option maxRecDepth 1000000
namespace Fv
theorem c66 : chk t65 132 F66 = true := by kernel_rfl
theorem c67 : chk t66 185 F67 = true := by kernel_rfl
theorem c68 : chk t67 185 F68 = true := by kernel_rfl
theorem c69 : chk t68 275 F69 = true := by kernel_rfl
theorem c70 : chk t69 185 F70 = true := by kernel_rfl
theorem c71 : chk t70 185 F71 = true := by kernel_rfl
theorem c72 : chk t71 214 F72 = true := by kernel_rfl
theorem c73 : chk t72 179 F73 = true := by kernel_rfl
theorem c74 : chk t73 191 F74 = true := by kernel_rfl
theorem c75 : chk t74 179 F75 = true := by kernel_rfl
end Fv
end HS
