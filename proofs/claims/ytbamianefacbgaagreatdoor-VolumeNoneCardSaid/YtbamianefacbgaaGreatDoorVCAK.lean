import Derived.Test.YtbamianefacbgaaGreatDoorVCAB
set_option maxHeartbeats 8000000
set_option linter.unusedSimpArgs false
set_option linter.unusedVariables false
open Go Go.Proofs Go.RowKit
namespace HS
open Go.Ev
set_option maxRecDepth 1000000
namespace Fv
theorem c88 : chk t87 21 F88 = true := by kernel_rfl
theorem c89 : chk t88 12 F89 = true := by kernel_rfl
theorem c90 : chk t89 179 F90 = true := by kernel_rfl
theorem c91 : chk t90 179 F91 = true := by kernel_rfl
theorem c92 : chk t91 179 F92 = true := by kernel_rfl
theorem c93 : chk t92 179 F93 = true := by kernel_rfl
theorem c94 : chk t93 179 F94 = true := by kernel_rfl
theorem c95 : chk t94 17 F95 = true := by kernel_rfl
theorem c96 : chk t95 17 F96 = true := by kernel_rfl
theorem c97 : chk t96 17 F97 = true := by kernel_rfl
theorem c98 : chk t97 8 F98 = true := by kernel_rfl
theorem c99 : saysT (evF (lkt t98) 1000000 (.call 8 [] H0)) = true := by kernel_rfl
end Fv
end HS
