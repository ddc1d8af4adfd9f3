import Derived.Test.YtbamianefacbgaaGreatDoorVBAB
set_option maxHeartbeats 8000000
set_option linter.unusedSimpArgs false
set_option linter.unusedVariables false
open Go Go.Proofs Go.RowKit
namespace HS
open Go.Ev
set_option maxRecDepth 1000000
namespace Fr
theorem c89 : chk t88 179 F89 = true := by kernel_rfl
theorem c90 : chk t89 134 F90 = true := by kernel_rfl
theorem c91 : chk t90 223 F91 = true := by kernel_rfl
theorem c92 : chk t91 136 F92 = true := by kernel_rfl
theorem c93 : chk t92 353 F93 = true := by kernel_rfl
theorem c94 : chk t93 353 F94 = true := by kernel_rfl
theorem c95 : chk t94 65 F95 = true := by kernel_rfl
theorem c96 : chk t95 21 F96 = true := by kernel_rfl
theorem c97 : chk t96 179 F97 = true := by kernel_rfl
theorem c98 : chk t97 179 F98 = true := by kernel_rfl
theorem c99 : chk t98 179 F99 = true := by kernel_rfl
theorem c100 : chk t99 237 F100 = true := by kernel_rfl
theorem c101 : chk t100 237 F101 = true := by kernel_rfl
theorem c102 : chk t101 237 F102 = true := by kernel_rfl
end Fr
end HS
