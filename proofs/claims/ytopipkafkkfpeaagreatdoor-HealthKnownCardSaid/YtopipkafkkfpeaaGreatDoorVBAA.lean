import Derived.Test.YtopipkafkkfpeaaGreatDoorVAAJ
set_option maxHeartbeats 8000000
set_option linter.unusedSimpArgs false
set_option linter.unusedVariables false
open Go Go.Proofs Go.RowKit
namespace HS
open Go.Ev
set_option maxRecDepth 1000000
namespace Fh
theorem c86 : chk t85 24 F86 = true := by kernel_rfl
theorem c87 : chk t86 7 F87 = true := by kernel_rfl
theorem c88 : chk t87 166 F88 = true := by kernel_rfl
theorem c89 : chk t88 166 F89 = true := by kernel_rfl
theorem c90 : chk t89 166 F90 = true := by kernel_rfl
theorem c91 : chk t90 166 F91 = true := by kernel_rfl
theorem c92 : chk t91 166 F92 = true := by kernel_rfl
theorem c93 : chk t92 166 F93 = true := by kernel_rfl
theorem c94 : chk t93 107 F94 = true := by kernel_rfl
theorem c95 : chk t94 124 F95 = true := by kernel_rfl
theorem c96 : chk t95 24 F96 = true := by kernel_rfl
theorem c97 : chk t96 6 F97 = true := by kernel_rfl
theorem c98 : chk t97 5 F98 = true := by kernel_rfl
theorem c99 : chk t98 7 F99 = true := by kernel_rfl
end Fh
end HS
