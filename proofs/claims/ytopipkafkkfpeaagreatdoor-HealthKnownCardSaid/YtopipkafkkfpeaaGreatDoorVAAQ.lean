import Derived.Test.YtopipkafkkfpeaaGreatDoorVAAJ
set_option maxHeartbeats 8000000
set_option linter.unusedSimpArgs false
set_option linter.unusedVariables false
open Go Go.Proofs Go.RowKit
namespace HS
open Go.Ev
set_option maxRecDepth 1000000
namespace Fh
theorem c66 : chk t65 166 F66 = true := by kernel_rfl
theorem c67 : chk t66 166 F67 = true := by kernel_rfl
theorem c68 : chk t67 107 F68 = true := by kernel_rfl
theorem c69 : chk t68 290 F69 = true := by kernel_rfl
theorem c70 : chk t69 211 F70 = true := by kernel_rfl
theorem c71 : chk t70 271 F71 = true := by kernel_rfl
theorem c72 : chk t71 150 F72 = true := by kernel_rfl
theorem c73 : chk t72 81 F73 = true := by kernel_rfl
theorem c74 : chk t73 166 F74 = true := by kernel_rfl
theorem c75 : chk t74 166 F75 = true := by kernel_rfl
theorem c76 : chk t75 166 F76 = true := by kernel_rfl
theorem c77 : chk t76 166 F77 = true := by kernel_rfl
theorem c78 : chk t77 166 F78 = true := by kernel_rfl
end Fh
end HS
