import Derived.Test.YtojimijiiljdgaaGreatDoorVAAJ
set_option maxHeartbeats 8000000
set_option linter.unusedSimpArgs false
set_option linter.unusedVariables false
open Go Go.Proofs Go.RowKit
namespace HS
open Go.Ev
set_option maxRecDepth 1000000
namespace Fa
theorem c68 : chk t67 144 F68 = true := by kernel_rfl
theorem c69 : chk t68 265 F69 = true := by kernel_rfl
theorem c70 : chk t69 207 F70 = true := by kernel_rfl
theorem c71 : chk t70 226 F71 = true := by kernel_rfl
theorem c72 : chk t71 158 F72 = true := by kernel_rfl
theorem c73 : chk t72 93 F73 = true := by kernel_rfl
theorem c74 : chk t73 204 F74 = true := by kernel_rfl
theorem c75 : chk t74 169 F75 = true := by kernel_rfl
theorem c76 : chk t75 169 F76 = true := by kernel_rfl
theorem c77 : chk t76 333 F77 = true := by kernel_rfl
theorem c78 : chk t77 169 F78 = true := by kernel_rfl
theorem c79 : chk t78 169 F79 = true := by kernel_rfl
theorem c80 : chk t79 259 F80 = true := by kernel_rfl
theorem c81 : chk t80 161 F81 = true := by kernel_rfl
end Fa
end HS
