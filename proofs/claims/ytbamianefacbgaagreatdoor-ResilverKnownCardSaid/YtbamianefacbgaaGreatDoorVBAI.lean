import Derived.Test.YtbamianefacbgaaGreatDoorVBAB
set_option maxHeartbeats 8000000
set_option linter.unusedSimpArgs false
set_option linter.unusedVariables false
open Go Go.Proofs Go.RowKit
namespace HS
open Go.Ev
set_option maxRecDepth 1000000
namespace Fr
theorem c65 : chk t64 191 F65 = true := by kernel_rfl
theorem c66 : chk t65 134 F66 = true := by kernel_rfl
theorem c67 : chk t66 223 F67 = true := by kernel_rfl
theorem c68 : chk t67 136 F68 = true := by kernel_rfl
theorem c69 : chk t68 353 F69 = true := by kernel_rfl
theorem c70 : chk t69 353 F70 = true := by kernel_rfl
theorem c71 : chk t70 142 F71 = true := by kernel_rfl
theorem c72 : chk t71 21 F72 = true := by kernel_rfl
theorem c73 : chk t72 155 F73 = true := by kernel_rfl
theorem c74 : chk t73 171 F74 = true := by kernel_rfl
theorem c75 : chk t74 185 F75 = true := by kernel_rfl
theorem c76 : chk t75 185 F76 = true := by kernel_rfl
end Fr
end HS
