import Derived.Test.YtbamianefacbgaaGreatDoorVBAB
set_option maxHeartbeats 8000000
set_option linter.unusedSimpArgs false
set_option linter.unusedVariables false
open Go Go.Proofs Go.RowKit
namespace HS
open Go.Ev
set_option maxRecDepth 1000000
namespace Fr
theorem c34 : chk t33 179 F34 = true := by kernel_rfl
theorem c35 : chk t34 191 F35 = true := by kernel_rfl
theorem c36 : chk t35 223 F36 = true := by kernel_rfl
theorem c37 : chk t36 136 F37 = true := by kernel_rfl
theorem c38 : chk t37 63 F38 = true := by kernel_rfl
theorem c39 : chk t38 353 F39 = true := by kernel_rfl
theorem c40 : chk t39 353 F40 = true := by kernel_rfl
theorem c41 : chk t40 65 F41 = true := by kernel_rfl
theorem c42 : chk t41 76 F42 = true := by kernel_rfl
theorem c43 : chk t42 185 F43 = true := by kernel_rfl
theorem c44 : chk t43 185 F44 = true := by kernel_rfl
theorem c45 : chk t44 185 F45 = true := by kernel_rfl
end Fr
end HS
