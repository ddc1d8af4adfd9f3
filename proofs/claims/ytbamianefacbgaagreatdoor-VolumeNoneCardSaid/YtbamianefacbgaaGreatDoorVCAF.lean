import Derived.Test.YtbamianefacbgaaGreatDoorVCAB
set_option maxHeartbeats 8000000
set_option linter.unusedSimpArgs false
set_option linter.unusedVariables false
open Go Go.Proofs Go.RowKit
namespace HS
open Go.Ev
set_option maxRecDepth 1000000
namespace Fv
theorem c36 : chk t35 136 F36 = true := by kernel_rfl
theorem c37 : chk t36 292 F37 = true := by kernel_rfl
theorem c38 : chk t37 65 F38 = true := by kernel_rfl
theorem c39 : chk t38 21 F39 = true := by kernel_rfl
theorem c40 : chk t39 14 F40 = true := by kernel_rfl
theorem c41 : chk t40 17 F41 = true := by kernel_rfl
theorem c42 : chk t41 185 F42 = true := by kernel_rfl
theorem c43 : chk t42 185 F43 = true := by kernel_rfl
theorem c44 : chk t43 185 F44 = true := by kernel_rfl
theorem c45 : chk t44 185 F45 = true := by kernel_rfl
theorem c46 : chk t45 43 F46 = true := by kernel_rfl
theorem c47 : chk t46 179 F47 = true := by kernel_rfl
end Fv
end HS
