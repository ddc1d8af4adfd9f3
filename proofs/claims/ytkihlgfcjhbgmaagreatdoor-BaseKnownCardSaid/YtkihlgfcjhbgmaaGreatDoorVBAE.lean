import Derived.Test.YtkihlgfcjhbgmaaGreatDoorVBAA
set_option maxHeartbeats 8000000
set_option linter.unusedSimpArgs false
set_option linter.unusedVariables false
open Go Go.Proofs Go.RowKit
namespace HS
open Go.Ev
set_option maxRecDepth 1000000
namespace Fb
theorem c35 : chk t34 416 F35 = true := by kernel_rfl
theorem c36 : chk t35 244 F36 = true := by kernel_rfl
theorem c37 : chk t36 527 F37 = true := by kernel_rfl
theorem c38 : chk t37 124 F38 = true := by kernel_rfl
theorem c39 : chk t38 9 F39 = true := by kernel_rfl
theorem c40 : chk t39 480 F40 = true := by kernel_rfl
theorem c41 : chk t40 480 F41 = true := by kernel_rfl
theorem c42 : chk t41 480 F42 = true := by kernel_rfl
theorem c43 : chk t42 480 F43 = true := by kernel_rfl
theorem c44 : chk t43 195 F44 = true := by kernel_rfl
theorem c45 : chk t44 425 F45 = true := by kernel_rfl
theorem c46 : chk t45 143 F46 = true := by kernel_rfl
end Fb
end HS
