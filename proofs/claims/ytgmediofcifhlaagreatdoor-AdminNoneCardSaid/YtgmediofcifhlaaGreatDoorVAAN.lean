import Derived.Test.YtgmediofcifhlaaGreatDoorVAAJ
set_option maxHeartbeats 8000000
set_option linter.unusedSimpArgs false
set_option linter.unusedVariables false
open Go Go.Proofs Go.RowKit
namespace HS
open Go.Ev
set_option maxRecDepth 1000000
namespace Fq
theorem c35 : chk t34 199 F35 = true := by kernel_rfl
theorem c36 : chk t35 144 F36 = true := by kernel_rfl
theorem c37 : chk t36 223 F37 = true := by kernel_rfl
theorem c38 : chk t37 146 F38 = true := by kernel_rfl
theorem c39 : chk t38 56 F39 = true := by kernel_rfl
theorem c40 : chk t39 162 F40 = true := by kernel_rfl
theorem c41 : chk t40 162 F41 = true := by kernel_rfl
theorem c42 : chk t41 162 F42 = true := by kernel_rfl
theorem c43 : chk t42 162 F43 = true := by kernel_rfl
theorem c44 : chk t43 132 F44 = true := by kernel_rfl
theorem c45 : chk t44 156 F45 = true := by kernel_rfl
theorem c46 : chk t45 157 F46 = true := by kernel_rfl
end Fq
end HS
