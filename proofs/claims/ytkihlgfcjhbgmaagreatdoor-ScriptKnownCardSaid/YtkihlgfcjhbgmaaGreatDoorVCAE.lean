import Derived.Test.YtkihlgfcjhbgmaaGreatDoorVCAA
set_option maxHeartbeats 8000000
set_option linter.unusedSimpArgs false
set_option linter.unusedVariables false
open Go Go.Proofs Go.RowKit
namespace HS
open Go.Ev
set_option maxRecDepth 1000000
namespace Fs
theorem c35 : chk t34 416 F35 = true := by kernel_rfl
theorem c36 : chk t35 244 F36 = true := by kernel_rfl
theorem c37 : chk t36 527 F37 = true := by kernel_rfl
theorem c38 : chk t37 124 F38 = true := by kernel_rfl
theorem c39 : chk t38 13 F39 = true := by kernel_rfl
theorem c40 : chk t39 19 F40 = true := by kernel_rfl
theorem c41 : chk t40 45 F41 = true := by kernel_rfl
theorem c42 : chk t41 46 F42 = true := by kernel_rfl
theorem c43 : chk t42 46 F43 = true := by kernel_rfl
theorem c44 : chk t43 45 F44 = true := by kernel_rfl
theorem c45 : chk t44 46 F45 = true := by kernel_rfl
theorem c46 : chk t45 46 F46 = true := by kernel_rfl
theorem c47 : chk t46 45 F47 = true := by kernel_rfl
theorem c48 : chk t47 46 F48 = true := by kernel_rfl
end Fs
end HS
