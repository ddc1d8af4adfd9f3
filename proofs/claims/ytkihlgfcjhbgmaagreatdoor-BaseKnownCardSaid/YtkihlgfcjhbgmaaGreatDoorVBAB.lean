import Derived.Test.YtkihlgfcjhbgmaaGreatDoorVBAA
set_option maxHeartbeats 8000000
set_option linter.unusedSimpArgs false
set_option linter.unusedVariables false
open Go Go.Proofs Go.RowKit
namespace HS
open Go.Ev
set_option maxRecDepth 1000000
namespace Fb
theorem c1 : chk T0 239 F1 = true := by kernel_rfl
theorem c2 : chk t1 239 F2 = true := by kernel_rfl
theorem c3 : chk t2 527 F3 = true := by kernel_rfl
theorem c4 : chk t3 417 F4 = true := by kernel_rfl
theorem c5 : chk t4 417 F5 = true := by kernel_rfl
theorem c6 : chk t5 480 F6 = true := by kernel_rfl
theorem c7 : chk t6 480 F7 = true := by kernel_rfl
theorem c8 : chk t7 594 F8 = true := by kernel_rfl
theorem c9 : chk t8 480 F9 = true := by kernel_rfl
theorem c10 : chk t9 480 F10 = true := by kernel_rfl
theorem c11 : chk t10 536 F11 = true := by kernel_rfl
theorem c12 : chk t11 425 F12 = true := by kernel_rfl
theorem c13 : chk t12 143 F13 = true := by kernel_rfl
end Fb
end HS
