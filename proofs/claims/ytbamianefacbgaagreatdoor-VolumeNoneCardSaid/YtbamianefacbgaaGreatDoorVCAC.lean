import Derived.Test.YtbamianefacbgaaGreatDoorVCAB
set_option maxHeartbeats 8000000
set_option linter.unusedSimpArgs false
set_option linter.unusedVariables false
open Go Go.Proofs Go.RowKit
namespace HS
open Go.Ev
set_option maxRecDepth 1000000
namespace Fv
theorem c1 : chk T0 155 F1 = true := by kernel_rfl
theorem c2 : chk t1 155 F2 = true := by kernel_rfl
theorem c3 : chk t2 292 F3 = true := by kernel_rfl
theorem c4 : chk t3 171 F4 = true := by kernel_rfl
theorem c5 : chk t4 171 F5 = true := by kernel_rfl
theorem c6 : chk t5 185 F6 = true := by kernel_rfl
theorem c7 : chk t6 185 F7 = true := by kernel_rfl
theorem c8 : chk t7 275 F8 = true := by kernel_rfl
theorem c9 : chk t8 185 F9 = true := by kernel_rfl
theorem c10 : chk t9 185 F10 = true := by kernel_rfl
theorem c11 : chk t10 214 F11 = true := by kernel_rfl
theorem c12 : chk t11 179 F12 = true := by kernel_rfl
theorem c13 : chk t12 191 F13 = true := by kernel_rfl
end Fv
end HS
