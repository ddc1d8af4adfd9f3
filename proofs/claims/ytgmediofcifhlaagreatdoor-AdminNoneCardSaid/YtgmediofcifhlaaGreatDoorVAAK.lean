import Derived.Test.YtgmediofcifhlaaGreatDoorVAAJ
set_option maxHeartbeats 8000000
set_option linter.unusedSimpArgs false
set_option linter.unusedVariables false
open Go Go.Proofs Go.RowKit
namespace HS
open Go.Ev
set_option maxRecDepth 1000000
namespace Fq
theorem c1 : chk T0 240 F1 = true := by kernel_rfl
theorem c2 : chk t1 240 F2 = true := by kernel_rfl
theorem c3 : chk t2 223 F3 = true := by kernel_rfl
theorem c4 : chk t3 343 F4 = true := by kernel_rfl
theorem c5 : chk t4 343 F5 = true := by kernel_rfl
theorem c6 : chk t5 162 F6 = true := by kernel_rfl
theorem c7 : chk t6 162 F7 = true := by kernel_rfl
theorem c8 : chk t7 305 F8 = true := by kernel_rfl
theorem c9 : chk t8 162 F9 = true := by kernel_rfl
theorem c10 : chk t9 162 F10 = true := by kernel_rfl
theorem c11 : chk t10 251 F11 = true := by kernel_rfl
theorem c12 : chk t11 156 F12 = true := by kernel_rfl
theorem c13 : chk t12 157 F13 = true := by kernel_rfl
end Fq
end HS
