import Derived.Test.YtbmfjlecnponaaaGreatDoorVAAJ
set_option maxHeartbeats 8000000
set_option linter.unusedSimpArgs false
set_option linter.unusedVariables false
open Go Go.Proofs Go.RowKit
namespace HS
open Go.Ev
set_option maxRecDepth 1000000
namespace Fs
theorem c1 : chk T0 74 F1 = true := by kernel_rfl
theorem c2 : chk t1 74 F2 = true := by kernel_rfl
theorem c3 : chk t2 275 F3 = true := by kernel_rfl
theorem c4 : chk t3 275 F4 = true := by kernel_rfl
theorem c5 : chk t4 257 F5 = true := by kernel_rfl
theorem c6 : chk t5 257 F6 = true := by kernel_rfl
theorem c7 : chk t6 175 F7 = true := by kernel_rfl
theorem c8 : chk t7 159 F8 = true := by kernel_rfl
theorem c9 : chk t8 159 F9 = true := by kernel_rfl
theorem c10 : chk t9 159 F10 = true := by kernel_rfl
theorem c11 : chk t10 174 F11 = true := by kernel_rfl
end Fs
end HS
