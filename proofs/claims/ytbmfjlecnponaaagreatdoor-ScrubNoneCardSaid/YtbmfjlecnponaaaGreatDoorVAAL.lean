import Derived.Test.YtbmfjlecnponaaaGreatDoorVAAJ
set_option maxHeartbeats 8000000
set_option linter.unusedSimpArgs false
set_option linter.unusedVariables false
open Go Go.Proofs Go.RowKit
namespace HS
open Go.Ev
set_option maxRecDepth 1000000
namespace Fs
theorem c12 : chk t11 250 F12 = true := by kernel_rfl
theorem c13 : chk t12 174 F13 = true := by kernel_rfl
theorem c14 : chk t13 250 F14 = true := by kernel_rfl
theorem c15 : chk t14 174 F15 = true := by kernel_rfl
theorem c16 : chk t15 250 F16 = true := by kernel_rfl
theorem c17 : chk t16 168 F17 = true := by kernel_rfl
theorem c18 : chk t17 96 F18 = true := by kernel_rfl
theorem c19 : chk t18 275 F19 = true := by kernel_rfl
theorem c20 : chk t19 275 F20 = true := by kernel_rfl
end Fs
end HS
