import Derived.Test.YtbmfjlecnponaaaGreatDoorVAAJ
set_option maxHeartbeats 8000000
set_option linter.unusedSimpArgs false
set_option linter.unusedVariables false
open Go Go.Proofs Go.RowKit
namespace HS
open Go.Ev
set_option maxRecDepth 1000000
namespace Fs
theorem c46 : chk t45 250 F46 = true := by kernel_rfl
theorem c47 : chk t46 174 F47 = true := by kernel_rfl
theorem c48 : chk t47 250 F48 = true := by kernel_rfl
theorem c49 : chk t48 174 F49 = true := by kernel_rfl
theorem c50 : chk t49 250 F50 = true := by kernel_rfl
theorem c51 : chk t50 174 F51 = true := by kernel_rfl
theorem c52 : chk t51 250 F52 = true := by kernel_rfl
theorem c53 : chk t52 94 F53 = true := by kernel_rfl
theorem c54 : chk t53 168 F54 = true := by kernel_rfl
end Fs
end HS
