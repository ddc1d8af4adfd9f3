import Derived.Test.YtbmfjlecnponaaaGreatDoorVAAJ
set_option maxHeartbeats 8000000
set_option linter.unusedSimpArgs false
set_option linter.unusedVariables false
open Go Go.Proofs Go.RowKit
namespace HS
open Go.Ev
set_option maxRecDepth 1000000
namespace Fs
theorem c21 : chk t20 18 F21 = true := by kernel_rfl
theorem c22 : chk t21 175 F22 = true := by kernel_rfl
theorem c23 : chk t22 159 F23 = true := by kernel_rfl
theorem c24 : chk t23 159 F24 = true := by kernel_rfl
theorem c25 : chk t24 159 F25 = true := by kernel_rfl
theorem c26 : chk t25 174 F26 = true := by kernel_rfl
theorem c27 : chk t26 250 F27 = true := by kernel_rfl
theorem c28 : chk t27 174 F28 = true := by kernel_rfl
theorem c29 : chk t28 250 F29 = true := by kernel_rfl
end Fs
end HS
