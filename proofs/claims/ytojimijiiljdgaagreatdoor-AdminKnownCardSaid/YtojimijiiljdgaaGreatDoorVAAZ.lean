import Derived.Test.YtojimijiiljdgaaGreatDoorVAAJ
set_option maxHeartbeats 8000000
set_option linter.unusedSimpArgs false
set_option linter.unusedVariables false
open Go Go.Proofs Go.RowKit
namespace HS
open Go.Ev
set_option maxRecDepth 1000000
namespace Fa
theorem c155 : chk t154 5 F155 = true := by kernel_rfl
theorem c156 : chk t155 204 F156 = true := by kernel_rfl
theorem c157 : chk t156 169 F157 = true := by kernel_rfl
theorem c158 : chk t157 169 F158 = true := by kernel_rfl
theorem c159 : chk t158 333 F159 = true := by kernel_rfl
theorem c160 : chk t159 169 F160 = true := by kernel_rfl
theorem c161 : chk t160 169 F161 = true := by kernel_rfl
theorem c162 : chk t161 259 F162 = true := by kernel_rfl
theorem c163 : chk t162 161 F163 = true := by kernel_rfl
theorem c164 : chk t163 165 F164 = true := by kernel_rfl
theorem c165 : chk t164 161 F165 = true := by kernel_rfl
end Fa
end HS
