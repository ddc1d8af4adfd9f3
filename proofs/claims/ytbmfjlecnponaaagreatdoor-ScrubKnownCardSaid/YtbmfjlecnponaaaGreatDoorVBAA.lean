import Derived.Test.YtbmfjlecnponaaaGreatDoorVAAJ
set_option maxHeartbeats 8000000
set_option linter.unusedSimpArgs false
set_option linter.unusedVariables false
open Go Go.Proofs Go.RowKit
namespace HS
open Go.Ev
set_option maxRecDepth 1000000
namespace Fs
theorem c141 : chk t140 74 F141 = true := by kernel_rfl
theorem c142 : chk t141 74 F142 = true := by kernel_rfl
theorem c143 : chk t142 224 F143 = true := by kernel_rfl
theorem c144 : chk t143 257 F144 = true := by kernel_rfl
theorem c145 : chk t144 257 F145 = true := by kernel_rfl
theorem c146 : chk t145 175 F146 = true := by kernel_rfl
theorem c147 : chk t146 159 F147 = true := by kernel_rfl
theorem c148 : chk t147 159 F148 = true := by kernel_rfl
theorem c149 : chk t148 159 F149 = true := by kernel_rfl
theorem c150 : chk t149 174 F150 = true := by kernel_rfl
theorem c151 : chk t150 174 F151 = true := by kernel_rfl
theorem c152 : chk t151 174 F152 = true := by kernel_rfl
end Fs
end HS
