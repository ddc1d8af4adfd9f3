import Derived.Test.YtbmfjlecnponaaaGreatDoorVAAJ
set_option maxHeartbeats 8000000
set_option linter.unusedSimpArgs false
set_option linter.unusedVariables false
open Go Go.Proofs Go.RowKit
namespace HS
open Go.Ev
set_option maxRecDepth 1000000
namespace Fs
theorem c195 : chk t194 250 F195 = true := by kernel_rfl
theorem c196 : chk t195 174 F196 = true := by kernel_rfl
theorem c197 : chk t196 250 F197 = true := by kernel_rfl
theorem c198 : chk t197 174 F198 = true := by kernel_rfl
theorem c199 : chk t198 250 F199 = true := by kernel_rfl
theorem c200 : chk t199 168 F200 = true := by kernel_rfl
theorem c201 : chk t200 96 F201 = true := by kernel_rfl
theorem c202 : chk t201 48 F202 = true := by kernel_rfl
theorem c203 : chk t202 224 F203 = true := by kernel_rfl
theorem c204 : chk t203 50 F204 = true := by kernel_rfl
theorem c205 : chk t204 175 F205 = true := by kernel_rfl
end Fs
end HS
