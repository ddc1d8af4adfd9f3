import Derived.Test.YtbamianefacbgaaGreatDoorVCAB
set_option maxHeartbeats 8000000
set_option linter.unusedSimpArgs false
set_option linter.unusedVariables false
open Go Go.Proofs Go.RowKit
namespace HS
open Go.Ev
set_option maxRecDepth 1000000
namespace Fv
theorem c213 : chk t212 40 F213 = true := by kernel_rfl
theorem c214 : chk t213 179 F214 = true := by kernel_rfl
theorem c215 : chk t214 179 F215 = true := by kernel_rfl
theorem c216 : chk t215 179 F216 = true := by kernel_rfl
theorem c217 : chk t216 179 F217 = true := by kernel_rfl
theorem c218 : chk t217 185 F218 = true := by kernel_rfl
theorem c219 : chk t218 185 F219 = true := by kernel_rfl
theorem c220 : chk t219 275 F220 = true := by kernel_rfl
theorem c221 : chk t220 185 F221 = true := by kernel_rfl
theorem c222 : chk t221 185 F222 = true := by kernel_rfl
theorem c223 : chk t222 214 F223 = true := by kernel_rfl
theorem c224 : chk t223 179 F224 = true := by kernel_rfl
theorem c225 : chk t224 191 F225 = true := by kernel_rfl
end Fv
end HS
