import Derived.Test.YtbamianefacbgaaGreatDoorVCAB
set_option maxHeartbeats 8000000
set_option linter.unusedSimpArgs false
set_option linter.unusedVariables false
open Go Go.Proofs Go.RowKit
namespace HS
open Go.Ev
set_option maxRecDepth 1000000
namespace Fv
theorem c203 : chk t202 43 F203 = true := by kernel_rfl
theorem c204 : chk t203 179 F204 = true := by kernel_rfl
theorem c205 : chk t204 179 F205 = true := by kernel_rfl
theorem c206 : chk t205 179 F206 = true := by kernel_rfl
theorem c207 : chk t206 179 F207 = true := by kernel_rfl
theorem c208 : chk t207 191 F208 = true := by kernel_rfl
theorem c209 : chk t208 179 F209 = true := by kernel_rfl
theorem c210 : chk t209 191 F210 = true := by kernel_rfl
theorem c211 : chk t210 179 F211 = true := by kernel_rfl
theorem c212 : chk t211 191 F212 = true := by kernel_rfl
end Fv
end HS
