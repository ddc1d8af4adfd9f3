import Derived.Test.YtojimijiiljdgaaGreatDoorVAAJ
set_option maxHeartbeats 8000000
set_option linter.unusedSimpArgs false
set_option linter.unusedVariables false
open Go Go.Proofs Go.RowKit
namespace HS
open Go.Ev
set_option maxRecDepth 1000000
namespace Fa
theorem c201 : chk t200 207 F201 = true := by kernel_rfl
theorem c202 : chk t201 226 F202 = true := by kernel_rfl
theorem c203 : chk t202 172 F203 = true := by kernel_rfl
theorem c204 : chk t203 93 F204 = true := by kernel_rfl
theorem c205 : chk t204 31 F205 = true := by kernel_rfl
theorem c206 : chk t205 161 F206 = true := by kernel_rfl
theorem c207 : chk t206 161 F207 = true := by kernel_rfl
theorem c208 : chk t207 161 F208 = true := by kernel_rfl
theorem c209 : chk t208 13 F209 = true := by kernel_rfl
theorem c210 : chk t209 49 F210 = true := by kernel_rfl
theorem c211 : chk t210 3 F211 = true := by kernel_rfl
theorem c212 : saysT (evF (lkt t211) 1000000 (.call 3 [] H0)) = true := by kernel_rfl
end Fa
end HS
