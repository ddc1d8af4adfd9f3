import Derived.Test.YtojimijiiljdgaaGreatDoorVAAJ
set_option maxHeartbeats 8000000
set_option linter.unusedSimpArgs false
set_option linter.unusedVariables false
open Go Go.Proofs Go.RowKit
namespace HS
open Go.Ev
set_option maxRecDepth 1000000
namespace Fa
theorem c166 : chk t165 165 F166 = true := by kernel_rfl
theorem c167 : chk t166 161 F167 = true := by kernel_rfl
theorem c168 : chk t167 165 F168 = true := by kernel_rfl
theorem c169 : chk t168 161 F169 = true := by kernel_rfl
theorem c170 : chk t169 161 F170 = true := by kernel_rfl
theorem c171 : chk t170 161 F171 = true := by kernel_rfl
theorem c172 : chk t171 161 F172 = true := by kernel_rfl
theorem c173 : chk t172 161 F173 = true := by kernel_rfl
theorem c174 : chk t173 161 F174 = true := by kernel_rfl
theorem c175 : chk t174 144 F175 = true := by kernel_rfl
theorem c176 : chk t175 265 F176 = true := by kernel_rfl
end Fa
end HS
