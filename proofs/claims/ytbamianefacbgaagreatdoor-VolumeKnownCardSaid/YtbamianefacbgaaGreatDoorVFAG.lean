import Derived.Test.YtbamianefacbgaaGreatDoorVCAB
set_option maxHeartbeats 8000000
set_option linter.unusedSimpArgs false
set_option linter.unusedVariables false
open Go Go.Proofs Go.RowKit
namespace HS
open Go.Ev
set_option maxRecDepth 1000000
namespace Fv
theorem c167 : chk t166 191 F167 = true := by kernel_rfl
theorem c168 : chk t167 45 F168 = true := by kernel_rfl
theorem c169 : chk t168 132 F169 = true := by kernel_rfl
theorem c170 : chk t169 185 F170 = true := by kernel_rfl
theorem c171 : chk t170 185 F171 = true := by kernel_rfl
theorem c172 : chk t171 275 F172 = true := by kernel_rfl
theorem c173 : chk t172 185 F173 = true := by kernel_rfl
theorem c174 : chk t173 185 F174 = true := by kernel_rfl
theorem c175 : chk t174 214 F175 = true := by kernel_rfl
theorem c176 : chk t175 179 F176 = true := by kernel_rfl
theorem c177 : chk t176 191 F177 = true := by kernel_rfl
end Fv
end HS
